import Derived.Test.YtencjgkeflibdaaGreatM5
import Derived.Test.YtencjgkeflibdaaGreatM1
import Derived.Test.YtencjgkeflibdaaGreatM4
import Derived.Test.YtencjgkeflibdaaGreatVaiF
namespace Go.Vai.WK
open Go.Proofs Go.Vai Go.Vai.DK Go.Vai.G Go.Vai.L Go.Vai.MP Go.Vai.O Go.Vai.RC Go.Vai.S7 Go.Vai.U Go.Vai.V Go.Vai.Z
set_option linter.unusedSimpArgs false
set_option linter.unusedVariables false
open Go.Vai.DK Go.Vai.U Go.Vai.V Go.Vai.S7 Go.Vai.RC Go.Vai.G
structure Mix (S S' : PSl) (a : Nat) (new : PSl) : Prop where
 len : S'.length = S.length
 at' : ∀ (i : Nat) s, S'[i]? = some s → S[i]? = some s ∨ (a ≤ i ∧ i < a + new.length ∧ (okS s = false ∨ new[i - a]? = some s))
theorem mix_out {S S' : PSl} {a : Nat} {new : PSl} (h : Mix S S' a new) {i : Nat} (hi : i < a ∨ a + new.length ≤ i) : S'[i]? = S[i]? := by
 cases e : S'[i]? with
 | none =>
  have := List.getElem?_eq_none_iff.1 e
  exact (List.getElem?_eq_none_iff.2 (by rw [← h.len]; exact this)).symm
 | some s =>
  rcases h.at' i s e with h1 | ⟨h1, h2, _⟩
  ·exact h1.symm
  ·omega
def pgS (n : Int) (S : PSl) (g : Int) : List Page := pagesOf okS valS (partR n S g)
def inO (n g : Int) (i : Nat) : Prop := ((g + 1) % 2 * (ploN n).s).toNat ≤ i ∧ i < ((g + 1) % 2 * (ploN n).s).toNat + (ploN n).s.toNat
structure Cor0 (n g nx : Int) (S : PSl) (B : List (BitVec 8)) (R : PSl) : Prop where
 hn : 6 ≤ n ∧ n ≤ 1024
 len : (S.length : Int) = n
 hg : 0 ≤ g
 nx0 : 0 ≤ nx ∧ nx ≤ (ploN n).l
 cur : slotOK (pgS n S g) = true ∧ slotG (pgS n S g) = g ∧ slotB (pgS n S g) = B
 oth : slotOK (pgS n S (g + 1)) = true → slotG (pgS n S (g + 1)) < g
 log : recF (tailR g (S.drop (ploN n).f.toNat)) = (R, nx.toNat)
structure Core (n g nx : Int) (S : PSl) (B : List (BitVec 8)) (R : PSl) : Prop extends Cor0 n g nx S B R where
 gl : ∀ (i : Nat) s, S[i]? = some s → okS s = true → (valS s).gen ≤ g ∨ ((valS s).gen = g + 1 ∧ inO n g i)
 s5 : ∀ (i : Nat) s, nx ≤ (i : Int) → (S.drop (ploN n).f.toNat)[i]? = some s → tgood g s i = true → (valS s).idx - (valS s).part ≤ nx
structure Mk (n g nx m : Int) (S : PSl) : Prop where
 m1 : ∀ (i : Nat) s, S[i]? = some s → okS s = true → (valS s).gen = g + 1 → inO n g i → (valS s).mark < m
 m2 : ∀ (i : Nat) s, nx ≤ (i : Int) → (S.drop (ploN n).f.toNat)[i]? = some s → tgood g s i = true → (valS s).mark < m
 m3 : ∀ (i : Nat) s, S[i]? = some s → okS s = true → (valS s).mark ≤ m
theorem mk_of {n g nx m : Int} {S : PSl} (h : ∀ (i : Nat) s, S[i]? = some s → okS s = true → (valS s).mark < m) : Mk n g nx m S :=
 ⟨fun i s h1 h2 _ _ => h i s h1 h2, fun i s _ h1 h2 => h _ s (by rw [List.getElem?_drop] at h1; exact h1) (tg_is h2).1, fun i s h1 h2 => Int.le_of_lt (h i s h1 h2)⟩
theorem com_get {x : Wk} {b : List (BitVec 8)} {N i : Nat} (h : i < N) : (comL x b N)[i]? = some (secOf (pageAt (pgH x) false b (parts (b.length : Int)) i)) := by
 have h1 := splitP_get (p := pgH x) (nil := false) (b := b) h
 rw [comL, List.getElem?_map, List.getElem?_eq_getElem (by rw [splitP_len]; exact h), h1]; rfl
theorem put_val {p : Page} (h : pageOK p = true) (hn : p.nil = false) : okS (secOf p) = true ∧ valS (secOf p) = p := by
 obtain ⟨h1, h2, _⟩ := page_back h
 refine ⟨h1, ?_⟩
 show pgV (pgPut p) = p
 rw [h2, ← hn]
section
variable {x : Wk} {n : Int} {S S' : PSl} {B b : List (BitVec 8)} {R : PSl}
theorem parts_pos {b : List (BitVec 8)} {p : Page} (h : splitOK p b = true) : parts (b.length : Int) ≠ 0 ∧ allPages (splitP p false b (parts (b.length : Int)).toNat) = true ∧ 1 ≤ parts (b.length : Int) ∧ parts (b.length : Int) ≤ 16 := by
 have h' := h
 simp only [splitOK, Bool.and_eq_true, decide_eq_true_eq] at h
 have hb : ¬ ((b.length : Int) < 0 ∨ (b.length : Int) > 7808) := fun hc => h.1 (parts_no hc)
 have := parts_is hb
 exact ⟨h.1, h.2, this.1, this.2.1⟩
theorem log_full (hC : Core n x.gen x.next S B R) (hs : splitOK (pgH x) b = true) (hX : Mix S S' ((ploN n).f.toNat + x.next.toNat) (comL x b (parts (b.length : Int)).toNat))
  (hF : ∀ i, i < (parts (b.length : Int)).toNat → S'[(ploN n).f.toNat + x.next.toNat + i]? = (comL x b (parts (b.length : Int)).toNat)[i]?) :
  recF (tailR x.gen (S'.drop (ploN n).f.toNat)) = (R ++ [(b.isEmpty, b)], x.next.toNat + (parts (b.length : Int)).toNat) := by
 obtain ⟨hp0, hpa, hp1, hp2⟩ := parts_pos hs
 obtain ⟨N, hN⟩ : ∃ N, N = (parts (b.length : Int)).toNat := ⟨_, rfl⟩
 obtain ⟨F, hFF⟩ : ∃ F, F = (ploN n).f.toNat := ⟨_, rfl⟩
 obtain ⟨k, hk⟩ : ∃ k, k = x.next.toNat := ⟨_, rfl⟩
 have hlog := hC.log
 rw [← hN, ← hFF, ← hk] at hX hF
 rw [← hFF, ← hk] at hlog
 rw [← hFF, ← hk, ← hN]
 have hkn : (k : Int) = x.next := by have := hC.nx0; omega
 have hX2 := hX.at'
 have hl := comL_len x b N
 obtain ⟨_, hst⟩ := rec_stop hlog
 have e1 : ∀ i, i < k → (S.drop F)[i]? = (S'.drop F)[i]? := fun i hi => by
  rw [List.getElem?_drop, List.getElem?_drop, mix_out hX (.inl (by omega))]
 obtain ⟨t1, t2⟩ := tail_ext (gen := x.gen) e1 hst
 have hv : ∀ i, i < N → okS (secOf (pageAt (pgH x) false b (parts (b.length : Int)) i)) = true ∧ valS (secOf (pageAt (pgH x) false b (parts (b.length : Int)) i)) = pageAt (pgH x) false b (parts (b.length : Int)) i := fun i hi => put_val (all_split hpa (by rw [← hN]; exact hi) false) rfl
 have e2 : ∀ i, i < N → (S'.drop F)[k + i]? = some (secOf (pageAt (pgH x) false b (parts (b.length : Int)) i)) := fun i hi => by
  rw [List.getElem?_drop, ← Nat.add_assoc, hF i hi, com_get hi]
 have tg : ∀ i, i < N → tgood x.gen (secOf (pageAt (pgH x) false b (parts (b.length : Int)) i)) (k + i) = true := fun i hi => by
  obtain ⟨h1, h2⟩ := hv i hi
  have h3 : pgR (secOf (pageAt (pgH x) false b (parts (b.length : Int)) i)).2 = 0 := by rw [pgR, show pgGood (secOf (pageAt (pgH x) false b (parts (b.length : Int)) i)).2 = true from h1]; rfl
  have h4 : pgV (secOf (pageAt (pgH x) false b (parts (b.length : Int)) i)).2 = pageAt (pgH x) false b (parts (b.length : Int)) i := h2
  refine tg_yes ⟨h3, by rw [h4]; rfl, by rw [h4]; rfl, ?_⟩
  rw [h4]
  show x.next + (i : Int) = ((k + i : Nat) : Int)
  omega
 have t3 : k + N ≤ (tailR x.gen (S'.drop F)).length := tail_ge.2 fun i hi => by
  by_cases h : i < k
  ·exact tail_ge.1 t1 i h
  ·obtain ⟨j, rfl⟩ : ∃ j, i = k + j := ⟨i - k, by omega⟩
   exact ⟨_, e2 j (by omega), tg j (by omega)⟩
 have e3 : (tailR x.gen (S'.drop F)).drop k = splitP (pgH x) false b (parts (b.length : Int)).toNat ++ (tailR x.gen (S'.drop F)).drop (k + N) := by
  refine List.ext_getElem? fun i => ?_
  by_cases h : i < N
  ·rw [List.getElem?_append_left (by rw [splitP_len]; omega), List.getElem?_drop, tail_at (by omega), e2 i h, List.getElem?_eq_getElem (by rw [splitP_len]; omega), splitP_get (by omega)]
   exact congrArg some (hv i h).2
  ·rw [List.getElem?_append_right (by rw [splitP_len]; omega), splitP_len, List.getElem?_drop, List.getElem?_drop]
   congr 1; omega
 obtain ⟨j1, j2, j3⟩ := split_join (nil := false) (more := (tailR x.gen (S'.drop F)).drop (k + N)) hp0 hpa
 rw [← e3] at j1 j2 j3
 obtain ⟨j4, _, _⟩ := join_n j1
 have j5 : jN ((tailR x.gen (S'.drop F)).drop k) = N := by omega
 have hj2 : joinOK ((tailR x.gen (S'.drop F)).drop (k + N)) = false := by
  cases e : joinOK ((tailR x.gen (S'.drop F)).drop (k + N)) with
  | false => rfl
  | true =>
   exfalso
   obtain ⟨f1, f2, f3, f4⟩ := join_facts e
   have hl0 : 0 < ((tailR x.gen (S'.drop F)).drop (k + N)).length := by omega
   obtain ⟨_, _, _, _, f5, _⟩ := f4 0 (by omega)
   rw [List.getD_eq_getElem?_getD, List.getElem?_eq_getElem hl0, Option.getD_some] at f5
   have h1 : (tailR x.gen (S'.drop F))[k + N]? = some ((tailR x.gen (S'.drop F)).drop (k + N))[0] := by
    have := List.getElem?_eq_getElem hl0
    rw [List.getElem?_drop] at this
    exact this
   obtain ⟨s, h2, h3, h4⟩ := tail_get h1
   rw [List.getElem?_drop, mix_out hX (.inr (by omega)), ← List.getElem?_drop] at h2
   have h5 := hC.s5 (k + N) s (by omega) (by rw [← hFF]; exact h2) h3
   rw [← h4, f5, h4, (tg_is h3).2.2.2] at h5
   omega
 have := rec_one hlog t2 t1 j1 (by rw [j5]; exact hj2)
 rw [this, j2, j5]
theorem log_part (hC : Core n x.gen x.next S B R) (hM : Mk n x.gen x.next x.mark S) (hs : splitOK (pgH x) b = true) (hX : Mix S S' ((ploN n).f.toNat + x.next.toNat) (comL x b (parts (b.length : Int)).toNat))
  (hF : ¬ ∀ i, i < (parts (b.length : Int)).toNat → S'[(ploN n).f.toNat + x.next.toNat + i]? = (comL x b (parts (b.length : Int)).toNat)[i]?) :
  recF (tailR x.gen (S'.drop (ploN n).f.toNat)) = (R, x.next.toNat) := by
 obtain ⟨hp0, hpa, hp1, hp2⟩ := parts_pos hs
 obtain ⟨N, hN⟩ : ∃ N, N = (parts (b.length : Int)).toNat := ⟨_, rfl⟩
 obtain ⟨F, hFF⟩ : ∃ F, F = (ploN n).f.toNat := ⟨_, rfl⟩
 obtain ⟨k, hk⟩ : ∃ k, k = x.next.toNat := ⟨_, rfl⟩
 have hlog := hC.log
 rw [← hN, ← hFF, ← hk] at hX hF
 rw [← hFF, ← hk] at hlog
 rw [← hFF, ← hk]
 have hkn : (k : Int) = x.next := by have := hC.nx0; omega
 have hl := comL_len x b N
 obtain ⟨hst0, hst⟩ := rec_stop hlog
 have e1 : ∀ i, i < k → (S.drop F)[i]? = (S'.drop F)[i]? := fun i hi => by
  rw [List.getElem?_drop, List.getElem?_drop, mix_out hX (.inl (by omega))]
 obtain ⟨t1, t2⟩ := tail_ext (gen := x.gen) e1 hst
 refine rec_same hlog t2 t1 ?_
 cases e : joinOK ((tailR x.gen (S'.drop F)).drop k) with
 | false => rfl
 | true =>
  exfalso
  obtain ⟨f1, f2, f3, f4⟩ := join_facts e
  obtain ⟨M, hMM⟩ : ∃ M, M = jN ((tailR x.gen (S'.drop F)).drop k) := ⟨_, rfl⟩
  rw [← hMM] at f1 f2 f3 f4
  have pg : ∀ i, i < M → ∃ s, S'[F + k + i]? = some s ∧ tgood x.gen s (k + i) = true ∧ ((tailR x.gen (S'.drop F)).drop k)[i]? = some (valS s) ∧ ((tailR x.gen (S'.drop F)).drop k).getD i page0 = valS s := fun i hi => by
   have h1 := List.getElem?_eq_getElem (show i < ((tailR x.gen (S'.drop F)).drop k).length by omega)
   have h1' := h1
   rw [List.getElem?_drop] at h1
   obtain ⟨s, h2, h3, h4⟩ := tail_get h1
   rw [List.getElem?_drop, ← Nat.add_assoc] at h2
   rw [h4] at h1'
   exact ⟨s, h2, h3, h1', by rw [List.getD_eq_getElem?_getD, h1']; rfl⟩
  by_cases hall : ∀ i, i < M → S'[F + k + i]? = S[F + k + i]?
  ·have t3 : k + M ≤ (tailR x.gen (S.drop F)).length := tail_ge.2 fun i hi => by
    by_cases h : i < k
    ·exact tail_ge.1 hst i h
    ·obtain ⟨j, rfl⟩ : ∃ j, i = k + j := ⟨i - k, by omega⟩
     obtain ⟨s, h1, h2, _⟩ := pg j (by omega)
     exact ⟨s, by rw [List.getElem?_drop, ← Nat.add_assoc, ← hall j (by omega)]; exact h1, h2⟩
   have := (join_loc (m := (tailR x.gen (S.drop F)).drop k) e fun i hi => by
    rw [← hMM] at hi
    obtain ⟨s, h1, h2, h3, _⟩ := pg i hi
    rw [h3, List.getElem?_drop, tail_at (by omega), List.getElem?_drop, ← Nat.add_assoc, ← hall i hi, h1]; rfl).1
   rw [hst0] at this; cases this
  ·have hex : ∃ j, j < M ∧ S'[F + k + j]? ≠ S[F + k + j]? := Classical.byContradiction fun hc => hall fun i hi => Classical.byContradiction fun hh => hc ⟨i, hi, hh⟩
   obtain ⟨j, hj, hne⟩ := hex
   have hnew : ∀ i s, i < N → (comL x b N)[i]? = some s → (valS s).mark = x.mark ∧ (valS s).parts = parts (b.length : Int) := fun i s hi h => by
    rw [com_get hi] at h
    have h := Option.some.inj h
    rw [← h, (put_val (all_split hpa (by rw [← hN]; exact hi) false) rfl).2]
    exact ⟨rfl, rfl⟩
   obtain ⟨sj, h1, h2, _, h4⟩ := pg j hj
   obtain ⟨m1, m2⟩ : (valS sj).mark = x.mark ∧ (valS sj).parts = parts (b.length : Int) := by
    rcases hX.at' _ _ h1 with h5 | ⟨h5, h6, h7 | h7⟩
    ·exact absurd (h1.trans h5.symm) hne
    ·rw [(tg_is h2).1] at h7; cases h7
    ·rw [show F + k + j - (F + k) = j by omega] at h7
     exact hnew j sj (by omega) h7
   have hjf := f4 j hj
   rw [h4, m1, m2] at hjf
   have hMN : M = N := by have := hjf.2.2.2.2.2; omega
   refine hF fun i hi => ?_
   obtain ⟨s, s1, s2, _, s4⟩ := pg i (by omega)
   have hif := f4 i (by omega)
   rw [s4] at hif
   have hm : (valS s).mark = x.mark := by rw [hif.2.2.1, ← hjf.2.2.1]
   rcases hX.at' _ _ s1 with h5 | ⟨h5, h6, h7 | h7⟩
   ·have := hM.m2 (k + i) s (by omega) (by rw [← hFF, List.getElem?_drop, ← Nat.add_assoc]; exact h5) s2
    omega
   ·rw [(tg_is s2).1] at h7; cases h7
   ·rw [show F + k + i - (F + k) = i by omega] at h7
    rw [s1, h7]
end
end Go.Vai.WK
namespace Go.Vai.WK
open Go.Proofs Go.Vai Go.Vai.DK Go.Vai.G Go.Vai.L Go.Vai.MP Go.Vai.O Go.Vai.RC Go.Vai.S7 Go.Vai.U Go.Vai.V Go.Vai.Z
set_option linter.unusedSimpArgs false
set_option linter.unusedVariables false
open Go.Vai.DK Go.Vai.U Go.Vai.V Go.Vai.S7 Go.Vai.RC Go.Vai.G
theorem pages_ge {q : PSl} : ∀ {k : Nat}, k ≤ (pagesOf okS valS q).length ↔ ∀ i, i < k → ∃ x, q[i]? = some x ∧ okS x = true := by
 induction q with
 | nil =>
  intro k
  show k ≤ 0 ↔ _
  constructor
  ·intro h i hi; omega
  ·intro h
   rcases Nat.eq_zero_or_pos k with h0 | h0
   ·omega
   ·obtain ⟨x, hx, _⟩ := h 0 h0; simp at hx
 | cons a q ih =>
  intro k
  cases ha : okS a with
  | false =>
   have e : pagesOf okS valS (a :: q) = [] := by rw [pagesOf, List.takeWhile, ha]; rfl
   rw [e]
   constructor
   ·intro h i hi; simp at h; omega
   ·intro h
    rcases Nat.eq_zero_or_pos k with h0 | h0
    ·omega
    ·obtain ⟨x, hx, hx2⟩ := h 0 h0
     have hx : a = x := by simpa using hx
     rw [← hx, ha] at hx2; cases hx2
  | true =>
   have e : pagesOf okS valS (a :: q) = valS a :: pagesOf okS valS q := by rw [pagesOf, List.takeWhile, ha]; rfl
   rw [e, List.length_cons]
   constructor
   ·intro h i hi
    cases i with
    | zero => exact ⟨a, rfl, ha⟩
    | succ i => exact (ih (k := k - 1)).1 (by omega) i (by omega)
   ·intro h
    rcases Nat.eq_zero_or_pos k with h0 | h0
    ·omega
    ·have := (ih (k := k - 1)).2 fun i hi => h (i + 1) (by omega)
     omega
theorem pages_at {q : PSl} : ∀ {i : Nat}, i < (pagesOf okS valS q).length → (pagesOf okS valS q)[i]? = (q[i]?).map valS := by
 induction q with
 | nil => intro i h; exact absurd h (Nat.not_lt_zero _)
 | cons a q ih =>
  intro i h
  cases ha : okS a with
  | false =>
   have e : pagesOf okS valS (a :: q) = [] := by rw [pagesOf, List.takeWhile, ha]; rfl
   rw [e] at h; exact absurd h (Nat.not_lt_zero _)
  | true =>
   have e : pagesOf okS valS (a :: q) = valS a :: pagesOf okS valS q := by rw [pagesOf, List.takeWhile, ha]; rfl
   rw [e] at h ⊢
   cases i with
   | zero => rfl
   | succ i => exact ih (by simpa using h)
theorem pages_get {q : PSl} {i : Nat} {p : Page} (h : (pagesOf okS valS q)[i]? = some p) : ∃ x, q[i]? = some x ∧ okS x = true ∧ p = valS x := by
 have hl := (List.getElem?_eq_some_iff.1 h).1
 obtain ⟨x, h1, h2⟩ := pages_ge.1 (show i + 1 ≤ (pagesOf okS valS q).length by omega) i (by omega)
 rw [pages_at hl, h1] at h
 exact ⟨x, h1, h2, (Option.some.inj h).symm⟩
theorem part_at {n g : Int} {l : PSl} {i : Nat} (h : i < (ploN n).s.toNat) : (partR n l g)[i]? = l[(g % 2 * (ploN n).s).toNat + i]? := by
 rw [partR, List.getElem?_take_of_lt h, List.getElem?_drop]
theorem part_end {n g : Int} {l : PSl} {i : Nat} (h : ¬ i < (ploN n).s.toNat) : (partR n l g)[i]? = none := by
 rw [partR]; exact List.getElem?_eq_none_iff.2 (by rw [List.length_take]; omega)
theorem part_same {n g : Int} {l m : PSl} (h : ∀ i, i < (ploN n).s.toNat → l[(g % 2 * (ploN n).s).toNat + i]? = m[(g % 2 * (ploN n).s).toNat + i]?) : partR n l g = partR n m g := by
 refine List.ext_getElem? fun i => ?_
 by_cases hi : i < (ploN n).s.toNat
 ·rw [part_at hi, part_at hi, h i hi]
 ·rw [part_end hi, part_end hi]
theorem slot_pos {n : Int} (hn : 6 ≤ n ∧ n ≤ 1024) (g : Int) : (ploN n).f.toNat = 2 * (ploN n).s.toNat ∧ (g % 2 * (ploN n).s).toNat = (g % 2).toNat * (ploN n).s.toNat ∧ (g % 2 = 0 ∨ g % 2 = 1) := by
 have pb := pl_bd hn
 have h : g % 2 = 0 ∨ g % 2 = 1 := by omega
 refine ⟨by omega, ?_, h⟩
 rcases h with h | h <;> rw [h]
 ·simp
 ·simp
theorem slot_far {n : Int} (hn : 6 ≤ n ∧ n ≤ 1024) {g : Int} {i : Nat} (hi : i < (ploN n).s.toNat) : (g % 2 * (ploN n).s).toNat + i < (ploN n).f.toNat := by
 obtain ⟨h1, h2, h3⟩ := slot_pos hn g
 rw [h2]
 rcases h3 with h | h <;> rw [h]
 ·rw [show (0 : Int).toNat = 0 from rfl]; omega
 ·rw [show (1 : Int).toNat = 1 from rfl]; omega
theorem slot_other {n : Int} (hn : 6 ≤ n ∧ n ≤ 1024) {g : Int} {i j : Nat} (hi : i < (ploN n).s.toNat) (hj : j < (ploN n).s.toNat) : (g % 2 * (ploN n).s).toNat + i ≠ ((g + 1) % 2 * (ploN n).s).toNat + j := by
 obtain ⟨h1, h2, h3⟩ := slot_pos hn g
 obtain ⟨_, k2, k3⟩ := slot_pos hn (g + 1)
 rw [h2, k2]
 rcases h3 with h | h
 ·rw [h, show (g + 1) % 2 = 1 by omega, show (0 : Int).toNat = 0 from rfl, show (1 : Int).toNat = 1 from rfl]; omega
 ·rw [h, show (g + 1) % 2 = 0 by omega, show (0 : Int).toNat = 0 from rfl, show (1 : Int).toNat = 1 from rfl]; omega
theorem slot_two {n : Int} {l : PSl} {g : Int} : partR n l (g + 1 + 1) = partR n l g := by
 rw [partR, partR, show (g + 1 + 1) % 2 = g % 2 by omega]
theorem inO_lt {n : Int} (hn : 6 ≤ n ∧ n ≤ 1024) {g : Int} {i : Nat} (h : inO n g i) : i < (ploN n).f.toNat := by
 have := slot_far hn (g := g + 1) (i := i - ((g + 1) % 2 * (ploN n).s).toNat) (by have := h.1; have := h.2; omega)
 have := h.1
 omega
theorem head_val {l : List Page} {p : Page} (h : l[0]? = some p) : l.getD 0 page0 = p := by rw [List.getD_eq_getElem?_getD, h]; rfl
section
variable {x : Wk} {n : Int} {S S' : PSl} {B b : List (BitVec 8)} {R : PSl}
theorem sec_facts {g mark most : Int} {b : List (BitVec 8)} (h : secOK g mark most b = true) : splitOK (secP g mark) b = true ∧ parts (b.length : Int) ≤ most ∧ S7.secR g mark most b = secL g mark b (parts (b.length : Int)).toNat := by
 have h' := h
 simp only [secOK, Bool.and_eq_true, decide_eq_true_eq] at h
 exact ⟨h.2, h.1, by rw [S7.secR, if_pos h']; rfl⟩
theorem sec_get {g mark : Int} {b : List (BitVec 8)} {N i : Nat} (h : i < N) : (secL g mark b N)[i]? = some (secOf (pageAt (secP g mark) false b (parts (b.length : Int)) i)) := by
 have h1 := splitP_get (p := secP g mark) (nil := false) (b := b) h
 rw [secL, List.getElem?_map, List.getElem?_eq_getElem (by rw [splitP_len]; exact h), h1]; rfl
theorem slot_full {g mark : Int} (hn : 6 ≤ n ∧ n ≤ 1024) (hs : splitOK (secP (g + 1) mark) b = true) (hm : parts (b.length : Int) ≤ (ploN n).s)
  (hF : ∀ i, i < (parts (b.length : Int)).toNat → S'[((g + 1) % 2 * (ploN n).s).toNat + i]? = (secL (g + 1) mark b (parts (b.length : Int)).toNat)[i]?) :
  slotOK (pgS n S' (g + 1)) = true ∧ slotG (pgS n S' (g + 1)) = g + 1 ∧ slotB (pgS n S' (g + 1)) = b := by
 obtain ⟨hp0, hpa, hp1, hp2⟩ := parts_pos hs
 obtain ⟨N, hN⟩ : ∃ N, N = (parts (b.length : Int)).toNat := ⟨_, rfl⟩
 rw [← hN] at hF
 have hNs : N ≤ (ploN n).s.toNat := by omega
 have hv : ∀ i, i < N → okS (secOf (pageAt (secP (g + 1) mark) false b (parts (b.length : Int)) i)) = true ∧ valS (secOf (pageAt (secP (g + 1) mark) false b (parts (b.length : Int)) i)) = pageAt (secP (g + 1) mark) false b (parts (b.length : Int)) i := fun i hi => put_val (all_split hpa (by rw [← hN]; exact hi) false) rfl
 have e2 : ∀ i, i < N → (partR n S' (g + 1))[i]? = some (secOf (pageAt (secP (g + 1) mark) false b (parts (b.length : Int)) i)) := fun i hi => by
  rw [part_at (by omega), hF i hi, sec_get hi]
 have t3 : N ≤ (pgS n S' (g + 1)).length := pages_ge.2 fun i hi => ⟨_, e2 i hi, (hv i hi).1⟩
 have e3 : pgS n S' (g + 1) = splitP (secP (g + 1) mark) false b (parts (b.length : Int)).toNat ++ (pgS n S' (g + 1)).drop N := by
  refine List.ext_getElem? fun i => ?_
  by_cases h : i < N
  ·rw [List.getElem?_append_left (by rw [splitP_len]; omega), pgS, pages_at (by have : N ≤ (pagesOf okS valS (partR n S' (g + 1))).length := t3; omega), e2 i h, List.getElem?_eq_getElem (by rw [splitP_len]; omega), splitP_get (by omega)]
   exact congrArg some (hv i h).2
  ·rw [List.getElem?_append_right (by rw [splitP_len]; omega), splitP_len, List.getElem?_drop]
   congr 1; omega
 obtain ⟨j1, j2, j3⟩ := split_join (nil := false) (more := (pgS n S' (g + 1)).drop N) hp0 hpa
 rw [← e3] at j1 j2 j3
 have h0 : (pgS n S' (g + 1)).getD 0 page0 = pageAt (secP (g + 1) mark) false b (parts (b.length : Int)) 0 := by
  refine head_val ?_
  rw [e3, List.getElem?_append_left (by rw [splitP_len]; omega), List.getElem?_eq_getElem (by rw [splitP_len]; omega), splitP_get (by omega)]
 have hok : slotOK (pgS n S' (g + 1)) = true := by
  rw [slotOK, j1, h0]; rfl
 exact ⟨hok, by rw [slotG, if_pos hok, h0]; rfl, by rw [slotB, if_pos hok, j2]⟩
theorem slot_part {g mark : Int} (hn : 6 ≤ n ∧ n ≤ 1024) (hs : splitOK (secP (g + 1) mark) b = true) (hm : parts (b.length : Int) ≤ (ploN n).s)
  (hgl : ∀ (i : Nat) s, S[i]? = some s → okS s = true → (valS s).gen ≤ g ∨ ((valS s).gen = g + 1 ∧ inO n g i))
  (hm1 : ∀ (i : Nat) s, S[i]? = some s → okS s = true → (valS s).gen = g + 1 → inO n g i → (valS s).mark < mark)
  (hX : Mix S S' ((g + 1) % 2 * (ploN n).s).toNat (secL (g + 1) mark b (parts (b.length : Int)).toNat))
  (hF : ¬ ∀ i, i < (parts (b.length : Int)).toNat → S'[((g + 1) % 2 * (ploN n).s).toNat + i]? = (secL (g + 1) mark b (parts (b.length : Int)).toNat)[i]?)
  (hok : slotOK (pgS n S' (g + 1)) = true) : slotOK (pgS n S (g + 1)) = true ∧ slotG (pgS n S (g + 1)) = slotG (pgS n S' (g + 1)) := by
 obtain ⟨hp0, hpa, hp1, hp2⟩ := parts_pos hs
 obtain ⟨N, hN⟩ : ∃ N, N = (parts (b.length : Int)).toNat := ⟨_, rfl⟩
 obtain ⟨a, ha⟩ : ∃ a, a = ((g + 1) % 2 * (ploN n).s).toNat := ⟨_, rfl⟩
 rw [← hN, ← ha] at hF hX
 have hl : (secL (g + 1) mark b N).length = N := secL_len _ _ _ _
 have e : joinOK (pgS n S' (g + 1)) = true := by rw [slotOK] at hok; simp only [Bool.and_eq_true] at hok; exact hok.1
 obtain ⟨f1, f2, f3, f4⟩ := join_facts e
 obtain ⟨M, hMM⟩ : ∃ M, M = jN (pgS n S' (g + 1)) := ⟨_, rfl⟩
 rw [← hMM] at f1 f2 f3 f4
 have hMs : M ≤ (ploN n).s.toNat := by
  have h1 : (pgS n S' (g + 1)).length ≤ (partR n S' (g + 1)).length := by
   rw [pgS, pagesOf, List.length_map]; exact (List.takeWhile_sublist _).length_le
  have h2 : (partR n S' (g + 1)).length ≤ (ploN n).s.toNat := by rw [partR, List.length_take]; omega
  omega
 have pg : ∀ i, i < M → ∃ s, S'[a + i]? = some s ∧ okS s = true ∧ (pgS n S' (g + 1))[i]? = some (valS s) ∧ (pgS n S' (g + 1)).getD i page0 = valS s := fun i hi => by
  have h1 := List.getElem?_eq_getElem (show i < (pgS n S' (g + 1)).length by omega)
  obtain ⟨s, h2, h3, h4⟩ := pages_get h1
  rw [part_at (by omega), ← ha] at h2
  rw [h4] at h1
  exact ⟨s, h2, h3, h1, by rw [List.getD_eq_getElem?_getD, h1]; rfl⟩
 by_cases hall : ∀ i, i < M → S'[a + i]? = S[a + i]?
 ·have t3 : M ≤ (pgS n S (g + 1)).length := pages_ge.2 fun i hi => by
   obtain ⟨s, h1, h2, _⟩ := pg i hi
   exact ⟨s, by rw [part_at (by omega), ← ha, ← hall i hi]; exact h1, h2⟩
  have hloc : ∀ i, i < M → (pgS n S' (g + 1))[i]? = (pgS n S (g + 1))[i]? := fun i hi => by
   obtain ⟨s, h1, h2, h3, _⟩ := pg i hi
   have h5 : (pgS n S (g + 1))[i]? = ((partR n S (g + 1))[i]?).map valS := pages_at (by have : M ≤ (pagesOf okS valS (partR n S (g + 1))).length := t3; omega)
   rw [h3, h5, part_at (by omega), ← ha, ← hall i hi, h1]; rfl
  have j := (join_loc (m := pgS n S (g + 1)) e (by rw [← hMM]; exact hloc)).1
  have h0 := getD_of (hloc 0 (by omega))
  have hok2 : slotOK (pgS n S (g + 1)) = true := by
   rw [slotOK, e] at hok
   rw [slotOK, j, ← h0]; exact hok
  exact ⟨hok2, by rw [slotG, slotG, if_pos hok, if_pos hok2, h0]⟩
 ·exfalso
  have hex : ∃ j, j < M ∧ S'[a + j]? ≠ S[a + j]? := Classical.byContradiction fun hc => hall fun i hi => Classical.byContradiction fun hh => hc ⟨i, hi, hh⟩
  obtain ⟨j, hj, hne⟩ := hex
  have hnew : ∀ i s, i < N → (secL (g + 1) mark b N)[i]? = some s → (valS s).mark = mark ∧ (valS s).gen = g + 1 ∧ (valS s).parts = parts (b.length : Int) := fun i s hi h => by
   rw [sec_get hi] at h
   have h := Option.some.inj h
   rw [← h, (put_val (all_split hpa (by rw [← hN]; exact hi) false) rfl).2]
   exact ⟨rfl, rfl, rfl⟩
  obtain ⟨sj, h1, h2, _, h4⟩ := pg j hj
  obtain ⟨m1, m2, m3⟩ : (valS sj).mark = mark ∧ (valS sj).gen = g + 1 ∧ (valS sj).parts = parts (b.length : Int) := by
   rcases hX.at' _ _ h1 with h5 | ⟨h5, h6, h7 | h7⟩
   ·exact absurd (h1.trans h5.symm) hne
   ·rw [h2] at h7; cases h7
   ·rw [show a + j - a = j by omega] at h7
    exact hnew j sj (by omega) h7
  have hjf := f4 j hj
  rw [h4, m1, m2, m3] at hjf
  have hMN : M = N := by have := hjf.2.2.2.2.2; omega
  refine hF fun i hi => ?_
  obtain ⟨s, s1, s2, _, s4⟩ := pg i (by omega)
  have hif := f4 i (by omega)
  rw [s4] at hif
  have hmk : (valS s).mark = mark := by rw [hif.2.2.1, ← hjf.2.2.1]
  have hgn : (valS s).gen = g + 1 := by rw [hif.2.1, ← hjf.2.1]
  rcases hX.at' _ _ s1 with h5 | ⟨h5, h6, h7 | h7⟩
  ·rcases hgl _ s h5 s2 with h8 | ⟨_, h8⟩
   ·omega
   ·have := hm1 _ s h5 s2 hgn h8; omega
  ·rw [s2] at h7; cases h7
  ·rw [show a + i - a = i by omega] at h7
   rw [s1, h7]
end
end Go.Vai.WK
namespace Go.Vai.WK
open Go.Proofs Go.Vai Go.Vai.DK Go.Vai.G Go.Vai.L Go.Vai.MP Go.Vai.O Go.Vai.RC Go.Vai.S7 Go.Vai.U Go.Vai.V Go.Vai.Z
set_option linter.unusedSimpArgs false
set_option linter.unusedVariables false
open Go.Vai.DK Go.Vai.U Go.Vai.V Go.Vai.S7 Go.Vai.RC Go.Vai.G
section
variable {x : Wk} {n g nx m : Int} {S S' : PSl} {B b : List (BitVec 8)} {R : PSl}
theorem com_new (hs : splitOK (pgH x) b = true) {i : Nat} {s : PS} (h : (comL x b (parts (b.length : Int)).toNat)[i]? = some s) : i < (parts (b.length : Int)).toNat ∧ okS s = true ∧ valS s = pageAt (pgH x) false b (parts (b.length : Int)) i := by
 obtain ⟨hp0, hpa, hp1, hp2⟩ := parts_pos hs
 have hi : i < (parts (b.length : Int)).toNat := by
  have := (List.getElem?_eq_some_iff.1 h).1
  rw [comL_len] at this; exact this
 rw [com_get hi] at h
 have h := Option.some.inj h
 obtain ⟨h1, h2⟩ := put_val (all_split hpa hi false) rfl
 rw [← h]; exact ⟨hi, h1, h2⟩
theorem sec_new {g mark : Int} (hs : splitOK (secP g mark) b = true) {i : Nat} {s : PS} (h : (secL g mark b (parts (b.length : Int)).toNat)[i]? = some s) : i < (parts (b.length : Int)).toNat ∧ okS s = true ∧ valS s = pageAt (secP g mark) false b (parts (b.length : Int)) i := by
 obtain ⟨hp0, hpa, hp1, hp2⟩ := parts_pos hs
 have hi : i < (parts (b.length : Int)).toNat := by
  have := (List.getElem?_eq_some_iff.1 h).1
  rw [secL_len] at this; exact this
 rw [sec_get hi] at h
 have h := Option.some.inj h
 obtain ⟨h1, h2⟩ := put_val (all_split hpa hi false) rfl
 rw [← h]; exact ⟨hi, h1, h2⟩
theorem pgS_same (h : ∀ i, i < (ploN n).s.toNat → S'[(g % 2 * (ploN n).s).toNat + i]? = S[(g % 2 * (ploN n).s).toNat + i]?) : pgS n S' g = pgS n S g := by rw [pgS, pgS, part_same h]
theorem core_com (hC : Core n x.gen x.next S B R) (hs : splitOK (pgH x) b = true) (hX : Mix S S' ((ploN n).f.toNat + x.next.toNat) (comL x b (parts (b.length : Int)).toNat)) {nx' : Int} {R' : PSl}
  (h0 : 0 ≤ nx' ∧ nx' ≤ (ploN n).l) (hlog : recF (tailR x.gen (S'.drop (ploN n).f.toNat)) = (R', nx'.toNat)) (hge : x.next ≤ nx') : Core n x.gen nx' S' B R' := by
 have hlt : ∀ (q : Int) i, i < (ploN n).s.toNat → S'[(q % 2 * (ploN n).s).toNat + i]? = S[(q % 2 * (ploN n).s).toNat + i]? := fun q i hi => mix_out hX (.inl (by have := slot_far hC.hn (g := q) hi; omega))
 refine ⟨⟨hC.hn, by rw [hX.len]; exact hC.len, hC.hg, h0, ?_, ?_, hlog⟩, fun i s h1 h2 => ?_, fun i s h1 h2 h3 => ?_⟩
 ·rw [pgS_same (hlt _)]; exact hC.cur
 ·rw [pgS_same (hlt _)]; exact hC.oth
 ·rcases hX.at' i s h1 with h | ⟨_, _, h | h⟩
  ·exact hC.gl i s h h2
  ·rw [h2] at h; cases h
  ·left; rw [(com_new hs h).2.2]; exact Int.le_refl _
 ·rw [List.getElem?_drop] at h2
  rcases hX.at' _ s h2 with h | ⟨q1, _, h | h⟩
  ·have := hC.s5 i s (by omega) (by rw [List.getElem?_drop]; exact h) h3
   omega
  ·rw [(tg_is h3).1] at h; cases h
  ·rw [(com_new hs h).2.2]
   show x.next + (((ploN n).f.toNat + i - ((ploN n).f.toNat + x.next.toNat) : Nat) : Int) - (((ploN n).f.toNat + i - ((ploN n).f.toNat + x.next.toNat) : Nat) : Int) ≤ nx'
   omega
theorem core_com_full (hC : Core n x.gen x.next S B R) (hs : splitOK (pgH x) b = true) (hN : parts (b.length : Int) ≤ (ploN n).l - x.next) (hX : Mix S S' ((ploN n).f.toNat + x.next.toNat) (comL x b (parts (b.length : Int)).toNat))
  (hF : ∀ i, i < (parts (b.length : Int)).toNat → S'[(ploN n).f.toNat + x.next.toNat + i]? = (comL x b (parts (b.length : Int)).toNat)[i]?) : Core n x.gen (x.next + ((parts (b.length : Int)).toNat : Int)) S' B (R ++ [(b.isEmpty, b)]) := by
 have h0 := hC.nx0
 obtain ⟨hp0, hpa, hp1, hp2⟩ := parts_pos hs
 refine core_com hC hs hX (by omega) ?_ (by omega)
 rw [log_full hC hs hX hF]
 congr 1; omega
theorem core_com_part (hC : Core n x.gen x.next S B R) (hM : Mk n x.gen x.next x.mark S) (hs : splitOK (pgH x) b = true) (hX : Mix S S' ((ploN n).f.toNat + x.next.toNat) (comL x b (parts (b.length : Int)).toNat))
  (hF : ¬ ∀ i, i < (parts (b.length : Int)).toNat → S'[(ploN n).f.toNat + x.next.toNat + i]? = (comL x b (parts (b.length : Int)).toNat)[i]?) : Core n x.gen x.next S' B R :=
 core_com hC hs hX hC.nx0 (log_part hC hM hs hX hF) (Int.le_refl _)
theorem mk_com (hC : Core n x.gen x.next S B R) (hM : Mk n x.gen x.next x.mark S) (hs : splitOK (pgH x) b = true) (hX : Mix S S' ((ploN n).f.toNat + x.next.toNat) (comL x b (parts (b.length : Int)).toNat)) :
  Mk n x.gen (x.next + ((parts (b.length : Int)).toNat : Int)) x.mark S' := by
 refine ⟨fun i s h1 h2 h3 h4 => ?_, fun i s h1 h2 h3 => ?_, fun i s h1 h2 => ?_⟩
 ·rw [mix_out hX (.inl (by have := inO_lt hC.hn h4; omega))] at h1
  exact hM.m1 i s h1 h2 h3 h4
 ·rw [List.getElem?_drop, mix_out hX (.inr (by rw [comL_len]; have := hC.nx0; omega)), ← List.getElem?_drop] at h2
  exact hM.m2 i s (by omega) h2 h3
 ·rcases hX.at' i s h1 with h | ⟨_, _, h | h⟩
  ·exact hM.m3 i s h h2
  ·rw [h2] at h; cases h
  ·rw [(com_new hs h).2.2]; exact Int.le_refl _
theorem log_none (hn : 6 ≤ n ∧ n ≤ 1024) (h : ∀ s, (S.drop (ploN n).f.toNat)[0]? = some s → tgood g s 0 = false) : recF (tailR g (S.drop (ploN n).f.toNat)) = ([], 0) := by
 have : tailR g (S.drop (ploN n).f.toNat) = [] := by
  refine List.eq_nil_of_length_eq_zero (Nat.le_antisymm (Nat.not_lt.1 fun hc => ?_) (Nat.zero_le _))
  obtain ⟨s, h1, h2⟩ := tail_ge.1 hc 0 (by omega)
  rw [h s h1] at h2; cases h2
 rw [this]; rfl
theorem core_tur_full {mark : Int} (hC : Core n g nx S B R) (hs : splitOK (secP (g + 1) mark) b = true) (hm : parts (b.length : Int) ≤ (ploN n).s)
  (hX : Mix S S' ((g + 1) % 2 * (ploN n).s).toNat (secL (g + 1) mark b (parts (b.length : Int)).toNat))
  (hF : ∀ i, i < (parts (b.length : Int)).toNat → S'[((g + 1) % 2 * (ploN n).s).toNat + i]? = (secL (g + 1) mark b (parts (b.length : Int)).toNat)[i]?) : Core n (g + 1) 0 S' b [] := by
 have pb := pl_bd hC.hn
 have hnt : ∀ (i : Nat) s, S'[(ploN n).f.toNat + i]? = some s → tgood (g + 1) s i = true → False := fun i s h1 h2 => by
  rw [mix_out hX (.inr (by rw [secL_len]; have := slot_far hC.hn (g := g + 1) (i := (ploN n).s.toNat - 1) (by omega); omega))] at h1
  obtain ⟨q1, q2, q3, q4⟩ := tg_is h2
  rcases hC.gl _ s h1 q1 with h | ⟨_, h⟩
  ·omega
  ·have := inO_lt hC.hn h; omega
 refine ⟨⟨hC.hn, by rw [hX.len]; exact hC.len, by have := hC.hg; omega, by omega, slot_full hC.hn hs hm hF, fun h => ?_, ?_⟩, fun i s h1 h2 => ?_, fun i s h1 h2 h3 => ?_⟩
 ·have e : pgS n S' (g + 1 + 1) = pgS n S g := by
   rw [pgS, slot_two]
   exact pgS_same (g := g) fun i hi => mix_out hX (by
    rw [secL_len]
    have := fun j hj => slot_other hC.hn (g := g) hi (j := j) hj
    rcases Nat.lt_or_ge ((g % 2 * (ploN n).s).toNat + i) ((g + 1) % 2 * (ploN n).s).toNat with h | h
    ·exact .inl h
    ·refine .inr (Nat.not_lt.1 fun hc => this ((g % 2 * (ploN n).s).toNat + i - ((g + 1) % 2 * (ploN n).s).toNat) (by omega) (by omega)))
  rw [e, hC.cur.2.1]; omega
 ·refine log_none hC.hn fun s h => ?_
  cases e : tgood (g + 1) s 0 with
  | false => rfl
  | true => exact (hnt 0 s (by rw [List.getElem?_drop] at h; exact h) e).elim
 ·left
  rcases hX.at' i s h1 with h | ⟨_, _, h | h⟩
  ·rcases hC.gl i s h h2 with h | ⟨h, _⟩ <;> omega
  ·rw [h2] at h; cases h
  ·rw [(sec_new hs h).2.2]; exact Int.le_refl _
 ·exact (hnt i s (by rw [List.getElem?_drop] at h2; exact h2) h3).elim
theorem mk_tur {mark : Int} (hC : Core n g nx S B R) (hM : Mk n g nx mark S) (hs : splitOK (secP (g + 1) mark) b = true) (hm : parts (b.length : Int) ≤ (ploN n).s)
  (hX : Mix S S' ((g + 1) % 2 * (ploN n).s).toNat (secL (g + 1) mark b (parts (b.length : Int)).toNat)) : Mk n (g + 1) 0 mark S' := by
 have pb := pl_bd hC.hn
 have hg : ∀ (i : Nat) s, S'[i]? = some s → okS s = true → (valS s).gen ≤ g + 1 := fun i s h1 h2 => by
  rcases hX.at' i s h1 with h | ⟨_, _, h | h⟩
  ·rcases hC.gl i s h h2 with h | ⟨h, _⟩ <;> omega
  ·rw [h2] at h; cases h
  ·rw [(sec_new hs h).2.2]; exact Int.le_refl _
 refine ⟨fun i s h1 h2 h3 h4 => ?_, fun i s h1 h2 h3 => ?_, fun i s h1 h2 => ?_⟩
 ·have := hg i s h1 h2; omega
 ·rw [List.getElem?_drop, mix_out hX (.inr (by rw [secL_len]; have := slot_far hC.hn (g := g + 1) (i := (ploN n).s.toNat - 1) (by omega); omega))] at h2
  obtain ⟨q1, q2, q3, q4⟩ := tg_is h3
  rcases hC.gl _ s h2 q1 with h | ⟨_, h⟩
  ·omega
  ·have := inO_lt hC.hn h; omega
 ·rcases hX.at' i s h1 with h | ⟨_, _, h | h⟩
  ·exact hM.m3 i s h h2
  ·rw [h2] at h; cases h
  ·rw [(sec_new hs h).2.2]; exact Int.le_refl _
theorem core_tur_part {mark : Int} (hC : Core n g nx S B R) (hM : Mk n g nx mark S) (hs : splitOK (secP (g + 1) mark) b = true) (hm : parts (b.length : Int) ≤ (ploN n).s)
  (hX : Mix S S' ((g + 1) % 2 * (ploN n).s).toNat (secL (g + 1) mark b (parts (b.length : Int)).toNat))
  (hF : ¬ ∀ i, i < (parts (b.length : Int)).toNat → S'[((g + 1) % 2 * (ploN n).s).toNat + i]? = (secL (g + 1) mark b (parts (b.length : Int)).toNat)[i]?) : Core n g nx S' B R := by
 have pb := pl_bd hC.hn
 have hfar : ∀ i : Nat, S'[(ploN n).f.toNat + i]? = S[(ploN n).f.toNat + i]? := fun i => mix_out hX (.inr (by rw [secL_len]; have := slot_far hC.hn (g := g + 1) (i := (ploN n).s.toNat - 1) (by omega); omega))
 have hdrop : S'.drop (ploN n).f.toNat = S.drop (ploN n).f.toNat := List.ext_getElem? fun i => by rw [List.getElem?_drop, List.getElem?_drop, hfar]
 have e : pgS n S' g = pgS n S g := pgS_same (g := g) fun i hi => mix_out hX (by
  rw [secL_len]
  have := fun j hj => slot_other hC.hn (g := g) hi (j := j) hj
  rcases Nat.lt_or_ge ((g % 2 * (ploN n).s).toNat + i) ((g + 1) % 2 * (ploN n).s).toNat with h | h
  ·exact .inl h
  ·refine .inr (Nat.not_lt.1 fun hc => this ((g % 2 * (ploN n).s).toNat + i - ((g + 1) % 2 * (ploN n).s).toNat) (by omega) (by omega)))
 refine ⟨⟨hC.hn, by rw [hX.len]; exact hC.len, hC.hg, hC.nx0, by rw [e]; exact hC.cur, fun h => ?_, by rw [hdrop]; exact hC.log⟩, fun i s h1 h2 => ?_, by rw [hdrop]; exact hC.s5⟩
 ·obtain ⟨h3, h4⟩ := slot_part hC.hn hs hm hC.gl hM.m1 hX hF h
  rw [← h4]; exact hC.oth h3
 ·rcases hX.at' i s h1 with h | ⟨q1, q2, h | h⟩
  ·exact hC.gl i s h h2
  ·rw [h2] at h; cases h
  ·right
   rw [(sec_new hs h).2.2]
   rw [secL_len] at q2
   exact ⟨rfl, q1, by omega⟩
theorem pgS_par (n : Int) (S : PSl) (g : Int) : pgS n S g = pgS n S (g % 2) := by rw [pgS, pgS, partR, partR, Int.emod_emod_of_dvd _ (Int.dvd_refl 2)]
theorem bet_core (hC : Cor0 n g nx S B R) : betOK (pgS n S 0) (pgS n S 1) = true ∧ betG (pgS n S 0) (pgS n S 1) = g ∧ betB (pgS n S 0) (pgS n S 1) = B := by
 have hg := hC.hg
 obtain ⟨c1, c2, c3⟩ := hC.cur
 have ho := hC.oth
 rcases (show g % 2 = 0 ∨ g % 2 = 1 by omega) with h | h
 ·rw [pgS_par n S g, h] at c1 c2 c3
  rw [pgS_par n S (g + 1), show (g + 1) % 2 = 1 by omega] at ho
  have hb : bet (pgS n S 0) (pgS n S 1) = false := by
   refine bet_0 ?_
   cases e : slotOK (pgS n S 1) with
   | false => exact .inl rfl
   | true => exact .inr ⟨c1, by have := ho e; omega⟩
  obtain ⟨e1, e2, e3⟩ := bet_f hb
  rw [e1, e2, e3]; exact ⟨c1, c2, c3⟩
 ·rw [pgS_par n S g, h] at c1 c2 c3
  rw [pgS_par n S (g + 1), show (g + 1) % 2 = 0 by omega] at ho
  have hb : bet (pgS n S 0) (pgS n S 1) = true := by
   refine bet_1 ⟨c1, ?_⟩
   cases e : slotOK (pgS n S 0) with
   | false => exact .inl rfl
   | true => exact .inr (by have := ho e; omega)
  obtain ⟨e1, e2, e3, _⟩ := bet_t hb
  rw [e1, e2, e3]; exact ⟨rfl, c2, c3⟩
theorem mark_ge {S : PSl} {i : Nat} {s : PS} (h : S[i]? = some s) (h2 : okS s = true) : (valS s).mark ≤ markOf okS valS S := by
 have up : ∀ (l : PSl) (m : Int), m ≤ l.foldl (fun n s => if okS s then (if (valS s).mark > n then (valS s).mark else n) else n) m := by
  intro l
  induction l with
  | nil => exact fun m => Int.le_refl _
  | cons a t ih =>
   intro m
   rw [List.foldl_cons]
   refine Int.le_trans ?_ (ih _)
   split
   ·split <;> omega
   ·exact Int.le_refl _
 have key : ∀ (l : PSl) (i : Nat) (m : Int), l[i]? = some s → (valS s).mark ≤ l.foldl (fun n s => if okS s then (if (valS s).mark > n then (valS s).mark else n) else n) m := by
  intro l
  induction l with
  | nil => intro i m h; simp at h
  | cons a t ih =>
   intro i m h
   rw [List.foldl_cons]
   cases i with
   | zero =>
    have h : a = s := by simpa using h
    subst h
    refine Int.le_trans ?_ (up t _)
    rw [if_pos h2]; split <;> omega
   | succ i => exact ih i _ (by simpa using h)
 exact key S i 0 h
theorem mark_le {S : PSl} {m : Int} (h0 : 0 ≤ m) (h : ∀ (i : Nat) s, S[i]? = some s → okS s = true → (valS s).mark ≤ m) : markOf okS valS S ≤ m := by
 have key : ∀ (l : PSl) (k : Int), k ≤ m → (∀ s ∈ l, okS s = true → (valS s).mark ≤ m) → l.foldl (fun n s => if okS s then (if (valS s).mark > n then (valS s).mark else n) else n) k ≤ m := by
  intro l
  induction l with
  | nil => exact fun k hk _ => hk
  | cons a t ih =>
   intro k hk hl
   rw [List.foldl_cons]
   refine ih _ ?_ fun s hs => hl s (List.mem_cons_of_mem _ hs)
   split
   ·split
    ·exact hl a (by simp) (by assumption)
    ·exact hk
   ·exact hk
 exact key S 0 h0 fun s hs h2 => by
  obtain ⟨i, hi⟩ := List.getElem?_of_mem hs
  exact h i s hi h2
def reo (y : Dk) (g nx : Int) : Wk := { opn0 y with gen := g, next := nx }
theorem open_core {y : Dk} (hF : Fine y) (hoff : offD y = false) (hC : Cor0 y.n g nx (secD y) B R) (hm : ¬ markOf okS valS (secD y) + 1 > 2147483648) : openX y = ⟨true, reo y g nx, y, B, R, 0⟩ := by
 obtain ⟨b1, b2, b3⟩ := bet_core hC
 have hn := hC.hn
 have e1 : opnG y = g := b2
 have e2 : opnR y = (R, nx.toNat) := by rw [opnR, e1]; exact hC.log
 rw [open_4 (by omega) hoff hm b1, e1, e2]
 have : ((nx.toNat : Nat) : Int) = nx := by have := hC.nx0; omega
 have b3 : betB (pgA y 0) (pgA y 1) = B := b3
 rw [b3]
 simp only [reo, this]
theorem reo_ok {y : Dk} (hC : Cor0 y.n g nx (secD y) B R) (hgb : g ≤ 2147483648) (hm : ¬ markOf okS valS (secD y) + 1 > 2147483648) : WOK (reo y g nx) y.n := by
 have h := opn0_ok hC.hn hm
 exact ⟨h.hn, h.s, h.f, h.l, ⟨hC.hg, hgb⟩, h.m, hC.nx0⟩
theorem reo_mk {y : Dk} (nx' : Int) : Mk y.n g nx' (reo y g nx).mark (secD y) := mk_of fun i s h1 h2 => by
 have := mark_ge h1 h2
 show _ < markOf okS valS (secD y) + 1
 omega
end
end Go.Vai.WK
namespace Go.Vai.WK
open Go.Proofs Go.Vai Go.Vai.DK Go.Vai.G Go.Vai.L Go.Vai.MP Go.Vai.O Go.Vai.RC Go.Vai.S7 Go.Vai.U Go.Vai.V Go.Vai.Z
set_option linter.unusedSimpArgs false
set_option linter.unusedVariables false
open Go.Vai.DK Go.Vai.U Go.Vai.V Go.Vai.S7 Go.Vai.RC Go.Vai.G
def img (y : Dk) : PSl := WK.secR y y.n.toNat
theorem img_get' (y : Dk) : ∀ (k i : Nat), (WK.secR y k)[i]? = if i < k then some (false, readD y (i : Int)) else none
 | 0, i => by simp [WK.secR]
 | k + 1, i => by
  rw [WK.secR]
  by_cases h : i < k
  ·rw [List.getElem?_append_left (by rw [WK.secR_len]; exact h), img_get' y k i, if_pos h, if_pos (by omega)]
  ·rw [List.getElem?_append_right (by rw [WK.secR_len]; omega), WK.secR_len]
   by_cases h2 : i = k
   ·subst h2; simp
   ·rw [if_neg (by omega), List.getElem?_eq_none_iff]; simp; omega
theorem img_get (y : Dk) (i : Nat) : (img y)[i]? = if i < y.n.toNat then some (false, readD y (i : Int)) else none := img_get' y _ i
theorem img_len (y : Dk) : (img y).length = y.n.toNat := WK.secR_len _ _
theorem secD_img {y : Dk} (h : offD y = false) : secD y = img y := secD_yes h
theorem img_ext {y z : Dk} (hn : z.n = y.n) (h : ∀ i : Int, 0 ≤ i → i < y.n → readD z i = readD y i) : img z = img y := by
 refine List.ext_getElem? fun i => ?_
 rw [img_get, img_get, hn]
 split
 ·rw [h i (by omega) (by omega)]
 ·rfl
theorem read_act (y : Dk) (i : Int) : readD (actD y) i = readD y i := by
 obtain ⟨h1, h2, _⟩ := act_maps y
 rw [readD, readD, firmD, firmD, h1, h2]
theorem read_flD (z : Dk) (i : Int) : readD (flD z) i = readD z i := by
 rw [readD, readD, firmD, firmD]
 show (none : Option (List (BitVec 8))).getD ((if (z.waits i).isSome then z.waits i else z.safe i).getD _) = _
 cases z.waits i <;> rfl
theorem read_put (z : Dk) (fr : Int) (b : List (BitVec 8)) (i : Int) : readD (putW z fr b) i = if i = fr then b else readD z i := by
 rw [readD, readD]
 show (if i = fr then some b else z.waits i).getD (firmD z i) = _
 split <;> rfl
theorem act_live {y : Dk} (h : ¬ y.armed = 0) : (actD y).dead = y.dead ∧ actE y = 0 ∧ (y.armed < 0 → (actD y).armed = y.armed) := by
 unfold actD actE
 rw [if_neg h, if_neg h]
 refine ⟨by split <;> rfl, rfl, fun h2 => ?_⟩
 rw [if_neg (by omega)]
structure Wrote (y : Dk) (fr : Int) (l : PSl) (r : Dk × Int) : Prop where
 e : r.2 = 0
 off : offD r.1 = false
 w : ∀ i, r.1.waits i = none
 n : r.1.n = y.n
 rd : ∀ i : Int, readD r.1 i = if fr ≤ i ∧ i < fr + (l.length : Int) then (l.getD (i - fr).toNat default).2 else readD y i
 a : y.armed < 0 → r.1.armed = y.armed
structure Died (y : Dk) (fr : Int) (l : PSl) (r : Dk × Int) : Prop where
 e : r.2 = 7
 d : r.1.dead = true
 n : r.1.n = y.n
 s : r.1.safe = y.safe
 w : ∃ k : Nat, k ≤ l.length ∧ ∀ i : Int, r.1.waits i = if fr ≤ i ∧ i < fr + (k : Int) then some (l.getD (i - fr).toNat default).2 else y.waits i
 a : 0 ≤ y.armed
theorem wrF_out : ∀ {l : PSl} {y : Dk} {fr : Int}, offD y = false → 0 ≤ fr → fr + (l.length : Int) ≤ y.n → (∀ p ∈ l, p.2.length = 512) → Wrote y fr l (wrF y fr l) ∨ Died y fr l (wrF y fr l)
 | [], y, fr, hoff, h0, h1, h2 => by
  rw [wrF]
  by_cases ha : y.armed = 0
  ·right
   have hE : actE y = 7 := (act_0 ha).2
   have e : fluE y = 7 ∧ fluX y = actD y := by
    obtain ⟨q1, q2⟩ := flu_die hoff (by rw [hE]; decide)
    exact ⟨q1.trans hE, q2⟩
   obtain ⟨q1, q2, q3⟩ := act_maps y
   refine ⟨e.1, by show (fluX y).dead = true; rw [e.2, (act_0 ha).1], by show (fluX y).n = y.n; rw [e.2, q3], by show (fluX y).safe = _; rw [e.2, q1], ⟨0, Nat.le_refl _, fun i => ?_⟩, by omega⟩
   show (fluX y).waits i = _
   rw [e.2, q2, if_neg (by omega)]
  ·left
   obtain ⟨q1, q2, q3⟩ := act_live ha
   obtain ⟨e1, e2⟩ := flu_ok hoff (show ¬ actE y ≠ 0 by rw [q2]; decide)
   refine ⟨e1, ?_, fun i => by show (fluX y).waits i = none; rw [e2]; rfl, by show (fluX y).n = _; rw [e2]; exact (act_maps y).2.2, fun i => ?_, fun h => by show (fluX y).armed = _; rw [e2]; exact q3 h⟩
   ·show offD (fluX y) = false
    rw [e2]
    show (decide ((actD y).n = 0) || (actD y).dead) = false
    rw [(act_maps y).2.2, q1]; exact hoff
   ·show readD (fluX y) i = _
    rw [e2, read_flD, read_act, if_neg (by simp only [List.length_nil]; omega)]
 | b :: l, y, fr, hoff, h0, h1, h2 => by
  have hb := h2 b (by simp)
  simp only [List.length_cons, Int.natCast_add] at h1
  have hrng : ¬ ((fr < 0 ∨ fr ≥ y.n) ∨ (b.2.length : Int) ≠ 512) := by omega
  rw [wrF]
  by_cases ha : y.armed = 0
  ·right
   have hE : actE y = 7 := (act_0 ha).2
   obtain ⟨q1, q2⟩ := wri_die hoff hrng (by rw [hE]; decide)
   rw [hE] at q1
   rw [if_pos (by rw [q1]; decide), q1, q2]
   obtain ⟨k1, k2, k3⟩ := act_maps y
   exact ⟨rfl, by rw [(act_0 ha).1], k3, k1, ⟨0, Nat.zero_le _, fun i => by rw [k2, if_neg (by omega)]⟩, by omega⟩
  ·obtain ⟨q1, q2, q3⟩ := act_live ha
   obtain ⟨e1, e2⟩ := wri_ok hoff hrng (show ¬ actE y ≠ 0 by rw [q2]; decide)
   rw [if_neg (by rw [e1]; decide), e2]
   obtain ⟨k1, k2, k3⟩ := act_maps y
   have hoff2 : offD (putW (actD y) fr b.2) = false := by
    show (decide ((actD y).n = 0) || (actD y).dead) = false
    rw [k3, q1]; exact hoff
   have hn2 : (putW (actD y) fr b.2).n = y.n := k3
   have hget : ∀ j : Int, fr + 1 ≤ j → ((b :: l).getD (j - fr).toNat default) = l.getD (j - (fr + 1)).toNat default := fun j hj => by
    obtain ⟨q, hq⟩ : ∃ q : Nat, j = fr + 1 + q := ⟨(j - fr - 1).toNat, by omega⟩
    rw [show (j - fr).toNat = q + 1 by omega, show (j - (fr + 1)).toNat = q by omega]; rfl
   rcases wrF_out (l := l) hoff2 (show 0 ≤ fr + 1 by omega) (by rw [hn2]; omega) (fun p hp => h2 p (List.mem_cons_of_mem _ hp)) with w | w
   ·left
    refine ⟨w.e, w.off, w.w, w.n.trans hn2, fun i => ?_, fun h => (w.a (by show (actD y).armed < 0; rw [q3 h]; exact h)).trans (q3 h)⟩
    rw [w.rd, read_put, read_act]
    simp only [List.length_cons, Int.natCast_add]
    by_cases h3 : i = fr
    ·subst h3
     rw [if_neg (by omega), if_pos rfl, if_pos (by omega), Int.sub_self]; rfl
    ·by_cases h4 : fr + 1 ≤ i ∧ i < fr + 1 + (l.length : Int)
     ·rw [if_pos h4, if_pos (by omega), hget i h4.1]
     ·rw [if_neg h4, if_neg h3, if_neg (by omega)]
   ·right
    obtain ⟨k, hk, hw⟩ := w.w
    refine ⟨w.e, w.d, w.n.trans hn2, w.s.trans k1, ⟨k + 1, by simpa using hk, fun i => ?_⟩, ?_⟩
    ·rw [hw]
     show (if _ then _ else if i = fr then some b.2 else (actD y).waits i) = _
     rw [k2]
     by_cases h3 : i = fr
     ·subst h3
      rw [if_neg (by omega), if_pos rfl, if_pos (by omega), Int.sub_self]; rfl
     ·by_cases h4 : fr + 1 ≤ i ∧ i < fr + 1 + (k : Int)
      ·rw [if_pos h4, if_pos (by omega), hget i h4.1]
      ·rw [if_neg h4, if_neg h3, if_neg (by omega)]
    ·have := w.a
     rcases Int.lt_or_le y.armed 0 with h | h
     ·rw [show (putW (actD y) fr b.2).armed = y.armed from q3 h] at this; omega
     ·exact h
theorem wrote_mix {y : Dk} {fr : Int} {l : PSl} {r : Dk × Int} (h : Wrote y fr l r) (h0 : 0 ≤ fr) (h1 : fr + (l.length : Int) ≤ y.n) (hf : ∀ p ∈ l, p.1 = false) :
  Mix (img y) (img r.1) fr.toNat l ∧ ∀ i, i < l.length → (img r.1)[fr.toNat + i]? = l[i]? := by
 have key : ∀ i, i < l.length → (img r.1)[fr.toNat + i]? = l[i]? := fun i hi => by
  rw [img_get, h.n, if_pos (by omega), h.rd, if_pos (by omega), List.getElem?_eq_getElem hi]
  have e : (((fr.toNat + i : Nat) : Int) - fr).toNat = i := by omega
  rw [e, List.getD_eq_getElem?_getD, List.getElem?_eq_getElem hi]
  have := hf l[i] (List.getElem_mem hi)
  simp only [Option.getD_some]
  rw [← this]
 refine ⟨⟨by rw [img_len, img_len, h.n], fun i s hs => ?_⟩, key⟩
 by_cases hr : fr.toNat ≤ i ∧ i < fr.toNat + l.length
 ·right
  refine ⟨hr.1, hr.2, .inr ?_⟩
  rw [← key (i - fr.toNat) (by omega), show fr.toNat + (i - fr.toNat) = i by omega]; exact hs
 ·left
  rw [img_get, h.n] at hs
  split at hs
  ·rename_i hi
   rw [img_get, if_pos hi, ← hs, h.rd, if_neg (by omega)]
  ·cases hs
theorem crK_nil (y : Dk) : ∀ k, crK y [] k = y
 | 0 => rfl
 | k + 1 => by rw [crK]; simp [crK_nil y k]
theorem crash_nil (y : Dk) : crashD y [] = { y with waits := fun _ => none, armed := -1, dead := false } := by rw [crashD, crK_nil]
theorem crash_n (y : Dk) (l : List Tear) : (crashD y l).n = y.n := (crK_eqs y l _).1
theorem crash_off {y : Dk} (l : List Tear) (h : Fine y) : offD (crashD y l) = false := by
 have h1 := h.n1
 show (decide ((crashD y l).n = 0) || false) = false
 rw [crash_n, decide_eq_false (by omega)]; rfl
theorem read_nil (y : Dk) (i : Int) : readD (crashD y []) i = firmD y i := by rw [crash_nil]; rfl
theorem crK_keep {y : Dk} {l : List Tear} {i : Int} (hi : i ∉ waitL y) : ∀ k, (crK y l k).safe i = y.safe i
 | 0 => rfl
 | k + 1 => by
  rw [crK]
  split
  ·rename_i t j _ hj
   have hne : i ≠ j := fun e => hi (e ▸ List.mem_of_getElem? hj)
   unfold crStep
   split
   ·show (if i = j then _ else (crK y l k).safe i) = _
    rw [if_neg hne]; exact crK_keep hi k
   ·split
    ·show (if i = j then _ else (crK y l k).safe i) = _
     rw [if_neg hne]; exact crK_keep hi k
    ·exact crK_keep hi k
  ·exact crK_keep hi k
theorem read_still {y : Dk} (h : Fine y) {l : List Tear} {i : Int} (hi : y.waits i = none) : readD (crashD y l) i = readD y i := by
 have hn : i ∉ waitL y := fun hm => by have := (wait_mem h i).1 hm; rw [hi] at this; cases this
 show firmD (crK y l (waitL y).length) i = _
 rw [firmD, crK_keep hn, readD, hi]; rfl
theorem img_still {y : Dk} (h : Fine y) (l : List Tear) (hw : ∀ i, y.waits i = none) : img (crashD y l) = img y := img_ext (crash_n y l) fun i _ _ => read_still h (hw i)
end Go.Vai.WK
namespace Go.Vai.WK
open Go.Proofs Go.Vai Go.Vai.DK Go.Vai.G Go.Vai.L Go.Vai.MP Go.Vai.O Go.Vai.RC Go.Vai.S7 Go.Vai.U Go.Vai.V Go.Vai.Z
set_option linter.unusedSimpArgs false
set_option linter.unusedVariables false
open Go.Vai.DK Go.Vai.U Go.Vai.V Go.Vai.S7 Go.Vai.RC Go.Vai.G
structure WInv (x : Wk) (y : Dk) (B : List (BitVec 8)) (R : PSl) : Prop where
 f : Fine y
 off : offD y = false
 nw : ∀ i, y.waits i = none
 ok : WOK x y.n
 br : x.broken = false
 core : Core y.n x.gen x.next (img y) B R
 mks : Mk y.n x.gen x.next x.mark (img y)
def ToldP (y : Dk) (l : List Tear) : Prop := ∀ i ∈ waitL y, pgGood (readD (crashD y l) i) = true → readD (crashD y l) i = firmD y i ∨ readD (crashD y l) i = (y.waits i).getD []
theorem died_mix {y : Dk} {fr : Int} {l : PSl} {r : Dk × Int} (h : Died y fr l r) (hF : Fine r.1) (h0 : 0 ≤ fr) (hw : ∀ i, y.waits i = none) (hf : ∀ p ∈ l, p.1 = false) {t : List Tear} (ht : ToldP r.1 t) : Mix (img y) (img (crashD r.1 t)) fr.toNat l := by
 obtain ⟨k, hk, hwt⟩ := h.w
 refine ⟨by rw [img_len, img_len, crash_n, h.n], fun i s hs => ?_⟩
 rw [img_get, crash_n, h.n] at hs
 split at hs
 case isFalse => cases hs
 rename_i hi
 have hs := (Option.some.inj hs).symm
 have hfirm : firmD r.1 (i : Int) = readD y (i : Int) := by rw [readD, hw, firmD, firmD, h.s]; rfl
 have hold : readD (crashD r.1 t) (i : Int) = readD y (i : Int) → (img y)[i]? = some s := fun e => by rw [img_get, if_pos hi, hs, e]
 cases e : r.1.waits (i : Int) with
 | none =>
  left
  refine hold ?_
  rw [read_still hF e, readD, e]; exact hfirm
 | some b =>
  have e' := e
  rw [hwt] at e
  split at e
  case isFalse => rw [hw] at e; cases e
  rename_i hr
  have hlt : i - fr.toNat < l.length := by omega
  have hb : b = l[i - fr.toNat].2 := by
   have := (Option.some.inj e).symm
   rw [this, show ((i : Int) - fr).toNat = i - fr.toNat by omega, List.getD_eq_getElem?_getD, List.getElem?_eq_getElem hlt]; rfl
  cases g : pgGood (readD (crashD r.1 t) (i : Int)) with
  | false =>
   right
   exact ⟨by omega, by omega, .inl (by rw [hs]; exact g)⟩
  | true =>
   rcases ht i ((wait_mem hF i).2 (by rw [e']; rfl)) g with h1 | h1
   ·left; exact hold (h1.trans hfirm)
   ·right
    refine ⟨by omega, by omega, .inr ?_⟩
    rw [e'] at h1
    rw [List.getElem?_eq_getElem hlt, hs, h1]
    have := hf _ (List.getElem_mem hlt)
    simp only [Option.getD_some]
    rw [hb, ← this]
section
variable {x : Wk} {y : Dk} {B b : List (BitVec 8)} {R : PSl}
theorem com_flag (x : Wk) (b : List (BitVec 8)) (k : Nat) : ∀ p ∈ comL x b k, p.1 = false := fun p hp => by obtain ⟨q, _, rfl⟩ := List.mem_map.1 hp; rfl
theorem sec_flag (g m : Int) (b : List (BitVec 8)) (k : Nat) : ∀ p ∈ secL g m b k, p.1 = false := fun p hp => by obtain ⟨q, _, rfl⟩ := List.mem_map.1 hp; rfl
theorem com_512 (hs : splitOK (pgH x) b = true) : ∀ p ∈ comL x b (parts (b.length : Int)).toNat, p.2.length = 512 := fun p hp => by
 obtain ⟨q, hq, rfl⟩ := List.mem_map.1 hp
 obtain ⟨i, hi, rfl⟩ := List.mem_map.1 hq
 rw [List.mem_range] at hi
 exact pgPut_lW (splitOK_at hs hi)
theorem sec_512 {g m : Int} (hs : splitOK (secP g m) b = true) : ∀ p ∈ secL g m b (parts (b.length : Int)).toNat, p.2.length = 512 := fun p hp => by
 obtain ⟨q, hq, rfl⟩ := List.mem_map.1 hp
 obtain ⟨i, hi, rfl⟩ := List.mem_map.1 hq
 rw [List.mem_range] at hi
 exact pgPut_lW (splitOK_at hs hi)
theorem com_cases (h : WInv x y B R) (b : List (BitVec 8)) :
  ((comX x y b).2.2 = 0 ∧ WInv (comX x y b).1 (comX x y b).2.1 B (R ++ [(b.isEmpty, b)]) ∧ (comX x y b).1.gen = x.gen ∧ (comX x y b).1.mark = x.mark ∧ (comX x y b).1.next = x.next + ((parts (b.length : Int)).toNat : Int) ∧ (comX x y b).2.1.n = y.n ∧ (y.armed < 0 → (comX x y b).2.1.armed = y.armed)) ∨
  ((comX x y b).2.2 = 7 ∧ splitOK (pgH x) b = true ∧ Fine (comX x y b).2.1 ∧ Died y (x.f + x.next) (comL x b (parts (b.length : Int)).toNat) ((comX x y b).2.1, 7)) ∨
  ((comX x y b).2.2 ≠ 0 ∧ (comX x y b).2.2 ≠ 7 ∧ (comX x y b).1 = x ∧ (comX x y b).2.1 = y ∧ (splitOK (pgH x) b = false ∨ parts (b.length : Int) > x.l - x.next)) := by
 have hb : ¬ x.broken = true := by rw [h.br]; decide
 have pb := pl_bd h.ok.hn
 have hxf := h.ok.f; have hxl := h.ok.l; have hnx := h.ok.nx
 rcases split0E (p := pgH x) (b := b) with ⟨hE, hO, hP⟩ | ⟨hE, hO⟩
 ·have hE' : ¬ splitE (pgH x) b ≠ 0 := by rw [hE]; decide
  obtain ⟨hp0, hpa, hp1, hp2⟩ := parts_pos hO
  by_cases hf : parts (b.length : Int) > x.l - x.next
  ·right; right
   rw [com_3 hb hE' hf]
   exact ⟨show (4 : Int) ≠ 0 by decide, show (4 : Int) ≠ 7 by decide, rfl, rfl, .inr hf⟩
  ·have hlen := comL_len x b (parts (b.length : Int)).toNat
   have hfr : (x.f + x.next).toNat = (ploN y.n).f.toNat + x.next.toNat := by omega
   rcases wrF_out (l := comL x b (parts (b.length : Int)).toNat) (fr := x.f + x.next) h.off (by omega) (by rw [hlen]; omega) (com_512 hO) with w | w
   ·left
    have he := w.e
    rw [com_5 hb hE' hf (by rw [he]; decide)]
    obtain ⟨m1, m2⟩ := wrote_mix w (by omega) (by rw [hlen]; omega) (com_flag _ _ _)
    rw [hfr] at m1 m2
    rw [hlen] at m2
    have hn := w.n
    refine ⟨rfl, ⟨wrF_fine h.f, w.off, w.w, ?_, by show decide _ = false; rw [he]; decide, ?_, ?_⟩, rfl, rfl, rfl, hn, w.a⟩
    ·rw [hn]
     exact ⟨h.ok.hn, h.ok.s, h.ok.f, h.ok.l, h.ok.g, h.ok.m, by show 0 ≤ x.next + _ ∧ x.next + _ ≤ x.l; omega⟩
    ·rw [hn]; exact core_com_full h.core hO (by omega) m1 m2
    ·rw [hn]; exact mk_com h.core h.mks hO m1
   ·right; left
    have he := w.e
    rw [com_4 hb hE' hf (by rw [he]; decide)]
    exact ⟨he, hO, wrF_fine h.f, ⟨rfl, w.d, w.n, w.s, w.w, w.a⟩⟩
 ·right; right
  rw [com_2 hb hE]
  refine ⟨hE, ?_, rfl, rfl, .inl hO⟩
  show splitE (pgH x) b ≠ 7
  rw [splitE]; split
  ·decide
  ·split <;> decide
theorem tur_cases (h : WInv x y B R) (b : List (BitVec 8)) :
  ((turX x y b).2.2 = 0 ∧ WInv (turX x y b).1 (turX x y b).2.1 b [] ∧ (turX x y b).1.gen = x.gen + 1 ∧ (turX x y b).1.mark = x.mark ∧ (turX x y b).1.next = 0 ∧ (turX x y b).2.1.n = y.n ∧ (y.armed < 0 → (turX x y b).2.1.armed = y.armed)) ∨
  ((turX x y b).2.2 = 7 ∧ splitOK (secP (x.gen + 1) x.mark) b = true ∧ parts (b.length : Int) ≤ x.s ∧ Fine (turX x y b).2.1 ∧ Died y ((x.gen + 1) % 2 * x.s) (secL (x.gen + 1) x.mark b (parts (b.length : Int)).toNat) ((turX x y b).2.1, 7)) ∨
  ((turX x y b).2.2 ≠ 0 ∧ (turX x y b).2.2 ≠ 7 ∧ (turX x y b).1 = x ∧ (turX x y b).2.1 = y ∧ (parts (b.length : Int) = 0 ∨ parts (b.length : Int) > x.s ∨ x.gen = 2147483648 ∨ secE (x.gen + 1) x.mark x.s b ≠ 0)) := by
 have hb : ¬ x.broken = true := by rw [h.br]; decide
 have pb := pl_bd h.ok.hn
 have hxs := h.ok.s
 by_cases h1 : parts (b.length : Int) = 0 ∨ parts (b.length : Int) > x.s
 ·right; right
  rw [tur_2 hb h1]
  exact ⟨show (5 : Int) ≠ 0 by decide, show (5 : Int) ≠ 7 by decide, rfl, rfl, by rcases h1 with h1 | h1; exact .inl h1; exact .inr (.inl h1)⟩
 by_cases h2 : x.gen = 2147483648
 ·right; right
  rw [tur_3 hb h1 h2]
  exact ⟨show (4 : Int) ≠ 0 by decide, show (4 : Int) ≠ 7 by decide, rfl, rfl, .inr (.inr (.inl h2))⟩
 by_cases h3 : secE (x.gen + 1) x.mark x.s b ≠ 0
 ·right; right
  rw [tur_4 hb h1 h2 h3]
  refine ⟨h3, ?_, rfl, rfl, .inr (.inr (.inr h3))⟩
  show secE (x.gen + 1) x.mark x.s b ≠ 7
  rw [secE]; split
  ·decide
  ·rw [splitE]; split
   ·decide
   ·split <;> decide
 have hsec : secOK (x.gen + 1) x.mark x.s b = true := by
  rcases split0E (p := secP (x.gen + 1) x.mark) (b := b) with ⟨q1, q2, q3⟩ | ⟨q1, q2⟩
  ·rw [secOK, q2, decide_eq_true (by omega)]; rfl
  ·exfalso
   rw [secE, if_neg (by omega)] at h3
   exact h3 q1
 obtain ⟨s1, s2, s3⟩ := sec_facts hsec
 obtain ⟨hp0, hpa, hp1, hp2⟩ := parts_pos s1
 have hlen := secL_len (x.gen + 1) x.mark b (parts (b.length : Int)).toNat
 obtain ⟨f1, f2⟩ := slot_fr (g := x.gen + 1) h.ok
 have hfar := slot_far h.ok.hn (g := x.gen + 1) (i := (ploN y.n).s.toNat - 1) (by omega)
 rw [← hxs] at hfar
 rcases wrF_out (l := secL (x.gen + 1) x.mark b (parts (b.length : Int)).toNat) (fr := (x.gen + 1) % 2 * x.s) h.off f1 (by rw [hlen]; omega) (sec_512 s1) with w | w
 ·left
  have he := w.e
  rw [tur_6 hb h1 h2 h3 (by rw [s3, he]; decide), s3]
  obtain ⟨m1, m2⟩ := wrote_mix w f1 (by rw [hlen]; omega) (sec_flag _ _ _ _)
  rw [hlen] at m2
  rw [hxs] at m1 m2
  have hn := w.n
  have hpar : parts (b.length : Int) ≤ (ploN y.n).s := by omega
  refine ⟨rfl, ⟨wrF_fine h.f, w.off, w.w, ?_, by show decide _ = false; rw [he]; decide, ?_, ?_⟩, rfl, rfl, rfl, hn, w.a⟩
  ·rw [hn]
   have := h.ok.g
   exact ⟨h.ok.hn, h.ok.s, h.ok.f, h.ok.l, by show 0 ≤ x.gen + 1 ∧ x.gen + 1 ≤ 2147483648; omega, h.ok.m, by show (0 : Int) ≤ 0 ∧ (0 : Int) ≤ x.l; have := h.ok.l; omega⟩
  ·rw [hn]; rw [hxs]; exact core_tur_full h.core s1 hpar m1 m2
  ·rw [hn]; rw [hxs]; exact mk_tur h.core h.mks s1 hpar m1
 ·right; left
  have he := w.e
  rw [tur_5 hb h1 h2 h3 (by rw [s3, he]; decide), s3]
  exact ⟨he, s1, s2, wrF_fine h.f, ⟨rfl, w.d, w.n, w.s, w.w, w.a⟩⟩
theorem open_W {g nx : Int} (hF : Fine y) (hoff : offD y = false) (hw : ∀ i, y.waits i = none) (hC : Core y.n g nx (img y) B R) (hg : g ≤ 2147483648) (hm : ¬ markOf okS valS (img y) + 1 > 2147483648) :
  openX y = ⟨true, reo y g nx, y, B, R, 0⟩ ∧ WInv (reo y g nx) y B R := by
 rw [← secD_img hoff] at hC hm
 refine ⟨open_core hF hoff hC.toCor0 hm, hF, hoff, hw, reo_ok hC.toCor0 hg hm, rfl, ?_, ?_⟩
 ·rw [← secD_img hoff]; exact hC
 ·rw [← secD_img hoff]; exact reo_mk nx
theorem crash_com (h : WInv x y B R) (hs : splitOK (pgH x) b = true) {z : Dk} (hz : Fine z) (hN : parts (b.length : Int) ≤ x.l - x.next) (hD : Died y (x.f + x.next) (comL x b (parts (b.length : Int)).toNat) (z, 7)) {t : List Tear} (ht : ToldP z t) :
  (∃ nx R', (R' = R ∨ R' = R ++ [(b.isEmpty, b)]) ∧ Core y.n x.gen nx (img (crashD z t)) B R') ∧ markOf okS valS (img (crashD z t)) ≤ x.mark := by
 have hxf := h.ok.f; have hnx := h.ok.nx; have hxl := h.ok.l
 have pb := pl_bd h.ok.hn
 have hX := died_mix hD hz (by omega) h.nw (com_flag _ _ _) ht
 rw [show (x.f + x.next).toNat = (ploN y.n).f.toNat + x.next.toNat by omega] at hX
 refine ⟨?_, mark_le h.ok.m.1 fun i s h1 h2 => ?_⟩
 ·by_cases hF : ∀ i, i < (parts (b.length : Int)).toNat → (img (crashD z t))[(ploN y.n).f.toNat + x.next.toNat + i]? = (comL x b (parts (b.length : Int)).toNat)[i]?
  ·exact ⟨_, _, .inr rfl, core_com_full h.core hs (by omega) hX hF⟩
  ·exact ⟨_, _, .inl rfl, core_com_part h.core h.mks hs hX hF⟩
 ·rcases hX.at' i s h1 with h3 | ⟨_, _, h3 | h3⟩
  ·exact h.mks.m3 i s h3 h2
  ·rw [h2] at h3; cases h3
  ·rw [(com_new hs h3).2.2]; exact Int.le_refl _
theorem crash_tur (h : WInv x y B R) (hs : splitOK (secP (x.gen + 1) x.mark) b = true) {z : Dk} (hz : Fine z) (hN : parts (b.length : Int) ≤ x.s) (hD : Died y ((x.gen + 1) % 2 * x.s) (secL (x.gen + 1) x.mark b (parts (b.length : Int)).toNat) (z, 7)) {t : List Tear} (ht : ToldP z t) :
  ((∃ nx, Core y.n x.gen nx (img (crashD z t)) B R) ∨ Core y.n (x.gen + 1) 0 (img (crashD z t)) b []) ∧ markOf okS valS (img (crashD z t)) ≤ x.mark := by
 have hxs := h.ok.s
 obtain ⟨f1, f2⟩ := slot_fr (g := x.gen + 1) h.ok
 have hX := died_mix hD hz f1 h.nw (sec_flag _ _ _ _) ht
 rw [hxs] at hX
 refine ⟨?_, mark_le h.ok.m.1 fun i s h1 h2 => ?_⟩
 ·by_cases hF : ∀ i, i < (parts (b.length : Int)).toNat → (img (crashD z t))[((x.gen + 1) % 2 * (ploN y.n).s).toNat + i]? = (secL (x.gen + 1) x.mark b (parts (b.length : Int)).toNat)[i]?
  ·exact .inr (core_tur_full h.core hs (by omega) hX hF)
  ·exact .inl ⟨_, core_tur_part h.core h.mks hs (by omega) hX hF⟩
 ·rcases hX.at' i s h1 with h3 | ⟨_, _, h3 | h3⟩
  ·exact h.mks.m3 i s h3 h2
  ·rw [h2] at h3; cases h3
  ·rw [(sec_new hs h3).2.2]; exact Int.le_refl _
theorem crash_still (h : WInv x y B R) (t : List Tear) : Core y.n x.gen x.next (img (crashD y t)) B R ∧ markOf okS valS (img (crashD y t)) ≤ x.mark := by
 rw [img_still h.f t h.nw]
 exact ⟨h.core, mark_le h.ok.m.1 h.mks.m3⟩
end
end Go.Vai.WK
namespace Go.Vai.WK
open Go.Proofs Go.Vai Go.Vai.DK Go.Vai.G Go.Vai.L Go.Vai.MP Go.Vai.O Go.Vai.RC Go.Vai.S7 Go.Vai.U Go.Vai.V Go.Vai.Z
set_option linter.unusedSimpArgs false
set_option linter.unusedVariables false
open Go.Vai.DK Go.Vai.U Go.Vai.V Go.Vai.S7 Go.Vai.RC Go.Vai.G
theorem zero_bad : pgGood (List.replicate 512 0#8) = false := by
 have : pageOK (pgP (List.replicate 512 0#8)) = false := by
  have e : (pgP (List.replicate 512 0#8)).kind = 0 := by
   show ((((List.replicate 512 0#8).getD 3 default).toNat : Nat) : Int) = 0
   rw [List.getD_eq_getElem?_getD, List.getElem?_replicate]; rfl
  rw [pageOK, e]; rfl
 rw [pgGood, this, Bool.false_and, Bool.and_false, Bool.and_false]
theorem slotOK_nil : slotOK [] = false := by rw [slotOK, join_no0 rfl]; rfl
theorem pgS_nil {n g : Int} {S : PSl} (h : ∀ s, S[(g % 2 * (ploN n).s).toNat]? = some s → okS s = false) : pgS n S g = [] := by
 refine List.eq_nil_of_length_eq_zero (Nat.le_antisymm (Nat.not_lt.1 fun hc => ?_) (Nat.zero_le _))
 have hc : 1 ≤ (pagesOf okS valS (partR n S g)).length := hc
 obtain ⟨s, h1, h2⟩ := pages_ge.1 hc 0 (by omega)
 have hs : 0 < (ploN n).s.toNat := by
  rcases Nat.eq_zero_or_pos (ploN n).s.toNat with e | e
  ·rw [part_end (by omega)] at h1; cases h1
  ·exact e
 rw [part_at hs, Nat.add_zero] at h1
 rw [h s h1] at h2; cases h2
section
variable {n mark : Int} {S S' : PSl} {b : List (BitVec 8)}
theorem core_new (hn : 6 ≤ n ∧ n ≤ 1024) (hl : (S.length : Int) = n) (hbad : ∀ (i : Nat) s, S[i]? = some s → (i < (ploN n).s.toNat ∨ 2 * (ploN n).s.toNat ≤ i) → okS s = false) (hs : splitOK (secP 1 mark) b = true) (hm : parts (b.length : Int) ≤ (ploN n).s)
  (hX : Mix S S' (ploN n).s.toNat (secL 1 mark b (parts (b.length : Int)).toNat)) (hF : ∀ i, i < (parts (b.length : Int)).toNat → S'[(ploN n).s.toNat + i]? = (secL 1 mark b (parts (b.length : Int)).toNat)[i]?) :
  Cor0 n 1 0 S' b [] ∧ ((∀ (i : Nat) s, S[i]? = some s → okS s = false) → Core n 1 0 S' b [] ∧ Mk n 1 0 mark S') := by
 have pb := pl_bd hn
 have e1 : ((0 + 1) % 2 * (ploN n).s).toNat = (ploN n).s.toNat := by simp
 have hlen : (secL 1 mark b (parts (b.length : Int)).toNat).length = (parts (b.length : Int)).toNat := secL_len _ _ _ _
 have hout : ∀ (i : Nat) s, S'[i]? = some s → (i < (ploN n).s.toNat ∨ 2 * (ploN n).s.toNat ≤ i) → okS s = false := fun i s h1 h2 => by
  rw [mix_out hX (by rw [hlen]; omega)] at h1
  exact hbad i s h1 h2
 have hnt : ∀ (i : Nat) s, (S'.drop (ploN n).f.toNat)[i]? = some s → tgood 1 s i = true → False := fun i s h1 h2 => by
  rw [List.getElem?_drop] at h1
  have := hout _ s h1 (.inr (by omega))
  rw [(tg_is h2).1] at this; cases this
 have hc0 : Cor0 n 1 0 S' b [] := by
  refine ⟨hn, by rw [hX.len]; exact hl, by decide, by omega, ?_, fun h => ?_, ?_⟩
  ·have := slot_full (n := n) (S' := S') (g := 0) (mark := mark) (b := b) hn hs hm (by rw [e1]; exact hF)
   exact this
  ·exfalso
   rw [pgS_nil fun s h1 => hout _ s h1 (.inl (by simp; omega)), slotOK_nil] at h
   cases h
  ·refine log_none hn fun s h => ?_
   cases e : tgood 1 s 0 with
   | false => rfl
   | true => exact (hnt 0 s h e).elim
 refine ⟨hc0, fun hall => ?_⟩
 have hg : ∀ (i : Nat) s, S'[i]? = some s → okS s = true → (valS s).gen = 1 ∧ (valS s).mark = mark := fun i s h1 h2 => by
  rcases hX.at' i s h1 with h | ⟨_, _, h | h⟩
  ·rw [hall i s h] at h2; cases h2
  ·rw [h2] at h; cases h
  ·rw [(sec_new hs h).2.2]; exact ⟨rfl, rfl⟩
 refine ⟨⟨hc0, fun i s h1 h2 => .inl (by have := (hg i s h1 h2).1; omega), fun i s h1 h2 h3 => (hnt i s h2 h3).elim⟩, ⟨fun i s h1 h2 h3 _ => ?_, fun i s h1 h2 h3 => (hnt i s h2 h3).elim, fun i s h1 h2 => ?_⟩⟩
 ·have := (hg i s h1 h2).1; omega
 ·have := (hg i s h1 h2).2; omega
end
theorem new_fine {n : Int} (hn : 1 ≤ n ∧ n ≤ 1024) : Fine (newD n) :=
 ⟨⟨fun i b h => (by cases h), fun i b h => (by cases h)⟩, hn.1, hn.2, fun i h => (by cases h), fun i h => (by cases h), by show (-1 : Int) ≤ -1 ∧ (-1 : Int) ≤ 1000000; decide⟩
theorem new_off {n : Int} (hn : 1 ≤ n ∧ n ≤ 1024) : offD (newD n) = false := by
 show (decide (n = 0) || false) = false
 rw [decide_eq_false (by omega)]; rfl
theorem open_fresh {y : Dk} (hF : Fine y) (hoff : offD y = false) (ha : y.armed < 0) (hn : 6 ≤ y.n ∧ y.n ≤ 1024) (hm : ¬ markOf okS valS (img y) + 1 > 2147483648) (hb : betOK (pgA y 0) (pgA y 1) = false) (hfr : freshR y.n (img y) = true) :
  (openX y).made = true ∧ (openX y).e = 0 ∧ (openX y).b = [] ∧ (openX y).rs = [] ∧ Fine (openX y).y ∧ offD (openX y).y = false ∧ (∀ i, (openX y).y.waits i = none) ∧ (openX y).y.n = y.n ∧ (openX y).y.armed = y.armed ∧ (openX y).x = { opn0 y with gen := 1 } ∧
  Mix (img y) (img (openX y).y) (ploN y.n).s.toNat (secL 1 (opn0 y).mark [] 1) ∧ splitOK (secP 1 (opn0 y).mark) [] = true ∧ (∀ i, i < 1 → (img (openX y).y)[(ploN y.n).s.toNat + i]? = (secL 1 (opn0 y).mark [] 1)[i]?) := by
 have pb := pl_bd hn
 have hsd := secD_img hoff
 have hO := opn0_ok hn (by rw [hsd]; exact hm)
 rw [← hsd] at hm hfr
 have hp : parts (([] : List (BitVec 8)).length : Int) = 1 := by decide
 have hmk : (opn0 y).mark = markOf okS valS (secD y) + 1 := rfl
 have hmn := mark_nn (secD y)
 have hso : splitOK (secP 1 (opn0 y).mark) [] = true := by
  rw [splitOK, hp]
  have e : splitP (secP 1 (opn0 y).mark) false [] (1 : Int).toNat = [⟨1, 1, (opn0 y).mark, 0, 0, 1, false, []⟩] := by
   show [pageAt (secP 1 (opn0 y).mark) false [] (parts (([] : List (BitVec 8)).length : Int)) 0] = _
   rw [hp]; rfl
  rw [e]
  have hw : wi (opn0 y).mark 0 2147483648 = true := by rw [wi, decide_eq_true (by omega), decide_eq_true (by omega)]; rfl
  simp only [allPages, List.all_cons, List.all_nil, pageOK, hw]
  rfl
 have hsE : secE 1 (opn0 y).mark (opn0 y).s [] = 0 := by
  rw [secE, hp]
  have : ¬ ((1 : Int) > (opn0 y).s ∨ (1 : Int) = 0) := by show ¬ ((1 : Int) > (ploN y.n).s ∨ (1 : Int) = 0); omega
  rw [if_neg this, splitE, hp, hso]; rfl
 have hsec : S7.secR 1 (opn0 y).mark (opn0 y).s [] = secL 1 (opn0 y).mark [] 1 := by
  have : secOK 1 (opn0 y).mark (opn0 y).s [] = true := by
   rw [secOK, hso, hp, decide_eq_true (by show (1 : Int) ≤ (ploN y.n).s; omega)]; rfl
  rw [(sec_facts this).2.2, hp]; rfl
 have hfr2 : ((opn0 y).gen + 1) % 2 * (opn0 y).s = (ploN y.n).s := by show ((0 : Int) + 1) % 2 * (ploN y.n).s = _; simp
 have hlen : (secL 1 (opn0 y).mark [] 1).length = 1 := secL_len _ _ _ _
 rcases wrF_out (l := secL 1 (opn0 y).mark [] 1) (fr := (ploN y.n).s) hoff (by omega) (by rw [hlen]; omega) (by have := sec_512 hso; rw [hp] at this; exact this) with w | w
 ·have he := w.e
  have ht : turX (opn0 y) y [] = ({ opn0 y with gen := 1 }, (wrF y (ploN y.n).s (secL 1 (opn0 y).mark [] 1)).1, 0) := by
   have h6 := tur_6 (x := opn0 y) (y := y) (b := []) (by show ¬ (false = true); decide) (by rw [hp]; show ¬ ((1 : Int) = 0 ∨ (1 : Int) > (ploN y.n).s); omega) (by show ¬ (0 : Int) = 2147483648; decide) (by rw [show (opn0 y).gen + 1 = 1 from rfl, hsE]; decide) (by rw [hfr2, show (opn0 y).gen + 1 = 1 from rfl, hsec, he]; decide)
   rw [hfr2, show (opn0 y).gen + 1 = 1 from rfl, hsec, he] at h6
   rw [h6]; rfl
  have ho := open_5 (y := y) (by omega) hoff hm hb hfr
  rw [ht] at ho
  obtain ⟨m1, m2⟩ := wrote_mix w (by omega) (by rw [hlen]; omega) (sec_flag _ _ _ _)
  rw [hlen] at m2
  rw [ho]
  exact ⟨rfl, rfl, rfl, rfl, wrF_fine hF, w.off, w.w, w.n, w.a ha, rfl, m1, hso, m2⟩
 ·have := w.a; omega
theorem open_new {n : Int} (hn : 6 ≤ n ∧ n ≤ 1024) : (openX (newD n)).made = true ∧ (openX (newD n)).e = 0 ∧ (openX (newD n)).b = [] ∧ (openX (newD n)).rs = [] ∧ WInv (openX (newD n)).x (openX (newD n)).y [] [] ∧
  (openX (newD n)).y.n = n ∧ (openX (newD n)).y.armed = -1 ∧ (openX (newD n)).x.gen = 1 ∧ (openX (newD n)).x.next = 0 ∧ (openX (newD n)).x.mark = 1 := by
 have hoff := new_off (n := n) (by omega)
 have hbad : ∀ (i : Nat) s, (img (newD n))[i]? = some s → okS s = false := fun i s h => by
  rw [img_get] at h
  split at h
  ·rw [← Option.some.inj h]; exact zero_bad
  ·cases h
 have hmk : markOf okS valS (img (newD n)) = 0 := Int.le_antisymm (mark_le (Int.le_refl _) fun i s h1 h2 => by rw [hbad i s h1] at h2; cases h2) (mark_nn _)
 have hnil : ∀ g, pgA (newD n) g = [] := fun g => by
  show pgS n (secD (newD n)) g = []
  rw [secD_img hoff]; exact pgS_nil fun s h => hbad _ s h
 have hfr : freshR (newD n).n (img (newD n)) = true := by
  rw [freshR, Bool.not_eq_true', List.any_eq_false]
  intro s hs
  have hm : s ∈ img (newD n) := by
   rcases List.mem_append.1 hs with h | h
   ·exact List.mem_of_mem_take h
   ·exact List.mem_of_mem_drop h
  obtain ⟨i, hi⟩ := List.getElem?_of_mem hm
  rw [img_get] at hi
  split at hi
  ·rw [← Option.some.inj hi]
   show ¬ (!(decide (((List.replicate 512 0#8).length : Int) = 512) && !((List.replicate 512 0#8).any nz))) = true
   rw [zeros_any, List.length_replicate]; decide
  ·cases hi
 obtain ⟨h1, h2, h3, h4, h5, h6, h7, h8, h9, h10, m1, m2, m3⟩ := open_fresh (new_fine (n := n) (by omega)) hoff (by show (-1 : Int) < 0; decide) hn (by rw [hmk]; decide) (by rw [hnil, hnil, betOK, slotOK_nil]; rfl) hfr
 have hmark : (opn0 (newD n)).mark = 1 := by
  show markOf okS valS (secD (newD n)) + 1 = 1
  rw [secD_img hoff, hmk]; rfl
 have hp : parts (([] : List (BitVec 8)).length : Int) = 1 := by decide
 have h8 : (openX (newD n)).y.n = n := h8
 have pb := pl_bd hn
 have hcore := (core_new (n := n) (mark := (opn0 (newD n)).mark) (b := []) hn (by rw [img_len]; show ((n.toNat : Nat) : Int) = n; omega) (fun i s h _ => hbad i s h) m2 (by rw [hp]; omega) (by rw [hp]; exact m1) (by rw [hp]; exact m3)).2 hbad
 refine ⟨h1, h2, h3, h4, ⟨h5, h6, h7, ?_, by rw [h10]; rfl, ?_, ?_⟩, h8, h9, by rw [h10], by rw [h10]; rfl, by rw [h10]; exact hmark⟩
 ·rw [h8, h10]
  have hO := opn0_ok (y := newD n) hn (by rw [secD_img hoff, hmk]; decide)
  exact ⟨hn, hO.s, hO.f, hO.l, by show (0 : Int) ≤ 1 ∧ (1 : Int) ≤ 2147483648; decide, hO.m, hO.nx⟩
 ·rw [h8, h10]; exact hcore.1
 ·rw [h8, h10]; exact hcore.2
end Go.Vai.WK
namespace Go.Vai.WK
open Go.Proofs Go.Vai Go.Vai.DK Go.Vai.G Go.Vai.L Go.Vai.MP Go.Vai.O Go.Vai.RC Go.Vai.S7 Go.Vai.U Go.Vai.V Go.Vai.Z
set_option linter.unusedSimpArgs false
set_option linter.unusedVariables false
open Go.Vai.DK Go.Vai.U Go.Vai.V Go.Vai.S7 Go.Vai.RC Go.Vai.G
section
variable {G : List (List AV)} {w d is iw : Nat} {x : Wk} {y : Dk} {B : List (BitVec 8)} {R : PSl}
theorem out_has (hD : HasD G d is iw y) (hm : (openX y).made = true) : HasB (outG G d is iw y) G.length d is iw (openX y).x (openX y).y := by
 rw [outG, hm, if_pos rfl]; exact wb_has (opn_has hD)
theorem hasB_D (hB : HasB G w d is iw x y) {z : Dk} : HasB (wrD G d is iw z) w d is iw x z := by
 have h := wb_has (x' := x) (y' := z) hB
 obtain ⟨n1, n2, n3⟩ := hB.ne
 refine ⟨?_, wr_has hB.hD⟩
 rw [wr_other n1 n2 n3]; exact hB.hx
end
attribute [go_sem] outP_0
theorem aw_1 {y0 : Dk} (h : y0 = newD 20) : (openX y0).made = true ∧ (openX y0).e = 0 ∧ (openX y0).b = [] ∧ (openX y0).rs = [] ∧ WInv (openX y0).x (openX y0).y [] [] ∧ (openX y0).y.n = 20 ∧ (openX y0).y.armed = -1 ∧ (openX y0).x.gen = 1 ∧ (openX y0).x.next = 0 ∧ (openX y0).x.mark = 1 := by
 subst h; exact open_new (n := 20) (by decide)
theorem aw_l {x : Wk} {y : Dk} {B : List (BitVec 8)} {R : PSl} (h : WInv x y B R) (hn : y.n = 20) : x.l = 10 ∧ x.s = 5 ∧ x.f = 10 := by
 rw [h.ok.l, h.ok.s, h.ok.f, hn]; decide
theorem com_one {x : Wk} {y : Dk} {B : List (BitVec 8)} {R : PSl} {c : BitVec 8} (h : WInv x y B R) (ha : y.armed < 0) (hl : x.next < x.l) : (comX x y [c]).2.2 = 0 ∧ WInv (comX x y [c]).1 (comX x y [c]).2.1 B (R ++ [(false, [c])]) ∧ (comX x y [c]).1.next = x.next + 1 ∧ (comX x y [c]).1.gen = x.gen ∧ (comX x y [c]).1.mark = x.mark ∧ (comX x y [c]).2.1.n = y.n ∧ (comX x y [c]).2.1.armed = y.armed := by
 have hp : parts (([c] : List (BitVec 8)).length : Int) = 1 := by show parts 1 = 1; decide
 have hg := h.ok.g; have hm := h.ok.m; have hx := h.ok.nx; have hn := h.ok.hn; have hl2 := h.ok.l
 have pb := pl_bd hn
 have w1 : wi x.gen 0 2147483648 = true := by rw [wi, decide_eq_true (by omega), decide_eq_true (by omega)]; rfl
 have w2 : wi x.mark 0 2147483648 = true := by rw [wi, decide_eq_true (by omega), decide_eq_true (by omega)]; rfl
 have w3 : wi (x.next + ((0 : Nat) : Int)) 0 2147483648 = true := by rw [wi, decide_eq_true (by omega), decide_eq_true (by omega)]; rfl
 have hso : splitOK (pgH x) [c] = true := by
  rw [splitOK, hp]
  have e : splitP (pgH x) false [c] (1 : Int).toNat = [⟨2, x.gen, x.mark, x.next + ((0 : Nat) : Int), 0, 1, false, [c]⟩] := by
   show [pageAt (pgH x) false [c] (parts (([c] : List (BitVec 8)).length : Int)) 0] = _
   rw [hp]; rfl
  rw [e]
  simp only [allPages, List.all_cons, List.all_nil, pageOK, w1, w2, w3]
  rfl
 rcases com_cases h [c] with ⟨q1, q2, q3, q4, q5, q6, q7⟩ | ⟨_, _, _, q⟩ | ⟨_, _, _, _, q | q⟩
 ·rw [hp] at q5
  exact ⟨q1, q2, q5, q3, q4, q6, q7 ha⟩
 ·have := q.a; omega
 ·rw [hso] at q; cases q
 ·rw [hp] at q; omega
theorem aw_3 {x : Wk} {y : Dk} (h : WInv x y [] [(false, [7#8])]) (hn : y.n = 20) (h1 : x.next = 1) (h2 : x.gen = 1) (h3 : x.mark = 1) :
  (openX (crashD y [])).e = 0 ∧ (openX (crashD y [])).made = true ∧ (openX (crashD y [])).rs = [(false, [7#8])] ∧ (openX (crashD y [])).x.l = 10 ∧ (openX (crashD y [])).x.next = 1 ∧ WInv (openX (crashD y [])).x (openX (crashD y [])).y (openX (crashD y [])).b (openX (crashD y [])).rs := by
 obtain ⟨c1, c2⟩ := crash_still h []
 have hcn := crash_n y []
 rw [← hcn] at c1
 obtain ⟨o1, o2⟩ := open_W (y := crashD y []) (crash_fine h.f) (crash_off [] h.f) (fun i => rfl) c1 (by rw [h2]; decide) (by omega)
 rw [o1]
 refine ⟨rfl, rfl, rfl, ?_, h1, o2⟩
 show (ploN (crashD y []).n).l = 10
 rw [hcn, hn]; decide
end Go.Vai.WK
namespace Go.Vai.WK
open Go.Proofs Go.Vai Go.Vai.DK Go.Vai.G Go.Vai.L Go.Vai.MP Go.Vai.O Go.Vai.RC Go.Vai.S7 Go.Vai.U Go.Vai.V Go.Vai.Z
set_option linter.unusedSimpArgs false
set_option linter.unusedVariables false
open Go.Vai.DK Go.Vai.U Go.Vai.V Go.Vai.S7 Go.Vai.RC Go.Vai.G
def fim (y : Dk) : PSl := img (crashD y [])
def inS (n p : Int) (i : Nat) : Prop := (p % 2 * (ploN n).s).toNat ≤ i ∧ i < (p % 2 * (ploN n).s).toNat + (ploN n).s.toNat
def VS (n : Int) (S : PSl) (p : Int) : Prop := slotOK (pgS n S p) = true ∧ slotG (pgS n S p) % 2 = p % 2
structure TInv (n : Int) (y : Dk) (p : Int) : Prop where
 hn : 6 ≤ n ∧ n ≤ 1024
 f : Fine y
 yn : y.n = n
 v : VS n (fim y) p
 q : ∀ i : Nat, inS n p i → y.waits (i : Int) = none
section
variable {n p : Int} {y : Dk} {x : Wk} {b : List (BitVec 8)}
end
end Go.Vai.WK
namespace Go.Vai.W8
open Go.Proofs Go.Vai Go.Vai.O Go.Vai.U
set_option linter.unusedSimpArgs false
set_option linter.unusedVariables false
set_option maxHeartbeats 4000000
set_option maxRecDepth 100000
open Go.Vai.U
attribute [simp] noPtr_ps noPtrL_ps
def txts (a b : List (Bool × List (BitVec 8))) : Bool := decide (a.map Prod.snd = b.map Prod.snd)
theorem tx_len {a b : List (Bool × List (BitVec 8))} (h : ¬ (a.length : Int) = (b.length : Int)) : txts a b = false := decide_eq_false fun e => h (by have := congrArg List.length e; simp at this; omega)
theorem tx_at {a b : List (Bool × List (BitVec 8))} {k : Nat} (ha : k < a.length) (hb : k < b.length) (h : a[k].2 ≠ b[k].2) : txts a b = false := decide_eq_false fun e => h (by
  have h1 : (a.map Prod.snd)[k]? = (b.map Prod.snd)[k]? := by rw [e]
  simpa [ha, hb] using h1)
theorem tx_all {a b : List (Bool × List (BitVec 8))} (hl : (a.length : Int) = (b.length : Int)) (h : ∀ j (ha : j < a.length) (hb : j < b.length), a[j].2 = b[j].2) : txts a b = true := decide_eq_true (by
  refine List.ext_getElem (by simp; omega) fun j h1 h2 => ?_
  simp only [List.getElem_map]
  exact h j (by simpa using h1) (by simpa using h2))
theorem good_texts (na nb : Bool) (a b : List (Bool × List (BitVec 8))) (ha : a.length ≤ 1000000) (hb0 : b.length ≤ 1000000) (pa : ∀ x ∈ a, x.2.length ≤ 1000000) (pb : ∀ x ∈ b, x.2.length ≤ 1000000) : Good Tryz.prog 25 [(.sl 1 na (a.map pslice), false), (.sl 1 nb (b.map pslice), false)] [] [(.b (txts a b), false)] [] := by
  refine good_of_body2 27 Tryz.func25 rfl rfl rfl (by simp) ?_
  intro s m ha hr hv hG
  have f0 : s 0 = .v (.sl 1 na (a.map pslice)) := ha 0 _ rfl
  have f1 : s 1 = .v (.sl 1 nb (b.map pslice)) := ha 1 _ rfl
  clear ha
  have hc : True := trivial
  have F := (And.intro f0 (And.intro f1 hG))
  refine AW.seq ?_
  refine AW.region (cfg := cfg) ?_
  refine stp (fun _ h => s0 h) ?_
  refine aops_nil ?_
  refine AW.seq ?_
  refine AW.seq ?_
  refine AW.region (cfg := cfg) ?_
  refine stp (fun _ h => s0 h) ?_
  refine stp (fun _ h => sd h) ?_
  refine stp (fun _ h => s0 h) ?_
  refine stp (fun _ h => sd h) ?_
  refine stp (fun _ h => s0 h) ?_
  refine aops_nil ?_
  refine cnd (fun hb => ?ht1) (fun hb => ?hf1)
  case ht1 =>
    have hw10 := hb
    try simp only [bo1, bo2, bo3, bo4, bo5, bo6] at hb
    have hbt10 := hb
    refine AW.seq ?_
    refine AW.region (cfg := cfg) ?_
    refine stp (fun _ h => s0 h) ?_
    refine aops_nil ?_
    refine AW.ret ?_
    refine ⟨.inr rfl, ?_⟩
    refine leaves_tmp1 4 rfl ?_ (by exact hG)
    simp (disch := first | omega | decide) only [go_sem, F, aIndex_map]
    all_goals (rw [tx_len (by simpa using hbt10)]; done)
  case hf1 =>
    have hw10 := hb
    try simp only [bo1, bo2, bo3, bo4, bo5, bo6] at hb
    have hbt10 := hb
    refine AW.skip ?_
    refine AW.seq ?_
    refine AW.seq ?_
    refine AW.region (cfg := cfg) ?_
    refine stp (fun _ h => s0 h) ?_
    refine aops_nil ?_
    refine AW.block ?_
    refine AW.forN (fun k σ => ∃ s m, σ = ⟨27, s, m⟩ ∧ s 0 = .v (.sl 1 na (a.map pslice)) ∧ s 1 = .v (.sl 1 nb (b.map pslice)) ∧ s 5 = .v (i64 (k : Int)) ∧ ((a.length : Int) = (b.length : Int)) ∧ (∀ j, j < k → ∀ (h3 : j < a.length) (h4 : j < b.length), a[j].2 = b[j].2) ∧ (∀ i, (m.objs (.res i)).2 = .dead) ∧ m.G = []) (a.length) ?_ ?_ ?_
    · refine ⟨_, _, rfl, ?_, ?_, ?_, ?_, ?_, (by intro i; simp [Mem.set, hr]), (by exact hG)⟩ <;> try simp (disch := first | omega | decide) only [go_sem, F, aIndex_map]
      all_goals first | rfl | omega
    · clear F f0 f1 hr hG
      rintro k σ hk ⟨s, m, rfl, f0, f1, f5, mo0, mo1, hr, hG⟩
      have F := (And.intro f0 (And.intro f1 (And.intro f5 hG)))
      refine AW.seq ?_
      refine AW.seq ?_
      refine AW.region (cfg := cfg) ?_
      iterate 2 refine stp (fun _ h => s0 h) ?_
      refine stp (fun _ h => sd h) ?_
      refine stp (fun _ h => s0 h) ?_
      refine aops_nil ?_
      refine cnd (fun hb => ?ht2) (fun hb => ?hf2)
      case hf2 => (simp at hb; omega)
      case ht2 =>
      have hbt14 := hb
      refine AW.skip ?_
      refine AW.seq ?_
      refine AW.block ?_
      refine AW.seq ?_
      have hka : k < a.length := by assumption
      have hkb : k < b.length := by omega
      have q1 := pa _ (List.getElem_mem hka)
      have q2 := pb _ (List.getElem_mem hkb)
      refine AW.draw (cfg := cfg) (by kernel_rfl) (by kernel_rfl) (by kernel_rfl) ?_
      iterate 2 refine dstp (fun _ h => s0 h) ?_
      refine dstp (fun _ h => si h) ?_
      refine dstp (fun _ h => sl h) ?_
      iterate 2 refine dstp (fun _ h => s0 h) ?_
      refine dstp (fun _ h => si h) ?_
      refine dstp (fun _ h => sl h) ?_
      refine dstp (fun _ h => cs (w := O.good_Same a[k].1 b[k].1 a[k].2 b[k].2 (by omega) (by omega)) (x := h)) ?_
      refine dstp (fun _ h => s0 h) ?_
      refine adraw_nil (by kernel_rfl) ?_
      refine cnd (fun hb => ?ht3) (fun hb => ?hf3)
      case ht3 =>
        have hw26 := hb
        try simp only [bo1, bo2, bo3, bo4, bo5, bo6] at hb
        have hbt26 := hb
        refine AW.seq ?_
        refine AW.region (cfg := cfg) ?_
        refine stp (fun _ h => s0 h) ?_
        refine aops_nil ?_
        refine AW.ret ?_
        refine ⟨.inr rfl, ?_⟩
        refine leaves_tmp1 4 rfl ?_ (by exact hG)
        simp (disch := first | omega | decide) only [go_sem, F, aIndex_map]
        all_goals (rw [tx_at hka hkb (by simpa using hbt26)]; done)
      case hf3 =>
        have hw26 := hb
        try simp only [bo1, bo2, bo3, bo4, bo5, bo6] at hb
        have hbt26 := hb
        refine AW.skip ?_
        refine AW.region (cfg := cfg) ?_
        refine stp (fun _ h => s0 h) ?_
        refine stp (fun _ h => sd h) ?_
        refine stp (fun _ h => s0 h) ?_
        refine aops_nil ?_
        refine ⟨_, _, rfl, ?_, ?_, ?_, ?_, ?_, (by intro i; simp [Mem.set, hr]), (by exact hG)⟩ <;> try simp (disch := first | omega | decide) only [go_sem, F, aIndex_map]
        all_goals first | rfl | assumption | (intro j hj h3 h4; rcases Nat.lt_or_ge j k with q | q; exact mo1 j q h3 h4; obtain rfl : j = k := (by omega); simpa using hbt26)
    · clear F f0 f1 hr hG
      rintro σ ⟨s, m, rfl, f0, f1, f5, mo0, mo1, hr, hG⟩
      have F := (And.intro f0 (And.intro f1 (And.intro f5 hG)))
      refine AW.seq ?_
      refine AW.seq ?_
      refine AW.region (cfg := cfg) ?_
      iterate 2 refine stp (fun _ h => s0 h) ?_
      refine stp (fun _ h => sd h) ?_
      refine stp (fun _ h => s0 h) ?_
      refine aops_nil ?_
      refine cnd (fun hb => ?ht4) (fun hb => ?hf4)
      case ht4 => (simp at hb; done)
      case hf4 =>
      have hbt14 := hb
      refine AW.exit ?_
      refine AW.seq ?_
      refine AW.region (cfg := cfg) ?_
      refine stp (fun _ h => s0 h) ?_
      refine aops_nil ?_
      refine AW.ret ?_
      refine ⟨.inr rfl, ?_⟩
      refine leaves_tmp1 4 rfl ?_ (by exact hG)
      simp (disch := first | omega | decide) only [go_sem, F, aIndex_map]
      all_goals (rw [tx_all mo0 (fun j h3 h4 => mo1 j h3 h3 h4)]; done)
end Go.Vai.W8
namespace Go.Vai.W8
open Go.Proofs Go.Vai Go.Vai.O Go.Vai.U
set_option linter.unusedSimpArgs false
set_option linter.unusedVariables false
set_option maxHeartbeats 4000000
set_option maxRecDepth 100000
def placeS (x : BitVec 8) : Int := 6 + (x.toNat : Int) % 36
def blankS (l : List (BitVec 8)) : Bool := !(l.any fun x => decide ((x.toNat : Int) ≠ 0))
end Go.Vai.W8
namespace Go.Vai.W8
open Go.Proofs Go.Vai Go.Vai.O Go.Vai.U
set_option linter.unusedSimpArgs false
set_option linter.unusedVariables false
set_option maxHeartbeats 4000000
set_option maxRecDepth 100000
theorem rep_u80 (n : Nat) : List.replicate n (u8 0#8) = (List.replicate n 0#8).map u8 := by simp
attribute [go_sem] rep_bsl0 rep_u80
def modS (n : Int) : Int := if n.tmod 3000 < 0 then n.tmod 3000 + 3000 else n.tmod 3000
def byS (n : Int) (c : BitVec 8) : List (BitVec 8) := if modS n > 0 then (List.replicate (modS n).toNat 0#8).set ((modS n).toNat - 1) c else []
theorem mod_bd (n : Int) : 0 ≤ modS n ∧ modS n < 3000 ∧ (-3000 < n.tmod 3000 ∧ n.tmod 3000 < 3000) := by
  have h1 := Int.tmod_lt_of_pos n (show (0 : Int) < 3000 by decide)
  have h2 : -3000 < n.tmod 3000 := by
    have := Int.tmod_lt_of_pos (-n) (show (0 : Int) < 3000 by decide)
    rw [Int.neg_tmod] at this; omega
  unfold modS; split <;> omega
theorem good_bytes8 (dn n : Int) (c : BitVec 8) (tn : Bool) (ts : List AV) (hts : noPtrL ts = true) : Good Tryz.prog 21 [(.agg [i64 dn, i64 n, u8 c, .sl 2 tn ts], false)] [] [(.sl 1 false (bsl (byS n c)), false)] [] := by
  refine good_of_body2 23 Tryz.func21 rfl rfl rfl (by simp) ?_
  intro s m ha hr hv hG
  have f0 : s 0 = .v (.agg [i64 dn, i64 n, u8 c, .sl 2 tn ts]) := ha 0 _ rfl
  clear ha
  have hc : True := trivial
  have F := (And.intro f0 hG)
  have mb := mod_bd n
  have hcc := c.isLt
  refine AW.seq ?_
  refine AW.region (cfg := cfg) ?_
  refine stp (fun _ h => sb h) ?_
  refine stp (fun _ h => s0 h) ?_
  refine aops_nil ?_
  refine AW.seq ?_
  refine AW.region (cfg := cfg) ?_
  refine stp (fun _ h => sx h) ?_
  refine stp (fun _ h => sl h) ?_
  refine stp (fun _ h => sd h) ?_
  refine stp (fun _ h => s0 h) ?_
  refine aops_nil ?_
  refine AW.seq ?_
  refine AW.seq ?_
  refine AW.region (cfg := cfg) ?_
  iterate 2 refine stp (fun _ h => s0 h) ?_
  refine aops_nil ?_
  refine cnd (fun hb => ?ht1) (fun hb => ?hf1)
  case ht1 =>
    have hw9 := hb
    try simp only [bo1, bo2, bo3, bo4, bo5, bo6] at hb
    have hbt9 := hb
    refine AW.region (cfg := cfg) ?_
    refine stp (fun _ h => s0 h) ?_
    refine stp (fun _ h => sd h) ?_
    refine stp (fun _ h => s0 h) ?_
    refine aops_nil ?_
    refine AW.seq ?_
    refine AW.region (cfg := cfg) ?_
    refine stp (fun _ h => s0 h) ?_
    refine stp (fun _ h => sk h) ?_
    refine stp (fun _ h => st h) ?_
    refine aops_nil ?_
    refine AW.seq ?_
    refine AW.seq ?_
    refine AW.region (cfg := cfg) ?_
    iterate 2 refine stp (fun _ h => s0 h) ?_
    refine aops_nil ?_
    refine cnd (fun hb => ?ht2) (fun hb => ?hf2)
    case ht2 =>
      have hw15 := hb
      try simp only [bo1, bo2, bo3, bo4, bo5, bo6] at hb
      have hbt15 := hb
      refine AW.region (cfg := cfg) ?_
      iterate 2 refine stp (fun _ h => s0 h) ?_
      refine stp (fun _ h => sd h) ?_
      refine stp (fun _ h => sx h) ?_
      refine stp (fun _ h => sl h) ?_
      refine stp (fun _ h => si h) ?_
      refine stp0 (fun _ h => ss h) ?_
      refine aops_nil ?_
      refine AW.seq ?_
      refine AW.region (cfg := cfg) ?_
      refine stp (fun _ h => s0 h) ?_
      refine stp (fun _ h => sm h) ?_
      refine aops_nil ?_
      refine AW.ret ?_
      refine ⟨.inr rfl, ?_⟩
      refine leaves_mwp2 (rs := [.tmp 2]) rfl ?_
      simp (config := {failIfUnchanged := false}) [giveL, srcOne, rehome, freezeN, sub, upd, opn, aLoad, loadL, giveOne, reify, reifyL, readL, readOne, Mwp, M.bind, Mem.set, setAt, cellsL, hG, f0]
      all_goals (have e : modS n = n.tmod 3000 + 3000 := if_pos hbt9; rw [byS, e]; (rw [if_pos (by assumption)]; simp [List.map_set, List.take_of_length_le]; done))
    case hf2 =>
      have hw15 := hb
      try simp only [bo1, bo2, bo3, bo4, bo5, bo6] at hb
      have hbt15 := hb
      refine AW.skip ?_
      refine AW.seq ?_
      refine AW.region (cfg := cfg) ?_
      refine stp (fun _ h => s0 h) ?_
      refine stp (fun _ h => sm h) ?_
      refine aops_nil ?_
      refine AW.ret ?_
      refine ⟨.inr rfl, ?_⟩
      refine leaves_mwp2 (rs := [.tmp 2]) rfl ?_
      simp (config := {failIfUnchanged := false}) [giveL, srcOne, rehome, freezeN, sub, upd, opn, aLoad, loadL, giveOne, reify, reifyL, readL, readOne, Mwp, M.bind, Mem.set, setAt, cellsL, hG, f0]
      all_goals (have e : modS n = n.tmod 3000 + 3000 := if_pos hbt9; rw [byS, e]; (exfalso; omega))
  case hf1 =>
    have hw9 := hb
    try simp only [bo1, bo2, bo3, bo4, bo5, bo6] at hb
    have hbt9 := hb
    refine AW.skip ?_
    refine AW.seq ?_
    refine AW.region (cfg := cfg) ?_
    refine stp (fun _ h => s0 h) ?_
    refine stp (fun _ h => sk h) ?_
    refine stp (fun _ h => st h) ?_
    refine aops_nil ?_
    refine AW.seq ?_
    refine AW.seq ?_
    refine AW.region (cfg := cfg) ?_
    iterate 2 refine stp (fun _ h => s0 h) ?_
    refine aops_nil ?_
    refine cnd (fun hb => ?ht3) (fun hb => ?hf3)
    case ht3 =>
      have hw15 := hb
      try simp only [bo1, bo2, bo3, bo4, bo5, bo6] at hb
      have hbt15 := hb
      refine AW.region (cfg := cfg) ?_
      iterate 2 refine stp (fun _ h => s0 h) ?_
      refine stp (fun _ h => sd h) ?_
      refine stp (fun _ h => sx h) ?_
      refine stp (fun _ h => sl h) ?_
      refine stp (fun _ h => si h) ?_
      refine stp0 (fun _ h => ss h) ?_
      refine aops_nil ?_
      refine AW.seq ?_
      refine AW.region (cfg := cfg) ?_
      refine stp (fun _ h => s0 h) ?_
      refine stp (fun _ h => sm h) ?_
      refine aops_nil ?_
      refine AW.ret ?_
      refine ⟨.inr rfl, ?_⟩
      refine leaves_mwp2 (rs := [.tmp 2]) rfl ?_
      simp (config := {failIfUnchanged := false}) [giveL, srcOne, rehome, freezeN, sub, upd, opn, aLoad, loadL, giveOne, reify, reifyL, readL, readOne, Mwp, M.bind, Mem.set, setAt, cellsL, hG, f0]
      all_goals (have e : modS n = n.tmod 3000 := if_neg hbt9; rw [byS, e]; (rw [if_pos (by assumption)]; simp [List.map_set, List.take_of_length_le]; done))
    case hf3 =>
      have hw15 := hb
      try simp only [bo1, bo2, bo3, bo4, bo5, bo6] at hb
      have hbt15 := hb
      refine AW.skip ?_
      refine AW.seq ?_
      refine AW.region (cfg := cfg) ?_
      refine stp (fun _ h => s0 h) ?_
      refine stp (fun _ h => sm h) ?_
      refine aops_nil ?_
      refine AW.ret ?_
      refine ⟨.inr rfl, ?_⟩
      refine leaves_mwp2 (rs := [.tmp 2]) rfl ?_
      simp (config := {failIfUnchanged := false}) [giveL, srcOne, rehome, freezeN, sub, upd, opn, aLoad, loadL, giveOne, reify, reifyL, readL, readOne, Mwp, M.bind, Mem.set, setAt, cellsL, hG, f0]
      all_goals (have e : modS n = n.tmod 3000 := if_neg hbt9; rw [byS, e]; (have e0 : n.tmod 3000 = 0 := (by omega); rw [if_neg (by assumption), e0]; rfl))
end Go.Vai.W8
namespace Go.Vai.W8
open Go.Proofs Go.Vai Go.Vai.DK Go.Vai.O Go.Vai.U
set_option linter.unusedSimpArgs false
set_option linter.unusedVariables false
set_option maxHeartbeats 4000000
set_option maxRecDepth 100000
open Go.Vai.DK Go.Vai.U
def lightT (ts : List Tear) : Bool := decide ((ts.length : Int) ≤ 40) && ts.all fun t => decide ((t.b.length : Int) ≤ 600)
theorem lt_bd {ts : List Tear} (h : lightT ts = true) : ts.length ≤ 40 ∧ ∀ t ∈ ts, t.b.length ≤ 600 := by
  simp only [lightT, Bool.and_eq_true, decide_eq_true_eq, List.all_eq_true] at h
  exact ⟨by omega, fun t ht => by have := h.2 t ht; omega⟩
abbrev TS := Bool × List Tear
def a3A (p : TS) : AV := .agg [i64 0, i64 0, .sl 1 true [], .b false, .sl 2 p.1 (p.2.map tearA)]
theorem cellsOf_a3 (p : TS) : cellsOf (a3A p) = [i64 0, i64 0, .sl 1 true [], .b false, .sl 2 p.1 (p.2.map tearA)] := rfl
@[simp] theorem noPtr_a3 (p : TS) : noPtr (a3A p) = true := by simp [a3A, noPtr, noPtrL, noPtrL_tear]
theorem noPtrL_a3 (l : List TS) : noPtrL (l.map a3A) = true := noPtrL_map noPtr_a3 l
theorem lt_no {ts : List Tear} {k : Nat} (hk : k < ts.length) (h : ((ts[k]).b.length : Int) > 600) : lightT ts = false := by
  have : ts.all (fun t => decide ((t.b.length : Int) ≤ 600)) = false := by
    rw [List.all_eq_false]
    exact ⟨ts[k], List.getElem_mem hk, by simp; omega⟩
  rw [lightT, this, Bool.and_false]
theorem lt_long {ts : List Tear} (h : (ts.length : Int) > 40) : lightT ts = false := by rw [lightT, decide_eq_false (by omega), Bool.false_and]
theorem lt_yes {ts : List Tear} (h : ¬ (ts.length : Int) > 40) (h2 : ∀ j (hj : j < ts.length), j < ts.length → ¬ ((ts[j]).b.length : Int) > 600) : lightT ts = true := by
  rw [lightT, decide_eq_true (by omega), Bool.true_and, List.all_eq_true]
  intro t ht
  obtain ⟨j, hj, rfl⟩ := List.mem_iff_getElem.1 ht
  exact decide_eq_true (by have := h2 j hj hj; omega)
attribute [go_sem] cellsOf_a3
attribute [simp] noPtrL_a3
theorem good_Light3 (p : TS) (hp : p.2.length ≤ 9223372036854775807) (htb : ∀ t ∈ p.2, t.b.length ≤ 9223372036854775807) : Good Tryz.prog 56 [(.sl 5 false ([p].map a3A), false)] [] [(.b (lightT p.2), false)] [] := by
  refine good_of_body2 55 Tryz.func56 rfl rfl rfl (by simp) ?_
  intro s m ha hr hv hG
  have f0 : s 0 = .v (.sl 5 false ([p].map a3A)) := ha 0 _ rfl
  clear ha
  have hc : True := trivial
  have F := (And.intro f0 hG)
  refine AW.seq ?_
  refine AW.region (cfg := cfg) ?_
  refine stp (fun _ h => s0 h) ?_
  refine aops_nil ?_
  refine AW.seq ?_
  refine AW.seq ?_
  refine AW.region (cfg := cfg) ?_
  refine stp (fun _ h => s0 h) ?_
  refine aops_nil ?_
  refine AW.block ?_
  refine AW.forN (fun k σ => ∃ s m, σ = ⟨55, s, m⟩ ∧ s 0 = .v (.sl 5 false ([p].map a3A)) ∧ s 3 = .v (i64 (k : Int)) ∧ (0 < k → lightT p.2 = true) ∧ (∀ i, (m.objs (.res i)).2 = .dead) ∧ m.G = []) (1) ?_ ?_ ?_
  · refine ⟨_, _, rfl, ?_, ?_, ?_, (by intro i; simp [Mem.set, hr]), (by exact hG)⟩ <;> try simp (disch := first | omega | decide) only [go_sem, F, aIndex_map]
    all_goals first | rfl | (intro h; omega)
  · clear F f0 hr hG
    rintro k σ hk ⟨s, m, rfl, f0, f3, mo0, hr, hG⟩
    have F := (And.intro f0 (And.intro f3 hG))
    refine AW.seq ?_
    refine AW.seq ?_
    refine AW.region (cfg := cfg) ?_
    iterate 2 refine stp (fun _ h => s0 h) ?_
    refine stp (fun _ h => sd h) ?_
    iterate 2 refine stp (fun _ h => s0 h) ?_
    iterate 2 refine mrg wa (fun hc _ h => s0 h) ?_
    refine stp (fun _ h => s0 h) ?_
    refine aops_nil ?_
    refine cnd (fun hb => ?ht1) (fun hb => ?hf1)
    case hf1 => (simp at hb; omega)
    case ht1 =>
    have hbt12 := hb
    refine AW.skip ?_
    refine AW.seq ?_
    refine AW.block ?_
    refine AW.seq ?_
    refine AW.seq ?_
    obtain rfl : k = 0 := by (omega)
    refine AW.region (cfg := cfg) ?_
    iterate 2 refine stp (fun _ h => s0 h) ?_
    refine stp (fun _ h => si h) ?_
    refine stp (fun _ h => sx h) ?_
    refine stp (fun _ h => sl h) ?_
    refine stp (fun _ h => sd h) ?_
    iterate 2 refine stp (fun _ h => s0 h) ?_
    iterate 2 refine mrg wa (fun hc _ h => s0 h) ?_
    refine mrg wa (fun hc _ h => si h) ?_
    refine mrg wa (fun hc _ h => sx h) ?_
    refine mrg wa (fun hc _ h => sl h) ?_
    refine mrg wa (fun hc _ h => sd h) ?_
    refine mrg wa (fun hc _ h => s0 h) ?_
    refine stp (fun _ h => s0 h) ?_
    refine aops_nil ?_
    refine cnd (fun hb => ?ht2) (fun hb => ?hf2)
    case ht2 =>
      have hw30 := hb
      try simp only [bo1, bo2, bo3, bo4, bo5, bo6] at hb
      have hbt30 := hb
      refine AW.seq ?_
      refine AW.region (cfg := cfg) ?_
      refine stp (fun _ h => s0 h) ?_
      refine aops_nil ?_
      refine AW.ret ?_
      refine ⟨.inr rfl, ?_⟩
      refine leaves_tmp1 2 rfl ?_ (by exact hG)
      simp (disch := first | omega | decide) only [go_sem, F, aIndex_map]
      all_goals (rw [lt_long (by omega)]; done)
    case hf2 =>
      have hw30 := hb
      try simp only [bo1, bo2, bo3, bo4, bo5, bo6] at hb
      have hbt30 := hb
      refine AW.skip ?_
      refine AW.seq ?_
      refine AW.region (cfg := cfg) ?_
      refine stp (fun _ h => s0 h) ?_
      refine aops_nil ?_
      refine AW.block ?_
      refine AW.forN (fun k σ => ∃ s m, σ = ⟨55, s, m⟩ ∧ s 0 = .v (.sl 5 false ([p].map a3A)) ∧ s 3 = .v (i64 ((0 : Nat) : Int)) ∧ s 4 = .v (i64 (k : Int)) ∧ (¬ (p.2.length : Int) > 40) ∧ (∀ j (hj : j < p.2.length), j < k → ¬ ((p.2[j]).b.length : Int) > 600) ∧ (∀ i, (m.objs (.res i)).2 = .dead) ∧ m.G = []) (p.2.length) ?_ ?_ ?_
      · refine ⟨_, _, rfl, ?_, ?_, ?_, ?_, ?_, (by intro i; simp [Mem.set, hr]), (by exact hG)⟩ <;> try simp (disch := first | omega | decide) only [go_sem, F, aIndex_map]
        all_goals first | rfl | omega
      · clear F f0 f3 hr hG
        rintro k σ hk ⟨s, m, rfl, f0, f3, f4, mo0, mo1, hr, hG⟩
        have F := (And.intro f0 (And.intro f3 (And.intro f4 hG)))
        refine AW.seq ?_
        refine AW.seq ?_
        refine AW.region (cfg := cfg) ?_
        iterate 3 refine stp (fun _ h => s0 h) ?_
        refine stp (fun _ h => si h) ?_
        refine stp (fun _ h => sx h) ?_
        refine stp (fun _ h => sl h) ?_
        refine stp (fun _ h => sd h) ?_
        refine stp (fun _ h => s0 h) ?_
        refine aops_nil ?_
        refine cnd (fun hb => ?ht3) (fun hb => ?hf3)
        case hf3 => (simp at hb; omega)
        case ht3 =>
        have hbt38 := hb
        refine AW.skip ?_
        refine AW.seq ?_
        refine AW.block ?_
        refine AW.seq ?_
        have hkt : k < p.2.length := by assumption
        have hbk := htb _ (List.getElem_mem hkt)
        refine AW.region (cfg := cfg) ?_
        iterate 2 refine stp (fun _ h => s0 h) ?_
        refine stp (fun _ h => si h) ?_
        refine stp (fun _ h => sx h) ?_
        refine stp (fun _ h => sl h) ?_
        refine stp (fun _ h => s0 h) ?_
        refine stp (fun _ h => si h) ?_
        refine stp (fun _ h => sx h) ?_
        refine stp (fun _ h => sl h) ?_
        refine stp (fun _ h => sd h) ?_
        refine stp (fun _ h => s0 h) ?_
        refine aops_nil ?_
        refine cnd (fun hb => ?ht4) (fun hb => ?hf4)
        case ht4 =>
          have hw51 := hb
          try simp only [bo1, bo2, bo3, bo4, bo5, bo6] at hb
          have hbt51 := hb
          refine AW.seq ?_
          refine AW.region (cfg := cfg) ?_
          refine stp (fun _ h => s0 h) ?_
          refine aops_nil ?_
          refine AW.ret ?_
          refine ⟨.inr rfl, ?_⟩
          refine leaves_tmp1 2 rfl ?_ (by exact hG)
          simp (disch := first | omega | decide) only [go_sem, F, aIndex_map]
          all_goals (rw [lt_no hkt (by assumption)]; done)
        case hf4 =>
          have hw51 := hb
          try simp only [bo1, bo2, bo3, bo4, bo5, bo6] at hb
          have hbt51 := hb
          refine AW.skip ?_
          refine AW.region (cfg := cfg) ?_
          refine stp (fun _ h => s0 h) ?_
          refine stp (fun _ h => sd h) ?_
          refine stp (fun _ h => s0 h) ?_
          refine aops_nil ?_
          refine ⟨_, _, rfl, ?_, ?_, ?_, ?_, ?_, (by intro i; simp [Mem.set, hr]), (by exact hG)⟩ <;> try simp (disch := first | omega | decide) only [go_sem, F, aIndex_map]
          all_goals first | rfl | assumption | (intro j hj h; rcases Nat.lt_or_ge j k with e | e; exact mo1 j hj e; obtain rfl : j = k := (by omega); omega)
      · clear F f0 f3 hr hG
        rintro σ ⟨s, m, rfl, f0, f3, f4, mo0, mo1, hr, hG⟩
        have F := (And.intro f0 (And.intro f3 (And.intro f4 hG)))
        refine AW.seq ?_
        refine AW.seq ?_
        refine AW.region (cfg := cfg) ?_
        iterate 3 refine stp (fun _ h => s0 h) ?_
        refine stp (fun _ h => si h) ?_
        refine stp (fun _ h => sx h) ?_
        refine stp (fun _ h => sl h) ?_
        refine stp (fun _ h => sd h) ?_
        refine stp (fun _ h => s0 h) ?_
        refine aops_nil ?_
        refine cnd (fun hb => ?ht5) (fun hb => ?hf5)
        case ht5 => (simp at hb; done)
        case hf5 =>
        have hbt38 := hb
        refine AW.exit ?_
        refine AW.region (cfg := cfg) ?_
        refine stp (fun _ h => s0 h) ?_
        refine stp (fun _ h => sd h) ?_
        refine stp (fun _ h => s0 h) ?_
        refine aops_nil ?_
        refine ⟨_, _, rfl, ?_, ?_, ?_, (by intro i; simp [Mem.set, hr]), (by exact hG)⟩ <;> try simp (disch := first | omega | decide) only [go_sem, F, aIndex_map]
        all_goals first | rfl | (intro _; exact lt_yes (by omega) mo1)
  · clear F f0 hr hG
    rintro σ ⟨s, m, rfl, f0, f3, mo0, hr, hG⟩
    have F := (And.intro f0 (And.intro f3 hG))
    refine AW.seq ?_
    refine AW.seq ?_
    refine AW.region (cfg := cfg) ?_
    iterate 2 refine stp (fun _ h => s0 h) ?_
    refine stp (fun _ h => sd h) ?_
    iterate 2 refine stp (fun _ h => s0 h) ?_
    iterate 2 refine mrg wa (fun hc _ h => s0 h) ?_
    refine stp (fun _ h => s0 h) ?_
    refine aops_nil ?_
    refine cnd (fun hb => ?ht6) (fun hb => ?hf6)
    case ht6 => (simp at hb; done)
    case hf6 =>
    have hbt12 := hb
    refine AW.exit ?_
    refine AW.seq ?_
    refine AW.region (cfg := cfg) ?_
    refine stp (fun _ h => s0 h) ?_
    refine stp (fun _ h => sd h) ?_
    iterate 2 refine stp (fun _ h => s0 h) ?_
    refine aops_nil ?_
    refine AW.ret ?_
    refine ⟨.inr rfl, ?_⟩
    refine leaves_tmp1 2 rfl ?_ (by exact hG)
    simp (disch := first | omega | decide) only [go_sem, F, aIndex_map]
    all_goals (rw [mo0 (by omega)]; rfl)
structure Act8 where
  d : Int
  n : Int
  c : BitVec 8
  tn : Bool
  ts : List Tear
def act8A (a : Act8) : AV := .agg [i64 a.d, i64 a.n, u8 a.c, .sl 2 a.tn (a.ts.map tearA)]
theorem cellsOf_act8 (a : Act8) : cellsOf (act8A a) = [i64 a.d, i64 a.n, u8 a.c, .sl 2 a.tn (a.ts.map tearA)] := rfl
@[simp] theorem noPtr_act8 (a : Act8) : noPtr (act8A a) = true := by simp [act8A, noPtr, noPtrL, noPtrL_tear]
theorem noPtrL_act8 (l : List Act8) : noPtrL (l.map act8A) = true := noPtrL_map noPtr_act8 l
def light8 (l : List Act8) : Bool := ((l.take 26).all fun a => lightT a.ts) && decide ((l.length : Int) ≤ 25)
theorem l8_bd {l : List Act8} (h : light8 l = true) : l.length ≤ 25 ∧ ∀ a ∈ l, a.ts.length ≤ 40 ∧ ∀ t ∈ a.ts, t.b.length ≤ 600 := by
  simp only [light8, Bool.and_eq_true, decide_eq_true_eq] at h
  refine ⟨by omega, fun a ha => ?_⟩
  have := List.all_eq_true.1 h.1 a (by rw [List.take_of_length_le (by omega)]; exact ha)
  exact lt_bd this
theorem l8_no {l : List Act8} {k : Nat} (hk : k < l.length) (h2 : k < 26) (h : lightT (l[k]).ts = false) : light8 l = false := by
  have : ((l.take 26).all fun a => lightT a.ts) = false := by
    rw [List.all_eq_false]
    exact ⟨l[k], List.mem_take_iff_getElem.2 ⟨k, by omega, rfl⟩, by rw [h]; decide⟩
  rw [light8, this, Bool.false_and]
theorem l8_end {l : List Act8} (h : ∀ j (hj : j < l.length), j < min l.length 26 → lightT (l[j]).ts = true) : decide ((l.length : Int) ≤ 25) = light8 l := by
  have : ((l.take 26).all fun a => lightT a.ts) = true := by
    rw [List.all_eq_true]
    intro a ha
    obtain ⟨j, hj, rfl⟩ := List.mem_take_iff_getElem.1 ha
    exact h j (by omega) (by omega)
  rw [light8, this, Bool.true_and]
attribute [go_sem] cellsOf_act8
attribute [simp] noPtrL_act8
theorem good_Light8 (nil : Bool) (l : List Act8) (hl : l.length ≤ 9223372036854775807) (htb : ∀ a ∈ l, a.ts.length ≤ 9223372036854775807 ∧ ∀ t ∈ a.ts, t.b.length ≤ 9223372036854775807) : Good Tryz.prog 19 [(.sl 4 nil (l.map act8A), false)] [] [(.b (light8 l), false)] [] := by
  refine good_of_body2 26 Tryz.func19 rfl rfl rfl (by simp) ?_
  intro s m ha hr hv hG
  have f0 : s 0 = .v (.sl 4 nil (l.map act8A)) := ha 0 _ rfl
  clear ha
  have hc : True := trivial
  have F := (And.intro f0 hG)
  refine AW.seq ?_
  refine AW.region (cfg := cfg) ?_
  refine stp (fun _ h => s0 h) ?_
  refine aops_nil ?_
  refine AW.seq ?_
  refine AW.seq ?_
  refine AW.region (cfg := cfg) ?_
  refine stp (fun _ h => s0 h) ?_
  refine aops_nil ?_
  refine AW.block ?_
  refine AW.forN (fun k σ => ∃ s m, σ = ⟨26, s, m⟩ ∧ s 0 = .v (.sl 4 nil (l.map act8A)) ∧ s 3 = .v (i64 (k : Int)) ∧ (∀ j (hj : j < l.length), j < k → lightT (l[j]).ts = true) ∧ (∀ i, (m.objs (.res i)).2 = .dead) ∧ m.G = []) (min l.length 26) ?_ ?_ ?_
  · refine ⟨_, _, rfl, ?_, ?_, ?_, (by intro i; simp [Mem.set, hr]), (by exact hG)⟩ <;> try simp (disch := first | omega | decide) only [go_sem, F, aIndex_map]
    all_goals first | rfl | (intro j hj h; omega)
  · clear F f0 hr hG
    rintro k σ hk ⟨s, m, rfl, f0, f3, mo0, hr, hG⟩
    have F := (And.intro f0 (And.intro f3 hG))
    refine AW.seq ?_
    refine AW.seq ?_
    refine AW.region (cfg := cfg) ?_
    iterate 2 refine stp (fun _ h => s0 h) ?_
    refine stp (fun _ h => sd h) ?_
    iterate 2 refine stp (fun _ h => s0 h) ?_
    iterate 2 refine mrg wa (fun hc _ h => s0 h) ?_
    refine stp (fun _ h => s0 h) ?_
    refine aops_nil ?_
    refine cnd (fun hb => ?ht1) (fun hb => ?hf1)
    case hf1 => (simp at hb; omega)
    case ht1 =>
    have hbt11 := hb
    refine AW.skip ?_
    refine AW.seq ?_
    refine AW.block ?_
    refine AW.seq ?_
    have hkl : k < l.length := by omega
    obtain ⟨hb1, hb2⟩ := htb _ (List.getElem_mem hkl)
    refine AW.region (cfg := cfg) ?_
    iterate 2 refine stp (fun _ h => s0 h) ?_
    refine stp (fun _ h => si h) ?_
    refine stp (fun _ h => sx h) ?_
    refine stp (fun _ h => sl h) ?_
    refine stp (fun _ h => su h) ?_
    refine stp (fun _ h => sq h) ?_
    refine stp (fun _ h => cs (w := good_Light3 (l[k].tn, l[k].ts) hb1 hb2) (x := h)) ?_
    refine stp (fun _ h => s0 h) ?_
    refine aops_nil ?_
    refine cnd (fun hb => ?ht2) (fun hb => ?hf2)
    case ht2 =>
      have hw22 := hb
      try simp only [bo1, bo2, bo3, bo4, bo5, bo6] at hb
      have hbt22 := hb
      refine AW.seq ?_
      refine AW.region (cfg := cfg) ?_
      refine stp (fun _ h => s0 h) ?_
      refine aops_nil ?_
      refine AW.ret ?_
      refine ⟨.inr rfl, ?_⟩
      refine leaves_tmp1 2 rfl ?_ (by exact hG)
      simp (disch := first | omega | decide) only [go_sem, F, aIndex_map]
      all_goals (rw [l8_no hkl (by omega) (by simpa using hbt22)]; done)
    case hf2 =>
      have hw22 := hb
      try simp only [bo1, bo2, bo3, bo4, bo5, bo6] at hb
      have hbt22 := hb
      refine AW.skip ?_
      refine AW.region (cfg := cfg) ?_
      refine stp (fun _ h => s0 h) ?_
      refine stp (fun _ h => sd h) ?_
      refine stp (fun _ h => s0 h) ?_
      refine aops_nil ?_
      refine ⟨_, _, rfl, ?_, ?_, ?_, (by intro i; simp [Mem.set, hr]), (by exact hG)⟩ <;> try simp (disch := first | omega | decide) only [go_sem, F, aIndex_map]
      all_goals first | rfl | (intro j hj h; rcases Nat.lt_or_ge j k with e | e; exact mo0 j hj e; obtain rfl : j = k := (by omega); simpa using hbt22)
  · clear F f0 hr hG
    rintro σ ⟨s, m, rfl, f0, f3, mo0, hr, hG⟩
    have F := (And.intro f0 (And.intro f3 hG))
    refine AW.seq ?_
    refine AW.seq ?_
    refine AW.region (cfg := cfg) ?_
    iterate 2 refine stp (fun _ h => s0 h) ?_
    refine stp (fun _ h => sd h) ?_
    iterate 2 refine stp (fun _ h => s0 h) ?_
    iterate 2 refine mrg wa (fun hc _ h => s0 h) ?_
    refine stp (fun _ h => s0 h) ?_
    refine aops_nil ?_
    refine cnd (fun hb => ?ht3) (fun hb => ?hf3)
    case ht3 => (simp at hb; omega)
    case hf3 =>
    have hbt11 := hb
    refine AW.exit ?_
    refine AW.seq ?_
    refine AW.region (cfg := cfg) ?_
    refine stp (fun _ h => s0 h) ?_
    refine stp (fun _ h => sd h) ?_
    iterate 2 refine stp (fun _ h => s0 h) ?_
    refine aops_nil ?_
    refine AW.ret ?_
    refine ⟨.inr rfl, ?_⟩
    refine leaves_tmp1 2 rfl ?_ (by exact hG)
    simp (disch := first | omega | decide) only [go_sem, F, aIndex_map]
    all_goals (rw [l8_end mo0]; done)
end Go.Vai.W8
