import Derived.Test.YtencjgkeflibdaaGreatM5
import Derived.Test.YtencjgkeflibdaaGreatM1
import Derived.Test.YtencjgkeflibdaaGreatM4
import Derived.Test.YtencjgkeflibdaaGreatVaiF
namespace Go.Vai.WK
open Go.Proofs Go.Vai Go.Vai.DK Go.Vai.G Go.Vai.L Go.Vai.MP Go.Vai.O Go.Vai.RC Go.Vai.S7 Go.Vai.U Go.Vai.V Go.Vai.Z
set_option linter.unusedSimpArgs false
set_option linter.unusedVariables false
open Go.Vai.DK Go.Vai.U Go.Vai.V Go.Vai.S7 Go.Vai.RC Go.Vai.G
theorem take_of {α : Type} {l m : List α} {k : Nat} (h : ∀ i, i < k → l[i]? = m[i]?) : l.take k = m.take k := by
 refine List.ext_getElem? fun i => ?_
 rw [List.getElem?_take, List.getElem?_take]
 split
 ·exact h i (by assumption)
 ·rfl
theorem getD_of {l m : List Page} {i : Nat} (h : l[i]? = m[i]?) : l.getD i page0 = m.getD i page0 := by
 rw [List.getD_eq_getElem?_getD, List.getD_eq_getElem?_getD, h]
theorem len_of {α : Type} {l m : List α} {k : Nat} (h : ∀ i, i < k → l[i]? = m[i]?) (hk : k ≤ l.length) : k ≤ m.length := by
 rcases Nat.eq_zero_or_pos k with h0 | h0
 ·omega
 ·have h1 := h (k - 1) (by omega)
  rw [List.getElem?_eq_getElem (by omega)] at h1
  have := (List.getElem?_eq_some_iff.1 h1.symm).1
  omega
theorem join_loc {l m : List Page} (h : joinOK l = true) (hlm : ∀ i, i < jN l → l[i]? = m[i]?) : joinOK m = true ∧ joinB m = joinB l ∧ joinN m = joinN l ∧ jN m = jN l := by
 have h' := h
 simp only [joinOK, Bool.and_eq_true, decide_eq_true_eq] at h'
 obtain ⟨h1, h2, h3⟩ := h'
 obtain ⟨h4, h5, h6, h7, h8, h9⟩ := head_is h1
 have hm := len_of hlm h7
 have g0 := getD_of (hlm 0 (by omega))
 have hj : jN m = jN l := by rw [jN, jN, ← g0]
 have hB : jB m = jB l := by rw [jB, jB, hj, take_of hlm]
 have hh : headOK m = true := by
  have e1 : m.isEmpty = false := by cases m with | nil => simp at hm; omega | cons _ _ => rfl
  rw [headOK, e1, ← g0, h5]
  have : (l.getD 0 page0).parts ≤ (m.length : Int) := by rw [← h6]; omega
  rw [decide_eq_true this]; rfl
 have hf : allF m (jN m) = true := by
  rw [hj]
  simp only [allF, List.all_eq_true, List.mem_range] at h2 ⊢
  intro i hi
  rw [← g0, ← getD_of (hlm i hi)]
  exact h2 i hi
 have hok : joinOK m = true := by rw [joinOK, hh, hf, hB, hj, h3]; simp
 exact ⟨hok, by rw [joinB, joinB, h, hok, if_pos rfl, if_pos rfl, hB], by rw [joinN, joinN, h, hok, if_pos rfl, if_pos rfl, hj], hj⟩
theorem join_facts {l : List Page} (h : joinOK l = true) : 1 ≤ jN l ∧ jN l ≤ l.length ∧ (jN l : Int) = (l.getD 0 page0).parts ∧ ∀ i, i < jN l → (l.getD i page0).kind = (l.getD 0 page0).kind ∧ (l.getD i page0).gen = (l.getD 0 page0).gen ∧ (l.getD i page0).mark = (l.getD 0 page0).mark ∧ (l.getD i page0).idx - i = (l.getD 0 page0).idx ∧ (l.getD i page0).part = i ∧ (l.getD i page0).parts = (l.getD 0 page0).parts := by
 have h' := h
 simp only [joinOK, Bool.and_eq_true, decide_eq_true_eq] at h'
 obtain ⟨h1, h2, h3⟩ := h'
 obtain ⟨h4, h5, h6, h7, h8, h9⟩ := head_is h1
 refine ⟨h8, h7, h6, fun i hi => ?_⟩
 simp only [allF, List.all_eq_true, List.mem_range] at h2
 obtain ⟨f1, f2, f3, f4, f5, f6, f7, _⟩ := follows_iff.1 (h2 i hi)
 exact ⟨f2, f3, f4, f5, f6, f7⟩
theorem tailF_ge {gen : Int} : ∀ (q : PSl) (s k : Nat), k ≤ (tailF gen s q).length ↔ ∀ i, i < k → ∃ x, q[i]? = some x ∧ tgood gen x (s + i) = true
 | [], s, k => by
  rw [tailF]
  constructor
  ·intro h i hi; simp at h; omega
  ·intro h
   rcases Nat.eq_zero_or_pos k with h0 | h0
   ·omega
   ·obtain ⟨x, hx, _⟩ := h 0 h0; simp at hx
 | x :: q, s, k => by
  rw [tailF]
  constructor
  ·intro h i hi
   split at h
   ·rename_i hx
    cases i with
    | zero => exact ⟨x, by simp, hx⟩
    | succ i =>
     obtain ⟨z, h1, h2⟩ := (tailF_ge (gen := gen) q (s + 1) (k - 1)).1 (by simp only [List.length_cons] at h; omega) i (by omega)
     exact ⟨z, by simpa using h1, by rw [show s + (i + 1) = s + 1 + i by omega]; exact h2⟩
   ·simp at h; omega
  ·intro h
   rcases Nat.eq_zero_or_pos k with h0 | h0
   ·omega
   ·obtain ⟨z, h1, h2⟩ := h 0 h0
    have h1 : x = z := by simpa using h1
    subst h1
    rw [if_pos (show tgood gen x s = true from h2)]
    have := (tailF_ge (gen := gen) q (s + 1) (k - 1)).2 fun i hi => by
     obtain ⟨z, h3, h4⟩ := h (i + 1) (by omega)
     exact ⟨z, by simpa using h3, by rw [show s + 1 + i = s + (i + 1) by omega]; exact h4⟩
    simp only [List.length_cons]; omega
theorem tailF_at {gen : Int} : ∀ (q : PSl) (s i : Nat), i < (tailF gen s q).length → (tailF gen s q)[i]? = (q[i]?).map valS
 | [], s, i, h => by simp [tailF] at h
 | x :: q, s, i, h => by
  rw [tailF] at h ⊢
  split
  ·rename_i hx
   rw [if_pos hx] at h
   cases i with
   | zero => rfl
   | succ i => simpa using tailF_at q (s + 1) i (by simpa using h)
  ·rename_i hx
   rw [if_neg hx] at h
   simp at h
theorem tail_ge {gen : Int} {q : PSl} {k : Nat} : k ≤ (tailR gen q).length ↔ ∀ i, i < k → ∃ x, q[i]? = some x ∧ tgood gen x i = true := by
 rw [tailR, tailF_ge]; simp only [Nat.zero_add]
theorem tail_at {gen : Int} {q : PSl} {i : Nat} (h : i < (tailR gen q).length) : (tailR gen q)[i]? = (q[i]?).map valS := tailF_at q 0 i h
theorem tail_get {gen : Int} {q : PSl} {i : Nat} {p : Page} (h : (tailR gen q)[i]? = some p) : ∃ x, q[i]? = some x ∧ tgood gen x i = true ∧ p = valS x := by
 have hl := (List.getElem?_eq_some_iff.1 h).1
 obtain ⟨x, h1, h2⟩ := tail_ge.1 (show i + 1 ≤ (tailR gen q).length by omega) i (by omega)
 rw [tail_at hl, h1] at h
 exact ⟨x, h1, h2, (Option.some.inj h).symm⟩
theorem tg_is {gen : Int} {x : PS} {i : Nat} (h : tgood gen x i = true) : okS x = true ∧ (valS x).kind = 2 ∧ (valS x).gen = gen ∧ (valS x).idx = (i : Int) := by
 simp only [tgood, Bool.and_eq_true, decide_eq_true_eq] at h
 exact ⟨good_of_R0 h.1, h.2.1, h.2.2.1, h.2.2.2⟩
theorem tail_ext {gen : Int} {q q' : PSl} {k : Nat} (h : ∀ i, i < k → q[i]? = q'[i]?) (hk : k ≤ (tailR gen q).length) : k ≤ (tailR gen q').length ∧ ∀ i, i < k → (tailR gen q)[i]? = (tailR gen q')[i]? := by
 have h1 : k ≤ (tailR gen q').length := tail_ge.2 fun i hi => by rw [← h i hi]; exact tail_ge.1 hk i hi
 exact ⟨h1, fun i hi => by rw [tail_at (by omega), tail_at (by omega), h i hi]⟩
theorem rec_mono {l : List Page} {k : Nat} : ∀ j, (recS l k).2 ≤ (recS l (k + j)).2
 | 0 => Nat.le_refl _
 | j + 1 => by
  have h := rec_mono (l := l) (k := k) j
  refine Nat.le_trans h ?_
  show (recS l (k + j)).2 ≤ (recS l (k + j + 1)).2
  cases e : joinOK (l.drop (recS l (k + j)).2) with
  | true => rw [rec_yes e]; simp only; omega
  | false => rw [rec_no e]; omega
theorem rec_loc {l m : List Page} {N : Nat} (hN : ∀ j, j < N → joinOK (l.drop (recS l j).2) = true) (h : ∀ i, i < (recS l N).2 → l[i]? = m[i]?) : ∀ j, j ≤ N → recS m j = recS l j
 | 0, _ => rfl
 | j + 1, hj => by
  have ih := rec_loc hN h j (by omega)
  have hok := hN j (by omega)
  have h1 := rec_yes hok
  obtain ⟨j1, j2, j3⟩ := join_n hok
  have hm := rec_mono (l := l) (k := j + 1) (N - (j + 1))
  rw [Nat.add_sub_cancel' hj, h1] at hm
  simp only [j1, Int.toNat_natCast] at hm
  obtain ⟨k1, k2, k3, _⟩ := join_loc (m := m.drop (recS l j).2) hok fun i hi => by
   rw [List.getElem?_drop, List.getElem?_drop]; exact h _ (by omega)
  rw [h1, rec_yes (by rw [ih]; exact k1), ih, k2, k3]
theorem rec_one {l m : List Page} {R : PSl} {nx : Nat} (hr : recF l = (R, nx)) (h : ∀ i, i < nx → l[i]? = m[i]?) (hm : nx ≤ m.length) (hj : joinOK (m.drop nx) = true) (hj2 : joinOK (m.drop (nx + jN (m.drop nx))) = false) :
  recF m = (R ++ [((joinB (m.drop nx)).isEmpty, joinB (m.drop nx))], nx + jN (m.drop nx)) := by
 obtain ⟨N, n1, n2, n3, n4⟩ := rec_end l
 rw [n3] at hr
 have h0 := rec_loc n1 (m := m) (by rw [hr]; exact h) N (Nat.le_refl _)
 have hN := rec_far l N n1
 rw [hr] at hN h0
 obtain ⟨j1, j2, j3⟩ := join_n hj
 rw [List.length_drop] at j3
 have h1 : recS m (N + 1) = (R ++ [((joinB (m.drop nx)).isEmpty, joinB (m.drop nx))], nx + jN (m.drop nx)) := by
  rw [rec_yes (by rw [h0]; exact hj), h0, j1, Int.toNat_natCast]
 obtain ⟨j, e⟩ : ∃ j, m.length + 1 = N + 1 + j := ⟨_, (Nat.add_sub_cancel' (by simp only at hN; omega)).symm⟩
 rw [recF, e, rec_stay (by rw [h1]; exact hj2), h1]
theorem rec_stop {l : List Page} {R : PSl} {nx : Nat} (hr : recF l = (R, nx)) : joinOK (l.drop nx) = false ∧ nx ≤ l.length := by
 obtain ⟨N, n1, n2, n3, n4⟩ := rec_end l
 rw [n3] at hr
 have := rec_le l N
 rw [hr] at n2 this
 exact ⟨n2, this⟩
end Go.Vai.WK
namespace Go.Vai.WK
open Go.Proofs Go.Vai Go.Vai.DK Go.Vai.G Go.Vai.L Go.Vai.MP Go.Vai.O Go.Vai.RC Go.Vai.S7 Go.Vai.U Go.Vai.V Go.Vai.Z
set_option linter.unusedSimpArgs false
set_option linter.unusedVariables false
open Go.Vai.DK Go.Vai.U Go.Vai.V Go.Vai.S7 Go.Vai.RC Go.Vai.G
structure Mix (S S' : PSl) (a : Nat) (new : PSl) : Prop where
 len : S'.length = S.length
 at' : ∀ (i : Nat) s, S'[i]? = some s → S[i]? = some s ∨ (a ≤ i ∧ i < a + new.length ∧ (okS s = false ∨ new[i - a]? = some s))
theorem mix_out {S S' : PSl} {a : Nat} {new : PSl} (h : Mix S S' a new) {i : Nat} (hi : i < a ∨ a + new.length ≤ i) : S'[i]? = S[i]? := by
 cases e : S'[i]? with
 | none =>
  have := List.getElem?_eq_none_iff.1 e
  exact (List.getElem?_eq_none_iff.2 (by rw [← h.len]; exact this)).symm
 | some s =>
  rcases h.at' i s e with h1 | ⟨h1, h2, _⟩
  ·exact h1.symm
  ·omega
def pgS (n : Int) (S : PSl) (g : Int) : List Page := pagesOf okS valS (partR n S g)
def inO (n g : Int) (i : Nat) : Prop := ((g + 1) % 2 * (ploN n).s).toNat ≤ i ∧ i < ((g + 1) % 2 * (ploN n).s).toNat + (ploN n).s.toNat
structure Cor0 (n g nx : Int) (S : PSl) (B : List (BitVec 8)) (R : PSl) : Prop where
 hn : 6 ≤ n ∧ n ≤ 1024
 len : (S.length : Int) = n
 hg : 0 ≤ g
 nx0 : 0 ≤ nx ∧ nx ≤ (ploN n).l
 cur : slotOK (pgS n S g) = true ∧ slotG (pgS n S g) = g ∧ slotB (pgS n S g) = B
 oth : slotOK (pgS n S (g + 1)) = true → slotG (pgS n S (g + 1)) < g
 log : recF (tailR g (S.drop (ploN n).f.toNat)) = (R, nx.toNat)
structure Core (n g nx : Int) (S : PSl) (B : List (BitVec 8)) (R : PSl) : Prop extends Cor0 n g nx S B R where
 gl : ∀ (i : Nat) s, S[i]? = some s → okS s = true → (valS s).gen ≤ g ∨ ((valS s).gen = g + 1 ∧ inO n g i)
 s5 : ∀ (i : Nat) s, nx ≤ (i : Int) → (S.drop (ploN n).f.toNat)[i]? = some s → tgood g s i = true → (valS s).idx - (valS s).part ≤ nx
structure Mk (n g nx m : Int) (S : PSl) : Prop where
 m1 : ∀ (i : Nat) s, S[i]? = some s → okS s = true → (valS s).gen = g + 1 → inO n g i → (valS s).mark < m
 m2 : ∀ (i : Nat) s, nx ≤ (i : Int) → (S.drop (ploN n).f.toNat)[i]? = some s → tgood g s i = true → (valS s).mark < m
 m3 : ∀ (i : Nat) s, S[i]? = some s → okS s = true → (valS s).mark ≤ m
theorem mk_of {n g nx m : Int} {S : PSl} (h : ∀ (i : Nat) s, S[i]? = some s → okS s = true → (valS s).mark < m) : Mk n g nx m S :=
 ⟨fun i s h1 h2 _ _ => h i s h1 h2, fun i s _ h1 h2 => h _ s (by rw [List.getElem?_drop] at h1; exact h1) (tg_is h2).1, fun i s h1 h2 => Int.le_of_lt (h i s h1 h2)⟩
theorem com_get {x : Wk} {b : List (BitVec 8)} {N i : Nat} (h : i < N) : (comL x b N)[i]? = some (secOf (pageAt (pgH x) false b (parts (b.length : Int)) i)) := by
 have h1 := splitP_get (p := pgH x) (nil := false) (b := b) h
 rw [comL, List.getElem?_map, List.getElem?_eq_getElem (by rw [splitP_len]; exact h), h1]; rfl
theorem put_val {p : Page} (h : pageOK p = true) (hn : p.nil = false) : okS (secOf p) = true ∧ valS (secOf p) = p := by
 obtain ⟨h1, h2, _⟩ := page_back h
 refine ⟨h1, ?_⟩
 show pgV (pgPut p) = p
 rw [h2, ← hn]
section
variable {x : Wk} {n : Int} {S S' : PSl} {B b : List (BitVec 8)} {R : PSl}
theorem parts_pos {b : List (BitVec 8)} {p : Page} (h : splitOK p b = true) : parts (b.length : Int) ≠ 0 ∧ allPages (splitP p false b (parts (b.length : Int)).toNat) = true ∧ 1 ≤ parts (b.length : Int) ∧ parts (b.length : Int) ≤ 16 := by
 have h' := h
 simp only [splitOK, Bool.and_eq_true, decide_eq_true_eq] at h
 have hb : ¬ ((b.length : Int) < 0 ∨ (b.length : Int) > 7808) := fun hc => h.1 (parts_no hc)
 have := parts_is hb
 exact ⟨h.1, h.2, this.1, this.2.1⟩
theorem log_full (hC : Core n x.gen x.next S B R) (hs : splitOK (pgH x) b = true) (hX : Mix S S' ((ploN n).f.toNat + x.next.toNat) (comL x b (parts (b.length : Int)).toNat))
  (hF : ∀ i, i < (parts (b.length : Int)).toNat → S'[(ploN n).f.toNat + x.next.toNat + i]? = (comL x b (parts (b.length : Int)).toNat)[i]?) :
  recF (tailR x.gen (S'.drop (ploN n).f.toNat)) = (R ++ [(b.isEmpty, b)], x.next.toNat + (parts (b.length : Int)).toNat) := by
 obtain ⟨hp0, hpa, hp1, hp2⟩ := parts_pos hs
 obtain ⟨N, hN⟩ : ∃ N, N = (parts (b.length : Int)).toNat := ⟨_, rfl⟩
 obtain ⟨F, hFF⟩ : ∃ F, F = (ploN n).f.toNat := ⟨_, rfl⟩
 obtain ⟨k, hk⟩ : ∃ k, k = x.next.toNat := ⟨_, rfl⟩
 have hlog := hC.log
 rw [← hN, ← hFF, ← hk] at hX hF
 rw [← hFF, ← hk] at hlog
 rw [← hFF, ← hk, ← hN]
 have hkn : (k : Int) = x.next := by have := hC.nx0; omega
 have hX2 := hX.at'
 have hl := comL_len x b N
 obtain ⟨_, hst⟩ := rec_stop hlog
 have e1 : ∀ i, i < k → (S.drop F)[i]? = (S'.drop F)[i]? := fun i hi => by
  rw [List.getElem?_drop, List.getElem?_drop, mix_out hX (.inl (by omega))]
 obtain ⟨t1, t2⟩ := tail_ext (gen := x.gen) e1 hst
 have hv : ∀ i, i < N → okS (secOf (pageAt (pgH x) false b (parts (b.length : Int)) i)) = true ∧ valS (secOf (pageAt (pgH x) false b (parts (b.length : Int)) i)) = pageAt (pgH x) false b (parts (b.length : Int)) i := fun i hi => put_val (all_split hpa (by rw [← hN]; exact hi) false) rfl
 have e2 : ∀ i, i < N → (S'.drop F)[k + i]? = some (secOf (pageAt (pgH x) false b (parts (b.length : Int)) i)) := fun i hi => by
  rw [List.getElem?_drop, ← Nat.add_assoc, hF i hi, com_get hi]
 have tg : ∀ i, i < N → tgood x.gen (secOf (pageAt (pgH x) false b (parts (b.length : Int)) i)) (k + i) = true := fun i hi => by
  obtain ⟨h1, h2⟩ := hv i hi
  have h3 : pgR (secOf (pageAt (pgH x) false b (parts (b.length : Int)) i)).2 = 0 := by rw [pgR, show pgGood (secOf (pageAt (pgH x) false b (parts (b.length : Int)) i)).2 = true from h1]; rfl
  have h4 : pgV (secOf (pageAt (pgH x) false b (parts (b.length : Int)) i)).2 = pageAt (pgH x) false b (parts (b.length : Int)) i := h2
  refine tg_yes ⟨h3, by rw [h4]; rfl, by rw [h4]; rfl, ?_⟩
  rw [h4]
  show x.next + (i : Int) = ((k + i : Nat) : Int)
  omega
 have t3 : k + N ≤ (tailR x.gen (S'.drop F)).length := tail_ge.2 fun i hi => by
  by_cases h : i < k
  ·exact tail_ge.1 t1 i h
  ·obtain ⟨j, rfl⟩ : ∃ j, i = k + j := ⟨i - k, by omega⟩
   exact ⟨_, e2 j (by omega), tg j (by omega)⟩
 have e3 : (tailR x.gen (S'.drop F)).drop k = splitP (pgH x) false b (parts (b.length : Int)).toNat ++ (tailR x.gen (S'.drop F)).drop (k + N) := by
  refine List.ext_getElem? fun i => ?_
  by_cases h : i < N
  ·rw [List.getElem?_append_left (by rw [splitP_len]; omega), List.getElem?_drop, tail_at (by omega), e2 i h, List.getElem?_eq_getElem (by rw [splitP_len]; omega), splitP_get (by omega)]
   exact congrArg some (hv i h).2
  ·rw [List.getElem?_append_right (by rw [splitP_len]; omega), splitP_len, List.getElem?_drop, List.getElem?_drop]
   congr 1; omega
 obtain ⟨j1, j2, j3⟩ := split_join (nil := false) (more := (tailR x.gen (S'.drop F)).drop (k + N)) hp0 hpa
 rw [← e3] at j1 j2 j3
 obtain ⟨j4, _, _⟩ := join_n j1
 have j5 : jN ((tailR x.gen (S'.drop F)).drop k) = N := by omega
 have hj2 : joinOK ((tailR x.gen (S'.drop F)).drop (k + N)) = false := by
  cases e : joinOK ((tailR x.gen (S'.drop F)).drop (k + N)) with
  | false => rfl
  | true =>
   exfalso
   obtain ⟨f1, f2, f3, f4⟩ := join_facts e
   have hl0 : 0 < ((tailR x.gen (S'.drop F)).drop (k + N)).length := by omega
   obtain ⟨_, _, _, _, f5, _⟩ := f4 0 (by omega)
   rw [List.getD_eq_getElem?_getD, List.getElem?_eq_getElem hl0, Option.getD_some] at f5
   have h1 : (tailR x.gen (S'.drop F))[k + N]? = some ((tailR x.gen (S'.drop F)).drop (k + N))[0] := by
    have := List.getElem?_eq_getElem hl0
    rw [List.getElem?_drop] at this
    exact this
   obtain ⟨s, h2, h3, h4⟩ := tail_get h1
   rw [List.getElem?_drop, mix_out hX (.inr (by omega)), ← List.getElem?_drop] at h2
   have h5 := hC.s5 (k + N) s (by omega) (by rw [← hFF]; exact h2) h3
   rw [← h4, f5, h4, (tg_is h3).2.2.2] at h5
   omega
 have := rec_one hlog t2 t1 j1 (by rw [j5]; exact hj2)
 rw [this, j2, j5]
end
end Go.Vai.WK
namespace Go.Vai.WK
open Go.Proofs Go.Vai Go.Vai.DK Go.Vai.G Go.Vai.L Go.Vai.MP Go.Vai.O Go.Vai.RC Go.Vai.S7 Go.Vai.U Go.Vai.V Go.Vai.Z
set_option linter.unusedSimpArgs false
set_option linter.unusedVariables false
open Go.Vai.DK Go.Vai.U Go.Vai.V Go.Vai.S7 Go.Vai.RC Go.Vai.G
theorem pages_ge {q : PSl} : ∀ {k : Nat}, k ≤ (pagesOf okS valS q).length ↔ ∀ i, i < k → ∃ x, q[i]? = some x ∧ okS x = true := by
 induction q with
 | nil =>
  intro k
  show k ≤ 0 ↔ _
  constructor
  ·intro h i hi; omega
  ·intro h
   rcases Nat.eq_zero_or_pos k with h0 | h0
   ·omega
   ·obtain ⟨x, hx, _⟩ := h 0 h0; simp at hx
 | cons a q ih =>
  intro k
  cases ha : okS a with
  | false =>
   have e : pagesOf okS valS (a :: q) = [] := by rw [pagesOf, List.takeWhile, ha]; rfl
   rw [e]
   constructor
   ·intro h i hi; simp at h; omega
   ·intro h
    rcases Nat.eq_zero_or_pos k with h0 | h0
    ·omega
    ·obtain ⟨x, hx, hx2⟩ := h 0 h0
     have hx : a = x := by simpa using hx
     rw [← hx, ha] at hx2; cases hx2
  | true =>
   have e : pagesOf okS valS (a :: q) = valS a :: pagesOf okS valS q := by rw [pagesOf, List.takeWhile, ha]; rfl
   rw [e, List.length_cons]
   constructor
   ·intro h i hi
    cases i with
    | zero => exact ⟨a, rfl, ha⟩
    | succ i => exact (ih (k := k - 1)).1 (by omega) i (by omega)
   ·intro h
    rcases Nat.eq_zero_or_pos k with h0 | h0
    ·omega
    ·have := (ih (k := k - 1)).2 fun i hi => h (i + 1) (by omega)
     omega
theorem pages_at {q : PSl} : ∀ {i : Nat}, i < (pagesOf okS valS q).length → (pagesOf okS valS q)[i]? = (q[i]?).map valS := by
 induction q with
 | nil => intro i h; exact absurd h (Nat.not_lt_zero _)
 | cons a q ih =>
  intro i h
  cases ha : okS a with
  | false =>
   have e : pagesOf okS valS (a :: q) = [] := by rw [pagesOf, List.takeWhile, ha]; rfl
   rw [e] at h; exact absurd h (Nat.not_lt_zero _)
  | true =>
   have e : pagesOf okS valS (a :: q) = valS a :: pagesOf okS valS q := by rw [pagesOf, List.takeWhile, ha]; rfl
   rw [e] at h ⊢
   cases i with
   | zero => rfl
   | succ i => exact ih (by simpa using h)
theorem part_at {n g : Int} {l : PSl} {i : Nat} (h : i < (ploN n).s.toNat) : (partR n l g)[i]? = l[(g % 2 * (ploN n).s).toNat + i]? := by
 rw [partR, List.getElem?_take_of_lt h, List.getElem?_drop]
theorem part_end {n g : Int} {l : PSl} {i : Nat} (h : ¬ i < (ploN n).s.toNat) : (partR n l g)[i]? = none := by
 rw [partR]; exact List.getElem?_eq_none_iff.2 (by rw [List.length_take]; omega)
theorem part_same {n g : Int} {l m : PSl} (h : ∀ i, i < (ploN n).s.toNat → l[(g % 2 * (ploN n).s).toNat + i]? = m[(g % 2 * (ploN n).s).toNat + i]?) : partR n l g = partR n m g := by
 refine List.ext_getElem? fun i => ?_
 by_cases hi : i < (ploN n).s.toNat
 ·rw [part_at hi, part_at hi, h i hi]
 ·rw [part_end hi, part_end hi]
theorem slot_pos {n : Int} (hn : 6 ≤ n ∧ n ≤ 1024) (g : Int) : (ploN n).f.toNat = 2 * (ploN n).s.toNat ∧ (g % 2 * (ploN n).s).toNat = (g % 2).toNat * (ploN n).s.toNat ∧ (g % 2 = 0 ∨ g % 2 = 1) := by
 have pb := pl_bd hn
 have h : g % 2 = 0 ∨ g % 2 = 1 := by omega
 refine ⟨by omega, ?_, h⟩
 rcases h with h | h <;> rw [h]
 ·simp
 ·simp
theorem slot_far {n : Int} (hn : 6 ≤ n ∧ n ≤ 1024) {g : Int} {i : Nat} (hi : i < (ploN n).s.toNat) : (g % 2 * (ploN n).s).toNat + i < (ploN n).f.toNat := by
 obtain ⟨h1, h2, h3⟩ := slot_pos hn g
 rw [h2]
 rcases h3 with h | h <;> rw [h]
 ·rw [show (0 : Int).toNat = 0 from rfl]; omega
 ·rw [show (1 : Int).toNat = 1 from rfl]; omega
theorem slot_other {n : Int} (hn : 6 ≤ n ∧ n ≤ 1024) {g : Int} {i j : Nat} (hi : i < (ploN n).s.toNat) (hj : j < (ploN n).s.toNat) : (g % 2 * (ploN n).s).toNat + i ≠ ((g + 1) % 2 * (ploN n).s).toNat + j := by
 obtain ⟨h1, h2, h3⟩ := slot_pos hn g
 obtain ⟨_, k2, k3⟩ := slot_pos hn (g + 1)
 rw [h2, k2]
 rcases h3 with h | h
 ·rw [h, show (g + 1) % 2 = 1 by omega, show (0 : Int).toNat = 0 from rfl, show (1 : Int).toNat = 1 from rfl]; omega
 ·rw [h, show (g + 1) % 2 = 0 by omega, show (0 : Int).toNat = 0 from rfl, show (1 : Int).toNat = 1 from rfl]; omega
theorem slot_two {n : Int} {l : PSl} {g : Int} : partR n l (g + 1 + 1) = partR n l g := by
 rw [partR, partR, show (g + 1 + 1) % 2 = g % 2 by omega]
theorem inO_lt {n : Int} (hn : 6 ≤ n ∧ n ≤ 1024) {g : Int} {i : Nat} (h : inO n g i) : i < (ploN n).f.toNat := by
 have := slot_far hn (g := g + 1) (i := i - ((g + 1) % 2 * (ploN n).s).toNat) (by have := h.1; have := h.2; omega)
 have := h.1
 omega
theorem head_val {l : List Page} {p : Page} (h : l[0]? = some p) : l.getD 0 page0 = p := by rw [List.getD_eq_getElem?_getD, h]; rfl
section
variable {x : Wk} {n : Int} {S S' : PSl} {B b : List (BitVec 8)} {R : PSl}
theorem sec_facts {g mark most : Int} {b : List (BitVec 8)} (h : secOK g mark most b = true) : splitOK (secP g mark) b = true ∧ parts (b.length : Int) ≤ most ∧ S7.secR g mark most b = secL g mark b (parts (b.length : Int)).toNat := by
 have h' := h
 simp only [secOK, Bool.and_eq_true, decide_eq_true_eq] at h
 exact ⟨h.2, h.1, by rw [S7.secR, if_pos h']; rfl⟩
theorem sec_get {g mark : Int} {b : List (BitVec 8)} {N i : Nat} (h : i < N) : (secL g mark b N)[i]? = some (secOf (pageAt (secP g mark) false b (parts (b.length : Int)) i)) := by
 have h1 := splitP_get (p := secP g mark) (nil := false) (b := b) h
 rw [secL, List.getElem?_map, List.getElem?_eq_getElem (by rw [splitP_len]; exact h), h1]; rfl
theorem slot_full {g mark : Int} (hn : 6 ≤ n ∧ n ≤ 1024) (hs : splitOK (secP (g + 1) mark) b = true) (hm : parts (b.length : Int) ≤ (ploN n).s)
  (hF : ∀ i, i < (parts (b.length : Int)).toNat → S'[((g + 1) % 2 * (ploN n).s).toNat + i]? = (secL (g + 1) mark b (parts (b.length : Int)).toNat)[i]?) :
  slotOK (pgS n S' (g + 1)) = true ∧ slotG (pgS n S' (g + 1)) = g + 1 ∧ slotB (pgS n S' (g + 1)) = b := by
 obtain ⟨hp0, hpa, hp1, hp2⟩ := parts_pos hs
 obtain ⟨N, hN⟩ : ∃ N, N = (parts (b.length : Int)).toNat := ⟨_, rfl⟩
 rw [← hN] at hF
 have hNs : N ≤ (ploN n).s.toNat := by omega
 have hv : ∀ i, i < N → okS (secOf (pageAt (secP (g + 1) mark) false b (parts (b.length : Int)) i)) = true ∧ valS (secOf (pageAt (secP (g + 1) mark) false b (parts (b.length : Int)) i)) = pageAt (secP (g + 1) mark) false b (parts (b.length : Int)) i := fun i hi => put_val (all_split hpa (by rw [← hN]; exact hi) false) rfl
 have e2 : ∀ i, i < N → (partR n S' (g + 1))[i]? = some (secOf (pageAt (secP (g + 1) mark) false b (parts (b.length : Int)) i)) := fun i hi => by
  rw [part_at (by omega), hF i hi, sec_get hi]
 have t3 : N ≤ (pgS n S' (g + 1)).length := pages_ge.2 fun i hi => ⟨_, e2 i hi, (hv i hi).1⟩
 have e3 : pgS n S' (g + 1) = splitP (secP (g + 1) mark) false b (parts (b.length : Int)).toNat ++ (pgS n S' (g + 1)).drop N := by
  refine List.ext_getElem? fun i => ?_
  by_cases h : i < N
  ·rw [List.getElem?_append_left (by rw [splitP_len]; omega), pgS, pages_at (by have : N ≤ (pagesOf okS valS (partR n S' (g + 1))).length := t3; omega), e2 i h, List.getElem?_eq_getElem (by rw [splitP_len]; omega), splitP_get (by omega)]
   exact congrArg some (hv i h).2
  ·rw [List.getElem?_append_right (by rw [splitP_len]; omega), splitP_len, List.getElem?_drop]
   congr 1; omega
 obtain ⟨j1, j2, j3⟩ := split_join (nil := false) (more := (pgS n S' (g + 1)).drop N) hp0 hpa
 rw [← e3] at j1 j2 j3
 have h0 : (pgS n S' (g + 1)).getD 0 page0 = pageAt (secP (g + 1) mark) false b (parts (b.length : Int)) 0 := by
  refine head_val ?_
  rw [e3, List.getElem?_append_left (by rw [splitP_len]; omega), List.getElem?_eq_getElem (by rw [splitP_len]; omega), splitP_get (by omega)]
 have hok : slotOK (pgS n S' (g + 1)) = true := by
  rw [slotOK, j1, h0]; rfl
 exact ⟨hok, by rw [slotG, if_pos hok, h0]; rfl, by rw [slotB, if_pos hok, j2]⟩
end
end Go.Vai.WK
namespace Go.Vai.WK
open Go.Proofs Go.Vai Go.Vai.DK Go.Vai.G Go.Vai.L Go.Vai.MP Go.Vai.O Go.Vai.RC Go.Vai.S7 Go.Vai.U Go.Vai.V Go.Vai.Z
set_option linter.unusedSimpArgs false
set_option linter.unusedVariables false
open Go.Vai.DK Go.Vai.U Go.Vai.V Go.Vai.S7 Go.Vai.RC Go.Vai.G
section
variable {x : Wk} {n g nx m : Int} {S S' : PSl} {B b : List (BitVec 8)} {R : PSl}
theorem com_new (hs : splitOK (pgH x) b = true) {i : Nat} {s : PS} (h : (comL x b (parts (b.length : Int)).toNat)[i]? = some s) : i < (parts (b.length : Int)).toNat ∧ okS s = true ∧ valS s = pageAt (pgH x) false b (parts (b.length : Int)) i := by
 obtain ⟨hp0, hpa, hp1, hp2⟩ := parts_pos hs
 have hi : i < (parts (b.length : Int)).toNat := by
  have := (List.getElem?_eq_some_iff.1 h).1
  rw [comL_len] at this; exact this
 rw [com_get hi] at h
 have h := Option.some.inj h
 obtain ⟨h1, h2⟩ := put_val (all_split hpa hi false) rfl
 rw [← h]; exact ⟨hi, h1, h2⟩
theorem sec_new {g mark : Int} (hs : splitOK (secP g mark) b = true) {i : Nat} {s : PS} (h : (secL g mark b (parts (b.length : Int)).toNat)[i]? = some s) : i < (parts (b.length : Int)).toNat ∧ okS s = true ∧ valS s = pageAt (secP g mark) false b (parts (b.length : Int)) i := by
 obtain ⟨hp0, hpa, hp1, hp2⟩ := parts_pos hs
 have hi : i < (parts (b.length : Int)).toNat := by
  have := (List.getElem?_eq_some_iff.1 h).1
  rw [secL_len] at this; exact this
 rw [sec_get hi] at h
 have h := Option.some.inj h
 obtain ⟨h1, h2⟩ := put_val (all_split hpa hi false) rfl
 rw [← h]; exact ⟨hi, h1, h2⟩
theorem pgS_same (h : ∀ i, i < (ploN n).s.toNat → S'[(g % 2 * (ploN n).s).toNat + i]? = S[(g % 2 * (ploN n).s).toNat + i]?) : pgS n S' g = pgS n S g := by rw [pgS, pgS, part_same h]
theorem core_com (hC : Core n x.gen x.next S B R) (hs : splitOK (pgH x) b = true) (hX : Mix S S' ((ploN n).f.toNat + x.next.toNat) (comL x b (parts (b.length : Int)).toNat)) {nx' : Int} {R' : PSl}
  (h0 : 0 ≤ nx' ∧ nx' ≤ (ploN n).l) (hlog : recF (tailR x.gen (S'.drop (ploN n).f.toNat)) = (R', nx'.toNat)) (hge : x.next ≤ nx') : Core n x.gen nx' S' B R' := by
 have hlt : ∀ (q : Int) i, i < (ploN n).s.toNat → S'[(q % 2 * (ploN n).s).toNat + i]? = S[(q % 2 * (ploN n).s).toNat + i]? := fun q i hi => mix_out hX (.inl (by have := slot_far hC.hn (g := q) hi; omega))
 refine ⟨⟨hC.hn, by rw [hX.len]; exact hC.len, hC.hg, h0, ?_, ?_, hlog⟩, fun i s h1 h2 => ?_, fun i s h1 h2 h3 => ?_⟩
 ·rw [pgS_same (hlt _)]; exact hC.cur
 ·rw [pgS_same (hlt _)]; exact hC.oth
 ·rcases hX.at' i s h1 with h | ⟨_, _, h | h⟩
  ·exact hC.gl i s h h2
  ·rw [h2] at h; cases h
  ·left; rw [(com_new hs h).2.2]; exact Int.le_refl _
 ·rw [List.getElem?_drop] at h2
  rcases hX.at' _ s h2 with h | ⟨q1, _, h | h⟩
  ·have := hC.s5 i s (by omega) (by rw [List.getElem?_drop]; exact h) h3
   omega
  ·rw [(tg_is h3).1] at h; cases h
  ·rw [(com_new hs h).2.2]
   show x.next + (((ploN n).f.toNat + i - ((ploN n).f.toNat + x.next.toNat) : Nat) : Int) - (((ploN n).f.toNat + i - ((ploN n).f.toNat + x.next.toNat) : Nat) : Int) ≤ nx'
   omega
theorem core_com_full (hC : Core n x.gen x.next S B R) (hs : splitOK (pgH x) b = true) (hN : parts (b.length : Int) ≤ (ploN n).l - x.next) (hX : Mix S S' ((ploN n).f.toNat + x.next.toNat) (comL x b (parts (b.length : Int)).toNat))
  (hF : ∀ i, i < (parts (b.length : Int)).toNat → S'[(ploN n).f.toNat + x.next.toNat + i]? = (comL x b (parts (b.length : Int)).toNat)[i]?) : Core n x.gen (x.next + ((parts (b.length : Int)).toNat : Int)) S' B (R ++ [(b.isEmpty, b)]) := by
 have h0 := hC.nx0
 obtain ⟨hp0, hpa, hp1, hp2⟩ := parts_pos hs
 refine core_com hC hs hX (by omega) ?_ (by omega)
 rw [log_full hC hs hX hF]
 congr 1; omega
theorem mk_com (hC : Core n x.gen x.next S B R) (hM : Mk n x.gen x.next x.mark S) (hs : splitOK (pgH x) b = true) (hX : Mix S S' ((ploN n).f.toNat + x.next.toNat) (comL x b (parts (b.length : Int)).toNat)) :
  Mk n x.gen (x.next + ((parts (b.length : Int)).toNat : Int)) x.mark S' := by
 refine ⟨fun i s h1 h2 h3 h4 => ?_, fun i s h1 h2 h3 => ?_, fun i s h1 h2 => ?_⟩
 ·rw [mix_out hX (.inl (by have := inO_lt hC.hn h4; omega))] at h1
  exact hM.m1 i s h1 h2 h3 h4
 ·rw [List.getElem?_drop, mix_out hX (.inr (by rw [comL_len]; have := hC.nx0; omega)), ← List.getElem?_drop] at h2
  exact hM.m2 i s (by omega) h2 h3
 ·rcases hX.at' i s h1 with h | ⟨_, _, h | h⟩
  ·exact hM.m3 i s h h2
  ·rw [h2] at h; cases h
  ·rw [(com_new hs h).2.2]; exact Int.le_refl _
theorem log_none (hn : 6 ≤ n ∧ n ≤ 1024) (h : ∀ s, (S.drop (ploN n).f.toNat)[0]? = some s → tgood g s 0 = false) : recF (tailR g (S.drop (ploN n).f.toNat)) = ([], 0) := by
 have : tailR g (S.drop (ploN n).f.toNat) = [] := by
  refine List.eq_nil_of_length_eq_zero (Nat.le_antisymm (Nat.not_lt.1 fun hc => ?_) (Nat.zero_le _))
  obtain ⟨s, h1, h2⟩ := tail_ge.1 hc 0 (by omega)
  rw [h s h1] at h2; cases h2
 rw [this]; rfl
theorem core_tur_full {mark : Int} (hC : Core n g nx S B R) (hs : splitOK (secP (g + 1) mark) b = true) (hm : parts (b.length : Int) ≤ (ploN n).s)
  (hX : Mix S S' ((g + 1) % 2 * (ploN n).s).toNat (secL (g + 1) mark b (parts (b.length : Int)).toNat))
  (hF : ∀ i, i < (parts (b.length : Int)).toNat → S'[((g + 1) % 2 * (ploN n).s).toNat + i]? = (secL (g + 1) mark b (parts (b.length : Int)).toNat)[i]?) : Core n (g + 1) 0 S' b [] := by
 have pb := pl_bd hC.hn
 have hnt : ∀ (i : Nat) s, S'[(ploN n).f.toNat + i]? = some s → tgood (g + 1) s i = true → False := fun i s h1 h2 => by
  rw [mix_out hX (.inr (by rw [secL_len]; have := slot_far hC.hn (g := g + 1) (i := (ploN n).s.toNat - 1) (by omega); omega))] at h1
  obtain ⟨q1, q2, q3, q4⟩ := tg_is h2
  rcases hC.gl _ s h1 q1 with h | ⟨_, h⟩
  ·omega
  ·have := inO_lt hC.hn h; omega
 refine ⟨⟨hC.hn, by rw [hX.len]; exact hC.len, by have := hC.hg; omega, by omega, slot_full hC.hn hs hm hF, fun h => ?_, ?_⟩, fun i s h1 h2 => ?_, fun i s h1 h2 h3 => ?_⟩
 ·have e : pgS n S' (g + 1 + 1) = pgS n S g := by
   rw [pgS, slot_two]
   exact pgS_same (g := g) fun i hi => mix_out hX (by
    rw [secL_len]
    have := fun j hj => slot_other hC.hn (g := g) hi (j := j) hj
    rcases Nat.lt_or_ge ((g % 2 * (ploN n).s).toNat + i) ((g + 1) % 2 * (ploN n).s).toNat with h | h
    ·exact .inl h
    ·refine .inr (Nat.not_lt.1 fun hc => this ((g % 2 * (ploN n).s).toNat + i - ((g + 1) % 2 * (ploN n).s).toNat) (by omega) (by omega)))
  rw [e, hC.cur.2.1]; omega
 ·refine log_none hC.hn fun s h => ?_
  cases e : tgood (g + 1) s 0 with
  | false => rfl
  | true => exact (hnt 0 s (by rw [List.getElem?_drop] at h; exact h) e).elim
 ·left
  rcases hX.at' i s h1 with h | ⟨_, _, h | h⟩
  ·rcases hC.gl i s h h2 with h | ⟨h, _⟩ <;> omega
  ·rw [h2] at h; cases h
  ·rw [(sec_new hs h).2.2]; exact Int.le_refl _
 ·exact (hnt i s (by rw [List.getElem?_drop] at h2; exact h2) h3).elim
theorem mk_tur {mark : Int} (hC : Core n g nx S B R) (hM : Mk n g nx mark S) (hs : splitOK (secP (g + 1) mark) b = true) (hm : parts (b.length : Int) ≤ (ploN n).s)
  (hX : Mix S S' ((g + 1) % 2 * (ploN n).s).toNat (secL (g + 1) mark b (parts (b.length : Int)).toNat)) : Mk n (g + 1) 0 mark S' := by
 have pb := pl_bd hC.hn
 have hg : ∀ (i : Nat) s, S'[i]? = some s → okS s = true → (valS s).gen ≤ g + 1 := fun i s h1 h2 => by
  rcases hX.at' i s h1 with h | ⟨_, _, h | h⟩
  ·rcases hC.gl i s h h2 with h | ⟨h, _⟩ <;> omega
  ·rw [h2] at h; cases h
  ·rw [(sec_new hs h).2.2]; exact Int.le_refl _
 refine ⟨fun i s h1 h2 h3 h4 => ?_, fun i s h1 h2 h3 => ?_, fun i s h1 h2 => ?_⟩
 ·have := hg i s h1 h2; omega
 ·rw [List.getElem?_drop, mix_out hX (.inr (by rw [secL_len]; have := slot_far hC.hn (g := g + 1) (i := (ploN n).s.toNat - 1) (by omega); omega))] at h2
  obtain ⟨q1, q2, q3, q4⟩ := tg_is h3
  rcases hC.gl _ s h2 q1 with h | ⟨_, h⟩
  ·omega
  ·have := inO_lt hC.hn h; omega
 ·rcases hX.at' i s h1 with h | ⟨_, _, h | h⟩
  ·exact hM.m3 i s h h2
  ·rw [h2] at h; cases h
  ·rw [(sec_new hs h).2.2]; exact Int.le_refl _
theorem pgS_par (n : Int) (S : PSl) (g : Int) : pgS n S g = pgS n S (g % 2) := by rw [pgS, pgS, partR, partR, Int.emod_emod_of_dvd _ (Int.dvd_refl 2)]
theorem bet_core (hC : Cor0 n g nx S B R) : betOK (pgS n S 0) (pgS n S 1) = true ∧ betG (pgS n S 0) (pgS n S 1) = g ∧ betB (pgS n S 0) (pgS n S 1) = B := by
 have hg := hC.hg
 obtain ⟨c1, c2, c3⟩ := hC.cur
 have ho := hC.oth
 rcases (show g % 2 = 0 ∨ g % 2 = 1 by omega) with h | h
 ·rw [pgS_par n S g, h] at c1 c2 c3
  rw [pgS_par n S (g + 1), show (g + 1) % 2 = 1 by omega] at ho
  have hb : bet (pgS n S 0) (pgS n S 1) = false := by
   refine bet_0 ?_
   cases e : slotOK (pgS n S 1) with
   | false => exact .inl rfl
   | true => exact .inr ⟨c1, by have := ho e; omega⟩
  obtain ⟨e1, e2, e3⟩ := bet_f hb
  rw [e1, e2, e3]; exact ⟨c1, c2, c3⟩
 ·rw [pgS_par n S g, h] at c1 c2 c3
  rw [pgS_par n S (g + 1), show (g + 1) % 2 = 0 by omega] at ho
  have hb : bet (pgS n S 0) (pgS n S 1) = true := by
   refine bet_1 ⟨c1, ?_⟩
   cases e : slotOK (pgS n S 0) with
   | false => exact .inl rfl
   | true => exact .inr (by have := ho e; omega)
  obtain ⟨e1, e2, e3, _⟩ := bet_t hb
  rw [e1, e2, e3]; exact ⟨rfl, c2, c3⟩
theorem mark_ge {S : PSl} {i : Nat} {s : PS} (h : S[i]? = some s) (h2 : okS s = true) : (valS s).mark ≤ markOf okS valS S := by
 have up : ∀ (l : PSl) (m : Int), m ≤ l.foldl (fun n s => if okS s then (if (valS s).mark > n then (valS s).mark else n) else n) m := by
  intro l
  induction l with
  | nil => exact fun m => Int.le_refl _
  | cons a t ih =>
   intro m
   rw [List.foldl_cons]
   refine Int.le_trans ?_ (ih _)
   split
   ·split <;> omega
   ·exact Int.le_refl _
 have key : ∀ (l : PSl) (i : Nat) (m : Int), l[i]? = some s → (valS s).mark ≤ l.foldl (fun n s => if okS s then (if (valS s).mark > n then (valS s).mark else n) else n) m := by
  intro l
  induction l with
  | nil => intro i m h; simp at h
  | cons a t ih =>
   intro i m h
   rw [List.foldl_cons]
   cases i with
   | zero =>
    have h : a = s := by simpa using h
    subst h
    refine Int.le_trans ?_ (up t _)
    rw [if_pos h2]; split <;> omega
   | succ i => exact ih i _ (by simpa using h)
 exact key S i 0 h
theorem mark_le {S : PSl} {m : Int} (h0 : 0 ≤ m) (h : ∀ (i : Nat) s, S[i]? = some s → okS s = true → (valS s).mark ≤ m) : markOf okS valS S ≤ m := by
 have key : ∀ (l : PSl) (k : Int), k ≤ m → (∀ s ∈ l, okS s = true → (valS s).mark ≤ m) → l.foldl (fun n s => if okS s then (if (valS s).mark > n then (valS s).mark else n) else n) k ≤ m := by
  intro l
  induction l with
  | nil => exact fun k hk _ => hk
  | cons a t ih =>
   intro k hk hl
   rw [List.foldl_cons]
   refine ih _ ?_ fun s hs => hl s (List.mem_cons_of_mem _ hs)
   split
   ·split
    ·exact hl a (by simp) (by assumption)
    ·exact hk
   ·exact hk
 exact key S 0 h0 fun s hs h2 => by
  obtain ⟨i, hi⟩ := List.getElem?_of_mem hs
  exact h i s hi h2
def reo (y : Dk) (g nx : Int) : Wk := { opn0 y with gen := g, next := nx }
theorem open_core {y : Dk} (hF : Fine y) (hoff : offD y = false) (hC : Cor0 y.n g nx (secD y) B R) (hm : ¬ markOf okS valS (secD y) + 1 > 2147483648) : openX y = ⟨true, reo y g nx, y, B, R, 0⟩ := by
 obtain ⟨b1, b2, b3⟩ := bet_core hC
 have hn := hC.hn
 have e1 : opnG y = g := b2
 have e2 : opnR y = (R, nx.toNat) := by rw [opnR, e1]; exact hC.log
 rw [open_4 (by omega) hoff hm b1, e1, e2]
 have : ((nx.toNat : Nat) : Int) = nx := by have := hC.nx0; omega
 have b3 : betB (pgA y 0) (pgA y 1) = B := b3
 rw [b3]
 simp only [reo, this]
theorem reo_ok {y : Dk} (hC : Cor0 y.n g nx (secD y) B R) (hgb : g ≤ 2147483648) (hm : ¬ markOf okS valS (secD y) + 1 > 2147483648) : WOK (reo y g nx) y.n := by
 have h := opn0_ok hC.hn hm
 exact ⟨h.hn, h.s, h.f, h.l, ⟨hC.hg, hgb⟩, h.m, hC.nx0⟩
theorem reo_mk {y : Dk} (nx' : Int) : Mk y.n g nx' (reo y g nx).mark (secD y) := mk_of fun i s h1 h2 => by
 have := mark_ge h1 h2
 show _ < markOf okS valS (secD y) + 1
 omega
end
end Go.Vai.WK
namespace Go.Vai.WK
open Go.Proofs Go.Vai Go.Vai.DK Go.Vai.G Go.Vai.L Go.Vai.MP Go.Vai.O Go.Vai.RC Go.Vai.S7 Go.Vai.U Go.Vai.V Go.Vai.Z
set_option linter.unusedSimpArgs false
set_option linter.unusedVariables false
open Go.Vai.DK Go.Vai.U Go.Vai.V Go.Vai.S7 Go.Vai.RC Go.Vai.G
def img (y : Dk) : PSl := WK.secR y y.n.toNat
theorem img_get' (y : Dk) : ∀ (k i : Nat), (WK.secR y k)[i]? = if i < k then some (false, readD y (i : Int)) else none
 | 0, i => by simp [WK.secR]
 | k + 1, i => by
  rw [WK.secR]
  by_cases h : i < k
  ·rw [List.getElem?_append_left (by rw [WK.secR_len]; exact h), img_get' y k i, if_pos h, if_pos (by omega)]
  ·rw [List.getElem?_append_right (by rw [WK.secR_len]; omega), WK.secR_len]
   by_cases h2 : i = k
   ·subst h2; simp
   ·rw [if_neg (by omega), List.getElem?_eq_none_iff]; simp; omega
theorem img_get (y : Dk) (i : Nat) : (img y)[i]? = if i < y.n.toNat then some (false, readD y (i : Int)) else none := img_get' y _ i
theorem img_len (y : Dk) : (img y).length = y.n.toNat := WK.secR_len _ _
theorem secD_img {y : Dk} (h : offD y = false) : secD y = img y := secD_yes h
theorem img_ext {y z : Dk} (hn : z.n = y.n) (h : ∀ i : Int, 0 ≤ i → i < y.n → readD z i = readD y i) : img z = img y := by
 refine List.ext_getElem? fun i => ?_
 rw [img_get, img_get, hn]
 split
 ·rw [h i (by omega) (by omega)]
 ·rfl
theorem read_act (y : Dk) (i : Int) : readD (actD y) i = readD y i := by
 obtain ⟨h1, h2, _⟩ := act_maps y
 rw [readD, readD, firmD, firmD, h1, h2]
theorem read_flD (z : Dk) (i : Int) : readD (flD z) i = readD z i := by
 rw [readD, readD, firmD, firmD]
 show (none : Option (List (BitVec 8))).getD ((if (z.waits i).isSome then z.waits i else z.safe i).getD _) = _
 cases z.waits i <;> rfl
theorem read_put (z : Dk) (fr : Int) (b : List (BitVec 8)) (i : Int) : readD (putW z fr b) i = if i = fr then b else readD z i := by
 rw [readD, readD]
 show (if i = fr then some b else z.waits i).getD (firmD z i) = _
 split <;> rfl
theorem act_live {y : Dk} (h : ¬ y.armed = 0) : (actD y).dead = y.dead ∧ actE y = 0 ∧ (y.armed < 0 → (actD y).armed = y.armed) := by
 unfold actD actE
 rw [if_neg h, if_neg h]
 refine ⟨by split <;> rfl, rfl, fun h2 => ?_⟩
 rw [if_neg (by omega)]
structure Wrote (y : Dk) (fr : Int) (l : PSl) (r : Dk × Int) : Prop where
 e : r.2 = 0
 off : offD r.1 = false
 w : ∀ i, r.1.waits i = none
 n : r.1.n = y.n
 rd : ∀ i : Int, readD r.1 i = if fr ≤ i ∧ i < fr + (l.length : Int) then (l.getD (i - fr).toNat default).2 else readD y i
 a : y.armed < 0 → r.1.armed = y.armed
structure Died (y : Dk) (fr : Int) (l : PSl) (r : Dk × Int) : Prop where
 e : r.2 = 7
 d : r.1.dead = true
 n : r.1.n = y.n
 s : r.1.safe = y.safe
 w : ∃ k : Nat, k ≤ l.length ∧ ∀ i : Int, r.1.waits i = if fr ≤ i ∧ i < fr + (k : Int) then some (l.getD (i - fr).toNat default).2 else y.waits i
 a : 0 ≤ y.armed
theorem wrF_out : ∀ {l : PSl} {y : Dk} {fr : Int}, offD y = false → 0 ≤ fr → fr + (l.length : Int) ≤ y.n → (∀ p ∈ l, p.2.length = 512) → Wrote y fr l (wrF y fr l) ∨ Died y fr l (wrF y fr l)
 | [], y, fr, hoff, h0, h1, h2 => by
  rw [wrF]
  by_cases ha : y.armed = 0
  ·right
   have hE : actE y = 7 := (act_0 ha).2
   have e : fluE y = 7 ∧ fluX y = actD y := by
    obtain ⟨q1, q2⟩ := flu_die hoff (by rw [hE]; decide)
    exact ⟨q1.trans hE, q2⟩
   obtain ⟨q1, q2, q3⟩ := act_maps y
   refine ⟨e.1, by show (fluX y).dead = true; rw [e.2, (act_0 ha).1], by show (fluX y).n = y.n; rw [e.2, q3], by show (fluX y).safe = _; rw [e.2, q1], ⟨0, Nat.le_refl _, fun i => ?_⟩, by omega⟩
   show (fluX y).waits i = _
   rw [e.2, q2, if_neg (by omega)]
  ·left
   obtain ⟨q1, q2, q3⟩ := act_live ha
   obtain ⟨e1, e2⟩ := flu_ok hoff (show ¬ actE y ≠ 0 by rw [q2]; decide)
   refine ⟨e1, ?_, fun i => by show (fluX y).waits i = none; rw [e2]; rfl, by show (fluX y).n = _; rw [e2]; exact (act_maps y).2.2, fun i => ?_, fun h => by show (fluX y).armed = _; rw [e2]; exact q3 h⟩
   ·show offD (fluX y) = false
    rw [e2]
    show (decide ((actD y).n = 0) || (actD y).dead) = false
    rw [(act_maps y).2.2, q1]; exact hoff
   ·show readD (fluX y) i = _
    rw [e2, read_flD, read_act, if_neg (by simp only [List.length_nil]; omega)]
 | b :: l, y, fr, hoff, h0, h1, h2 => by
  have hb := h2 b (by simp)
  simp only [List.length_cons, Int.natCast_add] at h1
  have hrng : ¬ ((fr < 0 ∨ fr ≥ y.n) ∨ (b.2.length : Int) ≠ 512) := by omega
  rw [wrF]
  by_cases ha : y.armed = 0
  ·right
   have hE : actE y = 7 := (act_0 ha).2
   obtain ⟨q1, q2⟩ := wri_die hoff hrng (by rw [hE]; decide)
   rw [hE] at q1
   rw [if_pos (by rw [q1]; decide), q1, q2]
   obtain ⟨k1, k2, k3⟩ := act_maps y
   exact ⟨rfl, by rw [(act_0 ha).1], k3, k1, ⟨0, Nat.zero_le _, fun i => by rw [k2, if_neg (by omega)]⟩, by omega⟩
  ·obtain ⟨q1, q2, q3⟩ := act_live ha
   obtain ⟨e1, e2⟩ := wri_ok hoff hrng (show ¬ actE y ≠ 0 by rw [q2]; decide)
   rw [if_neg (by rw [e1]; decide), e2]
   obtain ⟨k1, k2, k3⟩ := act_maps y
   have hoff2 : offD (putW (actD y) fr b.2) = false := by
    show (decide ((actD y).n = 0) || (actD y).dead) = false
    rw [k3, q1]; exact hoff
   have hn2 : (putW (actD y) fr b.2).n = y.n := k3
   have hget : ∀ j : Int, fr + 1 ≤ j → ((b :: l).getD (j - fr).toNat default) = l.getD (j - (fr + 1)).toNat default := fun j hj => by
    obtain ⟨q, hq⟩ : ∃ q : Nat, j = fr + 1 + q := ⟨(j - fr - 1).toNat, by omega⟩
    rw [show (j - fr).toNat = q + 1 by omega, show (j - (fr + 1)).toNat = q by omega]; rfl
   rcases wrF_out (l := l) hoff2 (show 0 ≤ fr + 1 by omega) (by rw [hn2]; omega) (fun p hp => h2 p (List.mem_cons_of_mem _ hp)) with w | w
   ·left
    refine ⟨w.e, w.off, w.w, w.n.trans hn2, fun i => ?_, fun h => (w.a (by show (actD y).armed < 0; rw [q3 h]; exact h)).trans (q3 h)⟩
    rw [w.rd, read_put, read_act]
    simp only [List.length_cons, Int.natCast_add]
    by_cases h3 : i = fr
    ·subst h3
     rw [if_neg (by omega), if_pos rfl, if_pos (by omega), Int.sub_self]; rfl
    ·by_cases h4 : fr + 1 ≤ i ∧ i < fr + 1 + (l.length : Int)
     ·rw [if_pos h4, if_pos (by omega), hget i h4.1]
     ·rw [if_neg h4, if_neg h3, if_neg (by omega)]
   ·right
    obtain ⟨k, hk, hw⟩ := w.w
    refine ⟨w.e, w.d, w.n.trans hn2, w.s.trans k1, ⟨k + 1, by simpa using hk, fun i => ?_⟩, ?_⟩
    ·rw [hw]
     show (if _ then _ else if i = fr then some b.2 else (actD y).waits i) = _
     rw [k2]
     by_cases h3 : i = fr
     ·subst h3
      rw [if_neg (by omega), if_pos rfl, if_pos (by omega), Int.sub_self]; rfl
     ·by_cases h4 : fr + 1 ≤ i ∧ i < fr + 1 + (k : Int)
      ·rw [if_pos h4, if_pos (by omega), hget i h4.1]
      ·rw [if_neg h4, if_neg h3, if_neg (by omega)]
    ·have := w.a
     rcases Int.lt_or_le y.armed 0 with h | h
     ·rw [show (putW (actD y) fr b.2).armed = y.armed from q3 h] at this; omega
     ·exact h
theorem wrote_mix {y : Dk} {fr : Int} {l : PSl} {r : Dk × Int} (h : Wrote y fr l r) (h0 : 0 ≤ fr) (h1 : fr + (l.length : Int) ≤ y.n) (hf : ∀ p ∈ l, p.1 = false) :
  Mix (img y) (img r.1) fr.toNat l ∧ ∀ i, i < l.length → (img r.1)[fr.toNat + i]? = l[i]? := by
 have key : ∀ i, i < l.length → (img r.1)[fr.toNat + i]? = l[i]? := fun i hi => by
  rw [img_get, h.n, if_pos (by omega), h.rd, if_pos (by omega), List.getElem?_eq_getElem hi]
  have e : (((fr.toNat + i : Nat) : Int) - fr).toNat = i := by omega
  rw [e, List.getD_eq_getElem?_getD, List.getElem?_eq_getElem hi]
  have := hf l[i] (List.getElem_mem hi)
  simp only [Option.getD_some]
  rw [← this]
 refine ⟨⟨by rw [img_len, img_len, h.n], fun i s hs => ?_⟩, key⟩
 by_cases hr : fr.toNat ≤ i ∧ i < fr.toNat + l.length
 ·right
  refine ⟨hr.1, hr.2, .inr ?_⟩
  rw [← key (i - fr.toNat) (by omega), show fr.toNat + (i - fr.toNat) = i by omega]; exact hs
 ·left
  rw [img_get, h.n] at hs
  split at hs
  ·rename_i hi
   rw [img_get, if_pos hi, ← hs, h.rd, if_neg (by omega)]
  ·cases hs
theorem crash_n (y : Dk) (l : List Tear) : (crashD y l).n = y.n := (crK_eqs y l _).1
theorem crash_off {y : Dk} (l : List Tear) (h : Fine y) : offD (crashD y l) = false := by
 have h1 := h.n1
 show (decide ((crashD y l).n = 0) || false) = false
 rw [crash_n, decide_eq_false (by omega)]; rfl
theorem crK_keep {y : Dk} {l : List Tear} {i : Int} (hi : i ∉ waitL y) : ∀ k, (crK y l k).safe i = y.safe i
 | 0 => rfl
 | k + 1 => by
  rw [crK]
  split
  ·rename_i t j _ hj
   have hne : i ≠ j := fun e => hi (e ▸ List.mem_of_getElem? hj)
   unfold crStep
   split
   ·show (if i = j then _ else (crK y l k).safe i) = _
    rw [if_neg hne]; exact crK_keep hi k
   ·split
    ·show (if i = j then _ else (crK y l k).safe i) = _
     rw [if_neg hne]; exact crK_keep hi k
    ·exact crK_keep hi k
  ·exact crK_keep hi k
theorem read_still {y : Dk} (h : Fine y) {l : List Tear} {i : Int} (hi : y.waits i = none) : readD (crashD y l) i = readD y i := by
 have hn : i ∉ waitL y := fun hm => by have := (wait_mem h i).1 hm; rw [hi] at this; cases this
 show firmD (crK y l (waitL y).length) i = _
 rw [firmD, crK_keep hn, readD, hi]; rfl
theorem img_still {y : Dk} (h : Fine y) (l : List Tear) (hw : ∀ i, y.waits i = none) : img (crashD y l) = img y := img_ext (crash_n y l) fun i _ _ => read_still h (hw i)
end Go.Vai.WK
namespace Go.Vai.WK
open Go.Proofs Go.Vai Go.Vai.DK Go.Vai.G Go.Vai.L Go.Vai.MP Go.Vai.O Go.Vai.RC Go.Vai.S7 Go.Vai.U Go.Vai.V Go.Vai.Z
set_option linter.unusedSimpArgs false
set_option linter.unusedVariables false
open Go.Vai.DK Go.Vai.U Go.Vai.V Go.Vai.S7 Go.Vai.RC Go.Vai.G
structure WInv (x : Wk) (y : Dk) (B : List (BitVec 8)) (R : PSl) : Prop where
 f : Fine y
 off : offD y = false
 nw : ∀ i, y.waits i = none
 ok : WOK x y.n
 br : x.broken = false
 core : Core y.n x.gen x.next (img y) B R
 mks : Mk y.n x.gen x.next x.mark (img y)
def ToldP (y : Dk) (l : List Tear) : Prop := ∀ i ∈ waitL y, pgGood (readD (crashD y l) i) = true → readD (crashD y l) i = firmD y i ∨ readD (crashD y l) i = (y.waits i).getD []
section
variable {x : Wk} {y : Dk} {B b : List (BitVec 8)} {R : PSl}
theorem com_flag (x : Wk) (b : List (BitVec 8)) (k : Nat) : ∀ p ∈ comL x b k, p.1 = false := fun p hp => by obtain ⟨q, _, rfl⟩ := List.mem_map.1 hp; rfl
theorem sec_flag (g m : Int) (b : List (BitVec 8)) (k : Nat) : ∀ p ∈ secL g m b k, p.1 = false := fun p hp => by obtain ⟨q, _, rfl⟩ := List.mem_map.1 hp; rfl
theorem com_512 (hs : splitOK (pgH x) b = true) : ∀ p ∈ comL x b (parts (b.length : Int)).toNat, p.2.length = 512 := fun p hp => by
 obtain ⟨q, hq, rfl⟩ := List.mem_map.1 hp
 obtain ⟨i, hi, rfl⟩ := List.mem_map.1 hq
 rw [List.mem_range] at hi
 exact pgPut_lW (splitOK_at hs hi)
theorem sec_512 {g m : Int} (hs : splitOK (secP g m) b = true) : ∀ p ∈ secL g m b (parts (b.length : Int)).toNat, p.2.length = 512 := fun p hp => by
 obtain ⟨q, hq, rfl⟩ := List.mem_map.1 hp
 obtain ⟨i, hi, rfl⟩ := List.mem_map.1 hq
 rw [List.mem_range] at hi
 exact pgPut_lW (splitOK_at hs hi)
theorem com_cases (h : WInv x y B R) (b : List (BitVec 8)) :
  ((comX x y b).2.2 = 0 ∧ WInv (comX x y b).1 (comX x y b).2.1 B (R ++ [(b.isEmpty, b)]) ∧ (comX x y b).1.gen = x.gen ∧ (comX x y b).1.mark = x.mark ∧ (comX x y b).1.next = x.next + ((parts (b.length : Int)).toNat : Int) ∧ (comX x y b).2.1.n = y.n ∧ (y.armed < 0 → (comX x y b).2.1.armed = y.armed)) ∨
  ((comX x y b).2.2 = 7 ∧ splitOK (pgH x) b = true ∧ Fine (comX x y b).2.1 ∧ Died y (x.f + x.next) (comL x b (parts (b.length : Int)).toNat) ((comX x y b).2.1, 7)) ∨
  ((comX x y b).2.2 ≠ 0 ∧ (comX x y b).2.2 ≠ 7 ∧ (comX x y b).1 = x ∧ (comX x y b).2.1 = y ∧ (splitOK (pgH x) b = false ∨ parts (b.length : Int) > x.l - x.next)) := by
 have hb : ¬ x.broken = true := by rw [h.br]; decide
 have pb := pl_bd h.ok.hn
 have hxf := h.ok.f; have hxl := h.ok.l; have hnx := h.ok.nx
 rcases split0E (p := pgH x) (b := b) with ⟨hE, hO, hP⟩ | ⟨hE, hO⟩
 ·have hE' : ¬ splitE (pgH x) b ≠ 0 := by rw [hE]; decide
  obtain ⟨hp0, hpa, hp1, hp2⟩ := parts_pos hO
  by_cases hf : parts (b.length : Int) > x.l - x.next
  ·right; right
   rw [com_3 hb hE' hf]
   exact ⟨show (4 : Int) ≠ 0 by decide, show (4 : Int) ≠ 7 by decide, rfl, rfl, .inr hf⟩
  ·have hlen := comL_len x b (parts (b.length : Int)).toNat
   have hfr : (x.f + x.next).toNat = (ploN y.n).f.toNat + x.next.toNat := by omega
   rcases wrF_out (l := comL x b (parts (b.length : Int)).toNat) (fr := x.f + x.next) h.off (by omega) (by rw [hlen]; omega) (com_512 hO) with w | w
   ·left
    have he := w.e
    rw [com_5 hb hE' hf (by rw [he]; decide)]
    obtain ⟨m1, m2⟩ := wrote_mix w (by omega) (by rw [hlen]; omega) (com_flag _ _ _)
    rw [hfr] at m1 m2
    rw [hlen] at m2
    have hn := w.n
    refine ⟨rfl, ⟨wrF_fine h.f, w.off, w.w, ?_, by show decide _ = false; rw [he]; decide, ?_, ?_⟩, rfl, rfl, rfl, hn, w.a⟩
    ·rw [hn]
     exact ⟨h.ok.hn, h.ok.s, h.ok.f, h.ok.l, h.ok.g, h.ok.m, by show 0 ≤ x.next + _ ∧ x.next + _ ≤ x.l; omega⟩
    ·rw [hn]; exact core_com_full h.core hO (by omega) m1 m2
    ·rw [hn]; exact mk_com h.core h.mks hO m1
   ·right; left
    have he := w.e
    rw [com_4 hb hE' hf (by rw [he]; decide)]
    exact ⟨he, hO, wrF_fine h.f, ⟨rfl, w.d, w.n, w.s, w.w, w.a⟩⟩
 ·right; right
  rw [com_2 hb hE]
  refine ⟨hE, ?_, rfl, rfl, .inl hO⟩
  show splitE (pgH x) b ≠ 7
  rw [splitE]; split
  ·decide
  ·split <;> decide
theorem tur_cases (h : WInv x y B R) (b : List (BitVec 8)) :
  ((turX x y b).2.2 = 0 ∧ WInv (turX x y b).1 (turX x y b).2.1 b [] ∧ (turX x y b).1.gen = x.gen + 1 ∧ (turX x y b).1.mark = x.mark ∧ (turX x y b).1.next = 0 ∧ (turX x y b).2.1.n = y.n ∧ (y.armed < 0 → (turX x y b).2.1.armed = y.armed)) ∨
  ((turX x y b).2.2 = 7 ∧ splitOK (secP (x.gen + 1) x.mark) b = true ∧ parts (b.length : Int) ≤ x.s ∧ Fine (turX x y b).2.1 ∧ Died y ((x.gen + 1) % 2 * x.s) (secL (x.gen + 1) x.mark b (parts (b.length : Int)).toNat) ((turX x y b).2.1, 7)) ∨
  ((turX x y b).2.2 ≠ 0 ∧ (turX x y b).2.2 ≠ 7 ∧ (turX x y b).1 = x ∧ (turX x y b).2.1 = y ∧ (parts (b.length : Int) = 0 ∨ parts (b.length : Int) > x.s ∨ x.gen = 2147483648 ∨ secE (x.gen + 1) x.mark x.s b ≠ 0)) := by
 have hb : ¬ x.broken = true := by rw [h.br]; decide
 have pb := pl_bd h.ok.hn
 have hxs := h.ok.s
 by_cases h1 : parts (b.length : Int) = 0 ∨ parts (b.length : Int) > x.s
 ·right; right
  rw [tur_2 hb h1]
  exact ⟨show (5 : Int) ≠ 0 by decide, show (5 : Int) ≠ 7 by decide, rfl, rfl, by rcases h1 with h1 | h1; exact .inl h1; exact .inr (.inl h1)⟩
 by_cases h2 : x.gen = 2147483648
 ·right; right
  rw [tur_3 hb h1 h2]
  exact ⟨show (4 : Int) ≠ 0 by decide, show (4 : Int) ≠ 7 by decide, rfl, rfl, .inr (.inr (.inl h2))⟩
 by_cases h3 : secE (x.gen + 1) x.mark x.s b ≠ 0
 ·right; right
  rw [tur_4 hb h1 h2 h3]
  refine ⟨h3, ?_, rfl, rfl, .inr (.inr (.inr h3))⟩
  show secE (x.gen + 1) x.mark x.s b ≠ 7
  rw [secE]; split
  ·decide
  ·rw [splitE]; split
   ·decide
   ·split <;> decide
 have hsec : secOK (x.gen + 1) x.mark x.s b = true := by
  rcases split0E (p := secP (x.gen + 1) x.mark) (b := b) with ⟨q1, q2, q3⟩ | ⟨q1, q2⟩
  ·rw [secOK, q2, decide_eq_true (by omega)]; rfl
  ·exfalso
   rw [secE, if_neg (by omega)] at h3
   exact h3 q1
 obtain ⟨s1, s2, s3⟩ := sec_facts hsec
 obtain ⟨hp0, hpa, hp1, hp2⟩ := parts_pos s1
 have hlen := secL_len (x.gen + 1) x.mark b (parts (b.length : Int)).toNat
 obtain ⟨f1, f2⟩ := slot_fr (g := x.gen + 1) h.ok
 have hfar := slot_far h.ok.hn (g := x.gen + 1) (i := (ploN y.n).s.toNat - 1) (by omega)
 rw [← hxs] at hfar
 rcases wrF_out (l := secL (x.gen + 1) x.mark b (parts (b.length : Int)).toNat) (fr := (x.gen + 1) % 2 * x.s) h.off f1 (by rw [hlen]; omega) (sec_512 s1) with w | w
 ·left
  have he := w.e
  rw [tur_6 hb h1 h2 h3 (by rw [s3, he]; decide), s3]
  obtain ⟨m1, m2⟩ := wrote_mix w f1 (by rw [hlen]; omega) (sec_flag _ _ _ _)
  rw [hlen] at m2
  rw [hxs] at m1 m2
  have hn := w.n
  have hpar : parts (b.length : Int) ≤ (ploN y.n).s := by omega
  refine ⟨rfl, ⟨wrF_fine h.f, w.off, w.w, ?_, by show decide _ = false; rw [he]; decide, ?_, ?_⟩, rfl, rfl, rfl, hn, w.a⟩
  ·rw [hn]
   have := h.ok.g
   exact ⟨h.ok.hn, h.ok.s, h.ok.f, h.ok.l, by show 0 ≤ x.gen + 1 ∧ x.gen + 1 ≤ 2147483648; omega, h.ok.m, by show (0 : Int) ≤ 0 ∧ (0 : Int) ≤ x.l; have := h.ok.l; omega⟩
  ·rw [hn]; rw [hxs]; exact core_tur_full h.core s1 hpar m1 m2
  ·rw [hn]; rw [hxs]; exact mk_tur h.core h.mks s1 hpar m1
 ·right; left
  have he := w.e
  rw [tur_5 hb h1 h2 h3 (by rw [s3, he]; decide), s3]
  exact ⟨he, s1, s2, wrF_fine h.f, ⟨rfl, w.d, w.n, w.s, w.w, w.a⟩⟩
theorem open_W {g nx : Int} (hF : Fine y) (hoff : offD y = false) (hw : ∀ i, y.waits i = none) (hC : Core y.n g nx (img y) B R) (hg : g ≤ 2147483648) (hm : ¬ markOf okS valS (img y) + 1 > 2147483648) :
  openX y = ⟨true, reo y g nx, y, B, R, 0⟩ ∧ WInv (reo y g nx) y B R := by
 rw [← secD_img hoff] at hC hm
 refine ⟨open_core hF hoff hC.toCor0 hm, hF, hoff, hw, reo_ok hC.toCor0 hg hm, rfl, ?_, ?_⟩
 ·rw [← secD_img hoff]; exact hC
 ·rw [← secD_img hoff]; exact reo_mk nx
theorem crash_still (h : WInv x y B R) (t : List Tear) : Core y.n x.gen x.next (img (crashD y t)) B R ∧ markOf okS valS (img (crashD y t)) ≤ x.mark := by
 rw [img_still h.f t h.nw]
 exact ⟨h.core, mark_le h.ok.m.1 h.mks.m3⟩
end
end Go.Vai.WK
namespace Go.Vai.WK
open Go.Proofs Go.Vai Go.Vai.DK Go.Vai.G Go.Vai.L Go.Vai.MP Go.Vai.O Go.Vai.RC Go.Vai.S7 Go.Vai.U Go.Vai.V Go.Vai.Z
set_option linter.unusedSimpArgs false
set_option linter.unusedVariables false
open Go.Vai.DK Go.Vai.U Go.Vai.V Go.Vai.S7 Go.Vai.RC Go.Vai.G
theorem zero_bad : pgGood (List.replicate 512 0#8) = false := by
 have : pageOK (pgP (List.replicate 512 0#8)) = false := by
  have e : (pgP (List.replicate 512 0#8)).kind = 0 := by
   show ((((List.replicate 512 0#8).getD 3 default).toNat : Nat) : Int) = 0
   rw [List.getD_eq_getElem?_getD, List.getElem?_replicate]; rfl
  rw [pageOK, e]; rfl
 rw [pgGood, this, Bool.false_and, Bool.and_false, Bool.and_false]
theorem slotOK_nil : slotOK [] = false := by rw [slotOK, join_no0 rfl]; rfl
theorem pgS_nil {n g : Int} {S : PSl} (h : ∀ s, S[(g % 2 * (ploN n).s).toNat]? = some s → okS s = false) : pgS n S g = [] := by
 refine List.eq_nil_of_length_eq_zero (Nat.le_antisymm (Nat.not_lt.1 fun hc => ?_) (Nat.zero_le _))
 have hc : 1 ≤ (pagesOf okS valS (partR n S g)).length := hc
 obtain ⟨s, h1, h2⟩ := pages_ge.1 hc 0 (by omega)
 have hs : 0 < (ploN n).s.toNat := by
  rcases Nat.eq_zero_or_pos (ploN n).s.toNat with e | e
  ·rw [part_end (by omega)] at h1; cases h1
  ·exact e
 rw [part_at hs, Nat.add_zero] at h1
 rw [h s h1] at h2; cases h2
section
variable {n mark : Int} {S S' : PSl} {b : List (BitVec 8)}
theorem core_new (hn : 6 ≤ n ∧ n ≤ 1024) (hl : (S.length : Int) = n) (hbad : ∀ (i : Nat) s, S[i]? = some s → (i < (ploN n).s.toNat ∨ 2 * (ploN n).s.toNat ≤ i) → okS s = false) (hs : splitOK (secP 1 mark) b = true) (hm : parts (b.length : Int) ≤ (ploN n).s)
  (hX : Mix S S' (ploN n).s.toNat (secL 1 mark b (parts (b.length : Int)).toNat)) (hF : ∀ i, i < (parts (b.length : Int)).toNat → S'[(ploN n).s.toNat + i]? = (secL 1 mark b (parts (b.length : Int)).toNat)[i]?) :
  Cor0 n 1 0 S' b [] ∧ ((∀ (i : Nat) s, S[i]? = some s → okS s = false) → Core n 1 0 S' b [] ∧ Mk n 1 0 mark S') := by
 have pb := pl_bd hn
 have e1 : ((0 + 1) % 2 * (ploN n).s).toNat = (ploN n).s.toNat := by simp
 have hlen : (secL 1 mark b (parts (b.length : Int)).toNat).length = (parts (b.length : Int)).toNat := secL_len _ _ _ _
 have hout : ∀ (i : Nat) s, S'[i]? = some s → (i < (ploN n).s.toNat ∨ 2 * (ploN n).s.toNat ≤ i) → okS s = false := fun i s h1 h2 => by
  rw [mix_out hX (by rw [hlen]; omega)] at h1
  exact hbad i s h1 h2
 have hnt : ∀ (i : Nat) s, (S'.drop (ploN n).f.toNat)[i]? = some s → tgood 1 s i = true → False := fun i s h1 h2 => by
  rw [List.getElem?_drop] at h1
  have := hout _ s h1 (.inr (by omega))
  rw [(tg_is h2).1] at this; cases this
 have hc0 : Cor0 n 1 0 S' b [] := by
  refine ⟨hn, by rw [hX.len]; exact hl, by decide, by omega, ?_, fun h => ?_, ?_⟩
  ·have := slot_full (n := n) (S' := S') (g := 0) (mark := mark) (b := b) hn hs hm (by rw [e1]; exact hF)
   exact this
  ·exfalso
   rw [pgS_nil fun s h1 => hout _ s h1 (.inl (by simp; omega)), slotOK_nil] at h
   cases h
  ·refine log_none hn fun s h => ?_
   cases e : tgood 1 s 0 with
   | false => rfl
   | true => exact (hnt 0 s h e).elim
 refine ⟨hc0, fun hall => ?_⟩
 have hg : ∀ (i : Nat) s, S'[i]? = some s → okS s = true → (valS s).gen = 1 ∧ (valS s).mark = mark := fun i s h1 h2 => by
  rcases hX.at' i s h1 with h | ⟨_, _, h | h⟩
  ·rw [hall i s h] at h2; cases h2
  ·rw [h2] at h; cases h
  ·rw [(sec_new hs h).2.2]; exact ⟨rfl, rfl⟩
 refine ⟨⟨hc0, fun i s h1 h2 => .inl (by have := (hg i s h1 h2).1; omega), fun i s h1 h2 h3 => (hnt i s h2 h3).elim⟩, ⟨fun i s h1 h2 h3 _ => ?_, fun i s h1 h2 h3 => (hnt i s h2 h3).elim, fun i s h1 h2 => ?_⟩⟩
 ·have := (hg i s h1 h2).1; omega
 ·have := (hg i s h1 h2).2; omega
end
theorem new_fine {n : Int} (hn : 1 ≤ n ∧ n ≤ 1024) : Fine (newD n) :=
 ⟨⟨fun i b h => (by cases h), fun i b h => (by cases h)⟩, hn.1, hn.2, fun i h => (by cases h), fun i h => (by cases h), by show (-1 : Int) ≤ -1 ∧ (-1 : Int) ≤ 1000000; decide⟩
theorem new_off {n : Int} (hn : 1 ≤ n ∧ n ≤ 1024) : offD (newD n) = false := by
 show (decide (n = 0) || false) = false
 rw [decide_eq_false (by omega)]; rfl
theorem fresh_of {n : Int} {S : PSl} (h : freshR n S = true) (hn : 6 ≤ n ∧ n ≤ 1024) {i : Nat} {s : PS} (hs : S[i]? = some s) (hi : i < (ploN n).s.toNat ∨ 2 * (ploN n).s.toNat ≤ i) : blankP s = true := by
 have pb := pl_bd hn
 rw [freshR, Bool.not_eq_true', List.any_eq_false] at h
 have hm : s ∈ S.take (ploN n).s.toNat ++ S.drop ((ploN n).s + (ploN n).s).toNat := by
  rcases hi with hi | hi
  ·refine List.mem_append_left _ (List.mem_of_getElem? (i := i) ?_)
   rw [List.getElem?_take_of_lt hi]; exact hs
  ·refine List.mem_append_right _ (List.mem_of_getElem? (i := i - ((ploN n).s + (ploN n).s).toNat) ?_)
   rw [List.getElem?_drop, show ((ploN n).s + (ploN n).s).toNat + (i - ((ploN n).s + (ploN n).s).toNat) = i by omega]; exact hs
 simpa using h s hm
theorem open_fresh {y : Dk} (hF : Fine y) (hoff : offD y = false) (ha : y.armed < 0) (hn : 6 ≤ y.n ∧ y.n ≤ 1024) (hm : ¬ markOf okS valS (img y) + 1 > 2147483648) (hb : betOK (pgA y 0) (pgA y 1) = false) (hfr : freshR y.n (img y) = true) :
  (openX y).made = true ∧ (openX y).e = 0 ∧ (openX y).b = [] ∧ (openX y).rs = [] ∧ Fine (openX y).y ∧ offD (openX y).y = false ∧ (∀ i, (openX y).y.waits i = none) ∧ (openX y).y.n = y.n ∧ (openX y).y.armed = y.armed ∧ (openX y).x = { opn0 y with gen := 1 } ∧
  Mix (img y) (img (openX y).y) (ploN y.n).s.toNat (secL 1 (opn0 y).mark [] 1) ∧ splitOK (secP 1 (opn0 y).mark) [] = true ∧ (∀ i, i < 1 → (img (openX y).y)[(ploN y.n).s.toNat + i]? = (secL 1 (opn0 y).mark [] 1)[i]?) := by
 have pb := pl_bd hn
 have hsd := secD_img hoff
 have hO := opn0_ok hn (by rw [hsd]; exact hm)
 rw [← hsd] at hm hfr
 have hp : parts (([] : List (BitVec 8)).length : Int) = 1 := by decide
 have hmk : (opn0 y).mark = markOf okS valS (secD y) + 1 := rfl
 have hmn := mark_nn (secD y)
 have hso : splitOK (secP 1 (opn0 y).mark) [] = true := by
  rw [splitOK, hp]
  have e : splitP (secP 1 (opn0 y).mark) false [] (1 : Int).toNat = [⟨1, 1, (opn0 y).mark, 0, 0, 1, false, []⟩] := by
   show [pageAt (secP 1 (opn0 y).mark) false [] (parts (([] : List (BitVec 8)).length : Int)) 0] = _
   rw [hp]; rfl
  rw [e]
  have hw : wi (opn0 y).mark 0 2147483648 = true := by rw [wi, decide_eq_true (by omega), decide_eq_true (by omega)]; rfl
  simp only [allPages, List.all_cons, List.all_nil, pageOK, hw]
  rfl
 have hsE : secE 1 (opn0 y).mark (opn0 y).s [] = 0 := by
  rw [secE, hp]
  have : ¬ ((1 : Int) > (opn0 y).s ∨ (1 : Int) = 0) := by show ¬ ((1 : Int) > (ploN y.n).s ∨ (1 : Int) = 0); omega
  rw [if_neg this, splitE, hp, hso]; rfl
 have hsec : S7.secR 1 (opn0 y).mark (opn0 y).s [] = secL 1 (opn0 y).mark [] 1 := by
  have : secOK 1 (opn0 y).mark (opn0 y).s [] = true := by
   rw [secOK, hso, hp, decide_eq_true (by show (1 : Int) ≤ (ploN y.n).s; omega)]; rfl
  rw [(sec_facts this).2.2, hp]; rfl
 have hfr2 : ((opn0 y).gen + 1) % 2 * (opn0 y).s = (ploN y.n).s := by show ((0 : Int) + 1) % 2 * (ploN y.n).s = _; simp
 have hlen : (secL 1 (opn0 y).mark [] 1).length = 1 := secL_len _ _ _ _
 rcases wrF_out (l := secL 1 (opn0 y).mark [] 1) (fr := (ploN y.n).s) hoff (by omega) (by rw [hlen]; omega) (by have := sec_512 hso; rw [hp] at this; exact this) with w | w
 ·have he := w.e
  have ht : turX (opn0 y) y [] = ({ opn0 y with gen := 1 }, (wrF y (ploN y.n).s (secL 1 (opn0 y).mark [] 1)).1, 0) := by
   have h6 := tur_6 (x := opn0 y) (y := y) (b := []) (by show ¬ (false = true); decide) (by rw [hp]; show ¬ ((1 : Int) = 0 ∨ (1 : Int) > (ploN y.n).s); omega) (by show ¬ (0 : Int) = 2147483648; decide) (by rw [show (opn0 y).gen + 1 = 1 from rfl, hsE]; decide) (by rw [hfr2, show (opn0 y).gen + 1 = 1 from rfl, hsec, he]; decide)
   rw [hfr2, show (opn0 y).gen + 1 = 1 from rfl, hsec, he] at h6
   rw [h6]; rfl
  have ho := open_5 (y := y) (by omega) hoff hm hb hfr
  rw [ht] at ho
  obtain ⟨m1, m2⟩ := wrote_mix w (by omega) (by rw [hlen]; omega) (sec_flag _ _ _ _)
  rw [hlen] at m2
  rw [ho]
  exact ⟨rfl, rfl, rfl, rfl, wrF_fine hF, w.off, w.w, w.n, w.a ha, rfl, m1, hso, m2⟩
 ·have := w.a; omega
theorem open_new {n : Int} (hn : 6 ≤ n ∧ n ≤ 1024) : (openX (newD n)).made = true ∧ (openX (newD n)).e = 0 ∧ (openX (newD n)).b = [] ∧ (openX (newD n)).rs = [] ∧ WInv (openX (newD n)).x (openX (newD n)).y [] [] ∧
  (openX (newD n)).y.n = n ∧ (openX (newD n)).y.armed = -1 ∧ (openX (newD n)).x.gen = 1 ∧ (openX (newD n)).x.next = 0 ∧ (openX (newD n)).x.mark = 1 := by
 have hoff := new_off (n := n) (by omega)
 have hbad : ∀ (i : Nat) s, (img (newD n))[i]? = some s → okS s = false := fun i s h => by
  rw [img_get] at h
  split at h
  ·rw [← Option.some.inj h]; exact zero_bad
  ·cases h
 have hmk : markOf okS valS (img (newD n)) = 0 := Int.le_antisymm (mark_le (Int.le_refl _) fun i s h1 h2 => by rw [hbad i s h1] at h2; cases h2) (mark_nn _)
 have hnil : ∀ g, pgA (newD n) g = [] := fun g => by
  show pgS n (secD (newD n)) g = []
  rw [secD_img hoff]; exact pgS_nil fun s h => hbad _ s h
 have hfr : freshR (newD n).n (img (newD n)) = true := by
  rw [freshR, Bool.not_eq_true', List.any_eq_false]
  intro s hs
  have hm : s ∈ img (newD n) := by
   rcases List.mem_append.1 hs with h | h
   ·exact List.mem_of_mem_take h
   ·exact List.mem_of_mem_drop h
  obtain ⟨i, hi⟩ := List.getElem?_of_mem hm
  rw [img_get] at hi
  split at hi
  ·rw [← Option.some.inj hi]
   show ¬ (!(decide (((List.replicate 512 0#8).length : Int) = 512) && !((List.replicate 512 0#8).any nz))) = true
   rw [zeros_any, List.length_replicate]; decide
  ·cases hi
 obtain ⟨h1, h2, h3, h4, h5, h6, h7, h8, h9, h10, m1, m2, m3⟩ := open_fresh (new_fine (n := n) (by omega)) hoff (by show (-1 : Int) < 0; decide) hn (by rw [hmk]; decide) (by rw [hnil, hnil, betOK, slotOK_nil]; rfl) hfr
 have hmark : (opn0 (newD n)).mark = 1 := by
  show markOf okS valS (secD (newD n)) + 1 = 1
  rw [secD_img hoff, hmk]; rfl
 have hp : parts (([] : List (BitVec 8)).length : Int) = 1 := by decide
 have h8 : (openX (newD n)).y.n = n := h8
 have pb := pl_bd hn
 have hcore := (core_new (n := n) (mark := (opn0 (newD n)).mark) (b := []) hn (by rw [img_len]; show ((n.toNat : Nat) : Int) = n; omega) (fun i s h _ => hbad i s h) m2 (by rw [hp]; omega) (by rw [hp]; exact m1) (by rw [hp]; exact m3)).2 hbad
 refine ⟨h1, h2, h3, h4, ⟨h5, h6, h7, ?_, by rw [h10]; rfl, ?_, ?_⟩, h8, h9, by rw [h10], by rw [h10]; rfl, by rw [h10]; exact hmark⟩
 ·rw [h8, h10]
  have hO := opn0_ok (y := newD n) hn (by rw [secD_img hoff, hmk]; decide)
  exact ⟨hn, hO.s, hO.f, hO.l, by show (0 : Int) ≤ 1 ∧ (1 : Int) ≤ 2147483648; decide, hO.m, hO.nx⟩
 ·rw [h8, h10]; exact hcore.1
 ·rw [h8, h10]; exact hcore.2
end Go.Vai.WK
namespace Go.Vai.WK
open Go.Proofs Go.Vai Go.Vai.DK Go.Vai.G Go.Vai.L Go.Vai.MP Go.Vai.O Go.Vai.RC Go.Vai.S7 Go.Vai.U Go.Vai.V Go.Vai.Z
set_option linter.unusedSimpArgs false
set_option linter.unusedVariables false
open Go.Vai.DK Go.Vai.U Go.Vai.V Go.Vai.S7 Go.Vai.RC Go.Vai.G
theorem open_y {y : Dk} (h : (openX y).made = false) : (openX y).y = y := by
 by_cases h1 : y.n < 6 ∨ y.n > 1024
 ·rw [open_1 h1]
 by_cases h2 : offD y = true
 ·rw [open_2 h1 h2]
 exfalso
 have h2 : offD y = false := by simpa using h2
 by_cases h3 : markOf okS valS (secD y) + 1 > 2147483648
 ·rw [open_3 h1 h2 h3] at h; cases h
 cases h4 : betOK (pgA y 0) (pgA y 1) with
 | true => rw [open_4 h1 h2 h3 h4] at h; cases h
 | false =>
  cases h5 : freshR y.n (secD y) with
  | true => rw [open_5 h1 h2 h3 h4 h5] at h; cases h
  | false => rw [open_6 h1 h2 h3 h4 h5] at h; cases h
section
variable {G : List (List AV)} {w d is iw : Nat} {x : Wk} {y : Dk} {B : List (BitVec 8)} {R : PSl}
theorem out_has (hD : HasD G d is iw y) (hm : (openX y).made = true) : HasB (outG G d is iw y) G.length d is iw (openX y).x (openX y).y := by
 rw [outG, hm, if_pos rfl]; exact wb_has (opn_has hD)
theorem out_hasD (hD : HasD G d is iw y) : HasD (outG G d is iw y) d is iw (openX y).y := by
 cases hm : (openX y).made with
 | true => exact (out_has hD hm).hD
 | false => rw [outG, hm, open_y hm]; exact hD
theorem hasB_D (hB : HasB G w d is iw x y) {z : Dk} : HasB (wrD G d is iw z) w d is iw x z := by
 have h := wb_has (x' := x) (y' := z) hB
 obtain ⟨n1, n2, n3⟩ := hB.ne
 refine ⟨?_, wr_has hB.hD⟩
 rw [wr_other n1 n2 n3]; exact hB.hx
end
attribute [go_sem] outP_0
theorem aw_1 {y0 : Dk} (h : y0 = newD 20) : (openX y0).made = true ∧ (openX y0).e = 0 ∧ (openX y0).b = [] ∧ (openX y0).rs = [] ∧ WInv (openX y0).x (openX y0).y [] [] ∧ (openX y0).y.n = 20 ∧ (openX y0).y.armed = -1 ∧ (openX y0).x.gen = 1 ∧ (openX y0).x.next = 0 ∧ (openX y0).x.mark = 1 := by
 subst h; exact open_new (n := 20) (by decide)
theorem aw_l {x : Wk} {y : Dk} {B : List (BitVec 8)} {R : PSl} (h : WInv x y B R) (hn : y.n = 20) : x.l = 10 ∧ x.s = 5 ∧ x.f = 10 := by
 rw [h.ok.l, h.ok.s, h.ok.f, hn]; decide
theorem com_one {x : Wk} {y : Dk} {B : List (BitVec 8)} {R : PSl} {c : BitVec 8} (h : WInv x y B R) (ha : y.armed < 0) (hl : x.next < x.l) : (comX x y [c]).2.2 = 0 ∧ WInv (comX x y [c]).1 (comX x y [c]).2.1 B (R ++ [(false, [c])]) ∧ (comX x y [c]).1.next = x.next + 1 ∧ (comX x y [c]).1.gen = x.gen ∧ (comX x y [c]).1.mark = x.mark ∧ (comX x y [c]).2.1.n = y.n ∧ (comX x y [c]).2.1.armed = y.armed := by
 have hp : parts (([c] : List (BitVec 8)).length : Int) = 1 := by show parts 1 = 1; decide
 have hg := h.ok.g; have hm := h.ok.m; have hx := h.ok.nx; have hn := h.ok.hn; have hl2 := h.ok.l
 have pb := pl_bd hn
 have w1 : wi x.gen 0 2147483648 = true := by rw [wi, decide_eq_true (by omega), decide_eq_true (by omega)]; rfl
 have w2 : wi x.mark 0 2147483648 = true := by rw [wi, decide_eq_true (by omega), decide_eq_true (by omega)]; rfl
 have w3 : wi (x.next + ((0 : Nat) : Int)) 0 2147483648 = true := by rw [wi, decide_eq_true (by omega), decide_eq_true (by omega)]; rfl
 have hso : splitOK (pgH x) [c] = true := by
  rw [splitOK, hp]
  have e : splitP (pgH x) false [c] (1 : Int).toNat = [⟨2, x.gen, x.mark, x.next + ((0 : Nat) : Int), 0, 1, false, [c]⟩] := by
   show [pageAt (pgH x) false [c] (parts (([c] : List (BitVec 8)).length : Int)) 0] = _
   rw [hp]; rfl
  rw [e]
  simp only [allPages, List.all_cons, List.all_nil, pageOK, w1, w2, w3]
  rfl
 rcases com_cases h [c] with ⟨q1, q2, q3, q4, q5, q6, q7⟩ | ⟨_, _, _, q⟩ | ⟨_, _, _, _, q | q⟩
 ·rw [hp] at q5
  exact ⟨q1, q2, q5, q3, q4, q6, q7 ha⟩
 ·have := q.a; omega
 ·rw [hso] at q; cases q
 ·rw [hp] at q; omega
theorem tur_one {x : Wk} {y : Dk} {B : List (BitVec 8)} {R : PSl} {c : BitVec 8} (h : WInv x y B R) (ha : y.armed < 0) (hg2 : x.gen < 2147483648) : (turX x y [c]).2.2 = 0 ∧ WInv (turX x y [c]).1 (turX x y [c]).2.1 [c] [] ∧ (turX x y [c]).1.gen = x.gen + 1 ∧ (turX x y [c]).1.mark = x.mark ∧ (turX x y [c]).2.1.n = y.n ∧ (turX x y [c]).2.1.armed = y.armed := by
 have hp : parts (([c] : List (BitVec 8)).length : Int) = 1 := by show parts 1 = 1; decide
 have hg := h.ok.g; have hm := h.ok.m; have hn := h.ok.hn; have hs := h.ok.s
 have pb := pl_bd hn
 have w1 : wi (x.gen + 1) 0 2147483648 = true := by rw [wi, decide_eq_true (by omega), decide_eq_true (by omega)]; rfl
 have w2 : wi x.mark 0 2147483648 = true := by rw [wi, decide_eq_true (by omega), decide_eq_true (by omega)]; rfl
 have hso : splitOK (secP (x.gen + 1) x.mark) [c] = true := by
  rw [splitOK, hp]
  have e : splitP (secP (x.gen + 1) x.mark) false [c] (1 : Int).toNat = [⟨1, x.gen + 1, x.mark, 0, 0, 1, false, [c]⟩] := by
   show [pageAt (secP (x.gen + 1) x.mark) false [c] (parts (([c] : List (BitVec 8)).length : Int)) 0] = _
   rw [hp]; rfl
  rw [e]
  simp only [allPages, List.all_cons, List.all_nil, pageOK, w1, w2]
  rfl
 rcases tur_cases h [c] with ⟨q1, q2, q3, q4, q5, q6, q7⟩ | ⟨_, _, _, _, q⟩ | ⟨_, _, _, _, q | q | q | q⟩
 ·exact ⟨q1, q2, q3, q4, q6, q7 ha⟩
 ·have := q.a; omega
 ·rw [hp] at q; omega
 ·rw [hp] at q; omega
 ·omega
 ·exfalso; apply q
  rw [secE, hp, if_neg (by omega), splitE, hp, hso]; rfl
theorem aw_3 {x : Wk} {y : Dk} (h : WInv x y [] [(false, [7#8])]) (hn : y.n = 20) (h1 : x.next = 1) (h2 : x.gen = 1) (h3 : x.mark = 1) :
  (openX (crashD y [])).e = 0 ∧ (openX (crashD y [])).made = true ∧ (openX (crashD y [])).rs = [(false, [7#8])] ∧ (openX (crashD y [])).x.l = 10 ∧ (openX (crashD y [])).x.next = 1 ∧ WInv (openX (crashD y [])).x (openX (crashD y [])).y (openX (crashD y [])).b (openX (crashD y [])).rs := by
 obtain ⟨c1, c2⟩ := crash_still h []
 have hcn := crash_n y []
 rw [← hcn] at c1
 obtain ⟨o1, o2⟩ := open_W (y := crashD y []) (crash_fine h.f) (crash_off [] h.f) (fun i => rfl) c1 (by rw [h2]; decide) (by omega)
 rw [o1]
 refine ⟨rfl, rfl, rfl, ?_, h1, o2⟩
 show (ploN (crashD y []).n).l = 10
 rw [hcn, hn]; decide
end Go.Vai.WK
namespace Go.Vai.WK
open Go.Proofs Go.Vai Go.Vai.DK Go.Vai.G Go.Vai.L Go.Vai.MP Go.Vai.O Go.Vai.RC Go.Vai.S7 Go.Vai.U Go.Vai.V Go.Vai.Z
set_option linter.unusedSimpArgs false
set_option linter.unusedVariables false
open Go.Vai.DK Go.Vai.U Go.Vai.V Go.Vai.S7 Go.Vai.RC Go.Vai.G
def fim (y : Dk) : PSl := img (crashD y [])
def inS (n p : Int) (i : Nat) : Prop := (p % 2 * (ploN n).s).toNat ≤ i ∧ i < (p % 2 * (ploN n).s).toNat + (ploN n).s.toNat
def VS (n : Int) (S : PSl) (p : Int) : Prop := slotOK (pgS n S p) = true ∧ slotG (pgS n S p) % 2 = p % 2
structure TInv (n : Int) (y : Dk) (p : Int) : Prop where
 hn : 6 ≤ n ∧ n ≤ 1024
 f : Fine y
 yn : y.n = n
 v : VS n (fim y) p
 q : ∀ i : Nat, inS n p i → y.waits (i : Int) = none
section
variable {n p : Int} {y : Dk} {x : Wk} {b : List (BitVec 8)}
end
end Go.Vai.WK
namespace Go.Vai.W8
open Go.Proofs Go.Vai Go.Vai.O Go.Vai.U
set_option linter.unusedSimpArgs false
set_option linter.unusedVariables false
set_option maxHeartbeats 4000000
set_option maxRecDepth 100000
open Go.Vai.U
attribute [simp] noPtr_ps noPtrL_ps
def txts (a b : List (Bool × List (BitVec 8))) : Bool := decide (a.map Prod.snd = b.map Prod.snd)
end Go.Vai.W8
namespace Go.Vai.W8
open Go.Proofs Go.Vai Go.Vai.O Go.Vai.U
set_option linter.unusedSimpArgs false
set_option linter.unusedVariables false
set_option maxHeartbeats 4000000
set_option maxRecDepth 100000
def placeS (x : BitVec 8) : Int := 6 + (x.toNat : Int) % 36
def blankS (l : List (BitVec 8)) : Bool := !(l.any fun x => decide ((x.toNat : Int) ≠ 0))
end Go.Vai.W8
namespace Go.Vai.W8
open Go.Proofs Go.Vai Go.Vai.O Go.Vai.U
set_option linter.unusedSimpArgs false
set_option linter.unusedVariables false
set_option maxHeartbeats 4000000
set_option maxRecDepth 100000
theorem rep_u80 (n : Nat) : List.replicate n (u8 0#8) = (List.replicate n 0#8).map u8 := by simp
attribute [go_sem] rep_bsl0 rep_u80
def modS (n : Int) : Int := if n.tmod 3000 < 0 then n.tmod 3000 + 3000 else n.tmod 3000
def byS (n : Int) (c : BitVec 8) : List (BitVec 8) := if modS n > 0 then (List.replicate (modS n).toNat 0#8).set ((modS n).toNat - 1) c else []
end Go.Vai.W8
namespace Go.Vai.W8
open Go.Proofs Go.Vai Go.Vai.DK Go.Vai.O Go.Vai.U
set_option linter.unusedSimpArgs false
set_option linter.unusedVariables false
set_option maxHeartbeats 4000000
set_option maxRecDepth 100000
open Go.Vai.DK Go.Vai.U
def lightT (ts : List Tear) : Bool := decide ((ts.length : Int) ≤ 40) && ts.all fun t => decide ((t.b.length : Int) ≤ 600)
abbrev TS := Bool × List Tear
def a3A (p : TS) : AV := .agg [i64 0, i64 0, .sl 1 true [], .b false, .sl 2 p.1 (p.2.map tearA)]
theorem cellsOf_a3 (p : TS) : cellsOf (a3A p) = [i64 0, i64 0, .sl 1 true [], .b false, .sl 2 p.1 (p.2.map tearA)] := rfl
@[simp] theorem noPtr_a3 (p : TS) : noPtr (a3A p) = true := by simp [a3A, noPtr, noPtrL, noPtrL_tear]
theorem noPtrL_a3 (l : List TS) : noPtrL (l.map a3A) = true := noPtrL_map noPtr_a3 l
attribute [go_sem] cellsOf_a3
attribute [simp] noPtrL_a3
structure Act8 where
  d : Int
  n : Int
  c : BitVec 8
  tn : Bool
  ts : List Tear
def act8A (a : Act8) : AV := .agg [i64 a.d, i64 a.n, u8 a.c, .sl 2 a.tn (a.ts.map tearA)]
theorem cellsOf_act8 (a : Act8) : cellsOf (act8A a) = [i64 a.d, i64 a.n, u8 a.c, .sl 2 a.tn (a.ts.map tearA)] := rfl
@[simp] theorem noPtr_act8 (a : Act8) : noPtr (act8A a) = true := by simp [act8A, noPtr, noPtrL, noPtrL_tear]
theorem noPtrL_act8 (l : List Act8) : noPtrL (l.map act8A) = true := noPtrL_map noPtr_act8 l
def light8 (l : List Act8) : Bool := ((l.take 26).all fun a => lightT a.ts) && decide ((l.length : Int) ≤ 25)
attribute [go_sem] cellsOf_act8
attribute [simp] noPtrL_act8
end Go.Vai.W8
namespace Go.Vai.WK
open Go.Proofs Go.Vai Go.Vai.DK Go.Vai.G Go.Vai.L Go.Vai.MP Go.Vai.O Go.Vai.RC Go.Vai.S7 Go.Vai.U Go.Vai.V Go.Vai.W8 Go.Vai.Z
set_option linter.unusedSimpArgs false
set_option linter.unusedVariables false
open Go.Vai.DK Go.Vai.U Go.Vai.V Go.Vai.S7 Go.Vai.RC Go.Vai.G Go.Vai.W8
structure ST where
 G : List (List AV)
 y : Dk
 w : Option (Nat × Wk)
def wAV : Option (Nat × Wk) → AV
 | none => .base (.pointer none)
 | some (w, _) => .gp w 0
theorem wAV_n : wAV none = .base (.pointer none) := rfl
theorem wAV_s (w : Nat) (x : Wk) : wAV (some (w, x)) = .gp w 0 := rfl
def stepT (s : ST) (a : Act8) : ST := match s.w with
 | none => s
 | some (w, x) =>
  if a.d = 0 then ⟨wrB s.G w 2 0 1 (comX x s.y (byS a.n a.c)).1 (comX x s.y (byS a.n a.c)).2.1, (comX x s.y (byS a.n a.c)).2.1, some (w, (comX x s.y (byS a.n a.c)).1)⟩
  else if a.d = 1 then ⟨wrB s.G w 2 0 1 (turX x s.y (byS a.n a.c)).1 (turX x s.y (byS a.n a.c)).2.1, (turX x s.y (byS a.n a.c)).2.1, some (w, (turX x s.y (byS a.n a.c)).1)⟩
  else if a.d = 2 then ⟨wrD s.G 2 0 1 (armD s.y (a.n.tmod 9)), armD s.y (a.n.tmod 9), some (w, x)⟩
  else if a.d = 3 then ⟨outG (wrD s.G 2 0 1 (crashD s.y a.ts)) 2 0 1 (crashD s.y a.ts), (openX (crashD s.y a.ts)).y, if (openX (crashD s.y a.ts)).e = 0 then some (s.G.length, (openX (crashD s.y a.ts)).x) else none⟩
  else s
def stS (s : ST) (l : List Act8) : Nat → ST
 | 0 => s
 | k + 1 => match l[k]? with
  | some a => stepT (stS s l k) a
  | none => stS s l k
section
variable {s : ST} {l : List Act8} {k : Nat} {a : Act8} {w : Nat} {x : Wk} {n : Int}
structure STok (n : Int) (s : ST) : Prop where
 d : HasD s.G 2 0 1 s.y
 t : ∃ p, TInv n s.y p
 b : ∀ w x, s.w = some (w, x) → HasB s.G w 2 0 1 x s.y ∧ WOK x n ∧ TInv n s.y x.gen
end
theorem resOf_0 {d : Tmp} : resOf (some d) [] = M.ret (.tup []) := rfl
attribute [go_sem] wAV_n wAV_s resOf_0
theorem wf_u8b {n : Int} (h : (Lit.int .u8 n).wf = true) : ∃ x : BitVec 8, n = (x.toNat : Int) := by
 have := wf_u8 h
 exact ⟨BitVec.ofInt 8 n, by rw [BitVec.toNat_ofInt]; simp; omega⟩
end Go.Vai.WK
namespace Go.Vai.WK
open Go.Proofs Go.Vai Go.Vai.DK Go.Vai.G Go.Vai.L Go.Vai.MP Go.Vai.O Go.Vai.RC Go.Vai.S7 Go.Vai.U Go.Vai.V Go.Vai.W8 Go.Vai.Z
set_option linter.unusedSimpArgs false
set_option linter.unusedVariables false
set_option maxHeartbeats 4000000
set_option maxRecDepth 100000
open Go.Vai.DK Go.Vai.U Go.Vai.V Go.Vai.S7 Go.Vai.RC Go.Vai.G Go.Vai.W8
attribute [simp] noPtr_ps noPtrL_ps
/-! both slots spoilt -/
theorem one_bad {S : List (BitVec 8)} (h : S[0]? = some 1#8) : pgGood S = false := by
  cases e : pgGood S with
  | false => rfl
  | true =>
    exfalso
    obtain ⟨e1, e2⟩ := Go.Vai.G.good_512 e
    have e3 := Go.Vai.G.good_in e1 e2
    obtain ⟨e4, _⟩ := Go.Vai.G.okV_is e1 e2
    rw [e, Go.Vai.G.pgIn, e4] at e3
    have e5 : hasP (S.take 508) Go.Vai.G.mag = true := by
      cases q : hasP (S.take 508) Go.Vai.G.mag with
      | true => rfl
      | false => rw [q, Bool.false_and] at e3; cases e3
    cases S with
    | nil => cases h
    | cons a t =>
      obtain rfl : a = 1#8 := Option.some.inj h
      revert e5
      simp [hasP, Go.Vai.G.mag]
def spW (y : Dk) (S : List (BitVec 8)) : Dk := fluX (wriX (wriX y 0 S) 5 S)
theorem spoilt {x : Wk} {y : Dk} {B S : List (BitVec 8)} {R : PSl} (h : WInv x y B R) (ha : y.armed = -1) (hn : y.n = 20) (hm : x.mark = 1) (hS : S.length = 512) (h1 : S[0]? = some 1#8) :
    wriE y 0 S = 0 ∧ wriE (wriX y 0 S) 5 S = 0 ∧ fluE (wriX (wriX y 0 S) 5 S) = 0 ∧ Fine (spW y S) ∧ openX (spW y S) = ⟨true, opn0 (spW y S), spW y S, [], [], 8⟩ := by
  have ac : ∀ z : Dk, z.armed = -1 → actD z = z ∧ actE z = 0 := fun z hz => act_n (by omega) (by omega)
  have w1 := wri_ok (x := y) (i := 0) (b := S) h.off (by omega) (by rw [(ac y ha).2]; decide)
  rw [(ac y ha).1] at w1
  have ho1 : offD (putW y 0 S) = false := h.off
  have hn1 : (putW y 0 S).n = 20 := hn
  have ha1 : (putW y 0 S).armed = -1 := ha
  have w2 := wri_ok (x := putW y 0 S) (i := 5) (b := S) ho1 (by omega) (by rw [(ac _ ha1).2]; decide)
  rw [(ac _ ha1).1] at w2
  have ho2 : offD (putW (putW y 0 S) 5 S) = false := h.off
  have ha2 : (putW (putW y 0 S) 5 S).armed = -1 := ha
  have w3 := flu_ok (x := putW (putW y 0 S) 5 S) ho2 (by rw [(ac _ ha2).2]; decide)
  rw [(ac _ ha2).1] at w3
  have ez : spW y S = flD (putW (putW y 0 S) 5 S) := by rw [spW, w1.2, w2.2, w3.2]
  obtain ⟨z, hz⟩ : ∃ z, z = spW y S := ⟨_, rfl⟩
  have hF : Fine z := by rw [hz]; exact flu_fine (wri_fine (wri_fine h.f))
  rw [w1.2, w2.2, ← hz]
  refine ⟨w1.1, w2.1, w3.1, hF, ?_⟩
  rw [ez] at hz
  have hzn : z.n = 20 := by rw [hz]; exact hn
  have hzo : offD z = false := by rw [hz]; exact h.off
  have hrd : ∀ i : Int, readD z i = if i = 5 then S else if i = 0 then S else readD y i := fun i => by rw [hz, read_flD, read_put, read_put]
  have hsd := secD_img hzo
  have bad := one_bad h1
  have h5 : (ploN 20).s = 5 := by decide
  have hat : ∀ (i : Nat) s, (img z)[i]? = some s → (i = 0 ∨ i = 5) → okS s = false := fun i s hs hi => by
    rw [img_get] at hs
    split at hs
    · rw [← Option.some.inj hs]
      show pgGood (readD z (i : Int)) = false
      rw [hrd]
      rcases hi with rfl | rfl
      · exact bad
      · exact bad
    · cases hs
  have hmk : markOf okS valS (img z) ≤ 1 := by
    refine mark_le (by decide) fun i s hs hok => ?_
    by_cases hi : i = 0 ∨ i = 5
    · rw [hat i s hs hi] at hok; cases hok
    · refine Int.le_trans (h.mks.m3 i s ?_ hok) (by rw [hm]; decide)
      rw [img_get] at hs ⊢
      rw [hzn] at hs; rw [hn]
      split at hs
      · rename_i hlt
        rw [if_pos hlt, ← hs, hrd, if_neg (by omega), if_neg (by omega)]
      · cases hs
  have hnil : ∀ g, (g % 2 * 5).toNat = 0 ∨ (g % 2 * 5).toNat = 5 → pgA z g = [] := fun g hg => by
    show pgS z.n (secD z) g = []
    rw [hsd, hzn]
    exact pgS_nil fun s hs => by rw [h5] at hs; exact hat _ s hs hg
  have hn0 := hnil 0 (.inl rfl)
  have hn1 := hnil 1 (.inr rfl)
  refine open_6 (by omega) hzo (by rw [hsd]; omega) (by rw [hn0, hn1, betOK, slotOK_nil]; rfl) ?_
  cases e : freshR z.n (secD z) with
  | false => rfl
  | true =>
    exfalso
    rw [hsd] at e
    have e0 : (img z)[0]? = some (false, S) := by
      rw [img_get, if_pos (by omega)]
      show some (false, readD z 0) = _
      rw [hrd, if_neg (by decide), if_pos rfl]
    have hb := fresh_of e (by omega) e0 (.inl (by rw [hzn, h5]; decide))
    simp only [blankP, Bool.and_eq_true, decide_eq_true_eq, Bool.not_eq_true'] at hb
    have h2 := (any_nz S).1 hb.2
    rw [h2, List.getElem?_replicate, if_pos (by omega)] at h1
    revert h1; decide
theorem spo_S (a : BitVec 8) (b : List (BitVec 8)) (hb : b.length ≤ 400) : (cpyS ([1#8, a] ++ b) (List.replicate 512 0#8)).length = 512 ∧ (cpyS ([1#8, a] ++ b) (List.replicate 512 0#8))[0]? = some 1#8 := by
  refine ⟨by rw [cpyS_len, List.length_replicate], ?_⟩
  rw [cpyS, List.length_replicate, List.take_of_length_le (by simp; omega)]; rfl
theorem open_small {y : Dk} (h : y.n = 5) : openX y = ⟨false, opn0 y, y, [], [], 1⟩ := open_1 (by omega)
theorem eOf_0 : eOf 0 = 1 := by decide
attribute [go_sem] eOf_0
theorem good_SizeD0 (G : List (List AV)) : Good Tryz.prog 36 [(.base (.pointer none), false)] G [(i64 0, false)] G := by
  refine good_of_body2 9 Tryz.func36 rfl rfl rfl (by simp) ?_
  intro s m ha hr hv hG
  have f0 : s 0 = .v (.base (.pointer none)) := ha 0 _ rfl
  clear ha
  have hc : True := trivial
  have F := (And.intro f0 hG)
  refine AW.seq ?_
  refine AW.region (cfg := cfg) ?_
  refine stp (fun _ h => s0 h) ?_
  refine aops_nil ?_
  refine AW.seq ?_
  refine AW.seq ?_
  refine AW.region (cfg := cfg) ?_
  iterate 2 refine stp (fun _ h => s0 h) ?_
  refine aops_nil ?_
  refine cnd (fun hb => ?ht1) (fun hb => ?hf1)
  case hf1 => simp at hb
  case ht1 =>
  have hbt4 := hb
  refine AW.seq ?_
  refine AW.region (cfg := cfg) ?_
  refine stp (fun _ h => s0 h) ?_
  refine aops_nil ?_
  refine AW.ret ?_
  refine ⟨.inr rfl, ?_⟩
  refine leaves_tmp1 2 rfl ?_ (by exact hG)
  simp (disch := first | omega | decide) only [go_sem, F, aIndex_map]
  all_goals first | done | rfl | trace_state
theorem good_SizeDz (G : List (List AV)) (d : Nat) (hd : G[d]? = some [i64 0, .base (.map none), .base (.map none), i64 0, .b false]) : Good Tryz.prog 36 [(.gp d 0, false)] G [(i64 0, false)] G := by
  refine good_of_body2 9 Tryz.func36 rfl rfl rfl (by simp) ?_
  intro s m ha hr hv hG
  have f0 : s 0 = .v (.gp d 0) := ha 0 _ rfl
  clear ha
  have hc : True := trivial
  have F := (And.intro f0 hG)
  refine AW.seq ?_
  refine AW.region (cfg := cfg) ?_
  refine stp (fun _ h => s0 h) ?_
  refine aops_nil ?_
  refine AW.seq ?_
  refine AW.seq ?_
  refine AW.region (cfg := cfg) ?_
  iterate 2 refine stp (fun _ h => s0 h) ?_
  refine aops_nil ?_
  refine cnd (fun hb => ?ht1) (fun hb => ?hf1)
  case ht1 => simp at hb
  case hf1 =>
  have hbt4 := hb
  refine AW.skip ?_
  refine AW.seq ?_
  refine AW.region (cfg := cfg) ?_
  refine stp (fun _ h => s0 h) ?_
  refine stp (fun _ h => sd h) ?_
  refine stp (fun _ h => sx h) ?_
  refine stp (fun _ h => sl h) ?_
  refine stp (fun _ h => s0 h) ?_
  refine aops_nil ?_
  refine AW.ret ?_
  refine ⟨.inr rfl, ?_⟩
  refine leaves_tmp1 2 rfl ?_ (by exact hG)
  simp (disch := first | omega | decide) only [go_sem, F, aIndex_map]
  all_goals first | done | rfl | trace_state
theorem good_OpenW0 (G : List (List AV)) : Good Tryz.prog 9 [(.base (.pointer none), false)] G [(.base (.pointer none), false), (.sl 1 true ([] : List AV), false), (.sl 1 true ([] : List AV), false), (i64 1, false)] G := by
  refine good_of_body2 91 Tryz.func9 rfl rfl rfl (by simp) ?_
  intro s m ha hr hv hG
  have f0 : s 0 = .v (.base (.pointer none)) := ha 0 _ rfl
  clear ha
  have hc : True := trivial
  have F := (And.intro f0 hG)
  refine AW.seq ?_
  refine AW.region (cfg := cfg) ?_
  iterate 4 refine stp (fun _ h => s0 h) ?_
  refine aops_nil ?_
  refine AW.seq ?_
  refine AW.region (cfg := cfg) ?_
  refine stp (fun _ h => s0 h) ?_
  refine stp (fun _ h => cg (w := good_SizeD0 G) (x := h)) ?_
  refine stp (fun _ h => cr (w := good_MakeP 0 (by decide)) (x := h)) ?_
  iterate 3 refine stp (fun _ h => s0 h) ?_
  refine stp (fun _ h => sd h) ?_
  refine stp0 (fun _ h => ss h) ?_
  refine stp (fun _ h => s0 h) ?_
  refine aops_nil ?_
  refine AW.seq ?_
  refine AW.seq ?_
  refine AW.region (cfg := cfg) ?_
  iterate 3 refine stp (fun _ h => s0 h) ?_
  iterate 2 refine mrg wa (fun hc _ h => s0 h) ?_
  refine stp (fun _ h => s0 h) ?_
  refine aops_nil ?_
  refine cnd (fun hb => ?ht1) (fun hb => ?hf1)
  case hf1 => simp at hb
  case ht1 =>
  have hbt26 := hb
  refine AW.seq ?_
  refine AW.region (cfg := cfg) ?_
  iterate 4 refine stp (fun _ h => s0 h) ?_
  refine aops_nil ?_
  refine AW.ret ?_
  refine ⟨.inr rfl, ?_⟩
  refine leaves_mwp2 (rs := [.tmp 2, .tmp 3, .tmp 4, .tmp 5]) rfl ?_
  simp (config := {failIfUnchanged := false}) [giveL, srcOne, rehome, freezeN, sub, upd, opn, aLoad, loadL, giveOne, reify, reifyL, readL, readOne, Mwp, M.bind, Mem.set, setAt, cellsL, hG, f0]
  all_goals first | done | rfl | trace_state
theorem good_OpenWz (G : List (List AV)) (d : Nat) (hd : G[d]? = some [i64 0, .base (.map none), .base (.map none), i64 0, .b false]) : Good Tryz.prog 9 [(.gp d 0, false)] G [(.base (.pointer none), false), (.sl 1 true ([] : List AV), false), (.sl 1 true ([] : List AV), false), (i64 1, false)] G := by
  refine good_of_body2 91 Tryz.func9 rfl rfl rfl (by simp) ?_
  intro s m ha hr hv hG
  have f0 : s 0 = .v (.gp d 0) := ha 0 _ rfl
  clear ha
  have hc : True := trivial
  have F := (And.intro f0 hG)
  refine AW.seq ?_
  refine AW.region (cfg := cfg) ?_
  iterate 4 refine stp (fun _ h => s0 h) ?_
  refine aops_nil ?_
  refine AW.seq ?_
  refine AW.region (cfg := cfg) ?_
  refine stp (fun _ h => s0 h) ?_
  refine stp (fun _ h => cg (w := good_SizeDz G d hd) (x := h)) ?_
  refine stp (fun _ h => cr (w := good_MakeP 0 (by decide)) (x := h)) ?_
  iterate 3 refine stp (fun _ h => s0 h) ?_
  refine stp (fun _ h => sd h) ?_
  refine stp0 (fun _ h => ss h) ?_
  refine stp (fun _ h => s0 h) ?_
  refine aops_nil ?_
  refine AW.seq ?_
  refine AW.seq ?_
  refine AW.region (cfg := cfg) ?_
  iterate 3 refine stp (fun _ h => s0 h) ?_
  iterate 2 refine mrg wa (fun hc _ h => s0 h) ?_
  refine stp (fun _ h => s0 h) ?_
  refine aops_nil ?_
  refine cnd (fun hb => ?ht1) (fun hb => ?hf1)
  case hf1 => simp at hb
  case ht1 =>
  have hbt26 := hb
  refine AW.seq ?_
  refine AW.region (cfg := cfg) ?_
  iterate 4 refine stp (fun _ h => s0 h) ?_
  refine aops_nil ?_
  refine AW.ret ?_
  refine ⟨.inr rfl, ?_⟩
  refine leaves_mwp2 (rs := [.tmp 2, .tmp 3, .tmp 4, .tmp 5]) rfl ?_
  simp (config := {failIfUnchanged := false}) [giveL, srcOne, rehome, freezeN, sub, upd, opn, aLoad, loadL, giveOne, reify, reifyL, readL, readOne, Mwp, M.bind, Mem.set, setAt, cellsL, hG, f0]
  all_goals first | done | rfl | trace_state
theorem good_GenWz (G : List (List AV)) (w : Nat) (x : Wk) (hW : HasW G w (.base (.pointer none)) x) : Good Tryz.prog 15 [(.gp w 0, false)] G [(i64 x.gen, false)] G := by
  refine good_of_body2 9 Tryz.func15 rfl rfl rfl (by simp) ?_
  intro s m ha hr hv hG
  have f0 : s 0 = .v (.gp w 0) := ha 0 _ rfl
  clear ha
  have hc : True := trivial
  have F := (And.intro f0 hG)
  have hx := hW.hx
  refine AW.seq ?_
  refine AW.region (cfg := cfg) ?_
  refine stp (fun _ h => s0 h) ?_
  refine aops_nil ?_
  refine AW.seq ?_
  refine AW.seq ?_
  refine AW.region (cfg := cfg) ?_
  iterate 2 refine stp (fun _ h => s0 h) ?_
  refine aops_nil ?_
  refine cnd (fun hb => ?ht1) (fun hb => ?hf1)
  case ht1 => simp at hb
  case hf1 =>
  have hbt4 := hb
  refine AW.skip ?_
  refine AW.seq ?_
  refine AW.region (cfg := cfg) ?_
  refine stp (fun _ h => s0 h) ?_
  refine stp (fun _ h => sd h) ?_
  refine stp (fun _ h => sx h) ?_
  refine stp (fun _ h => sl h) ?_
  refine stp (fun _ h => s0 h) ?_
  refine aops_nil ?_
  refine AW.ret ?_
  refine ⟨.inr rfl, ?_⟩
  refine leaves_tmp1 2 rfl ?_ (by exact hG)
  simp (disch := first | omega | decide) only [go_sem, F, aIndex_map]
  all_goals first | done | rfl | trace_state
theorem good_FreeWz (G : List (List AV)) (w : Nat) (x : Wk) (hW : HasW G w (.base (.pointer none)) x) (hr : 0 ≤ x.next ∧ x.next ≤ 100000 ∧ 0 ≤ x.l ∧ x.l ≤ 100000) : Good Tryz.prog 16 [(.gp w 0, false)] G [(i64 (x.l - x.next), false)] G := by
  refine good_of_body2 15 Tryz.func16 rfl rfl rfl (by simp) ?_
  intro s m ha hr hv hG
  have f0 : s 0 = .v (.gp w 0) := ha 0 _ rfl
  clear ha
  have hc : True := trivial
  have F := (And.intro f0 hG)
  have hx := hW.hx
  refine AW.seq ?_
  refine AW.region (cfg := cfg) ?_
  refine stp (fun _ h => s0 h) ?_
  refine aops_nil ?_
  refine AW.seq ?_
  refine AW.seq ?_
  refine AW.region (cfg := cfg) ?_
  iterate 2 refine stp (fun _ h => s0 h) ?_
  refine aops_nil ?_
  refine cnd (fun hb => ?ht1) (fun hb => ?hf1)
  case ht1 => simp at hb
  case hf1 =>
  have hbt4 := hb
  refine AW.skip ?_
  refine AW.seq ?_
  refine AW.draw (cfg := cfg) (by kernel_rfl) (by kernel_rfl) (by kernel_rfl) ?_
  refine dstp (fun _ h => s0 h) ?_
  refine dstp (fun _ h => sd h) ?_
  iterate 2 refine dstp (fun _ h => sx h) ?_
  refine dstp (fun _ h => sl h) ?_
  refine dstp (fun _ h => s0 h) ?_
  refine dstp (fun _ h => sd h) ?_
  refine dstp (fun _ h => sx h) ?_
  refine dstp (fun _ h => sl h) ?_
  refine dstp (fun _ h => sd h) ?_
  refine dstp (fun _ h => s0 h) ?_
  refine adraw_nil (by kernel_rfl) ?_
  refine AW.ret ?_
  refine ⟨.inr rfl, ?_⟩
  refine leaves_tmp1 2 rfl ?_ (by exact hG)
  simp (disch := first | omega | decide) only [go_sem, F, aIndex_map]
  all_goals first | done | rfl | trace_state
theorem good_RoomWz (G : List (List AV)) (w : Nat) (x : Wk) (hW : HasW G w (.base (.pointer none)) x) : Good Tryz.prog 17 [(.gp w 0, false)] G [(i64 x.s, false)] G := by
  refine good_of_body2 10 Tryz.func17 rfl rfl rfl (by simp) ?_
  intro s m ha hr hv hG
  have f0 : s 0 = .v (.gp w 0) := ha 0 _ rfl
  clear ha
  have hc : True := trivial
  have F := (And.intro f0 hG)
  have hx := hW.hx
  refine AW.seq ?_
  refine AW.region (cfg := cfg) ?_
  refine stp (fun _ h => s0 h) ?_
  refine aops_nil ?_
  refine AW.seq ?_
  refine AW.seq ?_
  refine AW.region (cfg := cfg) ?_
  iterate 2 refine stp (fun _ h => s0 h) ?_
  refine aops_nil ?_
  refine cnd (fun hb => ?ht1) (fun hb => ?hf1)
  case ht1 => simp at hb
  case hf1 =>
  have hbt4 := hb
  refine AW.skip ?_
  refine AW.seq ?_
  refine AW.region (cfg := cfg) ?_
  refine stp (fun _ h => s0 h) ?_
  refine stp (fun _ h => sd h) ?_
  iterate 2 refine stp (fun _ h => sx h) ?_
  refine stp (fun _ h => sl h) ?_
  refine stp (fun _ h => s0 h) ?_
  refine aops_nil ?_
  refine AW.ret ?_
  refine ⟨.inr rfl, ?_⟩
  refine leaves_tmp1 2 rfl ?_ (by exact hG)
  simp (disch := first | omega | decide) only [go_sem, F, aIndex_map]
  all_goals first | done | rfl | trace_state
end Go.Vai.WK
namespace Go.Vai.WK
open Go.Proofs Go.Vai Go.Vai.DK Go.Vai.G Go.Vai.L Go.Vai.MP Go.Vai.O Go.Vai.RC Go.Vai.S7 Go.Vai.U Go.Vai.V Go.Vai.Z
set_option linter.unusedSimpArgs false
set_option linter.unusedVariables false
set_option maxHeartbeats 4000000
set_option maxRecDepth 100000
open Go.Vai.DK Go.Vai.U Go.Vai.V Go.Vai.S7 Go.Vai.RC Go.Vai.G
theorem good_awake8  : Good Tryz.prog 8 [] [] [(.b true, false)] [] := by
  refine good_of_body4 99 Tryz.func8 rfl rfl rfl (by simp) (by simp) (by simp [noPtrL, noPtr]) (by rfl) ?_
  intro s m ha hr hv hG
  clear ha
  have hc : True := trivial
  have F := hG
  refine AW.seq ?_
  refine AW.region (cfg := cfg) ?_
  refine stp (fun _ h => s0 h) ?_
  refine aops_nil ?_
  refine AW.seq ?_
  refine AW.region (cfg := cfg) ?_
  refine stp (fun _ h => cg (w := (DK.good_NewG [] 20 (by decide) : Good _ _ _ [] [(.gp 2 0, false), (i64 0, false)] _)) (x := h)) ?_
  iterate 5 refine stp (fun _ h => s0 h) ?_
  refine aops_nil ?_
  refine AW.seq ?_
  refine AW.seq ?_
  obtain ⟨y0, hy0⟩ : ∃ y0, y0 = newD 20 := ⟨_, rfl⟩
  have hD1 : HasD (DK.newG [] 20) 2 0 1 y0 := by rw [hy0]; exact new_has [] 20
  obtain ⟨a1, a2, a3, a4, a5, a6, a7, a8, a9, a10⟩ := aw_1 hy0
  obtain ⟨l1, l2, _⟩ := aw_l a5 a6
  refine AW.region (cfg := cfg) ?_
  iterate 3 refine stp (fun _ h => s0 h) ?_
  iterate 2 refine mrg wa (fun hc _ h => s0 h) ?_
  refine stp (fun _ h => s0 h) ?_
  refine aops_nil ?_
  refine cnd (fun hb => ?ht1) (fun hb => ?hf1)
  case ht1 => (simp at hb; done)
  case hf1 =>
  have hbt21 := hb
  refine AW.skip ?_
  refine AW.seq ?_
  have hF1 : Fine y0 := by rw [hy0]; exact new_fine (n := 20) (by decide)
  refine AW.region (cfg := cfg) ?_
  refine stp (fun _ h => s0 h) ?_
  refine stp (fun _ h => cg (w := good_OpenW (DK.newG [] 20) 2 0 1 y0 hD1 hF1) (x := h)) ?_
  iterate 9 refine stp (fun _ h => s0 h) ?_
  refine aops_nil ?_
  refine AW.seq ?_
  refine AW.seq ?_
  have hB2 : HasB (outG (DK.newG [] 20) 2 0 1 y0) 3 2 0 1 (openX y0).x (openX y0).y := out_has hD1 a1
  have hx2 := hB2.hx
  have F := And.intro a2 F
  have F := And.intro a3 F
  have F := And.intro a4 F
  have F := And.intro a8 F
  have F := And.intro a9 F
  have F := And.intro l1 F
  have F := And.intro l2 F
  refine AW.region (cfg := cfg) ?_
  iterate 3 refine stp (fun _ h => s0 h) ?_
  iterate 2 refine mrg wa (fun hc _ h => s0 h) ?_
  iterate 2 refine stp (fun _ h => s0 h) ?_
  refine mrg wa (fun hc _ h => s0 h) ?_
  refine mrg wa (fun hc _ h => sd h) ?_
  refine mrg wa (fun hc _ h => s0 h) ?_
  iterate 2 refine stp (fun _ h => s0 h) ?_
  refine mrg wa (fun hc _ h => s0 h) ?_
  refine mrg wa (fun hc _ h => sd h) ?_
  refine mrg wa (fun hc _ h => s0 h) ?_
  iterate 2 refine stp (fun _ h => s0 h) ?_
  refine mrg wa (fun hc _ h => s0 h) ?_
  refine mrg wa (fun hc _ h => cgn (w := good_GenW (outG (DK.newG [] 20) 2 0 1 y0) 3 2 (openX y0).x hB2.hW) (x := h)) ?_
  refine mrg wa (fun hc _ h => s0 h) ?_
  iterate 2 refine stp (fun _ h => s0 h) ?_
  refine mrg wa (fun hc _ h => s0 h) ?_
  refine mrg wa (fun hc _ h => cgn (w := good_FreeW (outG (DK.newG [] 20) 2 0 1 y0) 3 2 (openX y0).x hB2.hW (by omega)) (x := h)) ?_
  refine mrg wa (fun hc _ h => s0 h) ?_
  iterate 2 refine stp (fun _ h => s0 h) ?_
  refine mrg wa (fun hc _ h => s0 h) ?_
  refine mrg wa (fun hc _ h => cgn (w := good_RoomW (outG (DK.newG [] 20) 2 0 1 y0) 3 2 (openX y0).x hB2.hW) (x := h)) ?_
  refine mrg wa (fun hc _ h => s0 h) ?_
  refine stp (fun _ h => s0 h) ?_
  refine aops_nil ?_
  refine cnd (fun hb => ?ht2) (fun hb => ?hf2)
  case ht2 => (simp at hb; done)
  case hf2 =>
  have hbt59 := hb
  refine AW.skip ?_
  refine AW.seq ?_
  obtain ⟨c1, c2, c3, c4, c5, c6, c7⟩ := com_one (c := 7#8) a5 (by omega) (by omega)
  refine AW.region (cfg := cfg) ?_
  refine stp (fun _ h => s0 h) ?_
  refine stp (fun _ h => sq h) ?_
  refine stp (fun _ h => cg (w := good_CommitW (outG (DK.newG [] 20) 2 0 1 y0) 3 2 0 1 (openX y0).x (openX y0).y hB2 a5.f a5.ok false [7#8] (by decide) (fun h => by cases h)) (x := h)) ?_
  refine stp (fun _ h => s0 h) ?_
  refine aops_nil ?_
  refine AW.seq ?_
  have hB3 : HasB (wrB (outG (DK.newG [] 20) 2 0 1 y0) 3 2 0 1 (comX (openX y0).x (openX y0).y [7#8]).1 (comX (openX y0).x (openX y0).y [7#8]).2.1) 3 2 0 1 (comX (openX y0).x (openX y0).y [7#8]).1 (comX (openX y0).x (openX y0).y [7#8]).2.1 := wb_has hB2
  have F := And.intro c1 F
  refine AW.region (cfg := cfg) ?_
  refine stp (fun _ h => s0 h) ?_
  refine stp (fun _ h => cg (w := (DK.good_CrashG (wrB (outG (DK.newG [] 20) 2 0 1 y0) 3 2 0 1 (comX (openX y0).x (openX y0).y [7#8]).1 (comX (openX y0).x (openX y0).y [7#8]).2.1) 2 0 1 (comX (openX y0).x (openX y0).y [7#8]).2.1 hB3.hD c2.f true [] (by decide) (fun t h => by cases h)).nil1 (s' := 0)) (x := h)) ?_
  refine aops_nil ?_
  refine AW.seq ?_
  have hB4 : HasB (wrD (wrB (outG (DK.newG [] 20) 2 0 1 y0) 3 2 0 1 (comX (openX y0).x (openX y0).y [7#8]).1 (comX (openX y0).x (openX y0).y [7#8]).2.1) 2 0 1 (crashD (comX (openX y0).x (openX y0).y [7#8]).2.1 [])) 3 2 0 1 (comX (openX y0).x (openX y0).y [7#8]).1 (crashD (comX (openX y0).x (openX y0).y [7#8]).2.1 []) := hasB_D hB3
  have hF4 : Fine (crashD (comX (openX y0).x (openX y0).y [7#8]).2.1 []) := crash_fine c2.f
  obtain ⟨o1, o2, o3, o4, o5, o6⟩ := aw_3 c2 (c6.trans a6) (by omega) (c4.trans a8) (c5.trans a10)
  refine AW.region (cfg := cfg) ?_
  refine stp (fun _ h => s0 h) ?_
  refine stp (fun _ h => cg (w := good_OpenW (wrD (wrB (outG (DK.newG [] 20) 2 0 1 y0) 3 2 0 1 (comX (openX y0).x (openX y0).y [7#8]).1 (comX (openX y0).x (openX y0).y [7#8]).2.1) 2 0 1 (crashD (comX (openX y0).x (openX y0).y [7#8]).2.1 [])) 2 0 1 (crashD (comX (openX y0).x (openX y0).y [7#8]).2.1 []) hB4.hD hF4) (x := h)) ?_
  iterate 9 refine stp (fun _ h => s0 h) ?_
  refine aops_nil ?_
  refine AW.seq ?_
  have hB5 := out_has hB4.hD o2
  have hx5 := hB5.hx
  have F := And.intro o1 F
  have F := And.intro o3 F
  have F := And.intro o4 F
  have F := And.intro o5 F
  refine AW.region (cfg := cfg) ?_
  iterate 3 refine stp (fun _ h => s0 h) ?_
  iterate 2 refine mrg wa (fun hc _ h => s0 h) ?_
  iterate 2 refine stp (fun _ h => s0 h) ?_
  iterate 2 refine mrg wa (fun hc _ h => s0 h) ?_
  iterate 2 refine stp (fun _ h => s0 h) ?_
  refine mrg wa (fun hc _ h => s0 h) ?_
  refine mrg wa (fun hc _ h => sd h) ?_
  refine mrg wa (fun hc _ h => s0 h) ?_
  iterate 2 refine stp (fun _ h => s0 h) ?_
  refine mrg wa (fun hc _ h => s0 h) ?_
  refine mrg wa (fun hc _ h => si h) ?_
  refine mrg wa (fun hc _ h => sl h) ?_
  refine mrg wa (fun hc _ h => sd h) ?_
  refine mrg wa (fun hc _ h => s0 h) ?_
  iterate 2 refine stp (fun _ h => s0 h) ?_
  refine mrg wa (fun hc _ h => s0 h) ?_
  refine mrg wa (fun hc _ h => cgn (w := good_FreeW (outG (wrD (wrB (outG (DK.newG [] 20) 2 0 1 y0) 3 2 0 1 (comX (openX y0).x (openX y0).y [7#8]).1 (comX (openX y0).x (openX y0).y [7#8]).2.1) 2 0 1 (crashD (comX (openX y0).x (openX y0).y [7#8]).2.1 [])) 2 0 1 (crashD (comX (openX y0).x (openX y0).y [7#8]).2.1 [])) ((wrD (wrB (outG (DK.newG [] 20) 2 0 1 y0) 3 2 0 1 (comX (openX y0).x (openX y0).y [7#8]).1 (comX (openX y0).x (openX y0).y [7#8]).2.1) 2 0 1 (crashD (comX (openX y0).x (openX y0).y [7#8]).2.1 []))).length 2 (openX (crashD (comX (openX y0).x (openX y0).y [7#8]).2.1 [])).x hB5.hW (by omega)) (x := h)) ?_
  refine mrg wa (fun hc _ h => s0 h) ?_
  iterate 2 refine stp (fun _ h => s0 h) ?_
  refine aops_nil ?_
  refine AW.ret ?_
  refine ⟨.inr rfl, ?_⟩
  apply Exists.intro
  refine leaves_tmp1 0 rfl ?_ (by rfl)
  simp (disch := first | omega | decide) only [go_sem, F, aIndex_map]
  all_goals rfl
end Go.Vai.WK
