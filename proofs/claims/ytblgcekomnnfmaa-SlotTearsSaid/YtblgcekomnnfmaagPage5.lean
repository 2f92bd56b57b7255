import Derived.Test.YtblgcekomnnfmaagPage4
namespace Go.Vai.G
open Go.Proofs Go.Vai Go.Vai.L Go.Vai.O Go.Vai.U Go.Vai.Z
set_option linter.unusedSimpArgs false
set_option linter.unusedVariables false

open Go.Vai.Z (sealS okO okV body seal_open sealS_len ckB)
def mag : List (BitVec 8) := [87#8, 65#8, 89#8]
theorem three_way (l : List (BitVec 8)) : (okO l = true ∧ (okV l).length = 508) ∨ (okO l = true ∧ ¬ (okV l).length = 508) ∨ okO l = false := by
  cases okO l with
  | false => exact .inr (.inr rfl)
  | true => by_cases h : (okV l).length = 508
            · exact .inl ⟨rfl, h⟩
            · exact .inr (.inl ⟨rfl, h⟩)
theorem okV_is {l : List (BitVec 8)} (h : okO l = true) (h2 : (okV l).length = 508) : okV l = l.take 508 ∧ l.length = 512 := by
  have e : okV l = body l := by rw [okV, h, if_pos rfl]
  have h3 : 4 ≤ l.length := by
    simp only [okO, Bool.and_eq_true, decide_eq_true_eq] at h; exact h.1
  rw [e, body] at h2
  have : l.length = 512 := by simp at h2; omega
  exact ⟨by rw [e, body, this], this⟩
theorem rd3 {i : List (BitVec 8)} (h : i.length = 508) (k : Nat) (w : Int) (hw : 1 ≤ w ∧ w ≤ 8) (hk : (k : Int) + w ≤ 508) : rnV (i.drop k) false w = rV i k false w ∧ rnL (i.drop k) false w = i.drop (k + w.toNat) ∧ rnW (i.drop k) false w = false := drop_nums hw (by omega)
theorem sB_iff {i : List (BitVec 8)} (h : i.length = 508) : sBad i 18 false = decide (pgN i > 488) := by
  obtain ⟨e1, e2⟩ := rA_ok (l := i) (a := 18) (k := 2) (by omega) (by omega)
  simp only [sBad, e1, e2, Bool.false_or, pgN]
  exact decide_eq_decide.2 (by rw [h]; first | (simp; done) | (simp; omega))
theorem sV_is {i : List (BitVec 8)} (h : i.length = 508) (hb : sBad i 18 false = false) : sV i 18 false = (i.drop 20).take (pgN i).toNat ∧ sA i 18 false = 20 + (pgN i).toNat ∧ pgN i ≤ 488 := by
  obtain ⟨e1, e2⟩ := rA_ok (l := i) (a := 18) (k := 2) (by omega) (by omega)
  refine ⟨?_, ?_, ?_⟩
  · rw [sV, hb, e2]; rfl
  · rw [sA, hb, e2]; rfl
  · rw [sB_iff h] at hb; simpa using hb
/-- What the bytes ahead of a check are a page by. -/
def pgIn (i : List (BitVec 8)) : Bool := hasP i mag && (decide (pgN i ≤ 488) && (pageOK (pgP i) && !((i.drop (20 + (pgN i).toNat)).any nz)))
theorem any_nz : ∀ (l : List (BitVec 8)), (l.any nz) = false ↔ l = List.replicate l.length 0#8
  | [] => by simp
  | x :: l => by
    rw [List.any_cons, Bool.or_eq_false_iff, any_nz l, List.length_cons, List.replicate_succ, List.cons.injEq]
    have : nz x = false ↔ x = 0#8 := by
      simp only [nz, decide_eq_false_iff_not, ne_eq, Decidable.not_not]
      constructor
      · intro h; apply BitVec.eq_of_toNat_eq; simpa using h
      · intro h; rw [h]; rfl
    rw [this]
theorem pgP_take {l : List (BitVec 8)} (h : l.length = 512) : pgP (l.take 508) = pgP l ∨ ¬ pgN l ≤ 488 := by
  have r : ∀ (k : Nat) (w : Int), 1 ≤ w ∧ w ≤ 8 → (k : Int) + w ≤ 508 → rV (l.take 508) k false w = rV l k false w := fun k w hw hk => by
    rw [rV_is hw (by simp; omega), rV_is hw (by omega)]
    congr 1
    rw [List.drop_take, List.take_take, Nat.min_eq_left (by omega)]
  have g : ∀ k, k < 508 → (l.take 508).getD k default = l.getD k default := fun k hk => by
    simp [List.getD_eq_getElem?_getD, List.getElem?_take, hk]
  have hN : pgN (l.take 508) = pgN l := r 18 2 (by omega) (by omega)
  by_cases hn : pgN l ≤ 488
  · left
    have n0 : 0 ≤ pgN l := (rV_range l 18 false 2).1
    have hb : ((l.take 508).drop 20).take (pgN l).toNat = (l.drop 20).take (pgN l).toNat := by
      rw [List.drop_take, List.take_take, Nat.min_eq_left (by omega)]
    simp only [pgP, at1, at4, hN, hb, g 3 (by omega), g 16 (by omega), g 17 (by omega), r 4 4 (by omega) (by omega), r 8 4 (by omega) (by omega), r 12 4 (by omega) (by omega)]
  · exact .inr hn
theorem pgN_take {l : List (BitVec 8)} (h : l.length = 512) : pgN (l.take 508) = pgN l := by
  unfold pgN
  rw [rV_is (by omega) (by simp; omega), rV_is (by omega) (by omega)]
  congr 1
  rw [List.drop_take, List.take_take]; rfl
theorem hasP_iff {i : List (BitVec 8)} (h : i.length = 508) : hasP i mag = true ↔ i.take 3 = mag := by
  have : decide ((i.length : Int) ≥ ((mag.length : Nat) : Int)) = true := by rw [decide_eq_true_eq, h]; decide
  simp only [hasP, this, Bool.true_and, decide_eq_true_eq]; rfl
theorem good_in {l : List (BitVec 8)} (h : okO l = true) (h2 : (okV l).length = 508) : pgGood l = pgIn (okV l) := by
  obtain ⟨e1, e2⟩ := okV_is h h2
  have hi : (l.take 508).length = 508 := by simp; omega
  have hN := pgN_take e2
  rw [e1]
  by_cases hn : pgN l ≤ 488
  · have hP := (pgP_take e2).resolve_right (fun f => f hn)
    have n0 : 0 ≤ pgN l := (rV_range l 18 false 2).1
    rw [Bool.eq_iff_iff]
    simp only [pgGood, pgIn, Bool.and_eq_true, decide_eq_true_eq, hN, hP, e2, hn, true_and, Bool.not_eq_true', any_nz]
    have hw := pg_whole hi (by rw [hN]; exact hn)
    rw [hP, hN] at hw
    have hlen : ((l.take 508).drop (20 + (pgN l).toNat)).length = 488 - (pgN l).toNat := by simp; omega
    rw [hlen]
    have hs : pageOK (pgP l) = true → (pgPut (pgP l) = l ↔ pageB (pgP l) = l.take 508) := fun hok => by
      rw [pgPut, hok, if_pos rfl]
      have hso := seal_open (pageB (pgP l))
      constructor
      · intro e
        rw [e] at hso
        have := hso.2
        rw [e1] at this; exact this.symm
      · intro e
        have : body l = pageB (pgP l) := by rw [body, e2, e]
        have h3 := Z.ok_ref (l := l) (by omega)
        rw [this, h, decide_eq_true_eq] at h3
        exact h3
    constructor
    · rintro ⟨a1, a2⟩
      obtain ⟨b1, b2⟩ := hw.1 ((hs a1).1 a2)
      exact ⟨(hasP_iff hi).2 b1, a1, b2⟩
    · rintro ⟨a1, a2, a3⟩
      exact ⟨a2, (hs a2).2 (hw.2 ⟨(hasP_iff hi).1 a1, a3⟩)⟩
  · have d1 : decide (pgN l ≤ 488) = false := decide_eq_false hn
    simp [pgGood, pgIn, hN, d1]
theorem good_512 {l : List (BitVec 8)} (h : pgGood l = true) : okO l = true ∧ (okV l).length = 508 := by
  simp only [pgGood, Bool.and_eq_true, decide_eq_true_eq] at h
  obtain ⟨h1, h2, h3, h4⟩ := h
  rw [pgPut, h3, if_pos rfl] at h4
  have hso := seal_open (pageB (pgP l))
  rw [h4] at hso
  refine ⟨hso.1, ?_⟩
  rw [hso.2, pageB_len]
  show ((l.drop 20).take (pgN l).toNat).length ≤ 488
  have n0 : 0 ≤ pgN l := (rV_range l 18 false 2).1
  simp; omega
theorem good_f {l : List (BitVec 8)} (h : ¬ (okO l = true ∧ (okV l).length = 508)) : pgGood l = false := by
  cases hg : pgGood l with
  | false => rfl
  | true => exact absurd (good_512 hg) h
theorem pgR_no {l : List (BitVec 8)} (h : pgGood l = false) : pgV l = page0 ∧ pgR l = 2 := ⟨pgV_no h, by simp [pgR, h]⟩
theorem pgR_is {l : List (BitVec 8)} (h : pgGood l = true) : pgV l = pgP l ∧ pgR l = 0 := ⟨pgV_is h, by simp [pgR, h]⟩
end Go.Vai.G
