import Derived.Test.YtblgcekomnnfmaaPktBk
set_option linter.unusedSimpArgs false
set_option linter.unusedVariables false
namespace Go.Vai.P
open Go.Vai.O Go.Vai.L Go.Vai.G
structure Sr where
  hs : List LinkS
  xs : List LinkS
  ls : List Lsa
  a : Nat
def rHear (b : List (BitVec 8)) (a : Nat) : LinkS := ⟨at1 b a, rV b (a + 1) false 4⟩
def rItem (b : List (BitVec 8)) (a : Nat) : LinkS := ⟨at1 b a, IntKind.i64.wrap (rV b (a + 1) false 8)⟩
def rstep (kind : Int) (b : List (BitVec 8)) (s : Sr) : Option Sr :=
  if s.a < b.length then
    if kind = 1 then some ⟨s.hs ++ [rHear b s.a], s.xs, s.ls, s.a + 5⟩
    else if kind = 4 then (if rfOK (b.drop s.a) then some ⟨s.hs, s.xs, s.ls ++ [rfL (b.drop s.a)], s.a + (10 + 5 * rfB (b.drop s.a))⟩ else none)
    else some ⟨s.hs, s.xs ++ [rItem b s.a], s.ls, s.a + 9⟩
  else some s
def rloop (kind : Int) (b : List (BitVec 8)) (a0 : Nat) : Nat → Option Sr
  | 0 => some ⟨[], [], [], a0⟩
  | k + 1 => (rloop kind b a0 k).bind (rstep kind b)
def rEp (b : List (BitVec 8)) : Int := if at1 b 0 = 2 ∨ at1 b 0 = 3 then rV b 11 false 4 else 0
def rTe (b : List (BitVec 8)) : Int := if at1 b 0 = 3 then rV b 15 false 4 else 0
def rA0 (b : List (BitVec 8)) : Nat := if at1 b 0 = 2 ∨ at1 b 0 = 3 then 16 else 12
def rMany (b : List (BitVec 8)) : Int := if at1 b 0 = 3 then 0 else if at1 b 0 = 2 ∧ (b.length : Int) > 15 then at1 b 15 else at1 b 11
def rMk (b : List (BitVec 8)) (s : Sr) : Pkt := mkP (at1 b 0) (at1 b 1) (rV b 2 false 4) (at1 b 6) (rV b 7 false 4) (rEp b) (rTe b) s.hs s.xs s.ls
def rEnd (b : List (BitVec 8)) : Option Sr := rloop (at1 b 0) b (rA0 b) (rMany b).toNat
theorem pos_num {b : List (BitVec 8)} {a w : Nat} {n : Int} {r : List (BitVec 8)} (hw : 1 ≤ w ∧ w ≤ 8) (h : b.drop a = numR n w ++ r) (hn : 0 ≤ n ∧ n < 2 ^ (8 * w)) : rV b a false w = n ∧ b.drop (a + w) = r ∧ a + w ≤ b.length := by
  have hl := congrArg List.length h
  simp only [List.length_drop, List.length_append, numR_length] at hl
  have hal : a + w ≤ b.length := by omega
  refine ⟨?_, ?_, hal⟩
  · rw [rV_is (by omega) (by omega), h, Int.toNat_natCast, List.take_left' (numR_length _ _), numV_numR hn.1]
    exact Int.emod_eq_of_lt hn.1 hn.2
  · rw [← List.drop_drop, h, List.drop_left' (numR_length _ _)]
theorem pos_one {b : List (BitVec 8)} {a : Nat} {n : Int} {r : List (BitVec 8)} (h : b.drop a = numR n 1 ++ r) (hn : 0 ≤ n ∧ n < 256) : at1 b a = n ∧ b.drop (a + 1) = r ∧ a + 1 ≤ b.length := by
  obtain ⟨h1, h2, h3⟩ := pos_num (w := 1) (by omega) h (by simpa using hn)
  exact ⟨by rw [at1, ← rV_one (by omega)]; exact h1, h2, h3⟩
theorem rloop_succ {kind : Int} {b : List (BitVec 8)} {a0 k : Nat} {s : Sr} (h : rloop kind b a0 k = some s) : rloop kind b a0 (k + 1) = rstep kind b s := by
  rw [rloop, h]; rfl
theorem rloop_none {kind : Int} {b : List (BitVec 8)} {a0 k : Nat} (h : rloop kind b a0 k = none) : ∀ {n : Nat}, k ≤ n → rloop kind b a0 n = none
  | 0, hn => by obtain rfl : k = 0 := by omega
                exact h
  | n + 1, hn => by
    by_cases e : k = n + 1
    · subst e; exact h
    · rw [rloop, rloop_none h (by omega)]; rfl
theorem rloop_stop {kind : Int} {b : List (BitVec 8)} {a0 k : Nat} {s : Sr} (h : rloop kind b a0 k = some s) (hs : ¬ s.a < b.length) : ∀ {n : Nat}, k ≤ n → rloop kind b a0 n = some s
  | 0, hn => by obtain rfl : k = 0 := by omega
                exact h
  | n + 1, hn => by
    by_cases e : k = n + 1
    · subst e; exact h
    · rw [rloop, rloop_stop h hs (by omega)]
      show rstep kind b s = _
      rw [rstep, if_neg hs]
theorem r1_back {kind : Int} (hk : kind = 1) {b : List (BitVec 8)} {a0 : Nat} {hs : List LinkS} {r : List (BitVec 8)} (h0 : b.drop a0 = linksB hs ++ r) (h : ∀ x ∈ hs, (1 ≤ x.to ∧ x.to ≤ 64) ∧ (1 ≤ x.co ∧ x.co ≤ 1073741824)) : ∀ k, k ≤ hs.length → rloop kind b a0 k = some ⟨hs.take k, [], [], a0 + 5 * k⟩ ∧ b.drop (a0 + 5 * k) = linksB (hs.drop k) ++ r
  | 0, _ => ⟨by simp [rloop], by simpa using h0⟩
  | k + 1, hk2 => by
    obtain ⟨i1, i2⟩ := r1_back hk h0 h k (by omega)
    have hb := h _ (List.getElem_mem (show k < hs.length by omega))
    rw [linksB_drop (by omega)] at i2
    obtain ⟨a1, a2, a3⟩ := pos_one i2 (by omega)
    obtain ⟨b1, b2, b3⟩ := pos_num (w := 4) (by omega) a2 (by simp; omega)
    have e : rHear b (a0 + 5 * k) = hs[k]'(by omega) := by
      rw [rHear, a1, show ((4 : Int)) = ((4 : Nat) : Int) from rfl, b1]
    refine ⟨?_, by rw [show a0 + 5 * (k + 1) = a0 + 5 * k + 1 + 4 by omega]; exact b2⟩
    rw [rloop_succ i1, rstep, if_pos (by show a0 + 5 * k < _; omega), if_pos hk, List.take_succ_eq_append_getElem (show k < hs.length by omega)]
    simp only [e]
    rfl
theorem r2_back {kind : Int} (hk : kind = 2 ∨ kind = 5) {b : List (BitVec 8)} {a0 : Nat} {hs : List LinkS} {r : List (BitVec 8)} (h0 : b.drop a0 = itemsB hs ++ r) (h : ∀ x ∈ hs, (1 ≤ x.to ∧ x.to ≤ 64) ∧ (1 ≤ x.co ∧ x.co ≤ 4611686018427387904)) : ∀ k, k ≤ hs.length → rloop kind b a0 k = some ⟨[], hs.take k, [], a0 + 9 * k⟩ ∧ b.drop (a0 + 9 * k) = itemsB (hs.drop k) ++ r
  | 0, _ => ⟨by simp [rloop], by simpa using h0⟩
  | k + 1, hk2 => by
    obtain ⟨i1, i2⟩ := r2_back hk h0 h k (by omega)
    have hb := h _ (List.getElem_mem (show k < hs.length by omega))
    rw [itemsB_drop (by omega)] at i2
    obtain ⟨a1, a2, a3⟩ := pos_one i2 (by omega)
    obtain ⟨b1, b2, b3⟩ := pos_num (w := 8) (by omega) a2 (by simp; omega)
    have e : rItem b (a0 + 9 * k) = hs[k]'(by omega) := by
      rw [rItem, a1, show ((8 : Int)) = ((8 : Nat) : Int) from rfl, b1, wrap_seq hb.2]
    refine ⟨?_, by rw [show a0 + 9 * (k + 1) = a0 + 9 * k + 1 + 8 by omega]; exact b2⟩
    rw [rloop_succ i1, rstep, if_pos (by show a0 + 9 * k < _; omega), if_neg (by omega), if_neg (by omega), List.take_succ_eq_append_getElem (show k < hs.length by omega)]
    simp only [e]
    rfl
theorem r4_back {kind : Int} (hk : kind = 4) {b : List (BitVec 8)} {a0 : Nat} {hs : List Lsa} {r : List (BitVec 8)} (h0 : b.drop a0 = lsasB hs ++ r) (h : ∀ x ∈ hs, lsaOK x = true) : ∀ k, k ≤ hs.length → ∃ a, rloop kind b a0 k = some ⟨[], [], nrmLs (hs.take k), a⟩ ∧ b.drop a = lsasB (hs.drop k) ++ r
  | 0, _ => ⟨a0, by simp [rloop, nrmLs], by simpa using h0⟩
  | k + 1, hk2 => by
    obtain ⟨a, i1, i2⟩ := r4_back hk h0 h k (by omega)
    have hb := h _ (List.getElem_mem (show k < hs.length by omega))
    rw [lsasB_drop (by omega)] at i2
    obtain ⟨e1, e2, e3, e4⟩ := rd_backs hb (lsasB (hs.drop (k + 1)) ++ r)
    obtain ⟨f1, f2, f3, f4⟩ := rd_rf (b.drop a)
    rw [i2] at f1 f2 f4
    rw [e2] at f1
    obtain ⟨f5, f6⟩ := f4 f1.symm
    rw [← i2] at f1 f2 f5 f6
    have hl := congrArg List.length i2
    simp only [List.length_drop, List.length_append] at hl
    have h10 : 10 ≤ (lsaB (hs[k]'(by omega))).length := by rw [lsaB_len]; omega
    refine ⟨a + (10 + 5 * rfB (b.drop a)), ?_, ?_⟩
    · rw [rloop_succ i1, rstep, if_pos (by show a < _; omega), if_neg (by omega), if_pos hk]
      show (if rfOK (b.drop a) = true then some (⟨[], [], nrmLs (hs.take k) ++ [rfL (b.drop a)], a + (10 + 5 * rfB (b.drop a))⟩ : Sr) else none) = _
      rw [if_pos f1.symm, ← f2, i2, e1, List.take_succ_eq_append_getElem (show k < hs.length by omega), nrmLs, nrmLs, List.map_append]; rfl
    · rw [← List.drop_drop, ← f5, i2]; exact e3
theorem r_back {p : Pkt} (h : pktOK p = true) {c : List (BitVec 8)} (hc : c.length = 4) : 15 ≤ (pktB p ++ c).length ∧ ∃ s, rEnd (pktB p ++ c) = some s ∧ rMk (pktB p ++ c) s = normP p := by
  obtain ⟨c1, c2, c3, c4, c5, c6, c7⟩ := pk_bd h
  obtain ⟨d1, d2, d3, d4, d5, d6, d7⟩ := pk_len h
  have hlen := pktB_len h
  have h4 := h
  simp only [pktOK, Bool.and_eq_true] at h4
  obtain ⟨b, hb⟩ : ∃ b, b = pktB p ++ c := ⟨_, rfl⟩
  have hb15 : 15 ≤ b.length := by rw [hb, List.length_append, hc]; omega
  rw [← hb]
  refine ⟨hb15, ?_⟩
  obtain ⟨body, hbody⟩ : ∃ body, body = linksB p.hs ++ (itemsB p.xs ++ (lsasB p.ls ++ c)) := ⟨_, rfl⟩
  have x0 : b.drop 0 = numR p.kind 1 ++ (numR p.fr 1 ++ (numR p.boot 4 ++ (numR p.to 1 ++ (numR p.tb 4 ++ (epB p ++ (teB p ++ (cnB p ++ body))))))) := by
    rw [List.drop_zero, hb, pktB, topB, headB, hbody]; simp only [List.append_assoc]
  obtain ⟨v0, x1, _⟩ := pos_one x0 (by omega)
  obtain ⟨v1, x2, _⟩ := pos_one x1 (by omega)
  obtain ⟨v2, x3, _⟩ := pos_num (w := 4) (by omega) x2 (by simp; omega)
  obtain ⟨v3, x4, _⟩ := pos_one x3 (by omega)
  obtain ⟨v4, x5, _⟩ := pos_num (w := 4) (by omega) x4 (by simp; omega)
  simp only [Nat.zero_add, Nat.reduceAdd] at v1 v2 v3 v4 x5
  obtain ⟨w5, w6, w7, x6⟩ : rEp b = p.ep ∧ rTe b = p.te ∧ rMany b = (if p.kind = 3 then 0 else cntOf p) ∧ (¬ p.kind = 3 → b.drop (rA0 b) = body) := by
    have h6 := h4.2.1
    rw [pkE] at h6
    rw [rEp, rTe, rMany, rA0, v0]
    by_cases hk2 : p.kind = 2
    · rw [if_pos hk2] at h6
      simp only [Bool.and_eq_true, decide_eq_true_eq] at h6
      have t1 : epB p = numR p.ep 4 := if_pos (.inl hk2)
      have t2 : teB p = [] := if_neg (by omega)
      have t3 : cnB p = numR (cntOf p) 1 := if_neg (by omega)
      rw [t1, t2, t3, List.nil_append] at x5
      obtain ⟨y1, y2, _⟩ := pos_num (w := 4) (by omega) x5 (by simp; omega)
      obtain ⟨y3, y4, y5⟩ := pos_one y2 (by omega)
      simp only [Nat.reduceAdd] at y3 y4 y5
      rw [if_pos (.inl hk2), if_neg (by omega), if_neg (by omega), if_pos ⟨hk2, by omega⟩, if_neg (by omega), if_pos (.inl hk2)]
      exact ⟨y1, h6.2.symm, y3, fun _ => y4⟩
    · by_cases hk3 : p.kind = 3
      · have t1 : epB p = numR p.ep 4 := if_pos (.inr hk3)
        have t2 : teB p = numR p.te 4 := if_pos hk3
        rw [t1, t2] at x5
        obtain ⟨y1, y2, _⟩ := pos_num (w := 4) (by omega) x5 (by simp; omega)
        obtain ⟨y3, y4, y5⟩ := pos_num (w := 4) (by omega) y2 (by simp; omega)
        rw [if_pos (.inr hk3), if_pos hk3, if_pos hk3, if_pos hk3]
        exact ⟨y1, y3, rfl, fun f => absurd hk3 f⟩
      · rw [if_neg hk2, if_neg hk3] at h6
        simp only [Bool.and_eq_true, decide_eq_true_eq] at h6
        have t1 : epB p = [] := if_neg (by omega)
        have t2 : teB p = [] := if_neg (by omega)
        have t3 : cnB p = numR (cntOf p) 1 := if_neg (by omega)
        rw [t1, t2, t3, List.nil_append, List.nil_append] at x5
        obtain ⟨y3, y4, y5⟩ := pos_one x5 (by omega)
        rw [if_neg (by omega), if_neg (by omega), if_neg (by omega), if_neg (by omega), if_neg (by omega), if_neg (by omega)]
        exact ⟨h6.1.symm, h6.2.symm, y3, fun _ => y4⟩
  obtain ⟨s, hs, s1, s2, s3⟩ : ∃ s, rEnd b = some s ∧ s.hs = p.hs ∧ s.xs = p.xs ∧ s.ls = nrmLs p.ls := by
    rw [rEnd, v0, w7]
    rcases pk_kind h4.2.2 with ⟨hk, h8, h9, h10⟩ | ⟨hk, h8, h9, h10⟩ | ⟨hk, h8, h9, h10⟩ | ⟨hk, h8, h9, h10⟩
    · have x7 := x6 (by omega)
      rw [hbody] at x7
      obtain ⟨z1, _⟩ := r1_back hk x7 d6 p.hs.length (Nat.le_refl _)
      rw [if_neg (by omega), show (cntOf p).toNat = p.hs.length by rw [cntOf, h9, h10]; simp, z1]
      exact ⟨_, rfl, List.take_length, h9.symm, by rw [h10]; rfl⟩
    · have x7 := x6 (by omega)
      rw [hbody, h8] at x7
      obtain ⟨z1, _⟩ := r2_back hk x7 d7 p.xs.length (Nat.le_refl _)
      rw [if_neg (by omega), show (cntOf p).toNat = p.xs.length by rw [cntOf, h8, h10]; simp, z1]
      exact ⟨_, rfl, h8.symm, List.take_length, by rw [h10]; rfl⟩
    · rw [if_pos hk]
      exact ⟨_, rfl, h8.symm, h9.symm, by rw [h10]; rfl⟩
    · have x7 := x6 (by omega)
      rw [hbody, h8, h9] at x7
      obtain ⟨a, z1, _⟩ := r4_back hk x7 d5 p.ls.length (Nat.le_refl _)
      rw [if_neg (by omega), show (cntOf p).toNat = p.ls.length by rw [cntOf, h8, h9]; simp, z1]
      exact ⟨_, rfl, h8.symm, h9.symm, by rw [List.take_length]⟩
  refine ⟨s, hs, ?_⟩
  rw [rMk, v0, v1, w5, w6, v3, s1, s2, s3]
  rw [show rV b 2 false 4 = p.boot from v2, show rV b 7 false 4 = p.tb from v4]
  rfl
end Go.Vai.P
