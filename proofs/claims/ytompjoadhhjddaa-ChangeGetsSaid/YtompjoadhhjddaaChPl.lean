import Derived.Test.YtompjoadhhjddaaRdPl
set_option linter.unusedSimpArgs false
set_option linter.unusedVariables false
set_option linter.constructorNameAsVariable false
namespace Go.Vai.C
open Go.Vai.O Go.Vai.L Go.Vai.G
structure Ch where
  kind : Int
  l : Lsa
  n : Int
  of : Int
def chA (c : Ch) : AV := .agg [.i .i64 c.kind, .i .i64 c.l.o, .i .i64 c.l.s, .sl 2 c.l.nil (c.l.ls.map linkA), .i .i64 c.n, .i .i64 c.of]
theorem cellsOf_ch (c : Ch) : cellsOf (chA c) = [.i .i64 c.kind, .i .i64 c.l.o, .i .i64 c.l.s, .sl 2 c.l.nil (c.l.ls.map linkA), .i .i64 c.n, .i .i64 c.of] := rfl
@[simp] theorem noPtr_ch (c : Ch) : noPtr (chA c) = true := by simp [chA, noPtr, noPtrL, noPtrL_links]
@[simp] theorem noPtrL_chs (l : List Ch) : noPtrL (l.map chA) = true := noPtrL_map noPtr_ch _
def bare (c : Ch) : Bool := decide (c.l.o = 0) && (decide (c.l.s = 0) && decide ((c.l.ls.length : Int) = 0))
def chOK (c : Ch) : Bool :=
  if c.kind = 1 then lsaOK c.l && (decide (c.n = 0) && decide (c.of = 0))
  else if c.kind = 2 then bare c && (wi c.n 1 4611686018427387904 && decide (c.of = 0))
  else if c.kind = 3 then bare c && (wi c.n 1 1073741824 && decide (c.of = 0))
  else if c.kind = 4 then bare c && (wi c.n 1 1073741824 && wi c.of 1 64)
  else false
def chE (c : Ch) : Int := if chOK c then 0 else 1
def chEq (a b : Ch) : Bool := decide (a.kind = b.kind) && (lsaEq a.l b.l && (decide (a.n = b.n) && decide (a.of = b.of)))
/-- A change's bytes. -/
def chB (c : Ch) : List (BitVec 8) := numR c.kind 1 ++ (if c.kind = 1 then lsaB c.l else if c.kind = 2 then numR c.n 8 else if c.kind = 4 then numR c.of 1 ++ numR c.n 4 else numR c.n 4)
def chsB (l : List Ch) : List (BitVec 8) := l.flatMap chB
def many (l : List Ch) : Bool := decide (1 ≤ l.length) && decide (l.length ≤ 40)
def allCh (l : List Ch) : Bool := l.all chOK
def putB (l : List Ch) : List (BitVec 8) := numR (l.length : Int) 1 ++ chsB l
theorem chsB_take {l : List Ch} {k : Nat} (h : k < l.length) : chsB (l.take (k + 1)) = chsB (l.take k) ++ chB l[k] := by
  rw [List.take_succ_eq_append_getElem h]; simp only [chsB, List.flatMap_append, List.flatMap_cons, List.flatMap_nil, List.append_nil]
theorem chB_len {c : Ch} (h : chOK c = true) : (chB c).length ≤ 91 := by
  unfold chB
  simp only [List.length_append, numR_length]
  split
  · rename_i hk
    simp only [chOK, hk, if_true, Bool.and_eq_true] at h
    have := (lsa_bd h.1).2.2.1
    rw [lsaB_len]; omega
  · split
    · rw [numR_length]; omega
    · split <;> simp only [List.length_append, numR_length] <;> omega
theorem chsB_len : ∀ {l : List Ch}, (∀ c ∈ l, chOK c = true) → (chsB l).length ≤ 91 * l.length
  | [], _ => by simp [chsB]
  | c :: l, h => by
    have h1 := chB_len (h c (by simp))
    have h2 := chsB_len (l := l) fun q hq => h q (by simp [hq])
    simp only [chsB, List.flatMap_cons, List.length_append, List.length_cons] at h2 ⊢
    omega
theorem ch_kind {c : Ch} (h : chOK c = true) : (c.kind = 1 ∧ lsaOK c.l = true ∧ c.n = 0 ∧ c.of = 0) ∨ (c.kind = 2 ∧ bare c = true ∧ (1 ≤ c.n ∧ c.n ≤ 4611686018427387904) ∧ c.of = 0) ∨ (c.kind = 3 ∧ bare c = true ∧ (1 ≤ c.n ∧ c.n ≤ 1073741824) ∧ c.of = 0) ∨ (c.kind = 4 ∧ bare c = true ∧ (1 ≤ c.n ∧ c.n ≤ 1073741824) ∧ (1 ≤ c.of ∧ c.of ≤ 64)) := by
  unfold chOK at h
  split at h
  · simp only [Bool.and_eq_true, decide_eq_true_eq] at h; exact .inl ⟨by assumption, h.1, h.2.1, h.2.2⟩
  · split at h
    · simp only [wi, Bool.and_eq_true, decide_eq_true_eq] at h; exact .inr (.inl ⟨by assumption, h.1, by omega, h.2.2⟩)
    · split at h
      · simp only [wi, Bool.and_eq_true, decide_eq_true_eq] at h; exact .inr (.inr (.inl ⟨by assumption, h.1, by omega, h.2.2⟩))
      · split at h
        · simp only [wi, Bool.and_eq_true, decide_eq_true_eq] at h; exact .inr (.inr (.inr ⟨by assumption, h.1, by omega, by omega⟩))
        · cases h
theorem bare_l {c : Ch} (h : bare c = true) : c.l.o = 0 ∧ c.l.s = 0 ∧ c.l.ls = [] := by
  simp only [bare, Bool.and_eq_true, decide_eq_true_eq] at h
  exact ⟨h.1, h.2.1, List.eq_nil_of_length_eq_zero (by omega)⟩
/-! What is read. -/
structure RdC where
  c : Ch
  ok : Bool
  l : List (BitVec 8)
  w : Bool
def rdC (l : List (BitVec 8)) (w : Bool) : RdC :=
  let k := rnV l w 1
  let l1 := rnL l w 1
  let w1 := rnW l w 1
  if k = 1 then ⟨⟨1, rdL l1 w1, 0, 0⟩, rdOK l1 w1, rdR l1 w1, rdW l1 w1⟩
  else if k = 2 then
    let c : Ch := ⟨2, lsa0, IntKind.i64.wrap (rnV l1 w1 8), 0⟩
    ⟨c, !rnW l1 w1 8 && chOK c, rnL l1 w1 8, rnW l1 w1 8⟩
  else if k = 4 then
    let l2 := rnL l1 w1 1
    let w2 := rnW l1 w1 1
    let c : Ch := ⟨4, lsa0, rnV l2 w2 4, rnV l1 w1 1⟩
    ⟨c, !rnW l2 w2 4 && chOK c, rnL l2 w2 4, rnW l2 w2 4⟩
  else if k = 3 then
    let c : Ch := ⟨3, lsa0, rnV l1 w1 4, 0⟩
    ⟨c, !rnW l1 w1 4 && chOK c, rnL l1 w1 4, rnW l1 w1 4⟩
  else ⟨⟨k, lsa0, 0, 0⟩, false, l1, w1⟩
theorem rdC_cons {l : List (BitVec 8)} {w : Bool} (h : (rdC l w).ok = true) : w = false ∧ l = chB (rdC l w).c ++ (rdC l w).l ∧ chOK (rdC l w).c = true ∧ (rdC l w).w = false := by
  have hr := rnV_range1 l w
  unfold rdC at h ⊢
  simp only at h ⊢
  split at h
  · rename_i hk
    simp only [hk, if_true] at h ⊢
    obtain ⟨a1, a2, a3, a4⟩ := rd_cons h
    obtain ⟨b1, b2⟩ := rn_cons (k := 1) (by omega) a1
    refine ⟨b1, ?_, ?_, a4⟩
    · simp only [chB, if_true, List.append_assoc]; rw [← a2]; rw [hk] at b2; exact b2
    · simp [chOK, a3]
  · rename_i hk1
    simp only [if_neg hk1]
    split at h
    · rename_i hk
      simp only [hk, if_true, Bool.and_eq_true, Bool.not_eq_true'] at h ⊢
      obtain ⟨a1, a2⟩ := rn_cons (k := 8) (by omega) h.1
      obtain ⟨b1, b2⟩ := rn_cons (k := 1) (by omega) a1
      refine ⟨b1, ?_, h.2, h.1⟩
      simp only [chB, show ¬ ((2 : Int) = 1) by decide, if_false, if_true, List.append_assoc, numR_wrap]
      rw [show (rnL (rnL l w 1) (rnW l w 1) 8) = rnL (rnL l w 1) (rnW l w 1) 8 from rfl]
      have a2' : rnL l w 1 = numR (rnV (rnL l w 1) (rnW l w 1) 8) 8 ++ rnL (rnL l w 1) (rnW l w 1) 8 := a2
      rw [← a2']; rw [hk] at b2; exact b2
    · rename_i hk2
      simp only [if_neg hk2]
      split at h
      · rename_i hk
        simp only [hk, if_true, Bool.and_eq_true, Bool.not_eq_true'] at h ⊢
        obtain ⟨a1, a2⟩ := rn_cons (k := 4) (by omega) h.1
        obtain ⟨c1, c2⟩ := rn_cons (k := 1) (by omega) a1
        obtain ⟨b1, b2⟩ := rn_cons (k := 1) (by omega) c1
        refine ⟨b1, ?_, h.2, h.1⟩
        simp only [chB, show ¬ ((4 : Int) = 1) by decide, show ¬ ((4 : Int) = 2) by decide, if_false, if_true, List.append_assoc]
        rw [hk] at b2
        refine b2.trans (congrArg _ (c2.trans (congrArg _ a2)))
      · rename_i hk4
        simp only [if_neg hk4]
        split at h
        · rename_i hk
          simp only [hk, if_true, Bool.and_eq_true, Bool.not_eq_true'] at h ⊢
          obtain ⟨a1, a2⟩ := rn_cons (k := 4) (by omega) h.1
          obtain ⟨b1, b2⟩ := rn_cons (k := 1) (by omega) a1
          refine ⟨b1, ?_, h.2, h.1⟩
          simp only [chB, show ¬ ((3 : Int) = 1) by decide, show ¬ ((3 : Int) = 2) by decide, show ¬ ((3 : Int) = 4) by decide, if_false, List.append_assoc]
          rw [hk] at b2
          exact b2.trans (congrArg _ a2)
        · cases h
def norm (c : Ch) : Ch := ⟨c.kind, ⟨c.l.o, c.l.s, if c.kind = 1 then c.l.ls.isEmpty else true, c.l.ls⟩, c.n, c.of⟩
theorem rdC_back {c : Ch} (h : chOK c = true) (r : List (BitVec 8)) : rdC (chB c ++ r) false = ⟨norm c, true, r, false⟩ := by
  unfold norm
  have e0 : ∀ t : List (BitVec 8), 0 ≤ c.kind ∧ c.kind < 256 → rnV (numR c.kind 1 ++ t) false 1 = c.kind ∧ rnL (numR c.kind 1 ++ t) false 1 = t ∧ rnW (numR c.kind 1 ++ t) false 1 = false := fun t hk => back1 hk t
  rcases ch_kind h with ⟨hk, h1, h2, h3⟩ | ⟨hk, h1, h2, h3⟩ | ⟨hk, h1, h2, h3⟩ | ⟨hk, h1, h2, h3⟩
  · obtain ⟨k1, k2, k3⟩ := e0 (lsaB c.l ++ r) (by omega)
    obtain ⟨r1, r2, r3, r4⟩ := rd_backs h1 r
    have eb : chB c ++ r = numR c.kind 1 ++ (lsaB c.l ++ r) := by simp only [chB, hk, if_true, List.append_assoc]
    rw [eb, rdC]
    simp only [k1, k2, k3]
    simp only [hk, if_true, r1, r2, r3, r4, h2, h3]
  · obtain ⟨k1, k2, k3⟩ := e0 (numR c.n 8 ++ r) (by omega)
    obtain ⟨r1, r2, r3⟩ := back8 (n := c.n) (by omega) r
    obtain ⟨b1, b2, b3⟩ := bare_l h1
    have eb : chB c ++ r = numR c.kind 1 ++ (numR c.n 8 ++ r) := by simp only [chB, hk, show ¬ ((2 : Int) = 1) by decide, if_false, if_true, List.append_assoc]
    have hw : IntKind.i64.wrap c.n = c.n := wrap_seq h2
    have hc : chOK ⟨2, lsa0, c.n, 0⟩ = true := by simp [chOK, bare, lsa0, wi]; omega
    rw [eb, rdC]
    simp only [k1, k2, k3]
    simp only [hk, show ¬ ((2 : Int) = 1) by decide, if_false, if_true, r1, r2, r3, hw, hc, h3, b1, b2, b3, lsa0, Bool.not_false, Bool.true_and]
    first | rfl | (have hc2 := hc; simp only [lsa0] at hc2; rw [hc2])
  · obtain ⟨k1, k2, k3⟩ := e0 (numR c.n 4 ++ r) (by omega)
    obtain ⟨r1, r2, r3⟩ := back4 (n := c.n) (by omega) r
    obtain ⟨b1, b2, b3⟩ := bare_l h1
    have eb : chB c ++ r = numR c.kind 1 ++ (numR c.n 4 ++ r) := by simp only [chB, hk, show ¬ ((3 : Int) = 1) by decide, show ¬ ((3 : Int) = 2) by decide, show ¬ ((3 : Int) = 4) by decide, if_false, List.append_assoc]
    have hc : chOK ⟨3, lsa0, c.n, 0⟩ = true := by simp [chOK, bare, lsa0, wi]; omega
    rw [eb, rdC]
    simp only [k1, k2, k3]
    simp only [hk, show ¬ ((3 : Int) = 1) by decide, show ¬ ((3 : Int) = 2) by decide, show ¬ ((3 : Int) = 4) by decide, if_false, if_true, r1, r2, r3, h3, b1, b2, b3, lsa0, Bool.not_false, Bool.true_and]
    have hc2 := hc
    simp only [lsa0] at hc2; rw [hc2]
  · obtain ⟨k1, k2, k3⟩ := e0 (numR c.of 1 ++ (numR c.n 4 ++ r)) (by omega)
    obtain ⟨q1, q2, q3⟩ := back1 (n := c.of) (by omega) (numR c.n 4 ++ r)
    obtain ⟨r1, r2, r3⟩ := back4 (n := c.n) (by omega) r
    obtain ⟨b1, b2, b3⟩ := bare_l h1
    have eb : chB c ++ r = numR c.kind 1 ++ (numR c.of 1 ++ (numR c.n 4 ++ r)) := by simp only [chB, hk, show ¬ ((4 : Int) = 1) by decide, show ¬ ((4 : Int) = 2) by decide, if_false, if_true, List.append_assoc]
    have hc : chOK ⟨4, lsa0, c.n, c.of⟩ = true := by simp [chOK, bare, lsa0, wi]; omega
    rw [eb, rdC]
    simp only [k1, k2, k3]
    simp only [hk, show ¬ ((4 : Int) = 1) by decide, show ¬ ((4 : Int) = 2) by decide, if_false, if_true, q1, q2, q3, r1, r2, r3, b1, b2, b3, lsa0, Bool.not_false, Bool.true_and]
    have hc2 := hc
    simp only [lsa0] at hc2; rw [hc2]
end Go.Vai.C
