import Derived.Test.YtdoomgohnocecaaM4
import Derived.Test.YtdoomgohnocecaaVaiE
set_option linter.unusedSimpArgs false
set_option linter.unusedVariables false
namespace Go.Vai.BA
open Go.Vai.O Go.Vai.L Go.Vai.D Go.Vai.I Go.Vai.G Go.Vai.C
def rdD (l : List (BitVec 8)) (w : Bool) : Nat → Option (List Lsa × List (BitVec 8) × Bool)
 | 0 => some ([], l, w)
 | k + 1 => match rdD l w k with
  | some (xs, m, wm) => if rdOK m wm then some (xs ++ [rdL m wm], rdR m wm, rdW m wm) else none
  | none => none
def rdE (l : List (BitVec 8)) (w : Bool) : Nat → List It × List (BitVec 8) × Bool
 | 0 => ([], l, w)
 | k + 1 => let p := rdE l w k
  (p.1 ++ [⟨rnV p.2.1 p.2.2 1, rnV (rnL p.2.1 p.2.2 1) (rnW p.2.1 p.2.2 1) 4⟩], rnL (rnL p.2.1 p.2.2 1) (rnW p.2.1 p.2.2 1) 4, rnW (rnL p.2.1 p.2.2 1) (rnW p.2.1 p.2.2 1) 4)
theorem rdD_some {l m : List (BitVec 8)} {w wm : Bool} {xs : List Lsa} {k : Nat} (h : rdD l w k = some (xs, m, wm)) : rdD l w (k + 1) = if rdOK m wm then some (xs ++ [rdL m wm], rdR m wm, rdW m wm) else none := by rw [rdD, h]
theorem rdD_none {l : List (BitVec 8)} {w : Bool} {k : Nat} (h : rdD l w k = none) : ∀ {n : Nat}, k ≤ n → rdD l w n = none := by
 intro n hn
 induction n with
 | zero =>
  obtain rfl : k = 0 := by omega
  exact h
 | succ n ih =>
  by_cases e : k = n + 1
  ·subst e; exact h
  ·rw [rdD, ih (by omega)]
theorem rdD_cons {l : List (BitVec 8)} {w : Bool} : ∀ {k : Nat} {xs : List Lsa} {m : List (BitVec 8)} {wm : Bool}, rdD l w k = some (xs, m, wm) → (wm = false → w = false ∧ l = dbB xs ++ m) ∧ (∀ x ∈ xs, lsaOK x = true) ∧ xs.length = k ∧ m.length ≤ l.length
 | 0, xs, m, wm, h => by
  simp only [rdD, Option.some.injEq, Prod.mk.injEq] at h
  obtain ⟨rfl, rfl, rfl⟩ := h
  exact ⟨fun h => ⟨h, rfl⟩, by simp, rfl, Nat.le_refl _⟩
 | k + 1, xs, m, wm, h => by
  cases hk : rdD l w k with
  | none => rw [rdD, hk] at h; cases h
  | some p =>
   obtain ⟨ys, m0, w0⟩ := p
   rw [rdD_some hk] at h
   split at h
   ·rename_i hok
    simp only [Option.some.injEq, Prod.mk.injEq] at h
    obtain ⟨rfl, rfl, rfl⟩ := h
    obtain ⟨h1, h2, h3, h4⟩ := rd_cons hok
    obtain ⟨i1, i2, i3, i4⟩ := rdD_cons hk
    obtain ⟨j1, j2⟩ := i1 h1
    refine ⟨fun _ => ⟨j1, ?_⟩, fun x hx => ?_, by simp [i3], ?_⟩
    ·rw [j2, dbB, dbB, List.flatMap_append, List.append_assoc]
     congr 1
     simpa using h2
    ·rcases List.mem_append.1 hx with hx | hx
     ·exact i2 x hx
     ·rw [List.mem_singleton.1 hx]; exact h3
    ·have := congrArg List.length h2
     rw [List.length_append] at this; omega
   ·cases h
theorem rdE_cons {l : List (BitVec 8)} {w : Bool} : ∀ {k : Nat}, (rdE l w k).2.2 = false → w = false ∧ l = epsB (rdE l w k).1 ++ (rdE l w k).2.1
 | 0, h => ⟨h, rfl⟩
 | k + 1, h => by
  simp only [rdE] at h ⊢
  obtain ⟨h1, h2⟩ := rn_cons (by decide) h
  obtain ⟨h3, h4⟩ := rn_cons (by decide) h1
  obtain ⟨i1, i2⟩ := rdE_cons h3
  refine ⟨i1, ?_⟩
  rw [epsB, List.flatMap_append, List.append_assoc]
  refine i2.trans ?_
  rw [← epsB]
  congr 1
  simp only [List.flatMap_cons, List.flatMap_nil, List.append_nil, epoB, List.append_assoc]
  refine h4.trans ?_
  congr 1
theorem rdE_len (l : List (BitVec 8)) (w : Bool) : ∀ k, (rdE l w k).1.length = k ∧ (rdE l w k).2.1.length ≤ l.length
 | 0 => ⟨rfl, Nat.le_refl _⟩
 | k + 1 => by
  obtain ⟨h1, h2⟩ := rdE_len l w k
  simp only [rdE]
  refine ⟨by simp [h1], ?_⟩
  exact Nat.le_trans (rnL_len _ _ _) (Nat.le_trans (rnL_len _ _ _) h2)
def nm (x : Lsa) : Lsa := ⟨x.o, x.s, x.ls.isEmpty, x.ls⟩
theorem dbB_drop {l : List Lsa} {k : Nat} (h : k < l.length) : dbB (l.drop k) = lsaB l[k] ++ dbB (l.drop (k + 1)) := by
 rw [List.drop_eq_getElem_cons h]; simp only [dbB, List.flatMap_cons]
theorem epsB_drop {l : List It} {k : Nat} (h : k < l.length) : epsB (l.drop k) = epoB l[k] ++ epsB (l.drop (k + 1)) := by
 rw [List.drop_eq_getElem_cons h]; simp only [epsB, List.flatMap_cons]
theorem rdD_back {xs : List Lsa} (h : ∀ x ∈ xs, lsaOK x = true) (r : List (BitVec 8)) : ∀ k, k ≤ xs.length → rdD (dbB xs ++ r) false k = some ((xs.map nm).take k, dbB (xs.drop k) ++ r, false)
 | 0, _ => rfl
 | k + 1, hk => by
  rw [rdD_some (rdD_back h r k (by omega)), dbB_drop (by omega), List.append_assoc]
  obtain ⟨h1, h2, h3, h4⟩ := rd_backs (h _ (List.getElem_mem (show k < xs.length by omega))) (dbB (xs.drop (k + 1)) ++ r)
  rw [h1, h2, h3, h4, if_pos rfl, List.take_succ_eq_append_getElem (by rw [List.length_map]; omega), List.getElem_map]; rfl
theorem rdE_back {xs : List It} (h : ∀ x ∈ xs, (0 < x.o ∧ x.o ≤ 64) ∧ (1 ≤ x.s ∧ x.s ≤ 1073741824)) (r : List (BitVec 8)) : ∀ k, k ≤ xs.length → rdE (epsB xs ++ r) false k = (xs.take k, epsB (xs.drop k) ++ r, false)
 | 0, _ => rfl
 | k + 1, hk => by
  rw [rdE, rdE_back h r k (by omega)]
  simp only
  have hb := h _ (List.getElem_mem (show k < xs.length by omega))
  rw [epsB_drop (by omega), epoB, List.append_assoc, List.append_assoc]
  obtain ⟨h1, h2, h3⟩ := back1 (n := xs[k].o) (by omega) (numR xs[k].s 4 ++ (epsB (xs.drop (k + 1)) ++ r))
  rw [h1, h2, h3]
  obtain ⟨h4, h5, h6⟩ := back4 (n := xs[k].s) (by omega) (epsB (xs.drop (k + 1)) ++ r)
  rw [h4, h5, h6, List.take_succ_eq_append_getElem (by omega)]
def L1 (b : List (BitVec 8)) := rnL b false 8
def W1 (b : List (BitVec 8)) := rnW b false 8
def L2 (b : List (BitVec 8)) := rnL (L1 b) (W1 b) 4
def W2 (b : List (BitVec 8)) := rnW (L1 b) (W1 b) 4
def L3 (b : List (BitVec 8)) := rnL (L2 b) (W2 b) 1
def W3 (b : List (BitVec 8)) := rnW (L2 b) (W2 b) 1
def N3 (b : List (BitVec 8)) : Int := rnV (L2 b) (W2 b) 1
def candS (b : List (BitVec 8)) (xs : List Lsa) (es : List It) : Sta := ⟨xs.isEmpty, xs, IntKind.i64.wrap (rnV b false 8), rnV (L1 b) (W1 b) 4, es.isEmpty, es⟩
def rdEE (m : List (BitVec 8)) (wm : Bool) := rdE (rnL m wm 1) (rnW m wm 1) (rnV m wm 1).toNat
def finB (b : List (BitVec 8)) (xs : List Lsa) (p : List It × List (BitVec 8) × Bool) : Sta × Int :=
 if (!p.2.2 && decide ((p.2.1.length : Int) = 0)) && staOK (candS b xs p.1) then (candS b xs p.1, 0) else (sta0, 2)
def getB (b : List (BitVec 8)) : Sta × Int :=
 match rdD (L3 b) (W3 b) (N3 b).toNat with
 | none => (sta0, 2)
 | some (xs, m, wm) => finB b xs (rdEE m wm)
theorem getB_way (b : List (BitVec 8)) : (getB b = (sta0, 2)) ∨ ((getB b).2 = 0 ∧ b = staB (getB b).1 ∧ staOK (getB b).1 = true) := by
 unfold getB
 split
 ·exact .inl rfl
 ·rename_i xs m wm h
  unfold finB
  split
  ·right
   rename_i h0
   simp only [Bool.and_eq_true, Bool.not_eq_true', decide_eq_true_eq] at h0
   refine ⟨rfl, ?_, h0.2⟩
   obtain ⟨⟨e1, e2⟩, e3⟩ := h0
   unfold rdEE at e1 e2 e3 ⊢
   obtain ⟨q1, q2⟩ := rdE_cons e1
   obtain ⟨q3, q4⟩ := rn_cons (by decide) q1
   obtain ⟨i1, i2, i3, _⟩ := rdD_cons h
   obtain ⟨i1, i4⟩ := i1 q3
   obtain ⟨j1, j2⟩ := rn_cons (l := L2 b) (by decide) i1
   obtain ⟨j3, j4⟩ := rn_cons (l := L1 b) (by decide) j1
   obtain ⟨j5, j6⟩ := rn_cons (l := b) (by decide) j3
   have hz : (rdE (rnL m wm 1) (rnW m wm 1) (rnV m wm 1).toNat).2.1 = [] := List.eq_nil_of_length_eq_zero (by omega)
   have hel := (rdE_len (rnL m wm 1) (rnW m wm 1) (rnV m wm 1).toNat).1
   rw [hz, List.append_nil] at q2
   have r1 := rnV_range1 (L2 b) (W2 b)
   have r2 := rnV_range1 m wm
   show b = staB (candS b xs _)
   unfold staB candS
   simp only
   rw [numR_wrap, hel, i3, show (((N3 b).toNat : Nat) : Int) = N3 b from Int.toNat_of_nonneg r1.1, Int.toNat_of_nonneg r2.1, ← q2]
   refine j6.trans ?_
   show _ ++ L1 b = _
   congr 1
   refine j4.trans ?_
   show _ ++ L2 b = _
   congr 1
   refine j2.trans ?_
   show _ ++ L3 b = _
   congr 1
   rw [i4]
   congr 1
  ·exact .inl rfl
def nzS (a : Sta) : Sta := ⟨a.db.isEmpty, a.db.map nm, a.up, a.bo, a.ep.isEmpty, a.ep⟩
theorem chn_nm (l : List Lsa) : ∀ t, chn lsaOK Lsa.o t (l.map nm) = chn lsaOK Lsa.o t l := by
 induction l with
 | nil => intro t; rfl
 | cons x l ih =>
  intro t
  simp only [List.map_cons, chn, ih]
  rfl
theorem nzS_ok (a : Sta) : staOK (nzS a) = staOK a := by
 show ((_ && chn lsaOK Lsa.o 0 (a.db.map nm)) && _) = _
 rw [chn_nm]; rfl
theorem getB_back {a : Sta} (h : staOK a = true) : getB (staB a) = (nzS a, 0) := by
 obtain ⟨b1, b2⟩ := nu_bd h
 obtain ⟨b3, b4⟩ := sta_list h
 have b5 := sta_lens h
 obtain ⟨p1, p2, p3⟩ := back8 (n := a.up) (by omega) (numR a.bo 4 ++ (numR (a.db.length : Int) 1 ++ (dbB a.db ++ (numR (a.ep.length : Int) 1 ++ epsB a.ep))))
 obtain ⟨p4, p5, p6⟩ := back4 (n := a.bo) (by omega) (numR (a.db.length : Int) 1 ++ (dbB a.db ++ (numR (a.ep.length : Int) 1 ++ epsB a.ep)))
 obtain ⟨p7, p8, p9⟩ := back1 (n := (a.db.length : Int)) (by omega) (dbB a.db ++ (numR (a.ep.length : Int) 1 ++ epsB a.ep))
 obtain ⟨q1, q2, q3⟩ := back1 (n := (a.ep.length : Int)) (by omega) (epsB a.ep)
 have e1 : L1 (staB a) = numR a.bo 4 ++ (numR (a.db.length : Int) 1 ++ (dbB a.db ++ (numR (a.ep.length : Int) 1 ++ epsB a.ep))) := p2
 have w1 : W1 (staB a) = false := p3
 have e2 : L2 (staB a) = numR (a.db.length : Int) 1 ++ (dbB a.db ++ (numR (a.ep.length : Int) 1 ++ epsB a.ep)) := by rw [L2, e1, w1, p5]
 have w2 : W2 (staB a) = false := by rw [W2, e1, w1, p6]
 have e3 : L3 (staB a) = dbB a.db ++ (numR (a.ep.length : Int) 1 ++ epsB a.ep) := by rw [L3, e2, w2, p8]
 have w3 : W3 (staB a) = false := by rw [W3, e2, w2, p9]
 have n3 : N3 (staB a) = (a.db.length : Int) := by rw [N3, e2, w2, p7]
 have v1 : rnV (staB a) false 8 = a.up := p1
 have v2 : rnV (L1 (staB a)) (W1 (staB a)) 4 = a.bo := by rw [e1, w1, p4]
 have hb := rdD_back b3 (numR (a.ep.length : Int) 1 ++ epsB a.ep) a.db.length (Nat.le_refl _)
 have he := rdE_back b4 [] a.ep.length (Nat.le_refl _)
 rw [List.append_nil] at he
 unfold getB
 rw [e3, w3, n3, Int.toNat_natCast, hb]
 simp only
 rw [show (List.drop a.db.length a.db) = [] by simp, show dbB [] = [] from rfl, List.nil_append, rdEE, q1, q2, q3, Int.toNat_natCast, he]
 have hc : candS (staB a) (a.db.map nm) a.ep = nzS a := by
  unfold candS nzS
  rw [v1, v2, wrap64 (n := a.up) (by omega)]
  simp
 unfold finB
 rw [show (a.db.map nm).take a.db.length = a.db.map nm from List.take_of_length_le (by simp), List.take_length]
 simp only
 rw [hc, nzS_ok, h, show (List.drop a.ep.length a.ep) = [] by simp]
 rfl
end Go.Vai.BA
set_option linter.unusedSimpArgs false
set_option linter.unusedVariables false
namespace Go.Vai.BA
open Go.Vai.O Go.Vai.L Go.Vai.D Go.Vai.I Go.Vai.G Go.Vai.C
def rfD (b : List (BitVec 8)) : Nat → Option (List Lsa × Nat)
 | 0 => some ([], 13)
 | k + 1 => match rfD b k with
  | some (xs, p) => if rfN (b.drop p) = 0 then none else some (xs ++ [rfL (b.drop p)], p + (rfN (b.drop p)).toNat)
  | none => none
theorem rfD_some {b : List (BitVec 8)} {xs : List Lsa} {p k : Nat} (h : rfD b k = some (xs, p)) : rfD b (k + 1) = if rfN (b.drop p) = 0 then none else some (xs ++ [rfL (b.drop p)], p + (rfN (b.drop p)).toNat) := by rw [rfD, h]
theorem rfD_none {b : List (BitVec 8)} {k : Nat} (h : rfD b k = none) : ∀ {n : Nat}, k ≤ n → rfD b n = none := by
 intro n hn
 induction n with
 | zero =>
  obtain rfl : k = 0 := by omega
  exact h
 | succ n ih =>
  by_cases e : k = n + 1
  ·subst e; exact h
  ·rw [rfD, ih (by omega)]
theorem rfN_bd (l : List (BitVec 8)) : 0 ≤ rfN l ∧ rfN l ≤ (l.length : Int) := by
 unfold rfN
 split
 ·rename_i h
  have := (rd_rf l).2.2.2 h
  unfold rfB at *
  omega
 ·omega
theorem rfD_le {b : List (BitVec 8)} (h : 13 ≤ b.length) : ∀ {k : Nat} {xs : List Lsa} {p : Nat}, rfD b k = some (xs, p) → (p ≤ b.length ∧ 13 ≤ p) ∧ xs.length = k ∧ ∀ x ∈ xs, x.ls.length ≤ 1000000 ∧ (x.nil = true → x.ls = [])
 | 0, xs, p, hk => by
  simp only [rfD, Option.some.injEq, Prod.mk.injEq] at hk
  obtain ⟨rfl, rfl⟩ := hk
  exact ⟨⟨h, by omega⟩, rfl, by simp⟩
 | k + 1, xs, p, hk => by
  cases h0 : rfD b k with
  | none => rw [rfD, h0] at hk; cases hk
  | some q =>
   obtain ⟨ys, p0⟩ := q
   rw [rfD_some h0] at hk
   obtain ⟨i1, i2, i3⟩ := rfD_le h h0
   split at hk
   ·cases hk
   ·simp only [Option.some.injEq, Prod.mk.injEq] at hk
    obtain ⟨rfl, rfl⟩ := hk
    have := rfN_bd (b.drop p0)
    rw [List.length_drop] at this
    refine ⟨⟨by omega, by omega⟩, by simp [i2], fun x hx => ?_⟩
    rcases List.mem_append.1 hx with hx | hx
    ·exact i3 x hx
    ·rw [List.mem_singleton.1 hx]
     refine ⟨by have := rfL_len (b.drop p0); omega, ?_⟩
     unfold rfL
     split
     ·unfold rfRaw; simp
     ·intro _; rfl
def rfe (b : List (BitVec 8)) (p i : Nat) : It := ⟨((b.getD (p + 5 * i) default).toNat : Int), rV b (p + 5 * i + 1) false 4⟩
def rfE (b : List (BitVec 8)) (p j : Nat) : List It := (List.range j).map (rfe b p)
theorem rfE_succ (b : List (BitVec 8)) (p j : Nat) : rfE b p (j + 1) = rfE b p j ++ [rfe b p j] := by simp [rfE, List.range_succ]
theorem rfE_len (b : List (BitVec 8)) (p j : Nat) : (rfE b p j).length = j := by simp [rfE]
def cnt5 (b : List (BitVec 8)) (p : Nat) : Nat := (b.length - p) / 5
def rcand (b : List (BitVec 8)) (xs : List Lsa) (es : List It) : Sta := ⟨xs.isEmpty, xs, IntKind.i64.wrap (rV b 0 false 8), rV b 8 false 4, es.isEmpty, es⟩
def rfin (b : List (BitVec 8)) (a : Sta) : Sta × Bool := if staOK a && decide (staB a = b) then (a, true) else (sta0, false)
def c12 (b : List (BitVec 8)) : Nat := (b.getD 12 default).toNat
def readB (b : List (BitVec 8)) : Sta × Bool :=
 if b.length < 14 then (sta0, false) else match rfD b (c12 b) with
  | none => (sta0, false)
  | some (xs, p) => rfin b (rcand b xs (rfE b (p + 1) (cnt5 b (p + 1))))
theorem readB_way (b : List (BitVec 8)) : readB b = (sta0, false) ∨ ((readB b).2 = true ∧ b = staB (readB b).1 ∧ staOK (readB b).1 = true) := by
 unfold readB
 split
 ·exact .inl rfl
 ·split
  ·exact .inl rfl
  ·unfold rfin
   split
   ·rename_i h
    simp only [Bool.and_eq_true, decide_eq_true_eq] at h
    exact .inr ⟨rfl, h.2.symm, h.1⟩
   ·exact .inl rfl
theorem rf_backs {x : Lsa} (h : lsaOK x = true) (r : List (BitVec 8)) : rfL (lsaB x ++ r) = nm x ∧ rfN (lsaB x ++ r) = ((lsaB x).length : Int) ∧ ¬ rfN (lsaB x ++ r) = 0 := by
 obtain ⟨h1, h2, h3, h4⟩ := rd_backs h r
 obtain ⟨k1, k2, k3, _⟩ := rd_rf (lsaB x ++ r)
 rw [h2] at k1
 have k3 := k3 k1.symm
 rw [h3, List.length_append] at k3
 have hl := lsaB_len x
 exact ⟨by rw [← k2, h1]; rfl, by omega, by omega⟩
theorem rfD_back {xs : List Lsa} (h : ∀ x ∈ xs, lsaOK x = true) (pre r : List (BitVec 8)) (hp : pre.length = 13) : ∀ k, k ≤ xs.length → rfD (pre ++ (dbB xs ++ r)) k = some ((xs.map nm).take k, 13 + (dbB (xs.take k)).length)
 | 0, _ => rfl
 | k + 1, hk => by
  have hlt : k < xs.length := by omega
  have e : (pre ++ (dbB xs ++ r)).drop (13 + (dbB (xs.take k)).length) = lsaB xs[k] ++ (dbB (xs.drop (k + 1)) ++ r) := by
   have e1 : dbB xs = dbB (xs.take k) ++ dbB (xs.drop k) := by rw [dbB, dbB, dbB, ← List.flatMap_append, List.take_append_drop]
   have e2 : pre ++ (dbB xs ++ r) = (pre ++ dbB (xs.take k)) ++ (lsaB xs[k] ++ (dbB (xs.drop (k + 1)) ++ r)) := by
    rw [e1, dbB_drop hlt]; simp only [List.append_assoc]
   rw [e2]
   exact List.drop_left' (by rw [List.length_append, hp])
  rw [rfD_some (rfD_back h pre r hp k (by omega)), e]
  obtain ⟨h1, h2, h3⟩ := rf_backs (h _ (List.getElem_mem hlt)) (dbB (xs.drop (k + 1)) ++ r)
  rw [if_neg h3, h1, h2, Int.toNat_natCast, List.take_succ_eq_append_getElem (by rw [List.length_map]; omega), List.getElem_map, dbB_take hlt, List.length_append, Nat.add_assoc]
theorem readB_back {a : Sta} (h : staOK a = true) : readB (staB a) = (nzS a, true) := by
 obtain ⟨b1, b2⟩ := nu_bd h
 obtain ⟨b3, b4⟩ := sta_list h
 have b5 := sta_lens h
 have hlen : (staB a).length = 14 + ((dbB a.db).length + 5 * a.ep.length) := by
  simp only [staB, List.length_append, numR_length, epsB_len]; omega
 -- the head's numbers
 obtain ⟨p1, p2, p3⟩ := back8 (n := a.up) (by omega) (numR a.bo 4 ++ (numR (a.db.length : Int) 1 ++ (dbB a.db ++ (numR (a.ep.length : Int) 1 ++ epsB a.ep))))
 obtain ⟨p4, p5, p6⟩ := back4 (n := a.bo) (by omega) (numR (a.db.length : Int) 1 ++ (dbB a.db ++ (numR (a.ep.length : Int) 1 ++ epsB a.ep)))
 obtain ⟨p7, p8, p9⟩ := back1 (n := (a.db.length : Int)) (by omega) (dbB a.db ++ (numR (a.ep.length : Int) 1 ++ epsB a.ep))
 have v1 : rV (staB a) 0 false 8 = a.up := by
  have := (drop_nums (l := staB a) (a := 0) (k := 8) (by omega) (by omega)).1
  rw [← this, List.drop_zero]; exact p1
 have d8 : (staB a).drop 8 = numR a.bo 4 ++ (numR (a.db.length : Int) 1 ++ (dbB a.db ++ (numR (a.ep.length : Int) 1 ++ epsB a.ep))) := List.drop_left' (numR_length _ _)
 have d12 : (staB a).drop 12 = numR (a.db.length : Int) 1 ++ (dbB a.db ++ (numR (a.ep.length : Int) 1 ++ epsB a.ep)) := by
  rw [show 12 = 8 + 4 by rfl, ← List.drop_drop, d8]; exact List.drop_left' (numR_length _ _)
 have v2 : rV (staB a) 8 false 4 = a.bo := by
  have := (drop_nums (l := staB a) (a := 8) (k := 4) (by omega) (by omega)).1
  rw [← this, d8]; exact p4
 have v3 : c12 (staB a) = a.db.length := by
  have h1 := rV_one (l := staB a) (a := 12) (by omega)
  have h2 := (drop_nums (l := staB a) (a := 12) (k := 1) (by omega) (by omega)).1
  rw [d12, p7] at h2
  unfold c12; omega
 have hd := rfD_back b3 (numR a.up 8 ++ (numR a.bo 4 ++ numR (a.db.length : Int) 1)) (numR (a.ep.length : Int) 1 ++ epsB a.ep) (by simp [numR_length]) a.db.length (Nat.le_refl _)
 have hs : numR a.up 8 ++ (numR a.bo 4 ++ numR (a.db.length : Int) 1) ++ (dbB a.db ++ (numR (a.ep.length : Int) 1 ++ epsB a.ep)) = staB a := by simp only [staB, List.append_assoc]
 rw [hs, List.take_length, show (a.db.map nm).take a.db.length = a.db.map nm from List.take_of_length_le (by simp)] at hd
 have hc : cnt5 (staB a) (13 + (dbB a.db).length + 1) = a.ep.length := by
  unfold cnt5; rw [hlen]; omega
 have dE : ∀ j, j ≤ a.ep.length → (staB a).drop (13 + (dbB a.db).length + 1 + 5 * j) = epsB (a.ep.drop j) := fun j hj => by
  have e1 : epsB a.ep = epsB (a.ep.take j) ++ epsB (a.ep.drop j) := by rw [epsB, epsB, epsB, ← List.flatMap_append, List.take_append_drop]
  have e2 : staB a = (numR a.up 8 ++ (numR a.bo 4 ++ (numR (a.db.length : Int) 1 ++ (dbB a.db ++ (numR (a.ep.length : Int) 1 ++ epsB (a.ep.take j)))))) ++ epsB (a.ep.drop j) := by
   rw [staB, e1]; simp only [List.append_assoc]
  rw [e2]
  refine List.drop_left' ?_
  simp only [List.length_append, numR_length, epsB_len, List.length_take]
  omega
 have he : rfE (staB a) (13 + (dbB a.db).length + 1) a.ep.length = a.ep := by
  refine List.ext_getElem (by rw [rfE_len]) fun j h1 h2 => ?_
  have hr : (rfE (staB a) (13 + (dbB a.db).length + 1) a.ep.length)[j] = rfe (staB a) (13 + (dbB a.db).length + 1) j := by simp [rfE]
  rw [hr]
  have hj : j < a.ep.length := h2
  have hb := b4 _ (List.getElem_mem hj)
  have e := dE j (by omega)
  rw [epsB_drop hj, epoB, List.append_assoc] at e
  obtain ⟨q1, q2, q3⟩ := back1 (n := a.ep[j].o) (by omega) (numR a.ep[j].s 4 ++ epsB (a.ep.drop (j + 1)))
  obtain ⟨q4, _, _⟩ := back4 (n := a.ep[j].s) (by omega) (epsB (a.ep.drop (j + 1)))
  have u1 := rV_one (l := staB a) (a := 13 + (dbB a.db).length + 1 + 5 * j) (by omega)
  have u2 := (drop_nums (l := staB a) (a := 13 + (dbB a.db).length + 1 + 5 * j) (k := 1) (by omega) (by omega)).1
  rw [e, q1] at u2
  have u3 := (drop_nums (l := staB a) (a := 13 + (dbB a.db).length + 1 + 5 * j + 1) (k := 4) (by omega) (by omega)).1
  rw [← List.drop_drop, e] at u3
  rw [show (numR a.ep[j].o 1 ++ (numR a.ep[j].s 4 ++ epsB (a.ep.drop (j + 1)))).drop 1 = numR a.ep[j].s 4 ++ epsB (a.ep.drop (j + 1)) from List.drop_left' (numR_length _ _), q4] at u3
  unfold rfe
  rw [← u1, ← u2, ← u3]
 have hn : rcand (staB a) (a.db.map nm) a.ep = nzS a := by
  unfold rcand nzS
  rw [v1, v2, wrap64 (n := a.up) (by omega)]
  simp
 unfold readB
 rw [if_neg (by omega), v3, hd]
 simp only
 rw [hc, he, hn]
 unfold rfin
 rw [nzS_ok, h]
 have : staB (nzS a) = staB a := by
  have e : dbB (a.db.map nm) = dbB a.db := by
   rw [dbB, dbB, List.flatMap_map]; rfl
  unfold staB nzS
  simp only [e, List.length_map]
 rw [this, decide_eq_true rfl]; rfl
theorem getB_no {l m : List (BitVec 8)} {wm : Bool} {xs : List Lsa} {k : Nat} (hk : k < (N3 l).toNat) (h : rdD (L3 l) (W3 l) k = some (xs, m, wm)) (h2 : rdOK m wm = false) : getB l = (sta0, 2) := by
 have : rdD (L3 l) (W3 l) (N3 l).toNat = none := rdD_none (k := k + 1) (by rw [rdD_some h, h2]; rfl) (by omega)
 rw [getB, this]
theorem getB_fin {l m m1 : List (BitVec 8)} {wm w1 : Bool} {xs : List Lsa} {es : List It} (h : rdD (L3 l) (W3 l) (N3 l).toNat = some (xs, m, wm)) (he : rdE (rnL m wm 1) (rnW m wm 1) (rnV m wm 1).toNat = (es, m1, w1)) :
  getB l = if (!w1 && decide ((m1.length : Int) = 0)) && staOK (candS l xs es) then (candS l xs es, 0) else (sta0, 2) := by
 rw [getB, h]
 show finB l xs (rdE (rnL m wm 1) (rnW m wm 1) (rnV m wm 1).toNat) = _
 rw [he]; rfl
theorem getB_f1 {l m m1 : List (BitVec 8)} {wm w1 : Bool} {xs : List Lsa} {es : List It} (h : rdD (L3 l) (W3 l) (N3 l).toNat = some (xs, m, wm)) (he : rdE (rnL m wm 1) (rnW m wm 1) (rnV m wm 1).toNat = (es, m1, w1))
  (h2 : (!(!w1 && decide ((m1.length : Int) = 0))) = true ∨ staE (candS l xs es) ≠ 0) : getB l = (sta0, 2) := by
 rw [getB_fin h he]
 rcases h2 with h2 | h2
 ·cases hx : (!w1 && decide ((m1.length : Int) = 0)) with
  | false => rfl
  | true => rw [hx] at h2; cases h2
 ·rw [(staE_1 h2).1, Bool.and_false]; rfl
theorem getB_f2 {l m m1 : List (BitVec 8)} {wm w1 : Bool} {xs : List Lsa} {es : List It} (h : rdD (L3 l) (W3 l) (N3 l).toNat = some (xs, m, wm)) (he : rdE (rnL m wm 1) (rnW m wm 1) (rnV m wm 1).toNat = (es, m1, w1))
  (h2 : (!(!w1 && decide ((m1.length : Int) = 0))) = false ∧ ¬ staE (candS l xs es) ≠ 0) : getB l = (candS l xs es, 0) := by
 have e : (!w1 && decide ((m1.length : Int) = 0)) = true := by
  cases hx : (!w1 && decide ((m1.length : Int) = 0)) with
  | true => rfl
  | false => rw [hx] at h2; exact absurd h2.1 (by decide)
 rw [getB_fin h he, e, staE_0 h2.2]; rfl
theorem readB_short {b : List (BitVec 8)} (h : (b.length : Int) < 14) : readB b = (sta0, false) := by rw [readB, if_pos (by omega)]
theorem readB_no {b : List (BitVec 8)} {xs : List Lsa} {p k : Nat} (h0 : ¬ (b.length : Int) < 14) (hk : k < c12 b) (h : rfD b k = some (xs, p)) (h2 : rfN (b.drop p) = 0) : readB b = (sta0, false) := by
 have : rfD b (c12 b) = none := rfD_none (k := k + 1) (by rw [rfD_some h, if_pos h2]) (by omega)
 rw [readB, if_neg (by omega), this]
theorem readB_f1 {b : List (BitVec 8)} {xs : List Lsa} {p : Nat} (h0 : ¬ (b.length : Int) < 14) (h : rfD b (c12 b) = some (xs, p)) (h2 : (!staOK (rcand b xs (rfE b (p + 1) ((b.length - (p + 1)) / 5)))) = true ∨ (!decide (staB (rcand b xs (rfE b (p + 1) ((b.length - (p + 1)) / 5))) = b)) = true) : readB b = (sta0, false) := by
 rw [readB, if_neg (by omega), h]
 show rfin b (rcand b xs (rfE b (p + 1) ((b.length - (p + 1)) / 5))) = _
 unfold rfin
 rcases h2 with h2 | h2
 ·rw [show staOK (rcand b xs (rfE b (p + 1) ((b.length - (p + 1)) / 5))) = false by simpa using h2]; rfl
 ·rw [show decide (staB (rcand b xs (rfE b (p + 1) ((b.length - (p + 1)) / 5))) = b) = false by simpa using h2, Bool.and_false]; rfl
theorem readB_f2 {b : List (BitVec 8)} {xs : List Lsa} {p : Nat} (h0 : ¬ (b.length : Int) < 14) (h : rfD b (c12 b) = some (xs, p)) (h2 : (!staOK (rcand b xs (rfE b (p + 1) ((b.length - (p + 1)) / 5)))) = false ∧ (!decide (staB (rcand b xs (rfE b (p + 1) ((b.length - (p + 1)) / 5))) = b)) = false) : readB b = (rcand b xs (rfE b (p + 1) ((b.length - (p + 1)) / 5)), true) := by
 rw [readB, if_neg (by omega), h]
 show rfin b (rcand b xs (rfE b (p + 1) ((b.length - (p + 1)) / 5))) = _
 unfold rfin
 rw [show staOK (rcand b xs (rfE b (p + 1) ((b.length - (p + 1)) / 5))) = true by simpa using h2.1, show decide (staB (rcand b xs (rfE b (p + 1) ((b.length - (p + 1)) / 5))) = b) = true by simpa using h2.2]; rfl
theorem rdD_next {l m : List (BitVec 8)} {w wm : Bool} {xs : List Lsa} {k : Nat} (h : rdD l w k = some (xs, m, wm)) (h2 : rdOK m wm = true) : rdD l w (k + 1) = some (xs ++ [rdL m wm], rdR m wm, rdW m wm) := by rw [rdD_some h, if_pos h2]
theorem rdE_next {l m : List (BitVec 8)} {w wm : Bool} {es : List It} {k : Nat} (h : rdE l w k = (es, m, wm)) : rdE l w (k + 1) = (es ++ [⟨rnV m wm 1, rnV (rnL m wm 1) (rnW m wm 1) 4⟩], rnL (rnL m wm 1) (rnW m wm 1) 4, rnW (rnL m wm 1) (rnW m wm 1) 4) := by rw [rdE, h]
theorem rfD_next {b : List (BitVec 8)} {xs : List Lsa} {p k : Nat} (h : rfD b k = some (xs, p)) (h2 : ¬ rfN (b.drop p) = 0) : rfD b (k + 1) = some (xs ++ [rfL (b.drop p)], p + (rfN (b.drop p)).toNat) := by rw [rfD_some h, if_neg h2]
theorem lens_ok {xs : List Lsa} (h : ∀ x ∈ xs, lsaOK x = true) : ∀ x ∈ xs, x.ls.length ≤ 9223372036854775807 := fun x hx => by have := (lsa_bd (h x hx)).2.2.1; omega
theorem staB_len {a : Sta} (h : staOK a = true) : (staB a).length ≤ 6094 := by
 obtain ⟨b3, b4⟩ := sta_list h
 have b5 := sta_lens h
 have := dbB_le b3
 simp only [staB, List.length_append, numR_length, epsB_len]
 omega
theorem get_read (b : List (BitVec 8)) : sameS (getB b).1 (readB b).1 = true ∧ ((getB b).2 = 0 ∧ (readB b).2 = true ∨ (getB b).2 = 2 ∧ (readB b).2 = false) := by
 rcases getB_way b with h | ⟨h1, h2, h3⟩
 ·rcases readB_way b with k | ⟨k1, k2, k3⟩
  ·rw [h, k]; exact ⟨sameS_refl _, .inr ⟨rfl, rfl⟩⟩
  ·have := getB_back k3
   rw [← k2, h] at this
   exact absurd (congrArg Prod.snd this) (show ¬ (2 : Int) = 0 by decide)
 ·have e1 := readB_back h3
  have e2 := getB_back h3
  rw [← h2] at e1 e2
  have q1 : (readB b).1 = nzS (getB b).1 := congrArg Prod.fst e1
  have q2 : (getB b).1 = nzS (getB b).1 := congrArg Prod.fst e2
  refine ⟨by rw [q1, ← q2]; exact sameS_refl _, .inl ⟨h1, congrArg Prod.snd e1⟩⟩
end Go.Vai.BA
namespace Go.Vai.BA
open Go.Proofs Go.Vai Go.Vai.C Go.Vai.D Go.Vai.DB Go.Vai.G Go.Vai.I Go.Vai.L Go.Vai.N Go.Vai.O
set_option linter.unusedSimpArgs false
set_option linter.unusedVariables false
set_option maxHeartbeats 4000000
set_option maxRecDepth 100000
theorem good_BytesB (a : Sta) (ha1 : a.db.length ≤ 1000000) (ha2 : a.ep.length ≤ 1000000) (pa : ∀ x ∈ a.db, fit x) (ok : staOK a = true) : Good Try.prog 22 [(staA a, false)] [] [(.sl 1 false (bsl (staB a)), false)] [] := by
  refine good_of_body2 71 Try.func22 rfl rfl rfl (by simp) ?_
  intro s m ha hr hv hG
  have f0 : s 0 = .v (.agg [.sl 3 a.n1 (a.db.map lsaA), i64 a.up, i64 a.bo, .sl 2 a.n2 (a.ep.map itA)]) := ha 0 _ rfl
  clear ha
  have hc : True := trivial
  have F := (And.intro f0 hG)
  obtain ⟨b1, b2⟩ := nu_bd ok
  obtain ⟨b3, b4⟩ := sta_list ok
  have b5 := sta_lens ok
  refine AW.seq ?_
  refine AW.region (cfg := cfg) ?_
  refine stp (fun _ h => sb h) ?_
  refine stp (fun _ h => s0 h) ?_
  refine aops_nil ?_
  refine AW.seq ?_
  refine AW.draw (cfg := cfg) (by kernel_rfl) (by kernel_rfl) (by kernel_rfl) ?_
  refine dstp (fun _ h => sx h) ?_
  refine dstp (fun _ h => sl h) ?_
  refine dstp (fun _ h => sd h) ?_
  refine dstp (fun _ h => co1 (w := O.good_refNum 8 _ (by omega) (by omega)) (x := h)) ?_
  refine dstp (fun _ h => sx h) ?_
  refine dstp (fun _ h => sl h) ?_
  refine dstp (fun _ h => sd h) ?_
  refine dstp (fun _ h => co1 (w := O.good_refNum 4 _ (by omega) (by omega)) (x := h)) ?_
  refine dstp (fun _ h => sp h) ?_
  refine dstp (fun _ h => st h) ?_
  refine adraw_nil (by kernel_rfl) ?_
  refine AW.seq ?_
  refine AW.region (cfg := cfg) ?_
  refine stp (fun _ h => s0 h) ?_
  refine stp (fun _ h => sx h) ?_
  refine stp (fun _ h => sl h) ?_
  iterate 2 refine stp (fun _ h => sd h) ?_
  refine stp (fun _ h => sq h) ?_
  refine stp (fun _ h => sp h) ?_
  refine stp (fun _ h => st h) ?_
  refine aops_nil ?_
  refine AW.seq ?_
  refine AW.seq ?_
  refine AW.region (cfg := cfg) ?_
  refine stp (fun _ h => s0 h) ?_
  refine aops_nil ?_
  refine AW.block ?_
  refine AW.forN (fun k σ => ∃ s m, σ = ⟨71, s, m⟩ ∧ s 1 = .lptr (.tmp 1 0) (m.objs (.tmp 1 0)).1 0 ∧ (m.objs (.tmp 1 0)).2 = .box [.v (.sl 3 a.n1 (a.db.map lsaA)), .v (i64 a.up), .v (i64 a.bo), .v (.sl 2 a.n2 (a.ep.map itA))] ∧ s 3 = .own (.var 3) (m.objs (.var 3)).1 0 ((numR a.up 8 ++ (numR a.bo 4 ++ (numR (a.db.length : Int) 1 ++ dbB (a.db.take k)))).length) ∧ (m.objs (.var 3)).2 = .arr false 1 (bsl (numR a.up 8 ++ (numR a.bo 4 ++ (numR (a.db.length : Int) 1 ++ dbB (a.db.take k))))) ∧ s 4 = .v (i64 (k : Int)) ∧ (∀ i, (m.objs (.res i)).2 = .dead) ∧ m.G = []) (a.db.length) ?_ ?_ ?_
  · refine ⟨_, _, rfl, ?_, ?_, ?_, ?_, ?_, (by intro i; simp [Mem.set, hr]), (by exact hG)⟩ <;> try simp (disch := first | omega | decide) only [go_sem, F, aIndex_map]
    all_goals first | rfl | (simp [dbB, numR_one, bsl]; done)
  · clear F f0 hr hG
    rintro k σ hk ⟨s, m, rfl, f1, o1, f3, o3, f4, hr, hG⟩
    obtain ⟨g1, o1⟩ : ∃ g, m.objs (.tmp 1 0) = (g, .box [.v (.sl 3 a.n1 (a.db.map lsaA)), .v (i64 a.up), .v (i64 a.bo), .v (.sl 2 a.n2 (a.ep.map itA))]) := ⟨_, Prod.ext rfl o1⟩
    rw [o1] at f1
    obtain ⟨g3, o3⟩ : ∃ g, m.objs (.var 3) = (g, .arr false 1 (bsl (numR a.up 8 ++ (numR a.bo 4 ++ (numR (a.db.length : Int) 1 ++ dbB (a.db.take k)))))) := ⟨_, Prod.ext rfl o3⟩
    rw [o3] at f3
    have F := (And.intro f1 (And.intro f3 (And.intro f4 (And.intro o1 (And.intro o3 hG)))))
    refine AW.seq ?_
    refine AW.seq ?_
    refine AW.region (cfg := cfg) ?_
    refine stp (fun _ h => s0 h) ?_
    refine stp (fun _ h => sx h) ?_
    refine stp (fun _ h => sl h) ?_
    refine stp (fun _ h => sd h) ?_
    refine stp (fun _ h => s0 h) ?_
    refine aops_nil ?_
    refine cnd (fun hb => ?ht1) (fun hb => ?hf1)
    case hf1 => (simp at hb; omega)
    case ht1 =>
    have hbt26 := hb
    refine AW.skip ?_
    refine AW.seq ?_
    refine AW.block ?_
    have hkl : k < a.db.length := by assumption
    have okk := b3 _ (List.getElem_mem hkl)
    have w0 := dbB_le (l := a.db.take k) (fun x hx => b3 x (List.mem_of_mem_take hx))
    simp only [List.length_take] at w0
    have wl := lsaB_len a.db[k]
    have wb := (lsa_bd okk).2.2.1
    refine AW.region (cfg := cfg) ?_
    refine stp (fun _ h => s0 h) ?_
    refine stp (fun _ h => sx h) ?_
    refine stp (fun _ h => sl h) ?_
    refine stp (fun _ h => s0 h) ?_
    refine stp (fun _ h => si h) ?_
    refine stp (fun _ h => sl h) ?_
    refine stp (fun _ h => co1 (w := good_refPutX a.db[k] okk) (x := h)) ?_
    refine stp (fun _ h => sp h) ?_
    refine stp (fun _ h => st h) ?_
    refine aops_nil ?_
    refine AW.region (cfg := cfg) ?_
    refine stp (fun _ h => s0 h) ?_
    refine stp (fun _ h => sd h) ?_
    refine stp (fun _ h => s0 h) ?_
    refine aops_nil ?_
    refine ⟨_, _, rfl, ?_, ?_, ?_, ?_, ?_, (by intro i; simp [Mem.set, hr]), (by exact hG)⟩ <;> try simp (disch := first | omega | decide) only [go_sem, F, aIndex_map]
    all_goals first | rfl | (rw [dbB_take hkl]; done) | (rw [dbB_take hkl]; simp; omega)
  · clear F f0 hr hG
    rintro σ ⟨s, m, rfl, f1, o1, f3, o3, f4, hr, hG⟩
    obtain ⟨g1, o1⟩ : ∃ g, m.objs (.tmp 1 0) = (g, .box [.v (.sl 3 a.n1 (a.db.map lsaA)), .v (i64 a.up), .v (i64 a.bo), .v (.sl 2 a.n2 (a.ep.map itA))]) := ⟨_, Prod.ext rfl o1⟩
    rw [o1] at f1
    obtain ⟨g3, o3⟩ : ∃ g, m.objs (.var 3) = (g, .arr false 1 (bsl (numR a.up 8 ++ (numR a.bo 4 ++ (numR (a.db.length : Int) 1 ++ dbB (a.db.take a.db.length)))))) := ⟨_, Prod.ext rfl o3⟩
    rw [o3] at f3
    have F := (And.intro f1 (And.intro f3 (And.intro f4 (And.intro o1 (And.intro o3 hG)))))
    refine AW.seq ?_
    refine AW.seq ?_
    refine AW.region (cfg := cfg) ?_
    refine stp (fun _ h => s0 h) ?_
    refine stp (fun _ h => sx h) ?_
    refine stp (fun _ h => sl h) ?_
    refine stp (fun _ h => sd h) ?_
    refine stp (fun _ h => s0 h) ?_
    refine aops_nil ?_
    refine cnd (fun hb => ?ht2) (fun hb => ?hf2)
    case ht2 => (simp at hb; done)
    case hf2 =>
    have hbt26 := hb
    refine AW.exit ?_
    refine AW.seq ?_
    have w0 := dbB_le b3
    refine AW.region (cfg := cfg) ?_
    refine stp (fun _ h => s0 h) ?_
    refine stp (fun _ h => sx h) ?_
    refine stp (fun _ h => sl h) ?_
    iterate 2 refine stp (fun _ h => sd h) ?_
    refine stp (fun _ h => sq h) ?_
    refine stp (fun _ h => sp h) ?_
    refine stp (fun _ h => st h) ?_
    refine aops_nil ?_
    refine AW.seq ?_
    refine AW.seq ?_
    refine AW.region (cfg := cfg) ?_
    refine stp (fun _ h => s0 h) ?_
    refine aops_nil ?_
    refine AW.block ?_
    refine AW.forN (fun k σ => ∃ s m, σ = ⟨71, s, m⟩ ∧ s 1 = .lptr (.tmp 1 0) (m.objs (.tmp 1 0)).1 0 ∧ (m.objs (.tmp 1 0)).2 = .box [.v (.sl 3 a.n1 (a.db.map lsaA)), .v (i64 a.up), .v (i64 a.bo), .v (.sl 2 a.n2 (a.ep.map itA))] ∧ s 3 = .own (.var 3) (m.objs (.var 3)).1 0 ((numR a.up 8 ++ (numR a.bo 4 ++ (numR (a.db.length : Int) 1 ++ (dbB a.db ++ (numR (a.ep.length : Int) 1 ++ epsB (a.ep.take k)))))).length) ∧ (m.objs (.var 3)).2 = .arr false 1 (bsl (numR a.up 8 ++ (numR a.bo 4 ++ (numR (a.db.length : Int) 1 ++ (dbB a.db ++ (numR (a.ep.length : Int) 1 ++ epsB (a.ep.take k))))))) ∧ s 5 = .v (i64 (k : Int)) ∧ (∀ i, (m.objs (.res i)).2 = .dead) ∧ m.G = []) (a.ep.length) ?_ ?_ ?_
    · refine ⟨_, _, rfl, ?_, ?_, ?_, ?_, ?_, (by intro i; simp [Mem.set, hr]), (by exact hG)⟩ <;> try simp (disch := first | omega | decide) only [go_sem, F, aIndex_map]
      all_goals first | rfl | (simp [epsB, numR_one, bsl]; done) | (simp [epsB]; omega)
    · clear F f1 f3 f4 o1 o3 hr hG
      rintro k σ hk ⟨s, m, rfl, f1, o1, f3, o3, f5, hr, hG⟩
      obtain ⟨g1, o1⟩ : ∃ g, m.objs (.tmp 1 0) = (g, .box [.v (.sl 3 a.n1 (a.db.map lsaA)), .v (i64 a.up), .v (i64 a.bo), .v (.sl 2 a.n2 (a.ep.map itA))]) := ⟨_, Prod.ext rfl o1⟩
      rw [o1] at f1
      obtain ⟨g3, o3⟩ : ∃ g, m.objs (.var 3) = (g, .arr false 1 (bsl (numR a.up 8 ++ (numR a.bo 4 ++ (numR (a.db.length : Int) 1 ++ (dbB a.db ++ (numR (a.ep.length : Int) 1 ++ epsB (a.ep.take k)))))))) := ⟨_, Prod.ext rfl o3⟩
      rw [o3] at f3
      have F := (And.intro f1 (And.intro f3 (And.intro f5 (And.intro o1 (And.intro o3 hG)))))
      refine AW.seq ?_
      refine AW.seq ?_
      refine AW.region (cfg := cfg) ?_
      refine stp (fun _ h => s0 h) ?_
      refine stp (fun _ h => sx h) ?_
      refine stp (fun _ h => sl h) ?_
      refine stp (fun _ h => sd h) ?_
      refine stp (fun _ h => s0 h) ?_
      refine aops_nil ?_
      refine cnd (fun hb => ?ht3) (fun hb => ?hf3)
      case hf3 => (simp at hb; omega)
      case ht3 =>
      have hbt48 := hb
      refine AW.skip ?_
      refine AW.seq ?_
      refine AW.block ?_
      have hkl : k < a.ep.length := by assumption
      have okk := b4 _ (List.getElem_mem hkl)
      have w0 := dbB_le b3
      refine AW.draw (cfg := cfg) (by kernel_rfl) (by kernel_rfl) (by kernel_rfl) ?_
      refine dstp (fun _ h => s0 h) ?_
      refine dstp (fun _ h => sx h) ?_
      refine dstp (fun _ h => sl h) ?_
      refine dstp (fun _ h => s0 h) ?_
      refine dstp (fun _ h => si h) ?_
      refine dstp (fun _ h => sx h) ?_
      refine dstp (fun _ h => sl h) ?_
      refine dstp (fun _ h => sd h) ?_
      refine dstp (fun _ h => sq h) ?_
      refine dstp (fun _ h => sp h) ?_
      refine dstp (fun _ h => sx h) ?_
      refine dstp (fun _ h => sl h) ?_
      refine dstp (fun _ h => s0 h) ?_
      refine dstp (fun _ h => si h) ?_
      refine dstp (fun _ h => sx h) ?_
      refine dstp (fun _ h => sl h) ?_
      refine dstp (fun _ h => sd h) ?_
      refine dstp (fun _ h => co1 (w := O.good_refNum 4 _ (by omega) (by omega)) (x := h)) ?_
      refine dstp (fun _ h => sp h) ?_
      refine dstp (fun _ h => st h) ?_
      refine adraw_nil (by kernel_rfl) ?_
      refine AW.region (cfg := cfg) ?_
      refine stp (fun _ h => s0 h) ?_
      refine stp (fun _ h => sd h) ?_
      refine stp (fun _ h => s0 h) ?_
      refine aops_nil ?_
      refine ⟨_, _, rfl, ?_, ?_, ?_, ?_, ?_, (by intro i; simp [Mem.set, hr]), (by exact hG)⟩ <;> try simp (disch := first | omega | decide) only [go_sem, F, aIndex_map]
      all_goals first | rfl | (rw [epsB_take hkl]; simp [epoB, numR_one, bsl]; done) | (rw [epsB_take hkl]; simp [epoB]; omega)
    · clear F f1 f3 f4 o1 o3 hr hG
      rintro σ ⟨s, m, rfl, f1, o1, f3, o3, f5, hr, hG⟩
      obtain ⟨g1, o1⟩ : ∃ g, m.objs (.tmp 1 0) = (g, .box [.v (.sl 3 a.n1 (a.db.map lsaA)), .v (i64 a.up), .v (i64 a.bo), .v (.sl 2 a.n2 (a.ep.map itA))]) := ⟨_, Prod.ext rfl o1⟩
      rw [o1] at f1
      obtain ⟨g3, o3⟩ : ∃ g, m.objs (.var 3) = (g, .arr false 1 (bsl (numR a.up 8 ++ (numR a.bo 4 ++ (numR (a.db.length : Int) 1 ++ (dbB a.db ++ (numR (a.ep.length : Int) 1 ++ epsB (a.ep.take a.ep.length)))))))) := ⟨_, Prod.ext rfl o3⟩
      rw [o3] at f3
      have F := (And.intro f1 (And.intro f3 (And.intro f5 (And.intro o1 (And.intro o3 hG)))))
      refine AW.seq ?_
      refine AW.seq ?_
      refine AW.region (cfg := cfg) ?_
      refine stp (fun _ h => s0 h) ?_
      refine stp (fun _ h => sx h) ?_
      refine stp (fun _ h => sl h) ?_
      refine stp (fun _ h => sd h) ?_
      refine stp (fun _ h => s0 h) ?_
      refine aops_nil ?_
      refine cnd (fun hb => ?ht4) (fun hb => ?hf4)
      case ht4 => (simp at hb; done)
      case hf4 =>
      have hbt48 := hb
      refine AW.exit ?_
      refine AW.seq ?_
      refine AW.region (cfg := cfg) ?_
      refine stp (fun _ h => s0 h) ?_
      refine stp (fun _ h => sm h) ?_
      refine aops_nil ?_
      refine AW.ret ?_
      refine ⟨.inr rfl, ?_⟩
      refine leaves_tmp1 2 rfl ?_ (by exact hG)
      simp (disch := first | omega | decide) only [go_sem, F, aIndex_map]
      all_goals (simp [staB, sub, List.take_of_length_le]; done)
end Go.Vai.BA
namespace Go.Vai.BA
open Go.Proofs Go.Vai Go.Vai.C Go.Vai.D Go.Vai.DB Go.Vai.G Go.Vai.I Go.Vai.L Go.Vai.N Go.Vai.O
set_option linter.unusedSimpArgs false
set_option linter.unusedVariables false
set_option maxHeartbeats 4000000
set_option maxRecDepth 100000
theorem good_GetB (nil : Bool) (l : List (BitVec 8)) (hl : l.length ≤ 140737488355000) (hz : nil = true → l = []) : Good Try.prog 16 [(.sl 1 nil (bsl l), false)] [] [(staA (getB l).1, false), (i64 (getB l).2, false)] [] := by
  refine good_of_body4 63 Try.func16 rfl rfl rfl (by simp) (by simp) (by simp [noPtrL, noPtr]) (by simp [noPtrL, noPtr]) ?_
  intro s m ha hr hv hG
  have f0 : s 0 = .v (.sl 1 nil (bsl l)) := ha 0 _ rfl
  clear ha
  have hc : True := trivial
  have F := (And.intro f0 hG)
  have v0 := rnV_range l false 8
  have v1 := rnV_range4 (rnL l false 8) (rnW l false 8)
  have v2 := rnV_range1 (rnL (rnL l false 8) (rnW l false 8) 4) (rnW (rnL l false 8) (rnW l false 8) 4)
  have ll1 := rnL_len l false 8
  have ll2 := rnL_len (rnL l false 8) (rnW l false 8) 4
  have ll3 := rnL_len (rnL (rnL l false 8) (rnW l false 8) 4) (rnW (rnL l false 8) (rnW l false 8) 4) 1
  have lz1 : nil = true → (rnL l false 8) = [] := fun h => rnL_nil (hz h) _ _
  have lz2 : nil = true → (rnL (rnL l false 8) (rnW l false 8) 4) = [] := fun h => rnL_nil (lz1 h) _ _
  have lz3 : nil = true → (rnL (rnL (rnL l false 8) (rnW l false 8) 4) (rnW (rnL l false 8) (rnW l false 8) 4) 1) = [] := fun h => rnL_nil (lz2 h) _ _
  refine AW.seq ?_
  refine AW.region (cfg := cfg) ?_
  refine stp (fun _ h => sd h) ?_
  refine stp (fun _ h => s0 h) ?_
  refine aops_nil ?_
  refine AW.seq ?_
  refine AW.region (cfg := cfg) ?_
  refine stp (fun _ h => s0 h) ?_
  refine stp (fun _ h => cg (w := O.good_Read nil l (by omega) hz) (x := h)) ?_
  refine stp (fun _ h => s0 h) ?_
  refine aops_nil ?_
  refine AW.seq ?_
  refine AW.region (cfg := cfg) ?_
  refine stp (fun _ h => s0 h) ?_
  refine stp (fun _ h => cg (w := O.good_NumR nil l false (by omega) hz 8) (x := h)) ?_
  refine stp (fun _ h => sd h) ?_
  refine stp (fun _ h => s0 h) ?_
  refine stp (fun _ h => cg (w := O.good_NumR nil (rnL l false 8) (rnW l false 8) (by omega) lz1 4) (x := h)) ?_
  refine stp (fun _ h => sd h) ?_
  refine stp (fun _ h => su h) ?_
  refine stp (fun _ h => sd h) ?_
  refine stp0 (fun _ h => ss h) ?_
  refine aops_nil ?_
  refine AW.seq ?_
  refine AW.seq ?_
  refine AW.cellNil 5 0 3 (by simp (disch := first | omega | decide) only [go_sem, F, aIndex_map]; rfl) (by rfl) ?_
  refine AW.cellNil 5 3 2 (by simp (disch := first | omega | decide) only [go_sem, F, aIndex_map]; rfl) (by rfl) ?_
  refine AW.region (cfg := cfg) ?_
  refine stp (fun _ h => s0 h) ?_
  refine stp (fun _ h => cg (w := O.good_NumR nil (rnL (rnL l false 8) (rnW l false 8) 4) (rnW (rnL l false 8) (rnW l false 8) 4) (by omega) lz2 1) (x := h)) ?_
  refine stp (fun _ h => s0 h) ?_
  refine aops_nil ?_
  refine AW.block ?_
  refine AW.forN (fun k σ => ∃ (s : Nat → LV) (m : Mem) (xs : List Lsa) (m0 : List (BitVec 8)) (wk : Bool), σ = ⟨63, s, m⟩ ∧ s 2 = .lptr (.tmp 2 0) (m.objs (.tmp 2 0)).1 0 ∧ (m.objs (.tmp 2 0)).2 = .box [.v (.sl 3 true []), .v (i64 0), .v (i64 0), .v (.sl 2 true [])] ∧ s 3 = .v (i64 0) ∧ s 4 = .v (.gp 0 0) ∧ s 5 = .lptr (.tmp 5 0) (m.objs (.tmp 5 0)).1 0 ∧ (m.objs (.tmp 5 0)).2 = .box [.own (.cell 5 0) (m.objs (.cell 5 0)).1 0 (xs).length, .v (i64 (IntKind.i64.wrap (rnV l false 8))), .v (i64 (rnV (rnL l false 8) (rnW l false 8) 4)), .own (.cell 5 3) (m.objs (.cell 5 3)).1 0 (([] : List It)).length] ∧ (m.objs (.cell 5 0)).2 = .arr (xs).isEmpty 3 ((xs).map lsaA) ∧ (m.objs (.cell 5 3)).2 = .arr (([] : List It)).isEmpty 2 ((([] : List It)).map itA) ∧ s 18 = .v (.i .u64 (rnV (rnL (rnL l false 8) (rnW l false 8) 4) (rnW (rnL l false 8) (rnW l false 8) 4) 1)) ∧ s 19 = .v (.i .u64 (k : Int)) ∧ (rdD (rnL (rnL (rnL l false 8) (rnW l false 8) 4) (rnW (rnL l false 8) (rnW l false 8) 4) 1) (rnW (rnL (rnL l false 8) (rnW l false 8) 4) (rnW (rnL l false 8) (rnW l false 8) 4) 1) k = some (xs, m0, wk)) ∧ (m0.length ≤ l.length) ∧ (nil = true → m0 = []) ∧ (xs.length = k) ∧ (∀ i, (m.objs (.res i)).2 = .dead) ∧ m.G = [[.sl 1 (nil) (bsl (m0)), .b (wk)]]) ((rnV (rnL (rnL l false 8) (rnW l false 8) 4) (rnW (rnL l false 8) (rnW l false 8) 4) 1).toNat) ?_ ?_ ?_
  · refine ⟨_, _, [], (rnL (rnL (rnL l false 8) (rnW l false 8) 4) (rnW (rnL l false 8) (rnW l false 8) 4) 1), (rnW (rnL (rnL l false 8) (rnW l false 8) 4) (rnW (rnL l false 8) (rnW l false 8) 4) 1), rfl, ?_, ?_, ?_, ?_, ?_, ?_, ?_, ?_, ?_, ?_, ?_, ?_, ?_, ?_, (by intro i; simp [Mem.set, hr]), (by rfl)⟩ <;> try simp (disch := first | omega | decide) only [go_sem, F, aIndex_map]
    all_goals first | rfl | omega
  · clear F f0 hr hG
    rintro k σ hk ⟨s, m, xs, m0, wk, rfl, f2, o2, f3, f4, f5, o5, o5c0, o5c3, f18, f19, mo0, mo1, mo2, mo3, hr, hG⟩
    obtain ⟨g2, o2⟩ : ∃ g, m.objs (.tmp 2 0) = (g, .box [.v (.sl 3 true []), .v (i64 0), .v (i64 0), .v (.sl 2 true [])]) := ⟨_, Prod.ext rfl o2⟩
    rw [o2] at f2
    obtain ⟨g5c0, o5c0⟩ : ∃ g, m.objs (.cell 5 0) = (g, .arr (xs).isEmpty 3 ((xs).map lsaA)) := ⟨_, Prod.ext rfl o5c0⟩
    rw [o5c0] at o5
    obtain ⟨g5c3, o5c3⟩ : ∃ g, m.objs (.cell 5 3) = (g, .arr (([] : List It)).isEmpty 2 ((([] : List It)).map itA)) := ⟨_, Prod.ext rfl o5c3⟩
    rw [o5c3] at o5
    simp only at o5
    obtain ⟨g5, o5⟩ : ∃ g, m.objs (.tmp 5 0) = (g, .box [.own (.cell 5 0) g5c0 0 (xs).length, .v (i64 (IntKind.i64.wrap (rnV l false 8))), .v (i64 (rnV (rnL l false 8) (rnW l false 8) 4)), .own (.cell 5 3) g5c3 0 (([] : List It)).length]) := ⟨_, Prod.ext rfl o5⟩
    rw [o5] at f5
    have F := (And.intro f2 (And.intro f3 (And.intro f4 (And.intro f5 (And.intro f18 (And.intro f19 (And.intro o2 (And.intro o5 (And.intro o5c0 (And.intro o5c3 hG))))))))))
    refine AW.seq ?_
    refine AW.region (cfg := cfg) ?_
    refine stp (fun _ h => s0 h) ?_
    refine aops_nil ?_
    refine AW.seq ?_
    refine cnd (fun hb => ?ht1) (fun hb => ?hf1)
    case hf1 => (simp at hb; omega)
    case ht1 =>
    have hbt20 := hb
    refine AW.skip ?_
    refine AW.seq ?_
    refine AW.block ?_
    refine AW.seq ?_
    refine AW.region (cfg := cfg) ?_
    refine stp (fun _ h => s0 h) ?_
    refine stp (fun _ h => cg (w := L.good_Read nil m0 wk (by omega) mo2) (x := h)) ?_
    iterate 3 refine stp (fun _ h => s0 h) ?_
    refine stp (fun _ h => sd h) ?_
    refine stp0 (fun _ h => ss h) ?_
    refine stp (fun _ h => s0 h) ?_
    refine aops_nil ?_
    refine AW.seq ?_
    refine AW.seq ?_
    refine AW.region (cfg := cfg) ?_
    iterate 2 refine stp (fun _ h => s0 h) ?_
    refine aops_nil ?_
    refine cnd (fun hb => ?ht2) (fun hb => ?hf2)
    case ht2 =>
      have hw27 := hb
      try simp only [bo1, bo2, bo3, bo4, bo5, bo6] at hb
      have hbt27 := hb
      refine AW.seq ?_
      refine AW.region (cfg := cfg) ?_
      refine stp (fun _ h => su h) ?_
      refine stp0 (fun _ h => ss h) ?_
      refine stp (fun _ h => s0 h) ?_
      refine aops_nil ?_
      refine AW.ret ?_
      refine ⟨.inr rfl, ?_⟩
      apply Exists.intro
      refine leaves_mwp2 (rs := [.cell 2 25, .tmp 3]) rfl ?_
      simp (config := {failIfUnchanged := false}) [giveL, srcOne, rehome, freezeN, sub, ti25, upd, opn, aLoad, loadL, giveOne, reify, reifyL, readL, readOne, Mwp, M.bind, Mem.set, setAt, cellsL, hG, f2, f3, f4, f5, f18, f19, o2, o5, o5c0, o5c3]
      all_goals (rw [getB_no hk mo0 (by simpa using hbt27)]; exact ⟨⟨rfl, rfl⟩, rfl⟩)
    case hf2 =>
      have hw27 := hb
      try simp only [bo1, bo2, bo3, bo4, bo5, bo6] at hb
      have hbt27 := hb
      refine AW.skip ?_
      have hok : rdOK m0 wk = true := by simpa using hbt27
      have rr := rdR_le m0 wk
      refine AW.region (cfg := cfg) ?_
      refine stp (fun _ h => sx h) ?_
      iterate 2 refine stp (fun _ h => sl h) ?_
      refine stp (fun _ h => sq h) ?_
      refine stp (fun _ h => sp h) ?_
      refine stp (fun _ h => sx h) ?_
      refine stp0 (fun _ h => ss h) ?_
      refine aops_nil ?_
      refine AW.region (cfg := cfg) ?_
      refine stp (fun _ h => sd h) ?_
      refine stp (fun _ h => s0 h) ?_
      refine aops_nil ?_
      refine ⟨_, _, xs ++ [rdL m0 wk], rdR m0 wk, rdW m0 wk, rfl, ?_, ?_, ?_, ?_, ?_, ?_, ?_, ?_, ?_, ?_, ?_, ?_, ?_, ?_, (by intro i; simp [Mem.set, hr]), (by rfl)⟩ <;> try simp (disch := first | omega | decide) only [go_sem, F, aIndex_map]
      all_goals first | rfl | exact rdD_next mo0 hok | omega | (intro h; rw [mo2 h]; exact rdR_nil) | (simp; done) | (simp [lsaA]; done) | (simp; omega)
  · clear F f0 hr hG
    rintro σ ⟨s, m, xs, m0, wk, rfl, f2, o2, f3, f4, f5, o5, o5c0, o5c3, f18, f19, mo0, mo1, mo2, mo3, hr, hG⟩
    obtain ⟨g2, o2⟩ : ∃ g, m.objs (.tmp 2 0) = (g, .box [.v (.sl 3 true []), .v (i64 0), .v (i64 0), .v (.sl 2 true [])]) := ⟨_, Prod.ext rfl o2⟩
    rw [o2] at f2
    obtain ⟨g5c0, o5c0⟩ : ∃ g, m.objs (.cell 5 0) = (g, .arr (xs).isEmpty 3 ((xs).map lsaA)) := ⟨_, Prod.ext rfl o5c0⟩
    rw [o5c0] at o5
    obtain ⟨g5c3, o5c3⟩ : ∃ g, m.objs (.cell 5 3) = (g, .arr (([] : List It)).isEmpty 2 ((([] : List It)).map itA)) := ⟨_, Prod.ext rfl o5c3⟩
    rw [o5c3] at o5
    simp only at o5
    obtain ⟨g5, o5⟩ : ∃ g, m.objs (.tmp 5 0) = (g, .box [.own (.cell 5 0) g5c0 0 (xs).length, .v (i64 (IntKind.i64.wrap (rnV l false 8))), .v (i64 (rnV (rnL l false 8) (rnW l false 8) 4)), .own (.cell 5 3) g5c3 0 (([] : List It)).length]) := ⟨_, Prod.ext rfl o5⟩
    rw [o5] at f5
    have F := (And.intro f2 (And.intro f3 (And.intro f4 (And.intro f5 (And.intro f18 (And.intro f19 (And.intro o2 (And.intro o5 (And.intro o5c0 (And.intro o5c3 hG))))))))))
    refine AW.seq ?_
    refine AW.region (cfg := cfg) ?_
    refine stp (fun _ h => s0 h) ?_
    refine aops_nil ?_
    refine AW.seq ?_
    refine cnd (fun hb => ?ht3) (fun hb => ?hf3)
    case ht3 => (simp at hb; omega)
    case hf3 =>
    have hbt20 := hb
    refine AW.exit ?_
    refine AW.seq ?_
    refine AW.seq ?_
    have md := mo0
    have ml := mo1
    have mz := mo2
    have mk := mo3
    obtain ⟨_, xo, _, _⟩ := rdD_cons md
    have v4 := rnV_range1 m0 wk
    have ll4 := rnL_len m0 wk 1
    have lz4 : nil = true → (rnL m0 wk 1) = [] := fun h => rnL_nil (mz h) _ _
    refine AW.region (cfg := cfg) ?_
    refine stp (fun _ h => s0 h) ?_
    refine stp (fun _ h => cg (w := O.good_NumR nil m0 wk (by omega) mz 1) (x := h)) ?_
    refine stp (fun _ h => s0 h) ?_
    refine aops_nil ?_
    refine AW.block ?_
    refine AW.forN (fun k σ => ∃ (s : Nat → LV) (m : Mem) (es : List It) (m1 : List (BitVec 8)) (w1 : Bool), σ = ⟨63, s, m⟩ ∧ s 2 = .lptr (.tmp 2 0) (m.objs (.tmp 2 0)).1 0 ∧ (m.objs (.tmp 2 0)).2 = .box [.v (.sl 3 true []), .v (i64 0), .v (i64 0), .v (.sl 2 true [])] ∧ s 3 = .v (i64 0) ∧ s 4 = .v (.gp 0 0) ∧ s 5 = .lptr (.tmp 5 0) (m.objs (.tmp 5 0)).1 0 ∧ (m.objs (.tmp 5 0)).2 = .box [.own (.cell 5 0) (m.objs (.cell 5 0)).1 0 (xs).length, .v (i64 (IntKind.i64.wrap (rnV l false 8))), .v (i64 (rnV (rnL l false 8) (rnW l false 8) 4)), .own (.cell 5 3) (m.objs (.cell 5 3)).1 0 (es).length] ∧ (m.objs (.cell 5 0)).2 = .arr (xs).isEmpty 3 ((xs).map lsaA) ∧ (m.objs (.cell 5 3)).2 = .arr (es).isEmpty 2 ((es).map itA) ∧ s 37 = .v (.i .u64 (rnV m0 wk 1)) ∧ s 38 = .v (.i .u64 (k : Int)) ∧ (rdE (rnL m0 wk 1) (rnW m0 wk 1) k = (es, m1, w1)) ∧ (m1.length ≤ l.length) ∧ (nil = true → m1 = []) ∧ (es.length = k) ∧ (∀ i, (m.objs (.res i)).2 = .dead) ∧ m.G = [[.sl 1 (nil) (bsl (m1)), .b (w1)]]) ((rnV m0 wk 1).toNat) ?_ ?_ ?_
    · refine ⟨_, _, [], (rnL m0 wk 1), (rnW m0 wk 1), rfl, ?_, ?_, ?_, ?_, ?_, ?_, ?_, ?_, ?_, ?_, ?_, ?_, ?_, ?_, (by intro i; simp [Mem.set, hr]), (by rfl)⟩ <;> try simp (disch := first | omega | decide) only [go_sem, F, aIndex_map]
      all_goals first | rfl | omega
    · clear F f2 f3 f4 f5 f18 f19 o2 o5 o5c0 o5c3 hr hG
      rintro k σ hk ⟨s, m, es, m1, w1, rfl, f2, o2, f3, f4, f5, o5, o5c0, o5c3, f37, f38, mo0, mo1, mo2, mo3, hr, hG⟩
      obtain ⟨g2, o2⟩ : ∃ g, m.objs (.tmp 2 0) = (g, .box [.v (.sl 3 true []), .v (i64 0), .v (i64 0), .v (.sl 2 true [])]) := ⟨_, Prod.ext rfl o2⟩
      rw [o2] at f2
      obtain ⟨g5c0, o5c0⟩ : ∃ g, m.objs (.cell 5 0) = (g, .arr (xs).isEmpty 3 ((xs).map lsaA)) := ⟨_, Prod.ext rfl o5c0⟩
      rw [o5c0] at o5
      obtain ⟨g5c3, o5c3⟩ : ∃ g, m.objs (.cell 5 3) = (g, .arr (es).isEmpty 2 ((es).map itA)) := ⟨_, Prod.ext rfl o5c3⟩
      rw [o5c3] at o5
      simp only at o5
      obtain ⟨g5, o5⟩ : ∃ g, m.objs (.tmp 5 0) = (g, .box [.own (.cell 5 0) g5c0 0 (xs).length, .v (i64 (IntKind.i64.wrap (rnV l false 8))), .v (i64 (rnV (rnL l false 8) (rnW l false 8) 4)), .own (.cell 5 3) g5c3 0 (es).length]) := ⟨_, Prod.ext rfl o5⟩
      rw [o5] at f5
      have F := (And.intro f2 (And.intro f3 (And.intro f4 (And.intro f5 (And.intro f37 (And.intro f38 (And.intro o2 (And.intro o5 (And.intro o5c0 (And.intro o5c3 hG))))))))))
      refine AW.seq ?_
      refine AW.region (cfg := cfg) ?_
      refine stp (fun _ h => s0 h) ?_
      refine aops_nil ?_
      refine AW.seq ?_
      refine cnd (fun hb => ?ht4) (fun hb => ?hf4)
      case hf4 => (simp at hb; omega)
      case ht4 =>
      have hbt39 := hb
      refine AW.skip ?_
      refine AW.seq ?_
      refine AW.block ?_
      have v5 := rnV_range1 m1 w1
      have v6 := rnV_range4 (rnL m1 w1 1) (rnW m1 w1 1)
      have ll5 := rnL_len m1 w1 1
      have ll6 := rnL_len (rnL m1 w1 1) (rnW m1 w1 1) 4
      have lz5 : nil = true → (rnL m1 w1 1) = [] := fun h => rnL_nil (mo2 h) _ _
      have lz6 : nil = true → rnL (rnL m1 w1 1) (rnW m1 w1 1) 4 = [] := fun h => rnL_nil (lz5 h) _ _
      refine AW.draw (cfg := cfg) (by kernel_rfl) (by kernel_rfl) (by kernel_rfl) ?_
      refine dstp (fun _ h => sx h) ?_
      refine dstp (fun _ h => sl h) ?_
      refine dstp (fun _ h => s0 h) ?_
      refine dstp (fun _ h => cg (w := O.good_NumR nil m1 w1 (by omega) mo2 1) (x := h)) ?_
      refine dstp (fun _ h => sd h) ?_
      refine dstp (fun _ h => s0 h) ?_
      refine dstp (fun _ h => cg (w := O.good_NumR nil (rnL m1 w1 1) (rnW m1 w1 1) (by omega) lz5 4) (x := h)) ?_
      refine dstp (fun _ h => sd h) ?_
      refine dstp (fun _ h => su h) ?_
      refine dstp (fun _ h => sq h) ?_
      refine dstp (fun _ h => sp h) ?_
      refine dstp (fun _ h => sx h) ?_
      refine dstp0 (fun _ h => ss h) ?_
      refine adraw_nil (by kernel_rfl) ?_
      refine AW.region (cfg := cfg) ?_
      refine stp (fun _ h => sd h) ?_
      refine stp (fun _ h => s0 h) ?_
      refine aops_nil ?_
      refine ⟨_, _, es ++ [⟨rnV m1 w1 1, rnV (rnL m1 w1 1) (rnW m1 w1 1) 4⟩], rnL (rnL m1 w1 1) (rnW m1 w1 1) 4, rnW (rnL m1 w1 1) (rnW m1 w1 1) 4, rfl, ?_, ?_, ?_, ?_, ?_, ?_, ?_, ?_, ?_, ?_, ?_, ?_, ?_, ?_, (by intro i; simp [Mem.set, hr]), (by rfl)⟩ <;> try simp (disch := first | omega | decide) only [go_sem, F, aIndex_map]
      all_goals first | rfl | exact rdE_next mo0 | exact lz6 | omega | (simp [itA]; done) | (simp; omega)
    · clear F f2 f3 f4 f5 f18 f19 o2 o5 o5c0 o5c3 hr hG
      rintro σ ⟨s, m, es, m1, w1, rfl, f2, o2, f3, f4, f5, o5, o5c0, o5c3, f37, f38, mo0, mo1, mo2, mo3, hr, hG⟩
      obtain ⟨g2, o2⟩ : ∃ g, m.objs (.tmp 2 0) = (g, .box [.v (.sl 3 true []), .v (i64 0), .v (i64 0), .v (.sl 2 true [])]) := ⟨_, Prod.ext rfl o2⟩
      rw [o2] at f2
      obtain ⟨g5c0, o5c0⟩ : ∃ g, m.objs (.cell 5 0) = (g, .arr (xs).isEmpty 3 ((xs).map lsaA)) := ⟨_, Prod.ext rfl o5c0⟩
      rw [o5c0] at o5
      obtain ⟨g5c3, o5c3⟩ : ∃ g, m.objs (.cell 5 3) = (g, .arr (es).isEmpty 2 ((es).map itA)) := ⟨_, Prod.ext rfl o5c3⟩
      rw [o5c3] at o5
      simp only at o5
      obtain ⟨g5, o5⟩ : ∃ g, m.objs (.tmp 5 0) = (g, .box [.own (.cell 5 0) g5c0 0 (xs).length, .v (i64 (IntKind.i64.wrap (rnV l false 8))), .v (i64 (rnV (rnL l false 8) (rnW l false 8) 4)), .own (.cell 5 3) g5c3 0 (es).length]) := ⟨_, Prod.ext rfl o5⟩
      rw [o5] at f5
      have F := (And.intro f2 (And.intro f3 (And.intro f4 (And.intro f5 (And.intro f37 (And.intro f38 (And.intro o2 (And.intro o5 (And.intro o5c0 (And.intro o5c3 hG))))))))))
      refine AW.seq ?_
      refine AW.region (cfg := cfg) ?_
      refine stp (fun _ h => s0 h) ?_
      refine aops_nil ?_
      refine AW.seq ?_
      refine cnd (fun hb => ?ht5) (fun hb => ?hf5)
      case ht5 => (simp at hb; omega)
      case hf5 =>
      have hbt39 := hb
      refine AW.exit ?_
      refine AW.seq ?_
      refine AW.seq ?_
      refine AW.region (cfg := cfg) ?_
      refine stp (fun _ h => s0 h) ?_
      refine stp (fun _ h => cg (w := O.good_Done nil m1 w1 (by omega) mo2) (x := h)) ?_
      iterate 2 refine stp (fun _ h => s0 h) ?_
      refine mrg wa (fun hc _ h => sl h) ?_
      refine mrg wa (fun hc _ h => cs (w := good_CheckB (candS l xs es) (show xs.length ≤ 9223372036854775807 by omega) (show es.length ≤ 9223372036854775807 by omega) (lens_ok xo)) (x := h)) ?_
      refine mrg wa (fun hc _ h => s0 h) ?_
      refine stp (fun _ h => s0 h) ?_
      refine aops_nil ?_
      refine cnd (fun hb => ?ht6) (fun hb => ?hf6)
      case ht6 =>
        have hw60 := hb
        try simp only [bo1, bo2, bo3, bo4, bo5, bo6] at hb
        have hbt60 := hb
        refine AW.seq ?_
        refine AW.region (cfg := cfg) ?_
        refine stp (fun _ h => su h) ?_
        refine stp0 (fun _ h => ss h) ?_
        refine stp (fun _ h => s0 h) ?_
        refine aops_nil ?_
        refine AW.ret ?_
        refine ⟨.inr rfl, ?_⟩
        apply Exists.intro
        refine leaves_mwp2 (rs := [.cell 2 25, .tmp 3]) rfl ?_
        simp (config := {failIfUnchanged := false}) [giveL, srcOne, rehome, freezeN, sub, ti25, upd, opn, aLoad, loadL, giveOne, reify, reifyL, readL, readOne, Mwp, M.bind, Mem.set, setAt, cellsL, hG, f2, f3, f4, f5, f37, f38, o2, o5, o5c0, o5c3]
        all_goals (rw [getB_f1 md mo0 hbt60]; exact ⟨⟨rfl, rfl⟩, rfl⟩)
      case hf6 =>
        have hw60 := hb
        try simp only [bo1, bo2, bo3, bo4, bo5, bo6] at hb
        have hbt60 := hb
        refine AW.skip ?_
        refine AW.seq ?_
        refine AW.region (cfg := cfg) ?_
        refine stp (fun _ h => sl h) ?_
        refine stp0 (fun _ h => ss h) ?_
        refine stp (fun _ h => s0 h) ?_
        refine aops_nil ?_
        refine AW.ret ?_
        refine ⟨.inr rfl, ?_⟩
        apply Exists.intro
        refine leaves_mwp2 (rs := [.cell 2 25, .tmp 3]) rfl ?_
        simp (config := {failIfUnchanged := false}) [giveL, srcOne, rehome, freezeN, sub, ti25, upd, opn, aLoad, loadL, giveOne, reify, reifyL, readL, readOne, Mwp, M.bind, Mem.set, setAt, cellsL, hG, f2, f3, f4, f5, f37, f38, o2, o5, o5c0, o5c3]
        all_goals (rw [getB_f2 md mo0 hbt60]; refine ⟨⟨?_, rfl⟩, rfl⟩; rw [List.take_of_length_le (by simp), List.take_of_length_le (by simp)]; rfl)
end Go.Vai.BA
namespace Go.Vai.BA
open Go.Proofs Go.Vai Go.Vai.C Go.Vai.D Go.Vai.DB Go.Vai.G Go.Vai.I Go.Vai.L Go.Vai.N Go.Vai.O
set_option linter.unusedSimpArgs false
set_option linter.unusedVariables false
set_option maxHeartbeats 4000000
set_option maxRecDepth 100000
attribute [simp] rfE_len
theorem rA_at {l : List (BitVec 8)} {a : Nat} {k : Int} (hk : 1 ≤ k ∧ k ≤ 8) (h : (a : Int) + k ≤ l.length) : rA l a false k = a + k.toNat ∧ rBad l a false k = false := ⟨(rA_ok hk h).2, (rA_ok hk h).1⟩
theorem good_ReadB (nil : Bool) (l : List (BitVec 8)) (hl : l.length ≤ 5000000) (hz : nil = true → l = []) : Good Try.prog 17 [(.sl 1 nil (bsl l), false)] [] [(staA (readB l).1, false), (.b (readB l).2, false)] [] := by
  refine good_of_body2 105 Try.func17 rfl rfl rfl (by simp) ?_
  intro s m ha hr hv hG
  have f0 : s 0 = .v (.sl 1 nil (bsl l)) := ha 0 _ rfl
  clear ha
  have hc : True := trivial
  have F := (And.intro f0 hG)
  refine AW.seq ?_
  refine AW.region (cfg := cfg) ?_
  refine stp (fun _ h => sd h) ?_
  refine stp (fun _ h => s0 h) ?_
  refine aops_nil ?_
  refine AW.seq ?_
  refine AW.seq ?_
  refine AW.region (cfg := cfg) ?_
  refine stp (fun _ h => s0 h) ?_
  refine stp (fun _ h => sd h) ?_
  refine stp (fun _ h => s0 h) ?_
  refine aops_nil ?_
  refine cnd (fun hb => ?ht1) (fun hb => ?hf1)
  case ht1 =>
    have hw18 := hb
    try simp only [bo1, bo2, bo3, bo4, bo5, bo6] at hb
    have hbt18 := hb
    refine AW.seq ?_
    refine AW.region (cfg := cfg) ?_
    refine stp (fun _ h => su h) ?_
    refine stp0 (fun _ h => ss h) ?_
    refine stp (fun _ h => s0 h) ?_
    refine aops_nil ?_
    refine AW.ret ?_
    refine ⟨.inr rfl, ?_⟩
    refine leaves_mwp2 (rs := [.cell 2 25, .tmp 3]) rfl ?_
    simp (config := {failIfUnchanged := false}) [giveL, srcOne, rehome, freezeN, sub, ti25, upd, opn, aLoad, loadL, giveOne, reify, reifyL, readL, readOne, Mwp, M.bind, Mem.set, setAt, cellsL, hG, f0]
    all_goals (rw [readB_short hbt18]; exact ⟨rfl, rfl⟩)
  case hf1 =>
    have hw18 := hb
    try simp only [bo1, bo2, bo3, bo4, bo5, bo6] at hb
    have hbt18 := hb
    refine AW.skip ?_
    refine AW.seq ?_
    have h14 := hbt18
    have c8 := (l.getD 12 default).isLt
    obtain ⟨q1, q2⟩ := rA_at (l := l) (a := 0) (k := 8) (by omega) (by omega)
    obtain ⟨q3, q4⟩ := rA_at (l := l) (a := 8) (k := 4) (by omega) (by omega)
    have q5 : rA l 0 false 8 = 8 := q1
    have v4 := rV_range4 l 8 false
    have F := And.intro q5 F
    have F := And.intro q2 F
    refine AW.region (cfg := cfg) ?_
    refine stp (fun _ h => s0 h) ?_
    refine stp (fun _ h => su h) ?_
    refine stp (fun _ h => cr (w := O.good_refReadNum nil l 0 false (by omega) (by omega) 8) (x := h)) ?_
    iterate 3 refine stp (fun _ h => s0 h) ?_
    refine stp (fun _ h => sd h) ?_
    refine stp0 (fun _ h => ss h) ?_
    refine stp (fun _ h => s0 h) ?_
    refine aops_nil ?_
    refine AW.seq ?_
    refine AW.region (cfg := cfg) ?_
    refine stp (fun _ h => sl h) ?_
    refine stp (fun _ h => cr (w := O.good_refReadNum nil l 8 false (by omega) (by omega) 4) (x := h)) ?_
    iterate 3 refine stp (fun _ h => s0 h) ?_
    refine stp (fun _ h => sd h) ?_
    refine stp0 (fun _ h => ss h) ?_
    refine stp (fun _ h => s0 h) ?_
    refine aops_nil ?_
    refine AW.seq ?_
    refine AW.region (cfg := cfg) ?_
    refine stp (fun _ h => s0 h) ?_
    refine stp (fun _ h => sd h) ?_
    refine stp (fun _ h => s0 h) ?_
    refine stp (fun _ h => sd h) ?_
    refine stp (fun _ h => su h) ?_
    refine stp (fun _ h => sd h) ?_
    refine stp0 (fun _ h => ss h) ?_
    refine aops_nil ?_
    refine AW.seq ?_
    refine AW.cellNil 8 0 3 (by simp (disch := first | omega | decide) only [go_sem, F, aIndex_map]; rfl) (by rfl) ?_
    refine AW.cellNil 8 3 2 (by simp (disch := first | omega | decide) only [go_sem, F, aIndex_map]; rfl) (by rfl) ?_
    refine AW.region (cfg := cfg) ?_
    refine stp (fun _ h => s0 h) ?_
    refine aops_nil ?_
    refine AW.seq ?_
    refine AW.seq ?_
    refine AW.region (cfg := cfg) ?_
    refine stp (fun _ h => s0 h) ?_
    refine aops_nil ?_
    refine AW.block ?_
    refine AW.forN (fun k σ => ∃ (s : Nat → LV) (m : Mem) (xs : List Lsa) (p : Nat), σ = ⟨105, s, m⟩ ∧ s 0 = .v (.sl 1 nil (bsl l)) ∧ s 2 = .lptr (.tmp 2 0) (m.objs (.tmp 2 0)).1 0 ∧ (m.objs (.tmp 2 0)).2 = .box [.v (.sl 3 true []), .v (i64 0), .v (i64 0), .v (.sl 2 true [])] ∧ s 8 = .lptr (.tmp 8 0) (m.objs (.tmp 8 0)).1 0 ∧ (m.objs (.tmp 8 0)).2 = .box [.own (.cell 8 0) (m.objs (.cell 8 0)).1 0 (xs).length, .v (i64 (IntKind.i64.wrap (rV l 0 false 8))), .v (i64 (rV l 8 false 4)), .own (.cell 8 3) (m.objs (.cell 8 3)).1 0 (([] : List It)).length] ∧ (m.objs (.cell 8 0)).2 = .arr (xs).isEmpty 3 ((xs).map lsaA) ∧ (m.objs (.cell 8 3)).2 = .arr (([] : List It)).isEmpty 2 ((([] : List It)).map itA) ∧ s 9 = .v (i64 (p : Int)) ∧ s 10 = .v (i64 (k : Int)) ∧ (rfD l k = some (xs, p)) ∧ (xs.length = k) ∧ (∀ i, (m.objs (.res i)).2 = .dead) ∧ m.G = []) ((l.getD 12 default).toNat) ?_ ?_ ?_
    · refine ⟨_, _, [], 13, rfl, ?_, ?_, ?_, ?_, ?_, ?_, ?_, ?_, ?_, ?_, ?_, (by intro i; simp [Mem.set, hr]), (by exact hG)⟩ <;> try simp (disch := first | omega | decide) only [go_sem, F, aIndex_map]
      all_goals rfl
    · clear F f0 hr hG
      rintro k σ hk ⟨s, m, xs, p, rfl, f0, f2, o2, f8, o8, o8c0, o8c3, f9, f10, mo0, mo1, hr, hG⟩
      obtain ⟨g2, o2⟩ : ∃ g, m.objs (.tmp 2 0) = (g, .box [.v (.sl 3 true []), .v (i64 0), .v (i64 0), .v (.sl 2 true [])]) := ⟨_, Prod.ext rfl o2⟩
      rw [o2] at f2
      obtain ⟨g8c0, o8c0⟩ : ∃ g, m.objs (.cell 8 0) = (g, .arr (xs).isEmpty 3 ((xs).map lsaA)) := ⟨_, Prod.ext rfl o8c0⟩
      rw [o8c0] at o8
      obtain ⟨g8c3, o8c3⟩ : ∃ g, m.objs (.cell 8 3) = (g, .arr (([] : List It)).isEmpty 2 ((([] : List It)).map itA)) := ⟨_, Prod.ext rfl o8c3⟩
      rw [o8c3] at o8
      simp only at o8
      obtain ⟨g8, o8⟩ : ∃ g, m.objs (.tmp 8 0) = (g, .box [.own (.cell 8 0) g8c0 0 (xs).length, .v (i64 (IntKind.i64.wrap (rV l 0 false 8))), .v (i64 (rV l 8 false 4)), .own (.cell 8 3) g8c3 0 (([] : List It)).length]) := ⟨_, Prod.ext rfl o8⟩
      rw [o8] at f8
      have F := (And.intro f0 (And.intro f2 (And.intro f8 (And.intro f9 (And.intro f10 (And.intro o2 (And.intro o8 (And.intro o8c0 (And.intro o8c3 (And.intro q5 (And.intro q2 hG)))))))))))
      refine AW.seq ?_
      refine AW.seq ?_
      refine AW.region (cfg := cfg) ?_
      iterate 2 refine stp (fun _ h => s0 h) ?_
      refine stp (fun _ h => si h) ?_
      refine stp (fun _ h => sl h) ?_
      refine stp (fun _ h => sd h) ?_
      refine stp (fun _ h => s0 h) ?_
      refine aops_nil ?_
      refine cnd (fun hb => ?ht2) (fun hb => ?hf2)
      case hf2 => (have hb1 := of_decide_eq_false hb; omega)
      case ht2 =>
      have hbt41 := hb
      refine AW.skip ?_
      refine AW.seq ?_
      refine AW.block ?_
      refine AW.seq ?_
      obtain ⟨⟨p1, p2⟩, p3, p4⟩ := rfD_le (by omega) mo0
      have p5 := rfN_bd (l.drop p)
      have p6 : (l.drop p).length = l.length - p := List.length_drop
      have hlen5 : (p : Int) ≤ (l.length : Int) := by omega
      refine AW.region (cfg := cfg) ?_
      iterate 2 refine stp (fun _ h => s0 h) ?_
      refine stp (fun _ h => sd h) ?_
      refine stp (fun _ h => cr (w := L.good_refRead nil (l.drop p) (by omega)) (x := h)) ?_
      iterate 3 refine stp (fun _ h => s0 h) ?_
      refine stp (fun _ h => sd h) ?_
      refine stp0 (fun _ h => ss h) ?_
      refine stp (fun _ h => s0 h) ?_
      refine aops_nil ?_
      refine AW.seq ?_
      refine AW.seq ?_
      refine AW.region (cfg := cfg) ?_
      iterate 2 refine stp (fun _ h => s0 h) ?_
      refine aops_nil ?_
      refine cnd (fun hb => ?ht3) (fun hb => ?hf3)
      case ht3 =>
        have hw52 := hb
        try simp only [bo1, bo2, bo3, bo4, bo5, bo6] at hb
        have hbt52 := hb
        refine AW.seq ?_
        refine AW.region (cfg := cfg) ?_
        refine stp (fun _ h => su h) ?_
        refine stp0 (fun _ h => ss h) ?_
        refine stp (fun _ h => s0 h) ?_
        refine aops_nil ?_
        refine AW.ret ?_
        refine ⟨.inr rfl, ?_⟩
        refine leaves_mwp2 (rs := [.cell 2 25, .tmp 3]) rfl ?_
        simp (config := {failIfUnchanged := false}) [giveL, srcOne, rehome, freezeN, sub, ti25, upd, opn, aLoad, loadL, giveOne, reify, reifyL, readL, readOne, Mwp, M.bind, Mem.set, setAt, cellsL, hG, f0, f2, f8, f9, f10, o2, o8, o8c0, o8c3, q5, q2]
        all_goals (rw [readB_no h14 hk mo0 hbt52]; exact ⟨rfl, rfl⟩)
      case hf3 =>
        have hw52 := hb
        try simp only [bo1, bo2, bo3, bo4, bo5, bo6] at hb
        have hbt52 := hb
        refine AW.skip ?_
        refine AW.seq ?_
        refine AW.region (cfg := cfg) ?_
        refine stp (fun _ h => sx h) ?_
        iterate 2 refine stp (fun _ h => sl h) ?_
        refine stp (fun _ h => sq h) ?_
        refine stp (fun _ h => sp h) ?_
        refine stp (fun _ h => sx h) ?_
        refine stp0 (fun _ h => ss h) ?_
        refine aops_nil ?_
        refine AW.region (cfg := cfg) ?_
        iterate 2 refine stp (fun _ h => s0 h) ?_
        refine stp (fun _ h => sd h) ?_
        refine stp (fun _ h => s0 h) ?_
        refine aops_nil ?_
        refine AW.region (cfg := cfg) ?_
        refine stp (fun _ h => s0 h) ?_
        refine stp (fun _ h => sd h) ?_
        refine stp (fun _ h => s0 h) ?_
        refine aops_nil ?_
        refine ⟨_, _, xs ++ [rfL (l.drop p)], p + (rfN (l.drop p)).toNat, rfl, ?_, ?_, ?_, ?_, ?_, ?_, ?_, ?_, ?_, ?_, ?_, (by intro i; simp [Mem.set, hr]), (by exact hG)⟩ <;> try simp (disch := first | omega | decide) only [go_sem, F, aIndex_map]
        all_goals first | rfl | exact rfD_next mo0 hbt52 | (simp [lsaA]; done) | (simp; omega)
    · clear F f0 hr hG
      rintro σ ⟨s, m, xs, p, rfl, f0, f2, o2, f8, o8, o8c0, o8c3, f9, f10, mo0, mo1, hr, hG⟩
      obtain ⟨g2, o2⟩ : ∃ g, m.objs (.tmp 2 0) = (g, .box [.v (.sl 3 true []), .v (i64 0), .v (i64 0), .v (.sl 2 true [])]) := ⟨_, Prod.ext rfl o2⟩
      rw [o2] at f2
      obtain ⟨g8c0, o8c0⟩ : ∃ g, m.objs (.cell 8 0) = (g, .arr (xs).isEmpty 3 ((xs).map lsaA)) := ⟨_, Prod.ext rfl o8c0⟩
      rw [o8c0] at o8
      obtain ⟨g8c3, o8c3⟩ : ∃ g, m.objs (.cell 8 3) = (g, .arr (([] : List It)).isEmpty 2 ((([] : List It)).map itA)) := ⟨_, Prod.ext rfl o8c3⟩
      rw [o8c3] at o8
      simp only at o8
      obtain ⟨g8, o8⟩ : ∃ g, m.objs (.tmp 8 0) = (g, .box [.own (.cell 8 0) g8c0 0 (xs).length, .v (i64 (IntKind.i64.wrap (rV l 0 false 8))), .v (i64 (rV l 8 false 4)), .own (.cell 8 3) g8c3 0 (([] : List It)).length]) := ⟨_, Prod.ext rfl o8⟩
      rw [o8] at f8
      have F := (And.intro f0 (And.intro f2 (And.intro f8 (And.intro f9 (And.intro f10 (And.intro o2 (And.intro o8 (And.intro o8c0 (And.intro o8c3 (And.intro q5 (And.intro q2 hG)))))))))))
      refine AW.seq ?_
      refine AW.seq ?_
      refine AW.region (cfg := cfg) ?_
      iterate 2 refine stp (fun _ h => s0 h) ?_
      refine stp (fun _ h => si h) ?_
      refine stp (fun _ h => sl h) ?_
      refine stp (fun _ h => sd h) ?_
      refine stp (fun _ h => s0 h) ?_
      refine aops_nil ?_
      refine cnd (fun hb => ?ht4) (fun hb => ?hf4)
      case ht4 => (simp at hb; done)
      case hf4 =>
      have hbt41 := hb
      refine AW.exit ?_
      refine AW.seq ?_
      refine AW.seq ?_
      have md := mo0
      obtain ⟨⟨p1, p2⟩, p3, p4⟩ := rfD_le (by omega) md
      refine AW.region (cfg := cfg) ?_
      refine stp (fun _ h => s0 h) ?_
      refine stp (fun _ h => sd h) ?_
      refine stp (fun _ h => s0 h) ?_
      refine aops_nil ?_
      refine AW.block ?_
      refine AW.forN (fun k σ => ∃ s m, σ = ⟨105, s, m⟩ ∧ s 0 = .v (.sl 1 nil (bsl l)) ∧ s 2 = .lptr (.tmp 2 0) (m.objs (.tmp 2 0)).1 0 ∧ (m.objs (.tmp 2 0)).2 = .box [.v (.sl 3 true []), .v (i64 0), .v (i64 0), .v (.sl 2 true [])] ∧ s 8 = .lptr (.tmp 8 0) (m.objs (.tmp 8 0)).1 0 ∧ (m.objs (.tmp 8 0)).2 = .box [.own (.cell 8 0) (m.objs (.cell 8 0)).1 0 (xs).length, .v (i64 (IntKind.i64.wrap (rV l 0 false 8))), .v (i64 (rV l 8 false 4)), .own (.cell 8 3) (m.objs (.cell 8 3)).1 0 (rfE l (p + 1) k).length] ∧ (m.objs (.cell 8 0)).2 = .arr (xs).isEmpty 3 ((xs).map lsaA) ∧ (m.objs (.cell 8 3)).2 = .arr (rfE l (p + 1) k).isEmpty 2 ((rfE l (p + 1) k).map itA) ∧ s 13 = .v (i64 ((p : Int) + 1 + 5 * (k : Int))) ∧ (∀ i, (m.objs (.res i)).2 = .dead) ∧ m.G = []) (((l.length - (p + 1)) / 5)) ?_ ?_ ?_
      · refine ⟨_, _, rfl, ?_, ?_, ?_, ?_, ?_, ?_, ?_, ?_, (by intro i; simp [Mem.set, hr]), (by exact hG)⟩ <;> try simp (disch := first | omega | decide) only [go_sem, F, aIndex_map]
        all_goals rfl
      · clear F f0 f2 f8 f9 f10 o2 o8 o8c0 o8c3 hr hG
        rintro k σ hk ⟨s, m, rfl, f0, f2, o2, f8, o8, o8c0, o8c3, f13, hr, hG⟩
        obtain ⟨g2, o2⟩ : ∃ g, m.objs (.tmp 2 0) = (g, .box [.v (.sl 3 true []), .v (i64 0), .v (i64 0), .v (.sl 2 true [])]) := ⟨_, Prod.ext rfl o2⟩
        rw [o2] at f2
        obtain ⟨g8c0, o8c0⟩ : ∃ g, m.objs (.cell 8 0) = (g, .arr (xs).isEmpty 3 ((xs).map lsaA)) := ⟨_, Prod.ext rfl o8c0⟩
        rw [o8c0] at o8
        obtain ⟨g8c3, o8c3⟩ : ∃ g, m.objs (.cell 8 3) = (g, .arr (rfE l (p + 1) k).isEmpty 2 ((rfE l (p + 1) k).map itA)) := ⟨_, Prod.ext rfl o8c3⟩
        rw [o8c3] at o8
        simp only at o8
        obtain ⟨g8, o8⟩ : ∃ g, m.objs (.tmp 8 0) = (g, .box [.own (.cell 8 0) g8c0 0 (xs).length, .v (i64 (IntKind.i64.wrap (rV l 0 false 8))), .v (i64 (rV l 8 false 4)), .own (.cell 8 3) g8c3 0 (rfE l (p + 1) k).length]) := ⟨_, Prod.ext rfl o8⟩
        rw [o8] at f8
        have F := (And.intro f0 (And.intro f2 (And.intro f8 (And.intro f13 (And.intro o2 (And.intro o8 (And.intro o8c0 (And.intro o8c3 (And.intro q5 (And.intro q2 hG))))))))))
        refine AW.seq ?_
        refine AW.seq ?_
        refine AW.region (cfg := cfg) ?_
        refine stp (fun _ h => s0 h) ?_
        refine stp (fun _ h => sd h) ?_
        refine stp (fun _ h => s0 h) ?_
        refine stp (fun _ h => sd h) ?_
        refine stp (fun _ h => s0 h) ?_
        refine aops_nil ?_
        refine cnd (fun hb => ?ht5) (fun hb => ?hf5)
        case hf5 => (simp at hb; omega)
        case ht5 =>
        have hbt69 := hb
        refine AW.skip ?_
        refine AW.seq ?_
        refine AW.block ?_
        refine AW.seq ?_
        have hk5 : p + 1 + 5 * k + 5 ≤ l.length := by omega
        have gr := O.good_refReadNum nil l (p + 1 + 5 * k + 1) false (by omega) (by omega) 4
        rw [show ((p + 1 + 5 * k + 1 : Nat) : Int) = (p : Int) + 1 + 5 * (k : Int) + 1 by omega] at gr
        have v5 := rV_range4 l (p + 1 + 5 * k + 1) false
        have tk : ((p : Int) + 1 + 5 * (k : Int)).toNat = p + 1 + 5 * k := by omega
        have re1 := rfE_len l (p + 1) k
        have F := And.intro tk F
        refine AW.region (cfg := cfg) ?_
        iterate 2 refine stp (fun _ h => s0 h) ?_
        refine stp (fun _ h => sd h) ?_
        refine stp (fun _ h => su h) ?_
        refine stp (fun _ h => cr (w := gr) (x := h)) ?_
        iterate 3 refine stp (fun _ h => s0 h) ?_
        refine stp (fun _ h => sd h) ?_
        refine stp0 (fun _ h => ss h) ?_
        refine stp (fun _ h => s0 h) ?_
        refine aops_nil ?_
        refine AW.draw (cfg := cfg) (by kernel_rfl) (by kernel_rfl) (by kernel_rfl) ?_
        refine dstp (fun _ h => sx h) ?_
        refine dstp (fun _ h => sl h) ?_
        iterate 2 refine dstp (fun _ h => s0 h) ?_
        refine dstp (fun _ h => si h) ?_
        refine dstp (fun _ h => sl h) ?_
        refine dstp (fun _ h => sd h) ?_
        refine dstp (fun _ h => s0 h) ?_
        refine dstp (fun _ h => sd h) ?_
        refine dstp (fun _ h => su h) ?_
        refine dstp (fun _ h => sq h) ?_
        refine dstp (fun _ h => sp h) ?_
        refine dstp (fun _ h => sx h) ?_
        refine dstp0 (fun _ h => ss h) ?_
        refine adraw_nil (by kernel_rfl) ?_
        refine AW.region (cfg := cfg) ?_
        refine stp (fun _ h => s0 h) ?_
        refine stp (fun _ h => sd h) ?_
        refine stp (fun _ h => s0 h) ?_
        refine aops_nil ?_
        refine ⟨_, _, rfl, ?_, ?_, ?_, ?_, ?_, ?_, ?_, ?_, (by intro i; simp [Mem.set, hr]), (by exact hG)⟩ <;> try simp (disch := first | omega | decide) only [go_sem, F, aIndex_map]
        all_goals first | rfl | (rw [rfE_succ]; simp [itA, rfe]; done)
      · clear F f0 f2 f8 f9 f10 o2 o8 o8c0 o8c3 hr hG
        rintro σ ⟨s, m, rfl, f0, f2, o2, f8, o8, o8c0, o8c3, f13, hr, hG⟩
        obtain ⟨g2, o2⟩ : ∃ g, m.objs (.tmp 2 0) = (g, .box [.v (.sl 3 true []), .v (i64 0), .v (i64 0), .v (.sl 2 true [])]) := ⟨_, Prod.ext rfl o2⟩
        rw [o2] at f2
        obtain ⟨g8c0, o8c0⟩ : ∃ g, m.objs (.cell 8 0) = (g, .arr (xs).isEmpty 3 ((xs).map lsaA)) := ⟨_, Prod.ext rfl o8c0⟩
        rw [o8c0] at o8
        obtain ⟨g8c3, o8c3⟩ : ∃ g, m.objs (.cell 8 3) = (g, .arr (rfE l (p + 1) (((l.length - (p + 1)) / 5))).isEmpty 2 ((rfE l (p + 1) (((l.length - (p + 1)) / 5))).map itA)) := ⟨_, Prod.ext rfl o8c3⟩
        rw [o8c3] at o8
        simp only at o8
        obtain ⟨g8, o8⟩ : ∃ g, m.objs (.tmp 8 0) = (g, .box [.own (.cell 8 0) g8c0 0 (xs).length, .v (i64 (IntKind.i64.wrap (rV l 0 false 8))), .v (i64 (rV l 8 false 4)), .own (.cell 8 3) g8c3 0 (rfE l (p + 1) (((l.length - (p + 1)) / 5))).length]) := ⟨_, Prod.ext rfl o8⟩
        rw [o8] at f8
        have F := (And.intro f0 (And.intro f2 (And.intro f8 (And.intro f13 (And.intro o2 (And.intro o8 (And.intro o8c0 (And.intro o8c3 (And.intro q5 (And.intro q2 hG))))))))))
        refine AW.seq ?_
        refine AW.seq ?_
        refine AW.region (cfg := cfg) ?_
        refine stp (fun _ h => s0 h) ?_
        refine stp (fun _ h => sd h) ?_
        refine stp (fun _ h => s0 h) ?_
        refine stp (fun _ h => sd h) ?_
        refine stp (fun _ h => s0 h) ?_
        refine aops_nil ?_
        refine cnd (fun hb => ?ht6) (fun hb => ?hf6)
        case ht6 => (simp at hb; omega)
        case hf6 =>
        have hbt69 := hb
        refine AW.exit ?_
        refine AW.seq ?_
        refine AW.seq ?_
        refine AW.frzCell 8 0 (by simp (disch := first | omega | decide) only [go_sem, F]; rfl) (by rfl) (by simp (disch := first | omega | decide) only [go_sem, F]; rfl) ?_
        refine AW.frzCell 8 3 (by simp (disch := first | omega | decide) only [go_sem, F]; rfl) (by rfl) (by simp (disch := first | omega | decide) only [go_sem, F]; rfl) ?_
        have sx0 : sub (xs.map lsaA) 0 xs.length = xs.map lsaA := sub_full (by simp)
        have sx3 : sub ((rfE l (p + 1) ((l.length - (p + 1)) / 5)).map itA) 0 (rfE l (p + 1) ((l.length - (p + 1)) / 5)).length = (rfE l (p + 1) ((l.length - (p + 1)) / 5)).map itA := sub_full (by simp)
        have re := rfE_len l (p + 1) ((l.length - (p + 1)) / 5)
        have F := And.intro sx0 F
        have F := And.intro sx3 F
        refine AW.region (cfg := cfg) ?_
        refine stp (fun _ h => sl h) ?_
        refine stp (fun _ h => cs (w := good_MayB (rcand l xs (rfE l (p + 1) ((l.length - (p + 1)) / 5))) (show xs.length ≤ 9223372036854775807 by omega) (show (rfE l (p + 1) ((l.length - (p + 1)) / 5)).length ≤ 9223372036854775807 by omega) (fun x hx => by have := (p4 x hx).1; omega)) (x := h)) ?_
        iterate 2 refine stp (fun _ h => s0 h) ?_
        refine mrg wa (fun hc _ h => sl h) ?_
        refine mrg wa (fun hc _ h => cr (w := good_BytesB (rcand l xs (rfE l (p + 1) ((l.length - (p + 1)) / 5))) (show xs.length ≤ 1000000 by omega) (show (rfE l (p + 1) ((l.length - (p + 1)) / 5)).length ≤ 1000000 by omega) p4 (by simpa using hc)) (x := h)) ?_
        refine mrg wa (fun hc _ h => s0 h) ?_
        refine mrg wa (fun hc _ h => cs (w := O.good_Same false nil (staB (rcand l xs (rfE l (p + 1) ((l.length - (p + 1)) / 5)))) l (by have := staB_len (a := (rcand l xs (rfE l (p + 1) ((l.length - (p + 1)) / 5)))) (by simpa using hc); omega) (by omega)) (x := h)) ?_
        refine mrg wa (fun hc _ h => s0 h) ?_
        refine stp (fun _ h => s0 h) ?_
        refine aops_nil ?_
        refine cnd (fun hb => ?ht7) (fun hb => ?hf7)
        case ht7 =>
          have hw102 := hb
          try simp only [bo1, bo2, bo3, bo4, bo5, bo6] at hb
          have hbt102 := hb
          refine AW.seq ?_
          refine AW.region (cfg := cfg) ?_
          refine stp (fun _ h => su h) ?_
          refine stp0 (fun _ h => ss h) ?_
          refine stp (fun _ h => s0 h) ?_
          refine aops_nil ?_
          refine AW.ret ?_
          refine ⟨.inr rfl, ?_⟩
          refine leaves_mwp2 (rs := [.cell 2 25, .tmp 3]) rfl ?_
          simp (config := {failIfUnchanged := false}) [giveL, srcOne, rehome, freezeN, sub, ti25, upd, opn, aLoad, loadL, giveOne, reify, reifyL, readL, readOne, Mwp, M.bind, Mem.set, setAt, cellsL, hG, f0, f2, f8, f13, o2, o8, o8c0, o8c3, q5, q2, sx0, sx3]
          all_goals (rw [readB_f1 h14 md hbt102]; exact ⟨rfl, rfl⟩)
        case hf7 =>
          have hw102 := hb
          try simp only [bo1, bo2, bo3, bo4, bo5, bo6] at hb
          have hbt102 := hb
          refine AW.skip ?_
          refine AW.seq ?_
          refine AW.region (cfg := cfg) ?_
          refine stp (fun _ h => sl h) ?_
          refine stp0 (fun _ h => ss h) ?_
          refine stp (fun _ h => s0 h) ?_
          refine aops_nil ?_
          refine AW.ret ?_
          refine ⟨.inr rfl, ?_⟩
          refine leaves_mwp2 (rs := [.cell 2 25, .tmp 3]) rfl ?_
          simp (config := {failIfUnchanged := false}) [giveL, srcOne, rehome, freezeN, sub, ti25, upd, opn, aLoad, loadL, giveOne, reify, reifyL, readL, readOne, Mwp, M.bind, Mem.set, setAt, cellsL, hG, f0, f2, f8, f13, o2, o8, o8c0, o8c3, q5, q2, sx0, sx3]
          all_goals (rw [readB_f2 h14 md hbt102]; exact ⟨rfl, rfl⟩)
end Go.Vai.BA
namespace Go.Vai.BA
open Go.Proofs Go.Vai Go.Vai.C Go.Vai.D Go.Vai.DB Go.Vai.G Go.Vai.I Go.Vai.L Go.Vai.N Go.Vai.O
set_option linter.unusedSimpArgs false
set_option linter.unusedVariables false
set_option maxHeartbeats 4000000
set_option maxRecDepth 100000
theorem code_ok (l : List (BitVec 8)) : ((sameS (getB l).1 (readB l).1 && (decide ((getB l).2 = 0) == (readB l).2)) && (decide ((getB l).2 = 2) == !(readB l).2)) = true := by
  obtain ⟨h1, h2⟩ := get_read l
  rw [h1]
  rcases h2 with ⟨h2, h3⟩ | ⟨h2, h3⟩ <;> rw [h2, h3] <;> rfl
theorem getB_fit (l : List (BitVec 8)) : ((getB l).1.db.length ≤ 64 ∧ (getB l).1.ep.length ≤ 64) ∧ ∀ x ∈ (getB l).1.db, x.ls.length ≤ 1000000 ∧ (x.nil = true → x.ls = []) := by
  rcases getB_way l with h | ⟨h1, h2, h3⟩
  · rw [h]; exact ⟨⟨by decide, by decide⟩, fun x (hx : x ∈ ([] : List Lsa)) => absurd hx (by simp)⟩
  · have e := getB_back h3
    rw [← h2] at e
    have h3' : staOK (getB l).1 = true := h3
    refine ⟨sta_lens h3', fun x hx => ⟨by have := (lsa_bd ((sta_list h3').1 x hx)).2.2.1; omega, fun hn => ?_⟩⟩
    have hx2 : x ∈ (nzS (getB l).1).db := by
      have q : (getB l).1 = nzS (getB l).1 := congrArg Prod.fst e
      rw [q] at hx; exact hx
    obtain ⟨y, _, rfl⟩ := List.mem_map.1 hx2
    exact List.isEmpty_iff.1 hn
theorem readB_fit (l : List (BitVec 8)) : ((readB l).1.db.length ≤ 64 ∧ (readB l).1.ep.length ≤ 64) ∧ ∀ x ∈ (readB l).1.db, x.ls.length ≤ 1000000 ∧ (x.nil = true → x.ls = []) := by
  rcases readB_way l with h | ⟨h1, h2, h3⟩
  · rw [h]; exact ⟨⟨by decide, by decide⟩, fun x (hx : x ∈ ([] : List Lsa)) => absurd hx (by simp)⟩
  · have e := readB_back h3
    rw [← h2] at e
    refine ⟨sta_lens h3, fun x hx => ⟨by have := (lsa_bd ((sta_list h3).1 x hx)).2.2.1; omega, fun hn => ?_⟩⟩
    have hx2 : x ∈ (nzS (readB l).1).db := by
      have q : (readB l).1 = nzS (readB l).1 := congrArg Prod.fst e
      rw [q] at hx; exact hx
    obtain ⟨y, _, rfl⟩ := List.mem_map.1 hx2
    exact List.isEmpty_iff.1 hn
theorem good_BaseGets (nil : Bool) (l : List (BitVec 8)) (hl : l.length ≤ 9223372036854775807) (hz : nil = true → l = []) : Good Try.prog 5 [(.sl 1 nil (bsl l), false)] [] [(.b true, false)] [] := by
  refine good_of_body2 42 Try.func5 rfl rfl rfl (by simp) ?_
  intro s m ha hr hv hG
  have f0 : s 0 = .v (.sl 1 nil (bsl l)) := ha 0 _ rfl
  clear ha
  have hc : True := trivial
  have F := (And.intro f0 hG)
  refine AW.seq ?_
  refine AW.region (cfg := cfg) ?_
  refine stp (fun _ h => s0 h) ?_
  refine aops_nil ?_
  refine AW.seq ?_
  refine AW.seq ?_
  refine AW.region (cfg := cfg) ?_
  refine stp (fun _ h => s0 h) ?_
  refine stp (fun _ h => sd h) ?_
  refine stp (fun _ h => s0 h) ?_
  refine aops_nil ?_
  refine cnd (fun hb => ?ht1) (fun hb => ?hf1)
  case ht1 =>
    have hw9 := hb
    try simp only [bo1, bo2, bo3, bo4, bo5, bo6] at hb
    have hbt9 := hb
    refine AW.seq ?_
    refine AW.region (cfg := cfg) ?_
    refine stp (fun _ h => cs (w := good_awakeB) (x := h)) ?_
    refine stp (fun _ h => s0 h) ?_
    refine aops_nil ?_
    refine AW.ret ?_
    refine ⟨.inr rfl, ?_⟩
    refine leaves_tmp1 2 rfl ?_ (by exact hG)
    simp (disch := first | omega | decide) only [go_sem, F, aIndex_map]
    all_goals first | done | rfl | (refine congrArg (fun b => LV.v (AV.b b)) ?_; exact code_ok l) | trace_state
  case hf1 =>
    have hw9 := hb
    try simp only [bo1, bo2, bo3, bo4, bo5, bo6] at hb
    have hbt9 := hb
    refine AW.skip ?_
    refine AW.seq ?_
    have h3 : l.length ≤ 3000 := by omega
    obtain ⟨⟨w1, w2⟩, w3⟩ := getB_fit l
    obtain ⟨⟨w4, w5⟩, w6⟩ := readB_fit l
    refine AW.region (cfg := cfg) ?_
    refine stp (fun _ h => sq h) ?_
    refine stp (fun _ h => s0 h) ?_
    refine stp (fun _ h => sp h) ?_
    refine stp (fun _ h => cr (w := good_GetB false l (by omega) (by simp)) (x := h)) ?_
    iterate 3 refine stp (fun _ h => s0 h) ?_
    refine stp (fun _ h => sd h) ?_
    refine stp0 (fun _ h => ss h) ?_
    refine stp (fun _ h => s0 h) ?_
    refine aops_nil ?_
    refine AW.seq ?_
    refine AW.region (cfg := cfg) ?_
    refine stp (fun _ h => s0 h) ?_
    refine stp (fun _ h => cr (w := good_ReadB nil l (by omega) hz) (x := h)) ?_
    iterate 3 refine stp (fun _ h => s0 h) ?_
    refine stp (fun _ h => sd h) ?_
    refine stp0 (fun _ h => ss h) ?_
    refine stp (fun _ h => s0 h) ?_
    refine aops_nil ?_
    refine AW.seq ?_
    refine AW.region (cfg := cfg) ?_
    iterate 2 refine stp (fun _ h => sl h) ?_
    refine stp (fun _ h => cs (w := good_refSameB (getB l).1 (by omega) (by omega) w3 (readB l).1 (by omega) (by omega) w6) (x := h)) ?_
    refine stp (fun _ h => s0 h) ?_
    iterate 4 refine mrg wa (fun hc _ h => s0 h) ?_
    iterate 2 refine stp (fun _ h => s0 h) ?_
    iterate 5 refine mrg wa (fun hc _ h => s0 h) ?_
    iterate 2 refine stp (fun _ h => s0 h) ?_
    refine mrg wa (fun hc _ h => cs (w := good_awakeB) (x := h)) ?_
    iterate 2 refine stp (fun _ h => s0 h) ?_
    refine aops_nil ?_
    refine AW.ret ?_
    refine ⟨.inr rfl, ?_⟩
    refine leaves_tmp1 2 rfl ?_ (by exact hG)
    simp (disch := first | omega | decide) only [go_sem, F, aIndex_map]
    all_goals (refine congrArg (fun b => LV.v (AV.b b)) ?_; exact code_ok l)
end Go.Vai.BA
