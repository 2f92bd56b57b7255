import Derived.Test.YtblgcekomnnfmaaLsaPl2
import Derived.Test.YtblgcekomnnfmaaOctBk
set_option linter.unusedSimpArgs false
set_option linter.unusedVariables false
namespace Go.Vai.L
open Go.Vai.O
theorem lsaB_len (l : Lsa) : (lsaB l).length = 10 + 5 * l.ls.length := by
 simp only [lsaB, List.length_append, numR_length, linksB_len]; omega
theorem back1 {n : Int} (h : 0 ≤ n ∧ n < 256) (r : List (BitVec 8)) : rnV (numR n 1 ++ r) false 1 = n ∧ rnL (numR n 1 ++ r) false 1 = r ∧ rnW (numR n 1 ++ r) false 1 = false := by
 obtain ⟨e1, e2, e3⟩ := num_back (n := n) h.1 (w := 1) (by omega) r
 refine ⟨?_, e2, e3⟩
 have : n % 2 ^ (8 * (1 : Int).toNat) = n := by
  have : (2 : Int) ^ (8 * (1 : Int).toNat) = 256 := rfl
  rw [this]; omega
 rw [this] at e1; exact e1
theorem back4 {n : Int} (h : 0 ≤ n ∧ n < 4294967296) (r : List (BitVec 8)) : rnV (numR n 4 ++ r) false 4 = n ∧ rnL (numR n 4 ++ r) false 4 = r ∧ rnW (numR n 4 ++ r) false 4 = false := by
 obtain ⟨e1, e2, e3⟩ := num_back (n := n) h.1 (w := 4) (by omega) r
 refine ⟨?_, e2, e3⟩
 have : n % 2 ^ (8 * (4 : Int).toNat) = n := by
  have : (2 : Int) ^ (8 * (4 : Int).toNat) = 4294967296 := rfl
  rw [this]; omega
 rw [this] at e1; exact e1
theorem back8 {n : Int} (h : 0 ≤ n ∧ n < 18446744073709551616) (r : List (BitVec 8)) : rnV (numR n 8 ++ r) false 8 = n ∧ rnL (numR n 8 ++ r) false 8 = r ∧ rnW (numR n 8 ++ r) false 8 = false := by
 obtain ⟨e1, e2, e3⟩ := num_back (n := n) h.1 (w := 8) (by omega) r
 refine ⟨?_, e2, e3⟩
 have : n % 2 ^ (8 * (8 : Int).toNat) = n := by
  have : (2 : Int) ^ (8 * (8 : Int).toNat) = 18446744073709551616 := rfl
  rw [this]; omega
 rw [this] at e1; exact e1
theorem linksB_drop {ls : List LinkS} {k : Nat} (h : k < ls.length) (r : List (BitVec 8)) : linksB (ls.drop k) ++ r = numR ls[k].to 1 ++ (numR ls[k].co 4 ++ (linksB (ls.drop (k + 1)) ++ r)) := by
 rw [List.drop_eq_getElem_cons h]
 simp only [linksB, List.flatMap_cons, linkB, List.append_assoc]
theorem links_back {o last : Int} {ls : List LinkS} (h : linksOK o last ls = true) (r : List (BitVec 8)) : ∀ k, k ≤ ls.length → rdLinks (linksB ls ++ r) false k = (ls.take k, linksB (ls.drop k) ++ r, false)
 | 0, _ => by simp [rdLinks]
 | k + 1, hk => by
  have ih := links_back h r k (by omega)
  obtain ⟨b1, b2⟩ := link_bd h (k := k) (by omega)
  rw [rd_next ih, linksB_drop (by omega)]
  obtain ⟨e1, e2, e3⟩ := back1 (n := ls[k].to) (by omega) (numR ls[k].co 4 ++ (linksB (ls.drop (k + 1)) ++ r))
  obtain ⟨f1, f2, f3⟩ := back4 (n := ls[k].co) (by omega) (linksB (ls.drop (k + 1)) ++ r)
  rw [e1, e2, e3, f1, f2, f3, List.take_succ_eq_append_getElem (by omega)]
theorem rd_back {l : Lsa} (h : lsaOK l = true) (r : List (BitVec 8)) : rdP (lsaB l ++ r) false = (l.ls, r, false) ∧ rnV (lsaB l ++ r) false 1 = l.o ∧ rnV (rnL (lsaB l ++ r) false 1) (rnW (lsaB l ++ r) false 1) 8 = l.s := by
 obtain ⟨b1, b2, b3, b4⟩ := lsa_bd h
 have e0 : lsaB l ++ r = numR l.o 1 ++ (numR l.s 8 ++ (numR (l.ls.length : Int) 1 ++ (linksB l.ls ++ r))) := by simp only [lsaB, List.append_assoc]
 obtain ⟨e1, e2, e3⟩ := back1 (n := l.o) (by omega) (numR l.s 8 ++ (numR (l.ls.length : Int) 1 ++ (linksB l.ls ++ r)))
 obtain ⟨f1, f2, f3⟩ := back8 (n := l.s) (by omega) (numR (l.ls.length : Int) 1 ++ (linksB l.ls ++ r))
 obtain ⟨g1, g2, g3⟩ := back1 (n := (l.ls.length : Int)) (by omega) (linksB l.ls ++ r)
 rw [e0]
 refine ⟨?_, e1, by rw [e2, e3, f1]⟩
 unfold rdP hdL hdW hdN
 rw [e2, e3, f2, f3, g1, g2, g3, Int.toNat_natCast, links_back b4 r _ (Nat.le_refl _)]
 simp [linksB]
theorem wrap_seq {n : Int} (h : 1 ≤ n ∧ n ≤ 4611686018427387904) : IntKind.i64.wrap n = n := by
 have := wrap64 (n := n) (by omega)
 exact this
theorem rd_backs {l : Lsa} (h : lsaOK l = true) (r : List (BitVec 8)) : rdL (lsaB l ++ r) false = ⟨l.o, l.s, l.ls.isEmpty, l.ls⟩ ∧ rdOK (lsaB l ++ r) false = true ∧ rdR (lsaB l ++ r) false = r ∧ rdW (lsaB l ++ r) false = false := by
 obtain ⟨e1, e2, e3⟩ := rd_back h r
 have hw : rdW (lsaB l ++ r) false = false := by simp [rdW, e1]
 have hr : rdRaw (lsaB l ++ r) false = ⟨l.o, l.s, l.ls.isEmpty, l.ls⟩ := by
  simp only [rdRaw, e1, e2, e3]
  rw [wrap_seq (lsa_bd h).2.1]
 have ho : rdOK (lsaB l ++ r) false = true := by rw [rdOK, hw, hr]; exact h
 exact ⟨by rw [rdL, ho, if_pos rfl, hr], ho, by simp [rdR, e1], hw⟩
theorem rA_ok {l : List (BitVec 8)} {a : Nat} {k : Int} (hk : 1 ≤ k ∧ k ≤ 8) (h : (a : Int) + k ≤ l.length) : rBad l a false k = false ∧ rA l a false k = a + k.toNat := by
 have : rBad l a false k = false := by simp [rBad]; omega
 exact ⟨this, by simp [rA, this]⟩
theorem rA_no {l : List (BitVec 8)} {a : Nat} {k : Int} (h : (l.length : Int) < (a : Int) + k) : rBad l a false k = true := by simp [rBad]; omega
theorem rV_one {l : List (BitVec 8)} {a : Nat} (h : a < l.length) : rV l a false 1 = ((l.getD a default).toNat : Int) := by
 obtain ⟨e, _⟩ := rA_ok (l := l) (a := a) (k := 1) (by omega) (by omega)
 rw [rV, e, if_neg (by decide)]
 have : (l.drop a).take (1 : Int).toNat = [l[a]] := by
  rw [show (1 : Int).toNat = 1 from rfl, List.drop_eq_getElem_cons h]; rfl
 rw [this, ← getD_get h]
 simp [numV]
theorem drop_nums {l : List (BitVec 8)} {a : Nat} {k : Int} (hk : 1 ≤ k ∧ k ≤ 8) (h : (a : Int) + k ≤ l.length) : rnV (l.drop a) false k = rV l a false k ∧ rnL (l.drop a) false k = l.drop (a + k.toNat) ∧ rnW (l.drop a) false k = false := by
 obtain ⟨e1, e2, e3⟩ := num_ok (l := l) (a := a) (by omega) false k
 obtain ⟨f1, f2⟩ := rA_ok hk h
 rw [e1, e2, e3, f1, f2]; exact ⟨rfl, rfl, rfl⟩
theorem drop_no {l : List (BitVec 8)} {a : Nat} {k : Int} (ha : a ≤ l.length) (h : (l.length : Int) < (a : Int) + k) : rnW (l.drop a) false k = true := by
 obtain ⟨_, _, e3⟩ := num_ok (l := l) (a := a) ha false k
 rw [e3]; exact rA_no h
theorem rnW_true (l : List (BitVec 8)) (k : Int) : rnW l true k = true := by
 unfold rnW tkW; split <;> simp
theorem rdLinks_true (l : List (BitVec 8)) (n : Nat) : rdLinks l true n = ([], l, true) := rd_stop (k := 0) rfl rfl (Nat.zero_le _)
theorem rd_links {l : List (BitVec 8)} (h : 10 ≤ l.length) : ∀ k, (10 + 5 * k ≤ l.length → rdLinks (l.drop 10) false k = (rfLinks l k, l.drop (10 + 5 * k), false)) ∧ (l.length < 10 + 5 * k → (rdLinks (l.drop 10) false k).2.2 = true)
 | 0 => ⟨fun _ => by simp [rdLinks, rfLinks], fun h2 => by omega⟩
 | k + 1 => by
  obtain ⟨i1, i2⟩ := rd_links h k
  constructor
  ·intro h1
   rw [rd_next (i1 (by omega))]
   obtain ⟨e1, e2, e3⟩ := drop_nums (l := l) (a := 10 + 5 * k) (k := 1) (by omega) (by omega)
   rw [show (10 + 5 * k + (1 : Int).toNat) = 11 + 5 * k by omega] at e2
   obtain ⟨f1, f2, f3⟩ := drop_nums (l := l) (a := 11 + 5 * k) (k := 4) (by omega) (by omega)
   rw [show (11 + 5 * k + (4 : Int).toNat) = 10 + 5 * (k + 1) by omega] at f2
   rw [e1, e2, e3, f1, f2, f3, rV_one (by omega), rfLinks_succ]; rfl
  ·intro h1
   by_cases hs : l.length < 10 + 5 * k
   ·have hb := i2 hs
    have := rd_stop (l := l.drop 10) (w := false) (k := k) (xs := (rdLinks (l.drop 10) false k).1) (l' := (rdLinks (l.drop 10) false k).2.1) (wk := (rdLinks (l.drop 10) false k).2.2) rfl hb (n := k + 1) (by omega)
    rw [this]; exact hb
   ·rw [rd_next (i1 (by omega))]
    show rnW _ _ 4 = true
    by_cases h2 : l.length < 11 + 5 * k
    ·rw [drop_no (l := l) (a := 10 + 5 * k) (k := 1) (by omega) (by omega), rnW_true]
    ·obtain ⟨e1, e2, e3⟩ := drop_nums (l := l) (a := 10 + 5 * k) (k := 1) (by omega) (by omega)
     rw [show (10 + 5 * k + (1 : Int).toNat) = 11 + 5 * k by omega] at e2
     rw [e2, e3]; exact drop_no (by omega) (by omega)
theorem hd_short {l : List (BitVec 8)} (h : l.length < 10) : hdW l false = true := by
 unfold hdW
 by_cases h1 : l.length < 1
 ·have : rnW l false 1 = true := by simpa using drop_no (l := l) (a := 0) (k := 1) (by omega) (by omega)
  rw [this, rnW_true, rnW_true]
 ·obtain ⟨e1, e2, e3⟩ := drop_nums (l := l) (a := 0) (k := 1) (by omega) (by omega)
  rw [List.drop_zero] at e2 e3
  rw [e2, e3]
  by_cases h2 : l.length < 9
  ·rw [drop_no (l := l) (a := 0 + (1 : Int).toNat) (k := 8) (by omega) (by omega), rnW_true]
  ·obtain ⟨f1, f2, f3⟩ := drop_nums (l := l) (a := 0 + (1 : Int).toNat) (k := 8) (by omega) (by omega)
   rw [f2, f3]; exact drop_no (by omega) (by omega)
theorem hd_long {l : List (BitVec 8)} (h : 10 ≤ l.length) : hdL l false = l.drop 10 ∧ hdW l false = false ∧ hdN l false = (rfB l : Int) ∧ rnV l false 1 = ((l.getD 0 default).toNat : Int) ∧ rnV (rnL l false 1) (rnW l false 1) 8 = rV l 1 false 8 := by
 obtain ⟨e1, e2, e3⟩ := drop_nums (l := l) (a := 0) (k := 1) (by omega) (by omega)
 rw [List.drop_zero] at e1 e2 e3
 rw [show (0 + (1 : Int).toNat) = 1 from rfl] at e2
 obtain ⟨f1, f2, f3⟩ := drop_nums (l := l) (a := 1) (k := 8) (by omega) (by omega)
 rw [show (1 + (8 : Int).toNat) = 9 from rfl] at f2
 obtain ⟨g1, g2, g3⟩ := drop_nums (l := l) (a := 9) (k := 1) (by omega) (by omega)
 rw [show (9 + (1 : Int).toNat) = 10 from rfl] at g2
 unfold hdL hdW hdN
 rw [e2, e3, f1, f2, f3, g1, g2, g3, e1, rV_one (by omega), rV_one (by omega)]
 exact ⟨rfl, rfl, rfl, rfl, rfl⟩
theorem rd_rf (l : List (BitVec 8)) : rdOK l false = rfOK l ∧ rdL l false = rfL l ∧ (rfOK l = true → (((rdR l false).length : Nat) : Int) = (l.length : Int) - rfN l) ∧ (rfOK l = true → rdR l false = l.drop (10 + 5 * rfB l) ∧ 10 + 5 * rfB l ≤ l.length) := by
 by_cases h : l.length < 10
 ·have hw : rdW l false = true := by rw [rdW, rdP, hd_short h, rdLinks_true]
  have h1 : rdOK l false = false := by simp [rdOK, hw]
  have h2 : rfOK l = false := rf_short (.inl (by omega))
  refine ⟨by rw [h1, h2], ?_, fun x => ?_, fun x => ?_⟩
  ·simp [rdL, rfL, h1, h2]
  ·rw [h2] at x; cases x
  ·rw [h2] at x; cases x
 ·obtain ⟨a1, a2, a3, a4, a5⟩ := hd_long (l := l) (by omega)
  obtain ⟨i1, i2⟩ := rd_links (l := l) (by omega) (rfB l)
  have hp : rdP l false = rdLinks (l.drop 10) false (rfB l) := by rw [rdP, a1, a2, a3, Int.toNat_natCast]
  by_cases hs : l.length < 10 + 5 * rfB l
  ·have hw : rdW l false = true := by rw [rdW, hp]; exact i2 hs
   have h1 : rdOK l false = false := by simp [rdOK, hw]
   have h2 : rfOK l = false := rf_short (.inr (by omega))
   refine ⟨by rw [h1, h2], ?_, fun x => ?_, fun x => ?_⟩
   ·simp [rdL, rfL, h1, h2]
   ·rw [h2] at x; cases x
   ·rw [h2] at x; cases x
  ·have hp2 := hp.trans (i1 (by omega))
   have hw : rdW l false = false := by simp [rdW, hp2]
   have hraw : rdRaw l false = rfRaw l := by simp only [rdRaw, rfRaw, hp2, a4, a5]
   have h2 : rfOK l = lsaOK (rfRaw l) := rf_long ⟨by omega, by omega⟩
   have h1 : rdOK l false = rfOK l := by rw [rdOK, hw, hraw, h2]; rfl
   refine ⟨h1, ?_, fun x => ?_, fun x => ?_⟩
   ·simp only [rdL, rfL, h1, hraw]
   ·simp only [rdR, hp2, rfN, x, if_true, List.length_drop]; omega
   ·exact ⟨by simp [rdR, hp2], by omega⟩
end Go.Vai.L
namespace Go.Vai.L
open Go.Vai.O
theorem rfL_len (l : List (BitVec 8)) : (rfL l).ls.length ≤ 255 := by
 unfold rfL
 split
 ·show (rfLinks l (rfB l)).length ≤ 255
  rw [rfLinks_length]
  have := (l.getD 9 default).isLt
  unfold rfB; omega
 ·simp [lsa0]
theorem rdLinks_le (l : List (BitVec 8)) (w : Bool) : ∀ k, (rdLinks l w k).2.1.length ≤ l.length
 | 0 => Nat.le_refl _
 | k + 1 => by
  have ih := rdLinks_le l w k
  rw [rdLinks, rdStep]
  split
  ·exact ih
  ·show (rnL (rnL (rdLinks l w k).2.1 (rdLinks l w k).2.2 1) _ 4).length ≤ _
   exact Nat.le_trans (rnL_len _ _ _) (Nat.le_trans (rnL_len _ _ _) ih)
theorem rdR_le (l : List (BitVec 8)) (w : Bool) : (rdR l w).length ≤ l.length := by
 unfold rdR rdP
 refine Nat.le_trans (rdLinks_le _ _ _) ?_
 unfold hdL
 exact Nat.le_trans (rnL_len _ _ _) (Nat.le_trans (rnL_len _ _ _) (rnL_len _ _ _))
theorem rdR_nil {w : Bool} : rdR [] w = [] := List.eq_nil_of_length_eq_zero (by have := rdR_le [] w; simpa using this)
end Go.Vai.L
