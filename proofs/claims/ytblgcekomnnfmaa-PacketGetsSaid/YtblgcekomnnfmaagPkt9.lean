import Derived.Test.YtblgcekomnnfmaagPkt6
import Derived.Test.YtblgcekomnnfmaagPkt8
import Derived.Test.YtblgcekomnnfmaagPkt4
namespace Go.Vai.P
open Go.Proofs Go.Vai Go.Vai.G Go.Vai.L Go.Vai.O Go.Vai.U Go.Vai.Z
set_option linter.unusedSimpArgs false
set_option linter.unusedVariables false
theorem seal_ck (x : List (BitVec 8)) : ∃ c, sealS x = x ++ c ∧ c.length = 4 := ⟨_, rfl, rfl⟩
theorem ok_seal {l : List (BitVec 8)} (h : okO l = true) : l = sealS (okV l) := by
 have h4 : ¬ (l.length : Int) - 4 < 0 := fun f => by rw [(ok_no f).1] at h; cases h
 have e := ok_ref h4
 rw [h, decide_eq_true_eq] at e
 rw [okV, if_pos h]; exact e.symm
def rfP (l : List (BitVec 8)) : Option Pkt := if (l.length : Int) < 15 then none else (rEnd l).bind fun s => if pktOK (rMk l s) && decide (pktS (rMk l s) = l) then some (rMk l s) else none
theorem rfP_is (l : List (BitVec 8)) : rfP l = if pkOK l then some (rawP (okV l)) else none := by
 cases h : pkOK l with
 | true =>
  rw [if_pos rfl]
  have h2 := h
  rw [pkOK, Bool.and_eq_true] at h2
  have e1 := ok_seal h2.1
  have e2 := in_cons h2.2
  have h3 := h2.2
  rw [inOK, Bool.and_eq_true] at h3
  obtain ⟨p, hp⟩ : ∃ p, p = rawP (okV l) := ⟨_, rfl⟩
  rw [← hp] at e2 h3 ⊢
  obtain ⟨b1, _⟩ := pk_back h3.2
  rw [← e2, ← hp] at b1
  obtain ⟨c, hc, hc4⟩ := seal_ck (pktB p)
  rw [e2] at e1
  have e3 : l = pktB p ++ c := e1.trans hc
  obtain ⟨r1, s, r2, r3⟩ := r_back h3.2 hc4
  rw [← e3] at r1 r2 r3
  rw [rfP, if_neg (by omega), r2]
  show (if pktOK (rMk l s) && decide (pktS (rMk l s) = l) then some (rMk l s) else none) = _
  rw [r3, ← b1, h3.2, (ps_ok h3.2).1, ← e1]; simp
 | false =>
  rw [if_neg (by decide)]
  cases e : rfP l with
  | none => rfl
  | some q =>
   exfalso
   rw [rfP] at e
   split at e
   ·cases e
   ·cases e2 : rEnd l with
    | none => rw [e2] at e; cases e
    | some s =>
     rw [e2] at e
     have e : (if pktOK (rMk l s) && decide (pktS (rMk l s) = l) then some (rMk l s) else none) = some q := e
     split at e
     ·rename_i hc
      simp only [Bool.and_eq_true, decide_eq_true_eq] at hc
      rw [(ps_ok hc.1).1] at hc
      have so := seal_open (pktB (rMk l s))
      rw [hc.2] at so
      have : pkOK l = true := by rw [pkOK, so.1, so.2, (pk_back hc.1).2]; rfl
      rw [this] at h; cases h
     ·cases e
def rS (kind : Int) (b : List (BitVec 8)) (a0 k : Nat) : Sr := (rloop kind b a0 k).getD ⟨[], [], [], a0⟩
theorem rS_step {kind : Int} {b : List (BitVec 8)} {a0 k : Nat} (h : rloop kind b a0 k = some (rS kind b a0 k)) {u : Sr} (h2 : rstep kind b (rS kind b a0 k) = some u) : rloop kind b a0 (k + 1) = some (rS kind b a0 (k + 1)) ∧ rS kind b a0 (k + 1) = u := by
 have e := rloop_succ h
 rw [h2] at e
 have e2 : rS kind b a0 (k + 1) = u := by rw [rS, e]; rfl
 exact ⟨by rw [e2]; exact e, e2⟩
theorem rS_1 {kind : Int} {b : List (BitVec 8)} {a0 k : Nat} (h : rloop kind b a0 k = some (rS kind b a0 k)) (hk : kind = 1) (ha : (rS kind b a0 k).a < b.length) : rloop kind b a0 (k + 1) = some (rS kind b a0 (k + 1)) ∧ rS kind b a0 (k + 1) = ⟨(rS kind b a0 k).hs ++ [rHear b (rS kind b a0 k).a], (rS kind b a0 k).xs, (rS kind b a0 k).ls, (rS kind b a0 k).a + 5⟩ :=
 rS_step h (by rw [rstep, if_pos ha, if_pos hk])
theorem rS_2 {kind : Int} {b : List (BitVec 8)} {a0 k : Nat} (h : rloop kind b a0 k = some (rS kind b a0 k)) (hk : ¬ kind = 1 ∧ ¬ kind = 4) (ha : (rS kind b a0 k).a < b.length) : rloop kind b a0 (k + 1) = some (rS kind b a0 (k + 1)) ∧ rS kind b a0 (k + 1) = ⟨(rS kind b a0 k).hs, (rS kind b a0 k).xs ++ [rItem b (rS kind b a0 k).a], (rS kind b a0 k).ls, (rS kind b a0 k).a + 9⟩ :=
 rS_step h (by rw [rstep, if_pos ha, if_neg hk.1, if_neg hk.2])
theorem rS_4 {kind : Int} {b : List (BitVec 8)} {a0 k : Nat} (h : rloop kind b a0 k = some (rS kind b a0 k)) (hk : kind = 4) (ha : (rS kind b a0 k).a < b.length) (hr : rfOK (b.drop (rS kind b a0 k).a) = true) : rloop kind b a0 (k + 1) = some (rS kind b a0 (k + 1)) ∧ rS kind b a0 (k + 1) = ⟨(rS kind b a0 k).hs, (rS kind b a0 k).xs, (rS kind b a0 k).ls ++ [rfL (b.drop (rS kind b a0 k).a)], (rS kind b a0 k).a + (10 + 5 * rfB (b.drop (rS kind b a0 k).a))⟩ :=
 rS_step h (by rw [rstep, if_pos ha, if_neg (by omega), if_pos hk, if_pos hr])
theorem rS_no {kind : Int} {b : List (BitVec 8)} {a0 k n : Nat} (h : rloop kind b a0 k = some (rS kind b a0 k)) (hk : kind = 4) (ha : (rS kind b a0 k).a < b.length) (hr : rfOK (b.drop (rS kind b a0 k).a) = false) (hn : k < n) : rloop kind b a0 n = none := by
 refine rloop_none (k := k + 1) ?_ hn
 rw [rloop_succ h, rstep, if_pos ha, if_neg (by omega), if_pos hk, hr]; rfl
theorem rS_end {kind : Int} {b : List (BitVec 8)} {a0 k n : Nat} (h : rloop kind b a0 k = some (rS kind b a0 k)) (hk : k ≤ n) (he : k = n ∨ ¬ (rS kind b a0 k).a < b.length) : rloop kind b a0 n = some (rS kind b a0 k) := by
 rcases he with he | he
 ·rw [← he]; exact h
 ·exact rloop_stop h he hk
theorem rfN_z {l : List (BitVec 8)} (h : rfN l = 0) : rfOK l = false := by
 cases e : rfOK l with
 | false => rfl
 | true => rw [rfN, e, if_pos rfl] at h; omega
theorem rfN_nz {l : List (BitVec 8)} (h : ¬ rfN l = 0) : rfOK l = true ∧ rfN l = ((10 + 5 * rfB l : Nat) : Int) := by
 cases e : rfOK l with
 | false => rw [rfN, e] at h; exact absurd rfl h
 | true => exact ⟨rfl, by rw [rfN, e, if_pos rfl]; omega⟩
theorem rfN_le (l : List (BitVec 8)) : 0 ≤ rfN l ∧ rfN l ≤ 10 + 5 * 255 := by
 have hb := (l.getD 9 default).isLt
 have : rfB l = (l.getD 9 default).toNat := rfl
 rw [rfN]; split <;> omega
theorem at1_rg (l : List (BitVec 8)) (k : Nat) : 0 ≤ at1 l k ∧ at1 l k < 256 := by
 have := (l.getD k default).isLt
 unfold at1; omega
theorem rA0_le (l : List (BitVec 8)) : rA0 l ≤ 16 := by unfold rA0; split <;> omega
theorem rMany_rg (l : List (BitVec 8)) : 0 ≤ rMany l ∧ rMany l < 256 := by
 unfold rMany
 split
 ·omega
 ·split
  ·exact at1_rg _ _
  ·exact at1_rg _ _
def rM3 (l : List (BitVec 8)) : Int := if at1 l 0 = 3 then 0 else at1 l 11
theorem rloop_bd {kind : Int} {b : List (BitVec 8)} {a0 : Nat} (ha : a0 ≤ 16) : ∀ {k : Nat} {s : Sr}, rloop kind b a0 k = some s → s.hs.length ≤ k ∧ s.xs.length ≤ k ∧ s.ls.length ≤ k ∧ (∀ x ∈ s.ls, x.ls.length ≤ 255) ∧ s.a ≤ 16 + 1300 * k
 | 0, s, h => by
  simp only [rloop, Option.some.injEq] at h
  subst h
  exact ⟨Nat.le_refl _, Nat.le_refl _, Nat.le_refl _, fun x hx => (by cases hx), by show a0 ≤ _; omega⟩
 | k + 1, s, h => by
  cases e : rloop kind b a0 k with
  | none => rw [rloop, e] at h; cases h
  | some u =>
   obtain ⟨i1, i2, i3, i4, i5⟩ := rloop_bd ha e
   rw [rloop_succ e, rstep] at h
   split at h
   ·split at h
    ·simp only [Option.some.injEq] at h
     subst h
     exact ⟨by simp; omega, Nat.le_succ_of_le i2, Nat.le_succ_of_le i3, i4, by show u.a + 5 ≤ _; omega⟩
    ·split at h
     ·split at h
      ·simp only [Option.some.injEq] at h
       subst h
       have hb := ((b.drop u.a).getD 9 default).isLt
       have hb2 : rfB (b.drop u.a) = ((b.drop u.a).getD 9 default).toNat := rfl
       refine ⟨Nat.le_succ_of_le i1, Nat.le_succ_of_le i2, by simp; omega, fun x hx => ?_, by show u.a + (10 + 5 * rfB (b.drop u.a)) ≤ _; omega⟩
       rcases List.mem_append.1 hx with h | h
       ·exact i4 x h
       ·rw [List.mem_singleton.1 h]; exact rfL_len _
      ·cases h
     ·simp only [Option.some.injEq] at h
      subst h
      exact ⟨Nat.le_succ_of_le i1, by simp; omega, Nat.le_succ_of_le i3, i4, by show u.a + 9 ≤ _; omega⟩
   ·simp only [Option.some.injEq] at h
    subst h
    exact ⟨Nat.le_succ_of_le i1, Nat.le_succ_of_le i2, Nat.le_succ_of_le i3, i4, by omega⟩
theorem rg_0 {l : List (BitVec 8)} (h : (l.length : Int) < 15) : rfP l = none := if_pos h
theorem rg_n {l : List (BitVec 8)} (h : ¬ (l.length : Int) < 15) (h2 : rEnd l = none) : rfP l = none := by rw [rfP, if_neg h, h2]; rfl
theorem rg_f {l : List (BitVec 8)} (h : ¬ (l.length : Int) < 15) {s : Sr} (h2 : rEnd l = some s) (h3 : (pktOK (rMk l s) && decide (pktS (rMk l s) = l)) = false) : rfP l = none := by
 rw [rfP, if_neg h, h2]
 show (if pktOK (rMk l s) && decide (pktS (rMk l s) = l) then some (rMk l s) else none) = _
 rw [h3]; rfl
theorem rg_t {l : List (BitVec 8)} (h : ¬ (l.length : Int) < 15) {s : Sr} (h2 : rEnd l = some s) (h3 : (pktOK (rMk l s) && decide (pktS (rMk l s) = l)) = true) : rfP l = some (rMk l s) := by
 rw [rfP, if_neg h, h2]
 show (if pktOK (rMk l s) && decide (pktS (rMk l s) = l) then some (rMk l s) else none) = _
 rw [h3]; rfl
theorem okp_way (p : Pkt) : pktOK p = false ∨ pktOK p = true := by cases pktOK p <;> simp
end Go.Vai.P
