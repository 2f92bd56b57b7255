import Derived.Test.YtheihmlgnldijaatOwn4
namespace Go.Vai.OW
open Go.Proofs Go.Vai Go.Vai.D Go.Vai.DB Go.Vai.I Go.Vai.L Go.Vai.N Go.Vai.O Go.Vai.S Go.Vai.T
set_option linter.unusedSimpArgs false
set_option linter.unusedVariables false
theorem fu_ok {x : Nr} (h : bad x = false) (hf : x.fu = true) : 1 ≤ x.co ∧ x.co ≤ 1073741824 := by
 simp only [bad, okA, wi, Bool.or_eq_false_iff, Bool.and_eq_false_iff, Bool.not_eq_false', Bool.and_eq_true, decide_eq_true_eq, decide_eq_false_iff_not, Bool.not_eq_true', hf] at h
 obtain ⟨⟨⟨⟨h1, h2⟩, h3⟩, h4⟩, h5⟩ := h
 simp_all
 omega
theorem lkF_cons (x : Nr) (l : List Nr) : lkF (x :: l) = if x.fu then ⟨x.of, x.co⟩ :: lkF l else lkF l := by
 cases h : x.fu <;> simp [lkF, thL, fuP, h, lkT, lkS]
theorem links_tab {me : Int} : ∀ (l : List Nr) (last b : Int), chN last l = true → b ≤ last → (∀ x ∈ l, x.of ≠ me) → linksOK me b (lkF l) = true
 | [], _, _, _, _, _ => rfl
 | x :: l, last, b, h, hb, hm => by
  simp only [chN, Bool.and_eq_true, Bool.not_eq_true', decide_eq_true_eq] at h
  have hx := bad_of h.1.1
  have hl := fun y hy => hm y (List.mem_cons_of_mem _ hy)
  rw [lkF_cons]
  cases hf : x.fu with
  | false => exact links_tab l x.of b h.2 (by omega) hl
  | true =>
   have hc := fu_ok h.1.1 hf
   have hne := hm x (List.mem_cons_self ..)
   rw [if_pos rfl, linksOK, links_tab l x.of x.of h.2 (Int.le_refl _) hl, Bool.and_true]
   simp only [linkOK, node, Bool.and_eq_true, decide_eq_true_eq, Bool.not_eq_true', decide_eq_false_iff_not]
   exact ⟨⟨by omega, by omega⟩, by omega, hne, by omega, by omega⟩
theorem right_way {me : Int} {t : List Nr} (h : rightR me t = true) : (1 ≤ me ∧ me ≤ 64) ∧ tabOK t = true ∧ isK Nr.of t me = false := by
 simp only [rightR, Bool.and_eq_true, decide_eq_true_eq] at h
 refine ⟨by omega, h.1.2, ?_⟩
 rw [right_is h.1.2]; simp; omega
theorem right_ok {me sq : Int} {t : List Nr} (h : rightR me t = true) (h1 : 1 ≤ sq ∧ sq ≤ 4611686018427387904) : lsaOK (mkF me sq t) = true := by
 obtain ⟨hm, ht, hk⟩ := right_way h
 have hn : ∀ x ∈ t, x.of ≠ me := fun x hx e => by
  rw [isK_gK, gK_of (tab_srt ht) hx e] at hk; cases hk
 have hle := bounds_le ht
 have hl := lk_len t
 have hc : chN 0 t = true := by simp only [tabOK, Bool.and_eq_true] at ht; exact ht.1
 have e : lsaOK (mkF me sq t) = (node me && (decide (1 ≤ sq) && (decide (sq ≤ 4611686018427387904) && (decide ((lkF t).length ≤ 16) && linksOK me 0 (lkF t))))) := rfl
 rw [e, links_tab t 0 0 hc (Int.le_refl _) hn, decide_eq_true h1.1, decide_eq_true h1.2, decide_eq_true (show (lkF t).length ≤ 16 by omega)]
 simp [node]; omega
theorem mk_right {me sq : Int} {t : List Nr} (h : rightR me t = true) (h1 : 1 ≤ sq ∧ sq ≤ 4611686018427387904) : mkR me sq t = (mkL me sq t, 0) := (mk_yes ⟨by rw [h]; rfl, by rw [right_ok h h1]; rfl⟩).1
theorem plan_bad {db : List Lsa} {me : Int} {t : List Nr} {x u : Int} (h : ((!dbOK db) = true ∨ (!rightR me t) = true) ∨ (!mayS x u) = true) : planR db me t x u = pl0 1 := by
 refine plan_no ?_
 rcases h with (h | h) | h
 ·exact .inl (.inr (by rw [dbE, show dbOK db = false by simpa using h]; decide))
 ·exact .inl (.inl (by rw [mk_no (.inl h)]; decide))
 ·exact .inr (by rw [wE, show mayS x u = false by simpa using h]; rfl)
theorem plan_in {db : List Lsa} {me : Int} {t : List Nr} {x u : Int} (h1 : dbOK db = true) (h2 : rightR me t = true) (h3 : mayS x u = true) : ¬ (((mkR me 1 t).2 ≠ 0 ∨ dbE db ≠ 0) ∨ wE x u = 1) := by
 rintro ((h | h) | h)
 ·rw [mk_right h2 (by omega)] at h; exact h rfl
 ·rw [dbE, h1] at h; exact h rfl
 ·rw [we_is h3] at h; split at h <;> omega
theorem rW_wV {x u : Int} (h : mayS x u = true) : rW x = wV x u := by rw [rW, wV, h, if_pos rfl]
theorem rp_ok {me : Int} {t : List Nr} {x u : Int} (h : mayS x u = true) : (!decide ((rplan me t x u).e = 1)) = decide (x > u ∧ wE x u ≠ 0) := by
 have hr := mayS_range h
 by_cases h1 : x > u ∧ rW x = 0
 ·rw [rp_no h1.1 h1.2, decide_eq_true (p := x > u ∧ wE x u ≠ 0)]; rfl
  refine ⟨h1.1, ?_⟩
  have h2 := h1.2
  rw [rW] at h2
  rw [we_is h]
  split at h2 <;> split <;> omega
 ·rw [rp_yes h1, decide_eq_false (p := x > u ∧ wE x u ≠ 0)]; rfl
  rintro ⟨h2, h3⟩
  rw [we_is h] at h3
  refine h1 ⟨h2, ?_⟩
  rw [rW]
  split at h3
  ·rename_i h4; rw [if_pos h4]
  ·exact absurd rfl h3
theorem wE_9 {x u : Int} (h : mayS x u = true) (h2 : wE x u ≠ 0) : wE x u = 9 := by
 by_cases q : x > 4611686018427387904
 ·rw [we_is h, if_pos q]
 ·rw [we_is h, if_neg q] at h2; exact absurd rfl h2
theorem x_le {x u : Int} (h : mayS x u = true) (h2 : ¬ (x > u ∧ wE x u ≠ 0)) : 1 ≤ x ∧ x ≤ 4611686018427387904 := by
 have hr := mayS_range h
 by_cases h3 : x > u
 ·have h4 : wE x u = 0 := Decidable.byContradiction fun q => h2 ⟨h3, q⟩
  rw [we_is h] at h4
  split at h4 <;> omega
 ·omega
theorem lists_ok {me : Int} {t : List Nr} {x u : Int} (h : mayS x u = true) (ht : tabOK t = true) : eqAll cgEq (preC x u ++ [cgL (mkL me x t)]) (rpre x u ++ [cgL (mkF me x t)]) = true := by
 have e : cgEq (cgL (mkL me x t)) (cgL (mkF me x t)) = true := by
  have := mk_same (me := me) (sq := x) ht
  simp [cgEq, cgL, this]
 rw [preC, rpre, rW_wV h]
 split
 ·simp [eqAll, e, cgEq_refl]
 ·simp [eqAll, e]
theorem told {db : List Lsa} {me : Int} {t : List Nr} {x : Int} : mustR (insP Lsa.o db (mkL me x t)) me t x = false := by
 have hg : gK Lsa.o (insP Lsa.o db (mkL me x t)) me = some (mkL me x t) := by rw [insP_gK]; exact if_pos rfl
 have hi : isK Lsa.o (insP Lsa.o db (mkL me x t)) me = true := by rw [isK_gK, hg]; rfl
 rw [mustR, hi, gd_some hg]
 have e1 : decide ((mkL me x t).s < x) = false := decide_eq_false (show ¬ x < x by omega)
 have e2 : decide ((mkL me x t).ls = lkL t) = true := decide_eq_true rfl
 rw [e1, e2]; simp
end Go.Vai.OW
