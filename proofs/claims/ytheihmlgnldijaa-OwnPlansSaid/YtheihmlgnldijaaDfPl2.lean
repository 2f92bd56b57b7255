import Derived.Test.YtheihmlgnldijaaDfPl
set_option linter.unusedSimpArgs false
set_option linter.unusedVariables false
namespace Go.Vai.D
open Go.Vai.I Go.Vai.L
def nz (x : Lsa) : Lsa := ⟨x.o, x.s, true, x.ls⟩
theorem lsaEq_nz {x y : Lsa} : lsaEq x y = true ↔ nz x = nz y := by
 simp [lsaEq, nz]
theorem eqAll_cons {x y : Lsa} {l m : List Lsa} : eqAll lsaEq (x :: l) (y :: m) = (lsaEq x y && eqAll lsaEq l m) := by
 simp only [eqAll, List.length_cons, List.zip_cons_cons, List.all_cons]
 rw [show decide (l.length + 1 = m.length + 1) = decide (l.length = m.length) from by congr 1; simp]
 cases decide (l.length = m.length) <;> cases lsaEq x y <;> rfl
theorem eqAll_nz : ∀ {l m : List Lsa}, eqAll lsaEq l m = true ↔ l.map nz = m.map nz
 | [], [] => by simp [eqAll]
 | [], y :: m => by simp [eqAll]
 | x :: l, [] => by simp [eqAll]
 | x :: l, y :: m => by
  rw [eqAll_cons, Bool.and_eq_true, lsaEq_nz, eqAll_nz, List.map_cons, List.map_cons, List.cons.injEq]
theorem gK_nz {l : List Lsa} {t : Int} : gK Lsa.o (l.map nz) t = (gK Lsa.o l t).map nz := by
 unfold gK; rw [List.find?_map]; rfl
theorem srt_nz {l : List Lsa} (h : Srt Lsa.o l) : Srt Lsa.o (l.map nz) := by
 unfold Srt at h ⊢; rw [List.pairwise_map]; exact h
theorem nz_ext {l m : List Lsa} (h1 : Srt Lsa.o l) (h2 : Srt Lsa.o m) (h : ∀ t, (gK Lsa.o l t).map nz = (gK Lsa.o m t).map nz) : eqAll lsaEq l m = true := by
 rw [eqAll_nz]
 refine srt_ext (srt_nz h1) (srt_nz h2) fun t => ?_
 rw [gK_nz, gK_nz, h]
theorem gK_flt {l : List Lsa} {p : Lsa → Bool} {t : Int} (h : Srt Lsa.o l) : gK Lsa.o (l.filter p) t = (gK Lsa.o l t).filter p := by
 cases hg : gK Lsa.o l t with
 | none =>
  rw [gK_none] at hg
  rw [Option.filter_none, gK_none]
  exact fun x hx => hg x (List.mem_filter.1 hx).1
 | some x =>
  have hm := gK_mem hg
  cases hp : p x with
  | true => rw [Option.filter_some_pos hp]; exact gK_of h.filter (List.mem_filter.2 ⟨hm.1, hp⟩) hm.2
  | false =>
   rw [Option.filter_some_neg (by simp [hp]), gK_none]
   intro y hy e
   obtain ⟨h1, h2⟩ := List.mem_filter.1 hy
   have := srt_inj h h1 hm.1 (e.trans hm.2.symm)
   rw [this, hp] at h2; cases h2
theorem gd_way {l : List Lsa} (h : dbOK l = true) (t : Int) : (gK Lsa.o l t = none ∧ isK Lsa.o l t = false ∧ sqL l t = 0) ∨ ∃ x, gK Lsa.o l t = some x ∧ isK Lsa.o l t = true ∧ sqL l t = x.s ∧ x.o = t ∧ (1 ≤ t ∧ t ≤ 64) ∧ 1 ≤ x.s ∧ x ∈ l := by
 rw [isK_gK]
 cases hg : gK Lsa.o l t with
 | none => exact .inl ⟨rfl, rfl, sqL_none hg⟩
 | some x =>
  have hm := gK_mem hg
  have hb := lsa_bd (db_mem h x hm.1)
  refine .inr ⟨x, rfl, rfl, sqL_some hg, hm.2, ?_, hb.2.1.1, hm.1⟩
  rw [← hm.2]; exact hb.1
end Go.Vai.D
namespace Go.Vai.D
open Go.Vai.I Go.Vai.L
theorem nw_way {a : List Lsa} {y : Lsa} (ha : dbOK a = true) (hy : 1 ≤ y.s) : nwP a y = decide (sqL a y.o < y.s) := by
 rw [nwP]
 rcases gd_way ha y.o with ⟨g, i, s⟩ | ⟨x, g, i, s, o, _⟩
 ·rw [i, s]; simp; omega
 ·rw [i, g, s]
  simp [newer, o]
theorem gn_mem {a b : List Lsa} {x : Lsa} (ha : dbOK a = true) (hx : x ∈ a) : hasN (gnL a b) x.o = gnP b x := by
 rw [Bool.eq_iff_iff, hasN, List.any_eq_true]
 constructor
 ·rintro ⟨z, hz, e⟩
  obtain ⟨w, hw, rfl⟩ := List.mem_map.1 hz
  obtain ⟨h1, h2⟩ := List.mem_filter.1 hw
  have := srt_inj (db_srt ha) hx h1 (of_decide_eq_true e)
  rw [this]; exact h2
 ·intro h
  exact ⟨x.o, List.mem_map.2 ⟨x, List.mem_filter.2 ⟨hx, h⟩, rfl⟩, by simp⟩
theorem dl_ok {a b : List Lsa} (hb : dbOK b = true) : ∀ y ∈ mo (dlR a b), lsaOK y = true := fun y hy => by
 rcases List.mem_append.1 hy with h | h <;> exact db_mem hb y (List.mem_filter.1 h).1
theorem back {a b : List Lsa} (ha : dbOK a = true) (hb : dbOK b = true) : eqAll lsaEq (xS (apA a (dlR a b)) (mo (dlR a b)) (mo (dlR a b)).length) b = true := by
 have hA : dbOK (apA a (dlR a b)) = true := db_filter ha
 have hX : dbOK (xS (apA a (dlR a b)) (mo (dlR a b)) (mo (dlR a b)).length) = true := xS_ok hA (dl_ok (a := a) hb) (mo (dlR a b)).length
 have hs := db_srt hb
 refine nz_ext (db_srt hX) hs fun t => ?_
 have e : xS (apA a (dlR a b)) (mo (dlR a b)) (mo (dlR a b)).length = xS (xS (apA a (dlR a b)) (olL a b) (olL a b).length) (nwL a b) (nwL a b).length := xS_app.symm
 have k1 : Srt Lsa.o (nwL a b) := hs.filter
 have k2 : Srt Lsa.o (olL a b) := hs.filter
 rw [e, xS_gK k1 t _ (Nat.le_refl _), List.take_length, xS_gK k2 t _ (Nat.le_refl _), List.take_length]
 show ((gK Lsa.o (b.filter (nwP a)) t).or ((gK Lsa.o (b.filter (olP a)) t).or (gK Lsa.o (a.filter (kp (dlR a b))) t))).map nz = _
 rw [gK_flt hs, gK_flt hs, gK_flt (db_srt ha)]
 rcases gd_way hb t with ⟨gb, ib, sb⟩ | ⟨y, gb, ib, sb, ob, tb, pb, mb⟩
 ·rw [gb]
  rcases gd_way ha t with ⟨ga, _, _⟩ | ⟨x, ga, _, _, oa, _, _, ma⟩
  ·rw [ga]; rfl
  ·rw [ga]
   have : kp (dlR a b) x = false := by
    show (!hasN (gnL a b) x.o) = false
    rw [gn_mem ha ma, gnP, oa, ib]; rfl
   simp [Option.filter, this]
 ·rw [gb]
  cases h1 : nwP a y with
  | true => simp [Option.filter, h1]
  | false =>
   cases h2 : olP a y with
   | true => simp [Option.filter, h1, h2]
   | false =>
    rcases gd_way ha t with ⟨ga, ia, sa⟩ | ⟨x, ga, ia, sa, oa, _, _, ma⟩
    ·rw [nw_way ha pb, ob, sa] at h1
     simp at h1; omega
    ·have h3 : kp (dlR a b) x = true := by
      show (!hasN (gnL a b) x.o) = true
      rw [gn_mem ha ma, gnP, oa, ib]; rfl
     have h4 : lsaEq y x = true := by
      rw [olP, h1, ob, ga] at h2
      simpa using h2
     rw [ga]
     simp [Option.filter, h1, h2, h3, (lsaEq_nz.1 h4).symm]
theorem gd_some {a : List Lsa} {t : Int} {x : Lsa} (h : gK Lsa.o a t = some x) : gD a t = x := by unfold gD; rw [h]; rfl
end Go.Vai.D
namespace Go.Vai.D
open Go.Vai.I Go.Vai.L
end Go.Vai.D
