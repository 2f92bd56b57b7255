import Derived.Test.YtmjnimnnlogomaaDfPl
set_option linter.unusedSimpArgs false
set_option linter.unusedVariables false
namespace Go.Vai.D
open Go.Vai.I Go.Vai.L
def nz (x : Lsa) : Lsa := ⟨x.o, x.s, true, x.ls⟩
theorem lsaEq_nz {x y : Lsa} : lsaEq x y = true ↔ nz x = nz y := by
 simp [lsaEq, nz]
theorem eqAll_cons {x y : Lsa} {l m : List Lsa} : eqAll lsaEq (x :: l) (y :: m) = (lsaEq x y && eqAll lsaEq l m) := by
 simp only [eqAll, List.length_cons, List.zip_cons_cons, List.all_cons]
 rw [show decide (l.length + 1 = m.length + 1) = decide (l.length = m.length) from by congr 1; simp]
 cases decide (l.length = m.length) <;> cases lsaEq x y <;> rfl
theorem eqAll_nz : ∀ {l m : List Lsa}, eqAll lsaEq l m = true ↔ l.map nz = m.map nz
 | [], [] => by simp [eqAll]
 | [], y :: m => by simp [eqAll]
 | x :: l, [] => by simp [eqAll]
 | x :: l, y :: m => by
  rw [eqAll_cons, Bool.and_eq_true, lsaEq_nz, eqAll_nz, List.map_cons, List.map_cons, List.cons.injEq]
theorem lsaEq_comm (x y : Lsa) : lsaEq x y = lsaEq y x := by
 rw [Bool.eq_iff_iff, lsaEq_nz, lsaEq_nz]; exact eq_comm
theorem gK_nz {l : List Lsa} {t : Int} : gK Lsa.o (l.map nz) t = (gK Lsa.o l t).map nz := by
 unfold gK; rw [List.find?_map]; rfl
theorem srt_nz {l : List Lsa} (h : Srt Lsa.o l) : Srt Lsa.o (l.map nz) := by
 unfold Srt at h ⊢; rw [List.pairwise_map]; exact h
theorem nz_ext {l m : List Lsa} (h1 : Srt Lsa.o l) (h2 : Srt Lsa.o m) (h : ∀ t, (gK Lsa.o l t).map nz = (gK Lsa.o m t).map nz) : eqAll lsaEq l m = true := by
 rw [eqAll_nz]
 refine srt_ext (srt_nz h1) (srt_nz h2) fun t => ?_
 rw [gK_nz, gK_nz, h]
theorem gK_flt {l : List Lsa} {p : Lsa → Bool} {t : Int} (h : Srt Lsa.o l) : gK Lsa.o (l.filter p) t = (gK Lsa.o l t).filter p := by
 cases hg : gK Lsa.o l t with
 | none =>
  rw [gK_none] at hg
  rw [Option.filter_none, gK_none]
  exact fun x hx => hg x (List.mem_filter.1 hx).1
 | some x =>
  have hm := gK_mem hg
  cases hp : p x with
  | true => rw [Option.filter_some_pos hp]; exact gK_of h.filter (List.mem_filter.2 ⟨hm.1, hp⟩) hm.2
  | false =>
   rw [Option.filter_some_neg (by simp [hp]), gK_none]
   intro y hy e
   obtain ⟨h1, h2⟩ := List.mem_filter.1 hy
   have := srt_inj h h1 hm.1 (e.trans hm.2.symm)
   rw [this, hp] at h2; cases h2
theorem gd_way {l : List Lsa} (h : dbOK l = true) (t : Int) : (gK Lsa.o l t = none ∧ isK Lsa.o l t = false ∧ sqL l t = 0) ∨ ∃ x, gK Lsa.o l t = some x ∧ isK Lsa.o l t = true ∧ sqL l t = x.s ∧ x.o = t ∧ (1 ≤ t ∧ t ≤ 64) ∧ 1 ≤ x.s ∧ x ∈ l := by
 rw [isK_gK]
 cases hg : gK Lsa.o l t with
 | none => exact .inl ⟨rfl, rfl, sqL_none hg⟩
 | some x =>
  have hm := gK_mem hg
  have hb := lsa_bd (db_mem h x hm.1)
  refine .inr ⟨x, rfl, rfl, sqL_some hg, hm.2, ?_, hb.2.1.1, hm.1⟩
  rw [← hm.2]; exact hb.1
theorem toN {t : Int} (h : 1 ≤ t) : (((t - 1).toNat : Nat) : Int) + 1 = t := by omega
end Go.Vai.D
namespace Go.Vai.D
open Go.Vai.I Go.Vai.L
theorem nw_way {a : List Lsa} {y : Lsa} (ha : dbOK a = true) (hy : 1 ≤ y.s) : nwP a y = decide (sqL a y.o < y.s) := by
 rw [nwP]
 rcases gd_way ha y.o with ⟨g, i, s⟩ | ⟨x, g, i, s, o, _⟩
 ·rw [i, s]; simp; omega
 ·rw [i, g, s]
  simp [newer, o]
theorem gn_mem {a b : List Lsa} {x : Lsa} (ha : dbOK a = true) (hx : x ∈ a) : hasN (gnL a b) x.o = gnP b x := by
 rw [Bool.eq_iff_iff, hasN, List.any_eq_true]
 constructor
 ·rintro ⟨z, hz, e⟩
  obtain ⟨w, hw, rfl⟩ := List.mem_map.1 hz
  obtain ⟨h1, h2⟩ := List.mem_filter.1 hw
  have := srt_inj (db_srt ha) hx h1 (of_decide_eq_true e)
  rw [this]; exact h2
 ·intro h
  exact ⟨x.o, List.mem_map.2 ⟨x, List.mem_filter.2 ⟨hx, h⟩, rfl⟩, by simp⟩
theorem dl_ok {a b : List Lsa} (hb : dbOK b = true) : ∀ y ∈ mo (dlR a b), lsaOK y = true := fun y hy => by
 rcases List.mem_append.1 hy with h | h <;> exact db_mem hb y (List.mem_filter.1 h).1
theorem back {a b : List Lsa} (ha : dbOK a = true) (hb : dbOK b = true) : eqAll lsaEq (xS (apA a (dlR a b)) (mo (dlR a b)) (mo (dlR a b)).length) b = true := by
 have hA : dbOK (apA a (dlR a b)) = true := db_filter ha
 have hX : dbOK (xS (apA a (dlR a b)) (mo (dlR a b)) (mo (dlR a b)).length) = true := xS_ok hA (dl_ok (a := a) hb) (mo (dlR a b)).length
 have hs := db_srt hb
 refine nz_ext (db_srt hX) hs fun t => ?_
 have e : xS (apA a (dlR a b)) (mo (dlR a b)) (mo (dlR a b)).length = xS (xS (apA a (dlR a b)) (olL a b) (olL a b).length) (nwL a b) (nwL a b).length := xS_app.symm
 have k1 : Srt Lsa.o (nwL a b) := hs.filter
 have k2 : Srt Lsa.o (olL a b) := hs.filter
 rw [e, xS_gK k1 t _ (Nat.le_refl _), List.take_length, xS_gK k2 t _ (Nat.le_refl _), List.take_length]
 show ((gK Lsa.o (b.filter (nwP a)) t).or ((gK Lsa.o (b.filter (olP a)) t).or (gK Lsa.o (a.filter (kp (dlR a b))) t))).map nz = _
 rw [gK_flt hs, gK_flt hs, gK_flt (db_srt ha)]
 rcases gd_way hb t with ⟨gb, ib, sb⟩ | ⟨y, gb, ib, sb, ob, tb, pb, mb⟩
 ·rw [gb]
  rcases gd_way ha t with ⟨ga, _, _⟩ | ⟨x, ga, _, _, oa, _, _, ma⟩
  ·rw [ga]; rfl
  ·rw [ga]
   have : kp (dlR a b) x = false := by
    show (!hasN (gnL a b) x.o) = false
    rw [gn_mem ha ma, gnP, oa, ib]; rfl
   simp [Option.filter, this]
 ·rw [gb]
  cases h1 : nwP a y with
  | true => simp [Option.filter, h1]
  | false =>
   cases h2 : olP a y with
   | true => simp [Option.filter, h1, h2]
   | false =>
    rcases gd_way ha t with ⟨ga, ia, sa⟩ | ⟨x, ga, ia, sa, oa, _, _, ma⟩
    ·rw [nw_way ha pb, ob, sa] at h1
     simp at h1; omega
    ·have h3 : kp (dlR a b) x = true := by
      show (!hasN (gnL a b) x.o) = true
      rw [gn_mem ha ma, gnP, oa, ib]; rfl
     have h4 : lsaEq y x = true := by
      rw [olP, h1, ob, ga] at h2
      simpa using h2
     rw [ga]
     simp [Option.filter, h1, h2, h3, (lsaEq_nz.1 h4).symm]
theorem nil_iff {a b : List Lsa} (ha : dbOK a = true) (hb : dbOK b = true) : emptyD (dlR a b) = eqAll lsaEq a b := by
 have hsa := db_srt ha
 have hsb := db_srt hb
 have e : emptyD (dlR a b) = true ↔ nwL a b = [] ∧ gnL a b = [] ∧ olL a b = [] := by
  have e0 : emptyD (dlR a b) = ((decide (((nwL a b).length : Int) = 0) && decide (((gnL a b).length : Int) = 0)) && decide (((olL a b).length : Int) = 0)) := rfl
  rw [e0, Bool.and_eq_true, Bool.and_eq_true, decide_eq_true_eq, decide_eq_true_eq, decide_eq_true_eq]
  constructor
  ·rintro ⟨⟨h1, h2⟩, h3⟩
   exact ⟨List.eq_nil_of_length_eq_zero (by omega), List.eq_nil_of_length_eq_zero (by omega), List.eq_nil_of_length_eq_zero (by omega)⟩
  ·rintro ⟨h1, h2, h3⟩; exact ⟨⟨by rw [h1]; rfl, by rw [h2]; rfl⟩, by rw [h3]; rfl⟩
 rw [Bool.eq_iff_iff, e]
 constructor
 ·rintro ⟨h1, h2, h3⟩
  refine nz_ext hsa hsb fun t => ?_
  rcases gd_way hb t with ⟨gb, ib, sb⟩ | ⟨y, gb, ib, sb, ob, tb, pb, mb⟩
  ·rcases gd_way ha t with ⟨ga, _, _⟩ | ⟨x, ga, _, _, oa, _, _, ma⟩
   ·rw [ga, gb]
   ·have : x.o ∈ gnL a b := List.mem_map.2 ⟨x, List.mem_filter.2 ⟨ma, by rw [gnP, oa, ib]; rfl⟩, rfl⟩
    rw [h2] at this; cases this
  ·have h4 : nwP a y = false := by
    have := List.filter_eq_nil_iff.1 h1 y mb
    simpa using this
   have h5 : olP a y = false := by
    have := List.filter_eq_nil_iff.1 h3 y mb
    simpa using this
   rcases gd_way ha t with ⟨ga, ia, sa⟩ | ⟨x, ga, ia, sa, oa, _, _, ma⟩
   ·rw [nw_way ha pb, ob, sa] at h4
    simp at h4; omega
   ·have h6 : lsaEq y x = true := by
     rw [olP, h4, ob, ga] at h5
     simpa using h5
    rw [ga, gb, Option.map_some, Option.map_some, lsaEq_nz.1 h6]
 ·intro h
  have hm := eqAll_nz.1 h
  have hk : ∀ t, (gK Lsa.o a t).map nz = (gK Lsa.o b t).map nz := fun t => by rw [← gK_nz, ← gK_nz, hm]
  have hx : ∀ {t : Int} {y : Lsa}, gK Lsa.o b t = some y → ∃ x, gK Lsa.o a t = some x ∧ nz x = nz y := fun {t y} hy => by
   have := hk t
   rw [hy] at this
   cases ga : gK Lsa.o a t with
   | none => rw [ga] at this; cases this
   | some x => rw [ga] at this; exact ⟨x, rfl, by simpa using this⟩
  refine ⟨List.filter_eq_nil_iff.2 fun y hy => ?_, List.map_eq_nil_iff.2 (List.filter_eq_nil_iff.2 fun x hx' => ?_), List.filter_eq_nil_iff.2 fun y hy => ?_⟩
  ·have g := gK_of hsb hy rfl
   obtain ⟨x, ga, e2⟩ := hx g
   have hs : x.s = y.s := (congrArg Lsa.s e2 : (nz x).s = (nz y).s)
   rw [nw_way ha (lsa_bd (db_mem hb y hy)).2.1.1, sqL_some ga]
   simp; omega
  ·have g := gK_of hsa hx' rfl
   have := hk x.o
   rw [g] at this
   rw [gnP, isK_gK]
   cases gb : gK Lsa.o b x.o with
   | none => rw [gb] at this; cases this
   | some y => simp
  ·have g := gK_of hsb hy rfl
   obtain ⟨x, ga, e2⟩ := hx g
   rw [olP, ga]
   simp [lsaEq_nz.2 e2.symm]
theorem self_nil {a : List Lsa} (ha : dbOK a = true) : emptyD (dlR a a) = true := by rw [nil_iff ha ha]; exact eqAll_nz.2 rfl
theorem gd_def {a : List Lsa} {t : Int} (h : gK Lsa.o a t = none) : gD a t = default := by unfold gD; rw [h]; rfl
theorem gd_some {a : List Lsa} {t : Int} {x : Lsa} (h : gK Lsa.o a t = some x) : gD a t = x := by unfold gD; rw [h]; rfl
theorem ro_way {a b : List Lsa} (ha : dbOK a = true) (hb : dbOK b = true) (t : Int) (ht : 1 ≤ t) :
  roG a b (t - 1).toNat = ((gK Lsa.o a t).filter (gnP b)).map Lsa.o ∧ roN a b (t - 1).toNat = (gK Lsa.o b t).filter (nwP a) ∧ roO a b (t - 1).toNat = (gK Lsa.o b t).filter (olP a) := by
 unfold roG roN roO
 rw [toN ht]
 rcases gd_way hb t with ⟨gb, ib, sb⟩ | ⟨y, gb, ib, sb, ob, tb, pb, mb⟩
 ·rw [gd_def gb, gb]
  rcases gd_way ha t with ⟨ga, ia, sa⟩ | ⟨x, ga, ia, sa, oa, ta, pa, ma⟩
  ·rw [gd_def ga, ga]
   exact ⟨rfl, rfl, rfl⟩
  ·rw [gd_some ga, ga]
   have h1 : (default : Lsa).o = 0 ∧ x.o > 0 := ⟨rfl, by omega⟩
   have h2 : gnP b x = true := by rw [gnP, oa, ib]; rfl
   rw [if_pos h1, if_pos h1, if_pos h1]
   simp [Option.filter, h2, oa]
 ·rw [gd_some gb, gb]
  have h1 : ∀ q : Prop, ¬ (y.o = 0 ∧ q) := fun q h => by omega
  rw [if_neg (h1 _), if_neg (h1 _), if_neg (h1 _)]
  have h3 := nw_way (y := y) ha pb
  rcases gd_way ha t with ⟨ga, ia, sa⟩ | ⟨x, ga, ia, sa, oa, ta, pa, ma⟩
  ·rw [gd_def ga, ga]
   rw [ob, sa, decide_eq_true (by omega)] at h3
   have h4 : y.s > (default : Lsa).s := by show y.s > 0; omega
   rw [if_pos h4, if_pos h4]
   simp [Option.filter, h3, ol_n1 h3]
  ·rw [gd_some ga, ga]
   have h5 : gnP b x = false := by rw [gnP, oa, ib]; rfl
   rw [ob, sa] at h3
   by_cases h6 : y.s > x.s
   ·rw [decide_eq_true (by omega)] at h3
    rw [if_pos h6, if_pos h6]
    simp [Option.filter, h3, h5, ol_n1 h3]
   ·rw [decide_eq_false (by omega)] at h3
    rw [if_neg h6, if_neg h6]
    have h7 : olP a y = !lsaEq x y := by rw [olP, h3, ob, ga, lsaEq_comm]; rfl
    cases h8 : lsaEq x y <;> simp [Option.filter, h3, h5, h7, h8]
end Go.Vai.D
namespace Go.Vai.D
open Go.Vai.I Go.Vai.L
theorem ext_rg {α : Type} {ky : α → Int} {l : List α} {f : Nat → Option α} (hl : Srt ky l) (hr : ∀ x ∈ l, 1 ≤ ky x ∧ ky x ≤ 64) (h : ∀ t, 1 ≤ t → f (t - 1).toNat = gK ky l t) : l = rgF f 64 := by
 obtain ⟨h1, h2⟩ := gK_range (ky := ky) (f := f) (fun i x hx => by
  have := h ((i : Int) + 1) (by omega)
  rw [show ((i : Int) + 1 - 1).toNat = i by omega, hx] at this
  exact (gK_mem this.symm).2) 64
 refine srt_ext hl h1 fun t => ?_
 have h4 : gK ky (rgF f 64) t = if 1 ≤ t ∧ t ≤ (64 : Nat) then f (t - 1).toNat else none := h2 t
 rw [h4]
 split
 ·rename_i h3; exact (h t h3.1).symm
 ·rename_i h3
  rw [gK_none]
  intro x hx e
  have := hr x hx
  omega
theorem of_ref {a b : List Lsa} (ha : dbOK a = true) (hb : dbOK b = true) : rofR a b = dlR a b := by
 have hsa := db_srt ha
 have hsb := db_srt hb
 have hrb : ∀ x ∈ b, 1 ≤ x.o ∧ x.o ≤ 64 := fun x hx => (lsa_bd (db_mem hb x hx)).1
 have hra : ∀ x ∈ a, 1 ≤ x.o ∧ x.o ≤ 64 := fun x hx => (lsa_bd (db_mem ha x hx)).1
 have e1 : nwL a b = rgF (roN a b) 64 := ext_rg (ky := Lsa.o) hsb.filter (fun x hx => hrb x (List.mem_filter.1 hx).1) fun t ht => by
  rw [(ro_way ha hb t ht).2.1]; exact (gK_flt hsb).symm
 have e2 : olL a b = rgF (roO a b) 64 := ext_rg (ky := Lsa.o) hsb.filter (fun x hx => hrb x (List.mem_filter.1 hx).1) fun t ht => by
  rw [(ro_way ha hb t ht).2.2]; exact (gK_flt hsb).symm
 have e3 : gnL a b = rgF (roG a b) 64 := by
  refine ext_rg (ky := id) ?_ (fun x hx => ?_) fun t ht => ?_
  ·have : Srt Lsa.o (a.filter (gnP b)) := hsa.filter
   unfold Srt at this ⊢
   rw [gnL, List.pairwise_map]; exact this
  ·obtain ⟨y, hy, rfl⟩ := List.mem_map.1 hx
   exact hra y (List.mem_filter.1 hy).1
  ·rw [(ro_way ha hb t ht).1, ← gK_flt hsa]
   unfold gK gnL
   rw [List.find?_map]; rfl
 rw [rofR, dlR, ← e1, ← e2, ← e3]
theorem same_self (d : Dl) : sameD d d = true := by
 rw [sameD, eqAll_nz.2 rfl, eqAll_nz.2 rfl]; simp
theorem gn_len (a b : List Lsa) : (gnL a b).length ≤ a.length := by
 rw [gnL, List.length_map]; exact List.length_filter_le _ _
theorem ol_len (a b : List Lsa) : (olL a b).length ≤ b.length := List.length_filter_le _ _
end Go.Vai.D
