import Derived.Test.YtheihmlgnldijaatOwn5
namespace Go.Vai.OW
open Go.Proofs Go.Vai Go.Vai.D Go.Vai.DB Go.Vai.I Go.Vai.L Go.Vai.N Go.Vai.O Go.Vai.S Go.Vai.T
set_option linter.unusedSimpArgs false
set_option linter.unusedVariables false
set_option maxHeartbeats 4000000
set_option maxRecDepth 100000
theorem mkL_fit {me sq : Int} {t : List Nr} (ht : t.length ≤ 1000000) : fit (mkL me sq t) := ⟨by have := lkL_len t; show (lkL t).length ≤ 1000000; omega, fun e => List.isEmpty_iff.1 e⟩
theorem mkF_fit {me sq : Int} {t : List Nr} (ht : t.length ≤ 1000000) : fit (mkF me sq t) := ⟨by have := lk_len t; show (lkF t).length ≤ 1000000; omega, fun e => by cases e⟩
theorem pre_fit {x u : Int} {y : Lsa} (hy : fit y) : ∀ c ∈ preC x u ++ [cgL y], fit c.l := fun c hc => by
  rcases List.mem_append.1 hc with h | h
  · rw [preC] at h; split at h
    · rw [List.mem_singleton] at h; subst h; exact (⟨by decide, fun _ => rfl⟩ : fit (default : Lsa))
    · cases h
  · rw [List.mem_singleton] at h; subst h; exact hy
theorem rpre_fit {x u : Int} {y : Lsa} (hy : fit y) : ∀ c ∈ rpre x u ++ [cgL y], fit c.l := fun c hc => by
  rcases List.mem_append.1 hc with h | h
  · rw [rpre] at h; split at h
    · rw [List.mem_singleton] at h; subst h; exact (⟨by decide, fun _ => rfl⟩ : fit (default : Lsa))
    · cases h
  · rw [List.mem_singleton] at h; subst h; exact hy
theorem drop_last (l : List Cg) (c : Cg) : List.drop ((((l ++ [c]).length : Nat) : Int) - 1).toNat (l ++ [c]) = [c] := by
  have : ((((l ++ [c]).length : Nat) : Int) - 1).toNat = l.length := by simp
  rw [this, List.drop_left]
theorem wS_rS {x u : Int} (h : mayS x u = true) : rS x u = wS x u := by rw [rS, wS, rW_wV h]
attribute [go_sem] List.map_cons List.map_nil
theorem good_OwnPlans (nd : Bool) (db : List Lsa) (hd : db.length ≤ 9223372036854775807) (hz : nd = true → db = []) (pd0 : ∀ x ∈ db, x.ls.length ≤ 9223372036854775807 ∧ (x.nil = true → x.ls = [])) (nt : Bool) (t : List Nr) (ht : t.length ≤ 9223372036854775807) (me x u first : Int) (hx : -9223372036854775808 ≤ x ∧ x ≤ 9223372036854775807) (hu : -9223372036854775808 ≤ u ∧ u ≤ 9223372036854775807) : Good Try.prog 4 [(.sl 3 nd (db.map lsaA), false), (.sl 8 nt (t.map nrA), false), (.agg [i64 me, i64 x, i64 u, i64 first], false)] [] [(.b true, false)] [] := by
  refine good_of_body2 162 Try.func4 rfl rfl rfl (by simp) ?_
  intro s m ha hr hv hG
  have f0 : s 0 = .v (.sl 3 nd (db.map lsaA)) := ha 0 _ rfl
  have f1 : s 1 = .v (.sl 8 nt (t.map nrA)) := ha 1 _ rfl
  have f2 : s 2 = .v (.agg [i64 me, i64 x, i64 u, i64 first]) := ha 2 _ rfl
  clear ha
  have hc : True := trivial
  have F := (And.intro f0 (And.intro f1 (And.intro f2 hG)))
  refine AW.seq ?_
  refine AW.region (cfg := cfg) ?_
  refine stp (fun _ h => sb h) ?_
  refine stp (fun _ h => s0 h) ?_
  refine aops_nil ?_
  refine AW.seq ?_
  refine AW.seq ?_
  refine AW.region (cfg := cfg) ?_
  refine stp (fun _ h => s0 h) ?_
  refine stp (fun _ h => cs (w := good_LightDb nd db (by omega) (fun x hx => (pd0 x hx).1)) (x := h)) ?_
  iterate 2 refine stp (fun _ h => s0 h) ?_
  refine mrg wa (fun hc _ h => s0 h) ?_
  refine mrg wa (fun hc _ h => sd h) ?_
  refine mrg wa (fun hc _ h => s0 h) ?_
  refine stp (fun _ h => s0 h) ?_
  refine aops_nil ?_
  refine cnd (fun hb => ?ht1) (fun hb => ?hf1)
  case ht1 =>
    have hw22 := hb
    try simp only [bo1, bo2, bo3, bo4, bo5, bo6] at hb
    have hbt22 := hb
    refine AW.seq ?_
    refine AW.region (cfg := cfg) ?_
    refine stp (fun _ h => cs (w := good_awakeO) (x := h)) ?_
    refine stp (fun _ h => s0 h) ?_
    refine aops_nil ?_
    refine AW.ret ?_
    refine ⟨.inr rfl, ?_⟩
    refine leaves_tmp1 6 rfl ?_ (by exact hG)
    simp (disch := first | omega | decide) only [go_sem, F, aIndex_map]
    all_goals first | done | rfl | (simp; done) | trace_state
  case hf1 =>
    have hw22 := hb
    try simp only [bo1, bo2, bo3, bo4, bo5, bo6] at hb
    have hbt22 := hb
    refine AW.skip ?_
    refine AW.seq ?_
    obtain ⟨hd2, pd⟩ := light_of (show lightD db = true by simpa using hbt22.1) (fun x hx => (pd0 x hx).2)
    have ht2 : t.length ≤ 40 := by omega
    have wlf := lk_len t
    have wll := lkL_len t
    refine AW.region (cfg := cfg) ?_
    refine stp (fun _ h => s0 h) ?_
    refine stp (fun _ h => sx h) ?_
    refine stp (fun _ h => sl h) ?_
    refine stp (fun _ h => s0 h) ?_
    refine stp (fun _ h => sx h) ?_
    refine stp (fun _ h => sl h) ?_
    refine stp (fun _ h => cr (w := good_PlanO nd db (by omega) pd hz me nt t (by omega) x u hx hu) (x := h)) ?_
    iterate 4 refine stp (fun _ h => s0 h) ?_
    refine stp (fun _ h => sd h) ?_
    refine stp (fun _ h => s0 h) ?_
    refine stp0 (fun _ h => ss h) ?_
    refine stp (fun _ h => s0 h) ?_
    refine aops_nil ?_
    refine AW.seq ?_
    refine AW.seq ?_
    refine AW.region (cfg := cfg) ?_
    refine stp (fun _ h => s0 h) ?_
    refine stp (fun _ h => cs (w := good_MayDb nd db (by omega) (fun x hx => by have := (pd x hx).1; omega)) (x := h)) ?_
    iterate 2 refine stp (fun _ h => s0 h) ?_
    refine mrg wa (fun hc _ h => sx h) ?_
    refine mrg wa (fun hc _ h => sl h) ?_
    refine mrg wa (fun hc _ h => s0 h) ?_
    refine mrg wa (fun hc _ h => cs (w := good_RightO me nt t (by omega)) (x := h)) ?_
    refine mrg wa (fun hc _ h => s0 h) ?_
    iterate 2 refine stp (fun _ h => s0 h) ?_
    refine mrg wa (fun hc _ h => sx h) ?_
    refine mrg wa (fun hc _ h => sl h) ?_
    refine mrg wa (fun hc _ h => cs (w := S.good_refMay x u hx hu) (x := h)) ?_
    refine mrg wa (fun hc _ h => s0 h) ?_
    refine stp (fun _ h => s0 h) ?_
    refine aops_nil ?_
    refine cnd (fun hb => ?ht2) (fun hb => ?hf2)
    case ht2 =>
      have hw50 := hb
      try simp only [bo1, bo2, bo3, bo4, bo5, bo6] at hb
      have hbt50 := hb
      refine AW.seq ?_
      have e1 : planR db me t x u = ⟨true, [], 0, 0, 1⟩ := plan_bad hbt50
      have F := And.intro e1 F
      refine AW.region (cfg := cfg) ?_
      iterate 3 refine stp (fun _ h => s0 h) ?_
      refine mrg wa (fun hc _ h => s0 h) ?_
      refine mrg wa (fun hc _ h => sd h) ?_
      refine mrg wa (fun hc _ h => s0 h) ?_
      iterate 2 refine stp (fun _ h => s0 h) ?_
      refine mrg wa (fun hc _ h => sl h) ?_
      refine mrg wa (fun hc _ h => su h) ?_
      refine mrg wa (fun hc _ h => s0 h) ?_
      iterate 2 refine stp (fun _ h => s0 h) ?_
      refine mrg wa (fun hc _ h => cs (w := good_awakeO) (x := h)) ?_
      iterate 2 refine stp (fun _ h => s0 h) ?_
      refine aops_nil ?_
      refine AW.ret ?_
      refine ⟨.inr rfl, ?_⟩
      refine leaves_tmp1 6 rfl ?_ (by exact hG)
      simp (disch := first | omega | decide) only [go_sem, F, aIndex_map]
      all_goals rfl
    case hf2 =>
      have hw50 := hb
      try simp only [bo1, bo2, bo3, bo4, bo5, bo6] at hb
      have hbt50 := hb
      refine AW.skip ?_
      refine AW.seq ?_
      have h0 : dbOK db = true := by simpa using hbt50.1.1
      have hR : rightR me t = true := by simpa using hbt50.1.2
      have hM : mayS x u = true := by simpa using hbt50.2
      have hin := plan_in h0 hR hM
      have hrp := rp_ok (me := me) (t := t) hM
      have F := And.intro hrp F
      refine AW.region (cfg := cfg) ?_
      refine stp (fun _ h => sx h) ?_
      refine stp (fun _ h => sl h) ?_
      refine stp (fun _ h => s0 h) ?_
      refine stp (fun _ h => sx h) ?_
      refine stp (fun _ h => sl h) ?_
      refine stp (fun _ h => cr (w := good_refPlanO me nt t (by omega) x u hM) (x := h)) ?_
      iterate 4 refine stp (fun _ h => s0 h) ?_
      refine stp (fun _ h => sd h) ?_
      refine stp (fun _ h => s0 h) ?_
      refine stp0 (fun _ h => ss h) ?_
      refine stp (fun _ h => s0 h) ?_
      refine aops_nil ?_
      refine AW.seq ?_
      refine AW.seq ?_
      refine AW.region (cfg := cfg) ?_
      iterate 2 refine stp (fun _ h => s0 h) ?_
      refine aops_nil ?_
      refine cnd (fun hb => ?ht3) (fun hb => ?hf3)
      case ht3 =>
        have hw77 := hb
        try simp only [bo1, bo2, bo3, bo4, bo5, bo6] at hb
        have hbt77 := hb
        refine AW.seq ?_
        have q := of_decide_eq_true hw77
        have e1 : planR db me t x u = ⟨true, [], 0, 0, 9⟩ := by (rw [plan_spent hin q.1 q.2, wE_9 hM q.2]; rfl)
        have F := And.intro e1 F
        refine AW.region (cfg := cfg) ?_
        iterate 3 refine stp (fun _ h => s0 h) ?_
        refine mrg wa (fun hc _ h => s0 h) ?_
        refine mrg wa (fun hc _ h => sd h) ?_
        refine mrg wa (fun hc _ h => s0 h) ?_
        iterate 2 refine stp (fun _ h => s0 h) ?_
        refine mrg wa (fun hc _ h => sl h) ?_
        refine mrg wa (fun hc _ h => su h) ?_
        refine mrg wa (fun hc _ h => s0 h) ?_
        iterate 2 refine stp (fun _ h => s0 h) ?_
        refine mrg wa (fun hc _ h => cs (w := good_awakeO) (x := h)) ?_
        iterate 2 refine stp (fun _ h => s0 h) ?_
        refine aops_nil ?_
        refine AW.ret ?_
        refine ⟨.inr rfl, ?_⟩
        refine leaves_tmp1 6 rfl ?_ (by exact hG)
        simp (disch := first | omega | decide) only [go_sem, F, aIndex_map]
        all_goals rfl
      case hf3 =>
        have hw77 := hb
        try simp only [bo1, bo2, bo3, bo4, bo5, bo6] at hb
        have hbt77 := hb
        refine AW.skip ?_
        refine AW.seq ?_
        refine AW.seq ?_
        have hns := of_decide_eq_false hw77
        have hxl := x_le hM hns
        have hmk := mk_right hR hxl
        have htk := (right_way hR).2.1
        have hok : lsaOK (mkL me x t) = true := by (rw [lsaOK_same htk]; exact right_ok hR hxl)
        refine AW.draw (cfg := cfg) (by kernel_rfl) (by kernel_rfl) (by kernel_rfl) ?_
        refine dstp (fun _ h => s0 h) ?_
        refine dstp (fun _ h => sx h) ?_
        refine dstp (fun _ h => sl h) ?_
        refine dstp (fun _ h => cs (w := good_Seq11 nd db (by omega) me) (x := h)) ?_
        iterate 2 refine dstp (fun _ h => sx h) ?_
        refine dstp (fun _ h => sl h) ?_
        refine dstp (fun _ h => s0 h) ?_
        refine adraw_nil (by kernel_rfl) ?_
        refine cnd (fun hb => ?ht4) (fun hb => ?hf4)
        case ht4 =>
          have hw100 := hb
          try simp only [bo1, bo2, bo3, bo4, bo5, bo6] at hb
          have hbt100 := hb
          refine AW.seq ?_
          have e1 : planR db me t x u = ⟨true, [], 0, 0, 1⟩ := plan_old hin hns (by (rw [hmk, putR_ge h0 hok hbt100]; decide))
          have F := And.intro e1 F
          refine AW.region (cfg := cfg) ?_
          iterate 3 refine stp (fun _ h => s0 h) ?_
          refine mrg wa (fun hc _ h => s0 h) ?_
          refine mrg wa (fun hc _ h => sd h) ?_
          refine mrg wa (fun hc _ h => s0 h) ?_
          iterate 2 refine stp (fun _ h => s0 h) ?_
          refine mrg wa (fun hc _ h => sl h) ?_
          refine mrg wa (fun hc _ h => su h) ?_
          refine mrg wa (fun hc _ h => s0 h) ?_
          iterate 2 refine stp (fun _ h => s0 h) ?_
          refine mrg wa (fun hc _ h => cs (w := good_awakeO) (x := h)) ?_
          iterate 2 refine stp (fun _ h => s0 h) ?_
          refine aops_nil ?_
          refine AW.ret ?_
          refine ⟨.inr rfl, ?_⟩
          refine leaves_tmp1 6 rfl ?_ (by exact hG)
          simp (disch := first | omega | decide) only [go_sem, F, aIndex_map]
          all_goals rfl
        case hf4 =>
          have hw100 := hb
          try simp only [bo1, bo2, bo3, bo4, bo5, bo6] at hb
          have hbt100 := hb
          refine AW.skip ?_
          refine AW.seq ?_
          have e1 : planR db me t x u = ⟨false, (preC x u ++ [cgL (mkL me x t)]), x + 1, wS x u, 0⟩ := by (rw [plan_yes hin hns (by (rw [hmk, putR_lt h0 hok hbt100]; simp)), hmk])
          have hnr : ¬ (x > u ∧ rW x = 0) := fun q => by (have q2 := q.2; rw [rW, if_neg (by omega)] at q2; omega)
          have e2 : rplan me t x u = ⟨false, (rpre x u ++ [cgL (mkF me x t)]), x + 1, wS x u, 1⟩ := by (rw [rp_yes hnr, wS_rS hM])
          have hpl := pre_len x u
          have hrl := rpre_len x u
          have fl := mkL_fit (me := me) (sq := x) (t := t) (by omega)
          have ff := mkF_fit (me := me) (sq := x) (t := t) (by omega)
          have p1 := pre_fit (x := x) (u := u) fl
          have p2 := rpre_fit (x := x) (u := u) ff
          have hL := lists_ok (me := me) (t := t) hM htk
          have hdl := drop_last (preC x u) (cgL (mkL me x t))
          have hlen : (preC x u ++ [cgL (mkL me x t)]).length = (preC x u).length + 1 := by simp
          have hto := told (db := db) (me := me) (t := t) (x := x)
          have her := refPut_eq (db_srt h0) (mkL me x t)
          have hle := db_len h0
          have wl := ins_len h0 hok
          have pi := ins_fit pd fl
          have F := And.intro e1 F
          have F := And.intro e2 F
          have F := And.intro hL F
          have F := And.intro hdl F
          have F := And.intro hto F
          have F := And.intro her F
          refine AW.region (cfg := cfg) ?_
          iterate 2 refine stp (fun _ h => s0 h) ?_
          refine aops_nil ?_
          refine AW.seq ?_
          refine AW.seq ?_
          refine AW.region (cfg := cfg) ?_
          refine stp (fun _ h => s0 h) ?_
          refine stp (fun _ h => sd h) ?_
          refine stp (fun _ h => s0 h) ?_
          refine aops_nil ?_
          refine cnd (fun hb => ?ht5) (fun hb => ?hf5)
          case hf5 => simp at hb
          case ht5 =>
          have hbt119 := hb
          refine AW.region (cfg := cfg) ?_
          iterate 2 refine stp (fun _ h => s0 h) ?_
          iterate 3 refine stp (fun _ h => sd h) ?_
          refine stp (fun _ h => s0 h) ?_
          refine aops_nil ?_
          refine AW.seq ?_
          refine AW.draw (cfg := cfg) (by kernel_rfl) (by kernel_rfl) (by kernel_rfl) ?_
          refine dstp (fun _ h => s0 h) ?_
          refine dstp (fun _ h => sd h) ?_
          iterate 4 refine dstp (fun _ h => s0 h) ?_
          refine dstp (fun _ h => si h) ?_
          refine dstp (fun _ h => sx h) ?_
          refine dstp (fun _ h => sl h) ?_
          refine dstp (fun _ h => cr (w := good_Put11 nd db (by omega) (mkL me x t)) (x := h)) ?_
          refine dstp (fun _ h => sx h) ?_
          refine dstp (fun _ h => sl h) ?_
          refine dstp (fun _ h => s0 h) ?_
          iterate 2 refine dstp (fun _ h => sx h) ?_
          refine dstp (fun _ h => sl h) ?_
          refine dstp (fun _ h => cs (w := good_MustO false (insP Lsa.o db (mkL me x t)) (by omega) pi me nt t (by omega) x) (x := h)) ?_
          iterate 3 refine dstp (fun _ h => s0 h) ?_
          refine adraw_nil (by kernel_rfl) ?_
          refine AW.seq ?_
          refine AW.region (cfg := cfg) ?_
          iterate 3 refine stp (fun _ h => s0 h) ?_
          iterate 2 refine mrg wa (fun hc _ h => s0 h) ?_
          refine mrg wa (fun hc _ h => cs (w := good_ListsCg _ _ (preC x u ++ [cgL (mkL me x t)]) (rpre x u ++ [cgL (mkF me x t)]) (by simp; omega) (by simp; omega) p1 p2) (x := h)) ?_
          iterate 2 refine stp (fun _ h => s0 h) ?_
          iterate 2 refine mrg wa (fun hc _ h => sl h) ?_
          refine mrg wa (fun hc _ h => s0 h) ?_
          iterate 2 refine stp (fun _ h => s0 h) ?_
          refine mrg wa (fun hc _ h => s0 h) ?_
          iterate 2 refine stp (fun _ h => s0 h) ?_
          refine mrg wa (fun hc _ h => cs (w := good_awakeO) (x := h)) ?_
          iterate 2 refine stp (fun _ h => s0 h) ?_
          refine aops_nil ?_
          refine AW.ret ?_
          refine ⟨.inr rfl, ?_⟩
          refine leaves_tmp1 6 rfl ?_ (by exact hG)
          simp (disch := first | omega | decide) only [go_sem, F, aIndex_map]
          all_goals rfl
end Go.Vai.OW
