import Derived.Test.YtkekchbnaidmnaaqDb8
import Derived.Test.YtkekchbnaidmnaaVaiE
namespace Go.Vai.DB
open Go.Proofs Go.Vai Go.Vai.D Go.Vai.I Go.Vai.L Go.Vai.N Go.Vai.O
set_option linter.unusedSimpArgs false
set_option linter.unusedVariables false
set_option maxHeartbeats 4000000
set_option maxRecDepth 100000
theorem more_flt {l : List Lsa} {x : List It} (h : dbOK l = true) : moreR l x = x.filter (moreS l) := by
  rw [moreR, h]
  simp only [if_true]
  exact List.filter_congr fun y _ => more_eq h y
theorem lacks_flt {l : List Lsa} {x : List It} (h : dbOK l = true) : lacksR l x = (l.filter (lackS x)).map itm := lacks_map h
theorem flt_le {α : Type} (p : α → Bool) (l : List α) : (l.filter p).length ≤ l.length := List.length_filter_le _ _
theorem good_LsdbTells (nil : Bool) (l : List Lsa) (hl : l.length ≤ 9223372036854775807) (hz : nil = true → l = []) (pl : ∀ x ∈ l, x.ls.length ≤ 9223372036854775807 ∧ (x.nil = true → x.ls = [])) (nx : Bool) (x : List It) (hx : x.length ≤ 9223372036854775807) : Good Try.prog 5 [(.sl 3 nil (l.map lsaA), false), (.sl 2 nx (x.map itA), false)] [] [(.b true, false)] [] := by
  refine good_of_body2 65 Try.func5 rfl rfl rfl (by simp) ?_
  intro s m ha hr hv hG
  have f0 : s 0 = .v (.sl 3 nil (l.map lsaA)) := ha 0 _ rfl
  have f1 : s 1 = .v (.sl 2 nx (x.map itA)) := ha 1 _ rfl
  clear ha
  have hc : True := trivial
  have F := (And.intro f0 (And.intro f1 hG))
  refine AW.seq ?_
  refine AW.region (cfg := cfg) ?_
  refine stp (fun _ h => s0 h) ?_
  refine aops_nil ?_
  refine AW.seq ?_
  refine AW.seq ?_
  refine AW.region (cfg := cfg) ?_
  refine stp (fun _ h => s0 h) ?_
  refine stp (fun _ h => cs (w := good_LightDb nil l (by omega) (fun x hx => (pl x hx).1)) (x := h)) ?_
  iterate 2 refine stp (fun _ h => s0 h) ?_
  refine mrg wa (fun hc _ h => s0 h) ?_
  refine mrg wa (fun hc _ h => sd h) ?_
  refine mrg wa (fun hc _ h => s0 h) ?_
  refine stp (fun _ h => s0 h) ?_
  refine aops_nil ?_
  refine cnd (fun hb => ?ht1) (fun hb => ?hf1)
  case ht1 =>
    have hw15 := hb
    try simp only [bo1, bo2, bo3, bo4, bo5, bo6] at hb
    have hbt15 := hb
    refine AW.seq ?_
    refine AW.region (cfg := cfg) ?_
    refine stp (fun _ h => cs (w := good_awakeDb) (x := h)) ?_
    refine stp (fun _ h => s0 h) ?_
    refine aops_nil ?_
    refine AW.ret ?_
    refine ⟨.inr rfl, ?_⟩
    refine leaves_tmp1 4 rfl ?_ (by exact hG)
    simp (disch := first | omega | decide) only [go_sem, F, aIndex_map]
    all_goals first | done | rfl | (simp; done) | trace_state
  case hf1 =>
    have hw15 := hb
    try simp only [bo1, bo2, bo3, bo4, bo5, bo6] at hb
    have hbt15 := hb
    refine AW.skip ?_
    refine AW.seq ?_
    have hL : lightD l = true := by simpa using hbt15.1
    obtain ⟨hl2, pl2⟩ := light_of hL (fun x hx => (pl x hx).2)
    have hx2 : x.length ≤ 100 := by omega
    have wi := items_len (l := l)
    refine AW.region (cfg := cfg) ?_
    refine stp (fun _ h => s0 h) ?_
    refine stp (fun _ h => co1 (w := good_ItemsDb nil l (by omega) pl2) (x := h)) ?_
    iterate 2 refine stp (fun _ h => s0 h) ?_
    refine stp (fun _ h => cr (w := good_LacksDb nil l (by omega) pl2 nx x (by omega)) (x := h)) ?_
    iterate 2 refine stp (fun _ h => s0 h) ?_
    refine stp (fun _ h => cr (w := good_MoreDb nil l (by omega) pl2 nx x (by omega)) (x := h)) ?_
    refine stp (fun _ h => st h) ?_
    iterate 2 refine stp (fun _ h => s0 h) ?_
    refine aops_nil ?_
    refine AW.seq ?_
    refine AW.seq ?_
    refine AW.region (cfg := cfg) ?_
    refine stp (fun _ h => s0 h) ?_
    refine stp (fun _ h => cs (w := good_MayDb nil l (by omega) (fun x hx => by have := (pl2 x hx).1; omega)) (x := h)) ?_
    refine stp (fun _ h => s0 h) ?_
    refine aops_nil ?_
    refine cnd (fun hb => ?ht2) (fun hb => ?hf2)
    case ht2 =>
      have hw27 := hb
      try simp only [bo1, bo2, bo3, bo4, bo5, bo6] at hb
      have hbt27 := hb
      refine AW.seq ?_
      have h0 : dbOK l = false := by simpa using hbt27
      have e1 := itemsR_no h0
      have e2 := lacks_no (x := x) h0
      have e3 := moreR_dbno (x := x) h0
      have F := And.intro e1 F
      have F := And.intro e2 F
      have F := And.intro e3 F
      refine AW.region (cfg := cfg) ?_
      refine stp (fun _ h => s0 h) ?_
      refine stp (fun _ h => sn h) ?_
      iterate 2 refine stp (fun _ h => s0 h) ?_
      refine mrg wa (fun hc _ h => s0 h) ?_
      refine mrg wa (fun hc _ h => sd h) ?_
      refine mrg wa (fun hc _ h => s0 h) ?_
      iterate 2 refine stp (fun _ h => s0 h) ?_
      refine mrg wa (fun hc _ h => s0 h) ?_
      refine mrg wa (fun hc _ h => sd h) ?_
      refine mrg wa (fun hc _ h => s0 h) ?_
      iterate 2 refine stp (fun _ h => s0 h) ?_
      refine mrg wa (fun hc _ h => cs (w := good_awakeDb) (x := h)) ?_
      iterate 2 refine stp (fun _ h => s0 h) ?_
      refine aops_nil ?_
      refine AW.ret ?_
      refine ⟨.inr rfl, ?_⟩
      refine leaves_tmp1 4 rfl ?_ (by exact hG)
      simp (disch := first | omega | decide) only [go_sem, F, aIndex_map]
      all_goals rfl
    case hf2 =>
      have hw27 := hb
      try simp only [bo1, bo2, bo3, bo4, bo5, bo6] at hb
      have hbt27 := hb
      refine AW.skip ?_
      refine AW.seq ?_
      have h0 : dbOK l = true := by simpa using hbt27
      have e1 := itemsR_is h0
      have e2 := lacks_flt (x := x) h0
      have e3 := more_flt (x := x) h0
      have w2 := flt_le (lackS x) l
      have w3 := flt_le (moreS l) x
      have F := And.intro e1 F
      have F := And.intro e2 F
      have F := And.intro e3 F
      refine AW.region (cfg := cfg) ?_
      iterate 2 refine stp (fun _ h => s0 h) ?_
      refine stp (fun _ h => cr (w := good_refItemsDb nil l (by omega)) (x := h)) ?_
      refine stp (fun _ h => cs (w := good_sameI _ _ (l.map itm) (l.map itm) (by simp; omega) (by simp; omega)) (x := h)) ?_
      refine stp (fun _ h => s0 h) ?_
      iterate 3 refine mrg wa (fun hc _ h => s0 h) ?_
      refine mrg wa (fun hc _ h => cr (w := good_refLacksDb nil l (by omega) nx x (by omega)) (x := h)) ?_
      refine mrg wa (fun hc _ h => cs (w := good_sameI _ _ ((l.filter (lackS x)).map itm) ((l.filter (lackS x)).map itm) (by rw [List.length_map]; omega) (by rw [List.length_map]; omega)) (x := h)) ?_
      iterate 2 refine stp (fun _ h => s0 h) ?_
      iterate 3 refine mrg wa (fun hc _ h => s0 h) ?_
      refine mrg wa (fun hc _ h => cr (w := good_refMoreDb nil l (by omega) nx x (by omega)) (x := h)) ?_
      refine mrg wa (fun hc _ h => cs (w := good_sameI _ _ (x.filter (moreS l)) (x.filter (moreS l)) (by omega) (by omega)) (x := h)) ?_
      iterate 2 refine stp (fun _ h => s0 h) ?_
      refine mrg wa (fun hc _ h => cs (w := good_awakeDb) (x := h)) ?_
      iterate 2 refine stp (fun _ h => s0 h) ?_
      refine aops_nil ?_
      refine AW.ret ?_
      refine ⟨.inr rfl, ?_⟩
      refine leaves_tmp1 4 rfl ?_ (by exact hG)
      simp (disch := first | omega | decide) only [go_sem, F, aIndex_map]
      all_goals rfl
end Go.Vai.DB
