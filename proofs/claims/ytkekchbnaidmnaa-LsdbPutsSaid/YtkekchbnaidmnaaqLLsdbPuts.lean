import Derived.Test.YtkekchbnaidmnaaqDb8
import Derived.Test.YtkekchbnaidmnaaVaiE
namespace Go.Vai.DB
open Go.Proofs Go.Vai Go.Vai.D Go.Vai.I Go.Vai.L Go.Vai.N Go.Vai.O
set_option linter.unusedSimpArgs false
set_option linter.unusedVariables false
set_option maxHeartbeats 4000000
set_option maxRecDepth 100000
theorem def_fit : (default : Lsa).ls.length ≤ 9223372036854775807 := by decide
theorem gd_fit {l : List Lsa} {t : Int} (pl : ∀ x ∈ l, fit x) : fit ((gK Lsa.o l t).getD default) := by
  cases h : gK Lsa.o l t with
  | none => exact ⟨by decide, fun _ => rfl⟩
  | some x => exact pl x (gK_mem h).1
theorem ins_fit {l : List Lsa} {x : Lsa} (pl : ∀ y ∈ l, fit y) (px : fit x) : ∀ y ∈ insP Lsa.o l x, fit y := fun y hy => by
  rcases insP_mem hy with rfl | h
  · exact px
  · exact pl y h
theorem ins_len {l : List Lsa} {x : Lsa} (h : dbOK l = true) (h1 : lsaOK x = true) : (insP Lsa.o l x).length ≤ 64 := db_len (ins_db h h1)
theorem fit_of {x : Lsa} (h : (x.ls.length : Int) ≤ 40) (hz : x.nil = true → x.ls = []) : fit x := ⟨by omega, hz⟩
theorem all_refl (l : List Lsa) : eqAll lsaEq l l = true := eqAll_refl lsaEq_refl l
theorem good_LsdbPuts (nil : Bool) (l : List Lsa) (hl : l.length ≤ 9223372036854775807) (hz : nil = true → l = []) (pl : ∀ x ∈ l, x.ls.length ≤ 9223372036854775807 ∧ (x.nil = true → x.ls = [])) (x : Lsa) (hx : x.ls.length ≤ 9223372036854775807) (hxz : x.nil = true → x.ls = []) (t : Int) : Good Try.prog 4 [(.sl 3 nil (l.map lsaA), false), (lsaA x, false), (i64 t, false)] [] [(.b true, false)] [] := by
  refine good_of_body2 123 Try.func4 rfl rfl rfl (by simp) ?_
  intro s m ha hr hv hG
  have f0 : s 0 = .v (.sl 3 nil (l.map lsaA)) := ha 0 _ rfl
  have f1 : s 1 = .v (.agg [i64 x.o, i64 x.s, .sl 2 x.nil (x.ls.map linkA)]) := ha 1 _ rfl
  have f2 : s 2 = .v (i64 t) := ha 2 _ rfl
  clear ha
  have hc : True := trivial
  have F := (And.intro f0 (And.intro f1 (And.intro f2 hG)))
  refine AW.seq ?_
  refine AW.region (cfg := cfg) ?_
  refine stp (fun _ h => sb h) ?_
  refine stp (fun _ h => s0 h) ?_
  refine aops_nil ?_
  refine AW.seq ?_
  refine AW.seq ?_
  refine AW.region (cfg := cfg) ?_
  refine stp (fun _ h => s0 h) ?_
  refine stp (fun _ h => cs (w := good_LightDb nil l (by omega) (fun x hx => (pl x hx).1)) (x := h)) ?_
  iterate 2 refine stp (fun _ h => s0 h) ?_
  refine mrg wa (fun hc _ h => sl h) ?_
  refine mrg wa (fun hc _ h => cs (w := L.good_Light x (by omega)) (x := h)) ?_
  refine mrg wa (fun hc _ h => s0 h) ?_
  refine stp (fun _ h => s0 h) ?_
  refine aops_nil ?_
  refine cnd (fun hb => ?ht1) (fun hb => ?hf1)
  case ht1 =>
    have hw20 := hb
    try simp only [bo1, bo2, bo3, bo4, bo5, bo6] at hb
    have hbt20 := hb
    refine AW.seq ?_
    refine AW.region (cfg := cfg) ?_
    refine stp (fun _ h => cs (w := good_awakeDb) (x := h)) ?_
    refine stp (fun _ h => s0 h) ?_
    refine aops_nil ?_
    refine AW.ret ?_
    refine ⟨.inr rfl, ?_⟩
    refine leaves_tmp1 6 rfl ?_ (by exact hG)
    simp (disch := first | omega | decide) only [go_sem, F, aIndex_map]
    all_goals first | done | rfl | (simp [lsaEq_refl]; done) | trace_state
  case hf1 =>
    have hw20 := hb
    try simp only [bo1, bo2, bo3, bo4, bo5, bo6] at hb
    have hbt20 := hb
    refine AW.skip ?_
    refine AW.seq ?_
    have hL : lightD l = true := by simpa using hbt20.1
    obtain ⟨hl2, pl2⟩ := light_of hL (fun x hx => (pl x hx).2)
    have px2 : fit x := fit_of (by simpa using hbt20.2) hxz
    refine AW.region (cfg := cfg) ?_
    refine stp (fun _ h => s0 h) ?_
    refine stp (fun _ h => sl h) ?_
    refine stp (fun _ h => cr (w := good_PutDb nil l (by omega) pl2 hz x px2) (x := h)) ?_
    iterate 5 refine stp (fun _ h => s0 h) ?_
    refine aops_nil ?_
    refine AW.seq ?_
    refine AW.region (cfg := cfg) ?_
    iterate 2 refine stp (fun _ h => s0 h) ?_
    refine stp (fun _ h => cr (w := good_GetDb nil l (by omega) pl2 t) (x := h)) ?_
    iterate 3 refine stp (fun _ h => s0 h) ?_
    refine stp (fun _ h => sd h) ?_
    refine stp0 (fun _ h => ss h) ?_
    refine stp (fun _ h => s0 h) ?_
    refine aops_nil ?_
    refine AW.seq ?_
    refine AW.region (cfg := cfg) ?_
    refine stp (fun _ h => s0 h) ?_
    refine stp (fun _ h => cs (w := good_MayDb nil l (by omega) (fun x hx => by have := (pl2 x hx).1; omega)) (x := h)) ?_
    refine stp (fun _ h => s0 h) ?_
    refine aops_nil ?_
    refine AW.seq ?_
    refine AW.seq ?_
    refine AW.region (cfg := cfg) ?_
    refine stp (fun _ h => s0 h) ?_
    refine stp (fun _ h => cs (w := good_CheckDb nil l (by omega) (fun x hx => by have := (pl2 x hx).1; omega)) (x := h)) ?_
    iterate 3 refine stp (fun _ h => s0 h) ?_
    refine aops_nil ?_
    refine cnd (fun hb => ?ht2) (fun hb => ?hf2)
    case ht2 => simp [dbE_dec0] at hb
    case hf2 =>
    have hbt40 := hb
    refine AW.skip ?_
    refine AW.seq ?_
    refine AW.seq ?_
    refine AW.region (cfg := cfg) ?_
    iterate 2 refine stp (fun _ h => s0 h) ?_
    refine aops_nil ?_
    refine cnd (fun hb => ?ht3) (fun hb => ?hf3)
    case ht3 =>
      have hw42 := hb
      try simp only [bo1, bo2, bo3, bo4, bo5, bo6] at hb
      have hbt42 := hb
      refine AW.seq ?_
      have h0 : dbOK l = false := by simpa using hbt42
      have e1 := getR_no (t := t) h0
      have e2 := putR_dbno (x := x) h0
      have F := And.intro e1 F
      have F := And.intro e2 F
      refine AW.region (cfg := cfg) ?_
      iterate 3 refine stp (fun _ h => s0 h) ?_
      refine mrg wa (fun hc _ h => s0 h) ?_
      refine mrg wa (fun hc _ h => sd h) ?_
      refine mrg wa (fun hc _ h => s0 h) ?_
      iterate 2 refine stp (fun _ h => s0 h) ?_
      iterate 2 refine mrg wa (fun hc _ h => s0 h) ?_
      iterate 2 refine stp (fun _ h => s0 h) ?_
      refine mrg wa (fun hc _ h => sl h) ?_
      refine mrg wa (fun hc _ h => su h) ?_
      refine mrg wa (fun hc _ h => cs (w := L.good_refSame default def_fit default def_fit) (x := h)) ?_
      iterate 2 refine stp (fun _ h => s0 h) ?_
      refine mrg wa (fun hc _ h => cs (w := good_awakeDb) (x := h)) ?_
      iterate 2 refine stp (fun _ h => s0 h) ?_
      refine aops_nil ?_
      refine AW.ret ?_
      refine ⟨.inr rfl, ?_⟩
      refine leaves_tmp1 6 rfl ?_ (by exact hG)
      simp (disch := first | omega | decide) only [go_sem, F, aIndex_map]
      all_goals rfl
    case hf3 =>
      have hw42 := hb
      try simp only [bo1, bo2, bo3, bo4, bo5, bo6] at hb
      have hbt42 := hb
      refine AW.skip ?_
      refine AW.seq ?_
      have h0 : dbOK l = true := by simpa using hbt42
      have hle := db_len h0
      have e1 := getR_is (t := t) h0
      have e2 := get_pos (t := t) h0
      have pg := gd_fit (t := t) pl2
      have er := lsaEq_refl ((gK Lsa.o l t).getD default)
      have F := And.intro e1 F
      have F := And.intro e2 F
      have F := And.intro er F
      refine AW.region (cfg := cfg) ?_
      iterate 2 refine stp (fun _ h => s0 h) ?_
      refine stp (fun _ h => cr (w := good_Get11 nil l (by omega) t) (x := h)) ?_
      refine stp (fun _ h => sd h) ?_
      refine stp0 (fun _ h => ss h) ?_
      refine aops_nil ?_
      refine AW.seq ?_
      refine AW.seq ?_
      refine AW.region (cfg := cfg) ?_
      iterate 2 refine stp (fun _ h => sl h) ?_
      refine stp (fun _ h => cs (w := L.good_refSame ((gK Lsa.o l t).getD default) (by have := pg.1; omega) ((gK Lsa.o l t).getD default) (by have := pg.1; omega)) (x := h)) ?_
      iterate 2 refine stp (fun _ h => s0 h) ?_
      refine mrg wa (fun hc _ h => s0 h) ?_
      refine mrg wa (fun hc _ h => sx h) ?_
      refine mrg wa (fun hc _ h => sl h) ?_
      iterate 2 refine mrg wa (fun hc _ h => s0 h) ?_
      refine stp (fun _ h => s0 h) ?_
      refine aops_nil ?_
      refine cnd (fun hb => ?ht4) (fun hb => ?hf4)
      case ht4 => simp at hb
      case hf4 =>
      have hbt75 := hb
      refine AW.skip ?_
      refine AW.seq ?_
      refine AW.seq ?_
      refine AW.region (cfg := cfg) ?_
      refine stp (fun _ h => sl h) ?_
      refine stp (fun _ h => cs (w := good_refMayX x (by have := px2.1; omega)) (x := h)) ?_
      refine stp (fun _ h => s0 h) ?_
      refine aops_nil ?_
      refine cnd (fun hb => ?ht5) (fun hb => ?hf5)
      case ht5 =>
        have hw78 := hb
        try simp only [bo1, bo2, bo3, bo4, bo5, bo6] at hb
        have hbt78 := hb
        refine AW.seq ?_
        have h1 : lsaOK x = false := by simpa using hbt78
        have e3 := putR_xno (l := l) h1
        have F := And.intro e3 F
        refine AW.region (cfg := cfg) ?_
        iterate 3 refine stp (fun _ h => s0 h) ?_
        refine mrg wa (fun hc _ h => s0 h) ?_
        refine mrg wa (fun hc _ h => sd h) ?_
        refine mrg wa (fun hc _ h => s0 h) ?_
        iterate 2 refine stp (fun _ h => s0 h) ?_
        refine mrg wa (fun hc _ h => cs (w := good_awakeDb) (x := h)) ?_
        iterate 2 refine stp (fun _ h => s0 h) ?_
        refine aops_nil ?_
        refine AW.ret ?_
        refine ⟨.inr rfl, ?_⟩
        refine leaves_tmp1 6 rfl ?_ (by exact hG)
        simp (disch := first | omega | decide) only [go_sem, F, aIndex_map]
        all_goals rfl
      case hf5 =>
        have hw78 := hb
        try simp only [bo1, bo2, bo3, bo4, bo5, bo6] at hb
        have hbt78 := hb
        refine AW.skip ?_
        refine AW.seq ?_
        refine AW.seq ?_
        have h1 : lsaOK x = true := by simpa using hbt78
        refine AW.draw (cfg := cfg) (by kernel_rfl) (by kernel_rfl) (by kernel_rfl) ?_
        refine dstp (fun _ h => s0 h) ?_
        refine dstp (fun _ h => sx h) ?_
        refine dstp (fun _ h => sl h) ?_
        refine dstp (fun _ h => cs (w := good_Seq11 nil l (by omega) x.o) (x := h)) ?_
        refine dstp (fun _ h => sx h) ?_
        refine dstp (fun _ h => sl h) ?_
        refine dstp (fun _ h => s0 h) ?_
        refine adraw_nil (by kernel_rfl) ?_
        refine cnd (fun hb => ?ht6) (fun hb => ?hf6)
        case ht6 =>
          have hw95 := hb
          try simp only [bo1, bo2, bo3, bo4, bo5, bo6] at hb
          have hbt95 := hb
          refine AW.seq ?_
          have e3 := putR_ge h0 h1 hbt95
          have F := And.intro e3 F
          refine AW.region (cfg := cfg) ?_
          iterate 3 refine stp (fun _ h => s0 h) ?_
          refine mrg wa (fun hc _ h => s0 h) ?_
          refine mrg wa (fun hc _ h => sd h) ?_
          refine mrg wa (fun hc _ h => s0 h) ?_
          iterate 2 refine stp (fun _ h => s0 h) ?_
          refine mrg wa (fun hc _ h => cs (w := good_awakeDb) (x := h)) ?_
          iterate 2 refine stp (fun _ h => s0 h) ?_
          refine aops_nil ?_
          refine AW.ret ?_
          refine ⟨.inr rfl, ?_⟩
          refine leaves_tmp1 6 rfl ?_ (by exact hG)
          simp (disch := first | omega | decide) only [go_sem, F, aIndex_map]
          all_goals rfl
        case hf6 =>
          have hw95 := hb
          try simp only [bo1, bo2, bo3, bo4, bo5, bo6] at hb
          have hbt95 := hb
          refine AW.skip ?_
          refine AW.seq ?_
          have e3 := putR_lt h0 h1 hbt95
          have e4 := refPut_eq (db_srt h0) x
          have wl := ins_len h0 h1
          have pi := ins_fit pl2 px2
          have e5 := ins_db h0 h1
          have e6 : dbE (insP Lsa.o l x) = 0 := by (rw [dbE, e5]; rfl)
          have e7 := all_refl (insP Lsa.o l x)
          have F := And.intro e3 F
          have F := And.intro e4 F
          have F := And.intro e6 F
          have F := And.intro e7 F
          refine AW.region (cfg := cfg) ?_
          iterate 3 refine stp (fun _ h => s0 h) ?_
          iterate 2 refine mrg wa (fun hc _ h => s0 h) ?_
          refine mrg wa (fun hc _ h => sl h) ?_
          refine mrg wa (fun hc _ h => cr (w := good_Put11 nil l (by omega) x) (x := h)) ?_
          refine mrg wa (fun hc _ h => cs (w := good_refAllDb false false (insP Lsa.o l x) (insP Lsa.o l x) (by omega) (by omega) pi pi) (x := h)) ?_
          iterate 2 refine stp (fun _ h => s0 h) ?_
          refine mrg wa (fun hc _ h => s0 h) ?_
          refine mrg wa (fun hc _ h => cs (w := good_CheckDb false (insP Lsa.o l x) (by omega) (fun x hx => by have := (pi x hx).1; omega)) (x := h)) ?_
          refine mrg wa (fun hc _ h => s0 h) ?_
          iterate 2 refine stp (fun _ h => s0 h) ?_
          refine mrg wa (fun hc _ h => cs (w := good_awakeDb) (x := h)) ?_
          iterate 2 refine stp (fun _ h => s0 h) ?_
          refine aops_nil ?_
          refine AW.ret ?_
          refine ⟨.inr rfl, ?_⟩
          refine leaves_tmp1 6 rfl ?_ (by exact hG)
          simp (disch := first | omega | decide) only [go_sem, F, aIndex_map]
          all_goals rfl
end Go.Vai.DB
