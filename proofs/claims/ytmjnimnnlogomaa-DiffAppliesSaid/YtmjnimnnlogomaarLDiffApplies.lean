import Derived.Test.YtmjnimnnlogomaarDf9
namespace Go.Vai.DB
open Go.Proofs Go.Vai Go.Vai.D Go.Vai.I Go.Vai.L Go.Vai.N Go.Vai.O
set_option linter.unusedSimpArgs false
set_option linter.unusedVariables false
set_option maxHeartbeats 4000000
set_option maxRecDepth 100000
theorem good_DiffApplies (na : Bool) (a : List Lsa) (ha : a.length ≤ 9223372036854775807) (hza : na = true → a = []) (pa : ∀ x ∈ a, x.ls.length ≤ 9223372036854775807 ∧ (x.nil = true → x.ls = [])) (d : Dl) (hd1 : d.nw.length ≤ 9223372036854775807) (hzd1 : d.n1 = true → d.nw = []) (pd1 : ∀ x ∈ d.nw, x.ls.length ≤ 9223372036854775807 ∧ (x.nil = true → x.ls = [])) (hd2 : d.gn.length ≤ 9223372036854775807) (hd3 : d.ol.length ≤ 9223372036854775807) (hzd3 : d.n3 = true → d.ol = []) (pd3 : ∀ x ∈ d.ol, x.ls.length ≤ 9223372036854775807 ∧ (x.nil = true → x.ls = [])) : Good Try.prog 4 [(.sl 3 na (a.map lsaA), false), (dlA d, false)] [] [(.b true, false)] [] := by
  refine good_of_body2 76 Try.func4 rfl rfl rfl (by simp) ?_
  intro s m ha hr hv hG
  have f0 : s 0 = .v (.sl 3 na (a.map lsaA)) := ha 0 _ rfl
  have f1 : s 1 = .v (.agg [.sl 3 d.n1 (d.nw.map lsaA), .sl 1 d.n2 (d.gn.map i64), .sl 3 d.n3 (d.ol.map lsaA)]) := ha 1 _ rfl
  clear ha
  have hc : True := trivial
  have F := (And.intro f0 (And.intro f1 hG))
  refine AW.seq ?_
  refine AW.region (cfg := cfg) ?_
  refine stp (fun _ h => sb h) ?_
  refine stp (fun _ h => s0 h) ?_
  refine aops_nil ?_
  refine AW.seq ?_
  refine AW.seq ?_
  refine AW.region (cfg := cfg) ?_
  refine stp (fun _ h => s0 h) ?_
  refine stp (fun _ h => cs (w := good_LightDb na a (by omega) (fun x hx => (pa x hx).1)) (x := h)) ?_
  iterate 2 refine stp (fun _ h => s0 h) ?_
  refine mrg wa (fun hc _ h => sx h) ?_
  refine mrg wa (fun hc _ h => sl h) ?_
  refine mrg wa (fun hc _ h => cs (w := good_LightDb d.n1 d.nw (by omega) (fun x hx => (pd1 x hx).1)) (x := h)) ?_
  refine mrg wa (fun hc _ h => s0 h) ?_
  iterate 2 refine stp (fun _ h => s0 h) ?_
  refine mrg wa (fun hc _ h => sx h) ?_
  refine mrg wa (fun hc _ h => sl h) ?_
  refine mrg wa (fun hc _ h => cs (w := good_LightDb d.n3 d.ol (by omega) (fun x hx => (pd3 x hx).1)) (x := h)) ?_
  refine mrg wa (fun hc _ h => s0 h) ?_
  iterate 2 refine stp (fun _ h => s0 h) ?_
  refine mrg wa (fun hc _ h => sx h) ?_
  refine mrg wa (fun hc _ h => sl h) ?_
  refine mrg wa (fun hc _ h => sd h) ?_
  refine mrg wa (fun hc _ h => s0 h) ?_
  refine stp (fun _ h => s0 h) ?_
  refine aops_nil ?_
  refine cnd (fun hb => ?ht1) (fun hb => ?hf1)
  case ht1 =>
    have hw27 := hb
    try simp only [bo1, bo2, bo3, bo4, bo5, bo6] at hb
    have hbt27 := hb
    refine AW.seq ?_
    refine AW.region (cfg := cfg) ?_
    refine stp (fun _ h => cs (w := good_awakeDf) (x := h)) ?_
    refine stp (fun _ h => s0 h) ?_
    refine aops_nil ?_
    refine AW.ret ?_
    refine ⟨.inr rfl, ?_⟩
    refine leaves_tmp1 4 rfl ?_ (by exact hG)
    simp (disch := first | omega | decide) only [go_sem, F, aIndex_map]
    all_goals first | done | rfl | (simp; done) | trace_state
  case hf1 =>
    have hw27 := hb
    try simp only [bo1, bo2, bo3, bo4, bo5, bo6] at hb
    have hbt27 := hb
    refine AW.skip ?_
    refine AW.seq ?_
    obtain ⟨ha2, pa2⟩ := light_of (show lightD a = true by simpa using hbt27.1.1.1) (fun x hx => (pa x hx).2)
    obtain ⟨hn2, pn2⟩ := light_of (show lightD d.nw = true by simpa using hbt27.1.1.2) (fun x hx => (pd1 x hx).2)
    obtain ⟨ho2, po2⟩ := light_of (show lightD d.ol = true by simpa using hbt27.1.2) (fun x hx => (pd3 x hx).2)
    have hg2 : d.gn.length ≤ 100 := by omega
    refine AW.region (cfg := cfg) ?_
    refine stp (fun _ h => s0 h) ?_
    refine stp (fun _ h => sl h) ?_
    refine stp (fun _ h => cr (w := good_ApplyDf na a (by omega) pa2 d (by omega) (by omega) (by omega) pn2 po2) (x := h)) ?_
    iterate 5 refine stp (fun _ h => s0 h) ?_
    refine aops_nil ?_
    refine AW.seq ?_
    refine AW.seq ?_
    refine AW.region (cfg := cfg) ?_
    refine stp (fun _ h => s0 h) ?_
    refine stp (fun _ h => cs (w := good_MayDb na a (by omega) (fun x hx => by have := (pa2 x hx).1; omega)) (x := h)) ?_
    iterate 2 refine stp (fun _ h => s0 h) ?_
    refine mrg wa (fun hc _ h => sx h) ?_
    refine mrg wa (fun hc _ h => sl h) ?_
    refine mrg wa (fun hc _ h => cs (w := good_AllDf d.n1 d.nw (by omega) pn2) (x := h)) ?_
    refine mrg wa (fun hc _ h => s0 h) ?_
    iterate 2 refine stp (fun _ h => s0 h) ?_
    refine mrg wa (fun hc _ h => sx h) ?_
    refine mrg wa (fun hc _ h => sl h) ?_
    refine mrg wa (fun hc _ h => cs (w := good_AllDf d.n3 d.ol (by omega) po2) (x := h)) ?_
    refine mrg wa (fun hc _ h => s0 h) ?_
    refine stp (fun _ h => s0 h) ?_
    refine aops_nil ?_
    refine cnd (fun hb => ?ht2) (fun hb => ?hf2)
    case ht2 =>
      have hw49 := hb
      try simp only [bo1, bo2, bo3, bo4, bo5, bo6] at hb
      have hbt49 := hb
      refine AW.seq ?_
      have e1 := applyR_bad hbt49
      have F := And.intro e1 F
      refine AW.region (cfg := cfg) ?_
      iterate 3 refine stp (fun _ h => s0 h) ?_
      refine mrg wa (fun hc _ h => s0 h) ?_
      refine mrg wa (fun hc _ h => sd h) ?_
      refine mrg wa (fun hc _ h => s0 h) ?_
      iterate 2 refine stp (fun _ h => s0 h) ?_
      refine mrg wa (fun hc _ h => cs (w := good_awakeDf) (x := h)) ?_
      iterate 2 refine stp (fun _ h => s0 h) ?_
      refine aops_nil ?_
      refine AW.ret ?_
      refine ⟨.inr rfl, ?_⟩
      refine leaves_tmp1 4 rfl ?_ (by exact hG)
      simp (disch := first | omega | decide) only [go_sem, F, aIndex_map]
      all_goals rfl
    case hf2 =>
      have hw49 := hb
      try simp only [bo1, bo2, bo3, bo4, bo5, bo6] at hb
      have hbt49 := hb
      refine AW.skip ?_
      refine AW.seq ?_
      have h0a : dbOK a = true := by simpa using hbt49.1.1
      have h1n : d.nw.all lsaOK = true := by simpa using hbt49.1.2
      have h1o : d.ol.all lsaOK = true := by simpa using hbt49.2
      have hall : ∀ y ∈ mo d, lsaOK y = true := fun y hy => by (rcases List.mem_append.1 hy with q | q; exact List.all_eq_true.1 h1o y q; exact List.all_eq_true.1 h1n y q)
      have e1 := applyR_yes h0a hall
      have hX : dbOK (xS (apA a d) (mo d) (mo d).length) = true := xS_ok (db_filter (p := kp d) h0a) hall (mo d).length
      have wX := db_len hX
      have pX : ∀ y ∈ xS (apA a d) (mo d) (mo d).length, fit y := fun y hy => by (rcases xS_mem _ y hy with q | q; exact pa2 y (List.mem_filter.1 q).1; rcases List.mem_append.1 q with q | q; exact po2 y q; exact pn2 y q)
      have ea := all_refl (xS (apA a d) (mo d) (mo d).length)
      have F := And.intro e1 F
      have F := And.intro ea F
      have F := And.intro hX F
      refine AW.region (cfg := cfg) ?_
      iterate 3 refine stp (fun _ h => s0 h) ?_
      iterate 2 refine mrg wa (fun hc _ h => s0 h) ?_
      refine mrg wa (fun hc _ h => sl h) ?_
      refine mrg wa (fun hc _ h => cr (w := good_refApplyDf na a (by omega) pa2 d (by omega) (by omega) (by omega) pn2 po2 h0a (fun y hy => List.all_eq_true.1 h1o y hy) (fun y hy => List.all_eq_true.1 h1n y hy)) (x := h)) ?_
      refine mrg wa (fun hc _ h => cs (w := good_refAllDb _ false (xS (apA a d) (mo d) (mo d).length) (xS (apA a d) (mo d) (mo d).length) (by omega) (by omega) pX pX) (x := h)) ?_
      iterate 2 refine stp (fun _ h => s0 h) ?_
      refine mrg wa (fun hc _ h => s0 h) ?_
      refine mrg wa (fun hc _ h => cs (w := good_MayDb _ (xS (apA a d) (mo d) (mo d).length) (by omega) (fun x hx => by have := (pX x hx).1; omega)) (x := h)) ?_
      iterate 2 refine stp (fun _ h => s0 h) ?_
      refine mrg wa (fun hc _ h => cs (w := good_awakeDf) (x := h)) ?_
      iterate 2 refine stp (fun _ h => s0 h) ?_
      refine aops_nil ?_
      refine AW.ret ?_
      refine ⟨.inr rfl, ?_⟩
      refine leaves_tmp1 4 rfl ?_ (by exact hG)
      simp (disch := first | omega | decide) only [go_sem, F, aIndex_map]
      all_goals rfl
end Go.Vai.DB
