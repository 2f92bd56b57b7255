import Derived.Test.YtbnpnljlfnaheaapTabA
namespace Go.Vai.T
open Go.Proofs Go.Vai Go.Vai.N
set_option linter.unusedSimpArgs false
set_option linter.unusedVariables false
set_option maxHeartbeats 4000000
set_option maxRecDepth 100000
theorem good_TableSets (nil : Bool) (l : List Nr) (hl : l.length ≤ 9223372036854775807) (hz : nil = true → l = []) (x : Nr) (t : Int) : Good Try.prog 4 [(.sl 8 nil (l.map nrA), false), (nrA x, false), (i64 t, false)] [] [(.b true, false)] [] := by
  refine good_of_body2 127 Try.func4 rfl rfl rfl (by simp) ?_
  intro s m ha hr hv hG
  have f0 : s 0 = .v (.sl 8 nil (l.map nrA)) := ha 0 _ rfl
  have f1 : s 1 = .v (.agg [i64 x.of, i64 x.co, i64 x.bo, i64 x.ep, .b x.he, .b x.fu, i64 x.ag, .b x.go]) := ha 1 _ rfl
  have f2 : s 2 = .v (i64 t) := ha 2 _ rfl
  clear ha
  have hc : True := trivial
  have F := (And.intro f0 (And.intro f1 (And.intro f2 hG)))
  refine AW.seq ?_
  refine AW.region (cfg := cfg) ?_
  refine stp (fun _ h => sb h) ?_
  refine stp (fun _ h => s0 h) ?_
  refine aops_nil ?_
  refine AW.seq ?_
  refine AW.seq ?_
  refine AW.region (cfg := cfg) ?_
  refine stp (fun _ h => s0 h) ?_
  refine stp (fun _ h => sd h) ?_
  refine stp (fun _ h => s0 h) ?_
  refine aops_nil ?_
  refine cnd (fun hb => ?ht1) (fun hb => ?hf1)
  case ht1 =>
    have hw18 := hb
    try simp only [bo1, bo2, bo3, bo4, bo5, bo6] at hb
    have hbt18 := hb
    refine AW.seq ?_
    refine AW.region (cfg := cfg) ?_
    refine stp (fun _ h => cs (w := good_awakeT) (x := h)) ?_
    refine stp (fun _ h => s0 h) ?_
    refine aops_nil ?_
    refine AW.ret ?_
    refine ⟨.inr rfl, ?_⟩
    refine leaves_tmp1 6 rfl ?_ (by exact hG)
    simp (disch := first | omega | decide) only [go_sem, F, aIndex_map]
    all_goals first | done | rfl | (have q0 : tabOK l = false := (by simpa using hbt40); have q1 := findR_no (t := t) q0; have q2 := setR_no (x := x) (.inl (show tabE l ≠ 0 by rw [tabE, q0]; decide)); simp [q1, q2]; done) | (have q0 : tabOK l = false := (by simpa using hbt40); have q1 := findR_no (t := t) q0; have q2 := setR_no (x := x) (.inl (show tabE l ≠ 0 by rw [tabE, q0]; decide)); simp [q1, q2]; decide) | (have q2 := setR_no (l := l) (.inr (mb_no (x := x) (by simpa using hw75))); simp [q2]; done) | (have q2 := setR_no (l := l) (.inr (mb_no (x := x) hw75)); simp [q2]; done) | (have q2 := set_full h0 h1 hbt91; simp [q2]; done) | (simp; done) | trace_state
  case hf1 =>
    have hw18 := hb
    try simp only [bo1, bo2, bo3, bo4, bo5, bo6] at hb
    have hbt18 := hb
    refine AW.skip ?_
    refine AW.seq ?_
    have hl2 : l.length ≤ 40 := by omega
    refine AW.region (cfg := cfg) ?_
    iterate 2 refine stp (fun _ h => s0 h) ?_
    refine stp (fun _ h => cr (w := good_FindT nil l (by omega) t) (x := h)) ?_
    iterate 3 refine stp (fun _ h => s0 h) ?_
    refine stp (fun _ h => sd h) ?_
    refine stp0 (fun _ h => ss h) ?_
    refine stp (fun _ h => s0 h) ?_
    refine aops_nil ?_
    refine AW.seq ?_
    refine AW.region (cfg := cfg) ?_
    refine stp (fun _ h => s0 h) ?_
    refine stp (fun _ h => sl h) ?_
    refine stp (fun _ h => cr (w := good_SetT nil l (by omega) hz x) (x := h)) ?_
    iterate 5 refine stp (fun _ h => s0 h) ?_
    refine aops_nil ?_
    refine AW.seq ?_
    refine AW.region (cfg := cfg) ?_
    refine stp (fun _ h => s0 h) ?_
    refine stp (fun _ h => cs (w := good_mayT nil l (by omega)) (x := h)) ?_
    refine stp (fun _ h => s0 h) ?_
    refine aops_nil ?_
    refine AW.seq ?_
    refine AW.seq ?_
    refine AW.region (cfg := cfg) ?_
    refine stp (fun _ h => s0 h) ?_
    refine stp (fun _ h => cs (w := good_CheckT nil l (by omega)) (x := h)) ?_
    iterate 3 refine stp (fun _ h => s0 h) ?_
    refine aops_nil ?_
    refine cnd (fun hb => ?ht2) (fun hb => ?hf2)
    case ht2 => simp [tab_dec] at hb
    case hf2 =>
    have hbt38 := hb
    refine AW.skip ?_
    refine AW.seq ?_
    refine AW.seq ?_
    refine AW.region (cfg := cfg) ?_
    iterate 2 refine stp (fun _ h => s0 h) ?_
    refine aops_nil ?_
    refine cnd (fun hb => ?ht3) (fun hb => ?hf3)
    case ht3 =>
      have hw40 := hb
      try simp only [bo1, bo2, bo3, bo4, bo5, bo6] at hb
      have hbt40 := hb
      refine AW.seq ?_
      refine AW.region (cfg := cfg) ?_
      iterate 3 refine stp (fun _ h => s0 h) ?_
      refine mrg wa (fun hc _ h => sl h) ?_
      refine mrg wa (fun hc _ h => su h) ?_
      refine mrg wa (fun hc _ h => s0 h) ?_
      iterate 2 refine stp (fun _ h => s0 h) ?_
      iterate 2 refine mrg wa (fun hc _ h => s0 h) ?_
      iterate 2 refine stp (fun _ h => s0 h) ?_
      refine mrg wa (fun hc _ h => s0 h) ?_
      refine mrg wa (fun hc _ h => sd h) ?_
      refine mrg wa (fun hc _ h => s0 h) ?_
      iterate 2 refine stp (fun _ h => s0 h) ?_
      refine mrg wa (fun hc _ h => cs (w := good_awakeT) (x := h)) ?_
      iterate 2 refine stp (fun _ h => s0 h) ?_
      refine aops_nil ?_
      refine AW.ret ?_
      refine ⟨.inr rfl, ?_⟩
      refine leaves_tmp1 6 rfl ?_ (by exact hG)
      simp (disch := first | omega | decide) only [go_sem, F, aIndex_map]
      all_goals (have q0 : tabOK l = false := (by simpa using hbt40); have q1 := findR_no (t := t) q0; have q2 := setR_no (x := x) (.inl (show tabE l ≠ 0 by rw [tabE, q0]; decide)); simp [q1, q2]; decide)
    case hf3 =>
      have hw40 := hb
      try simp only [bo1, bo2, bo3, bo4, bo5, bo6] at hb
      have hbt40 := hb
      refine AW.skip ?_
      refine AW.seq ?_
      have h0 : tabOK l = true := by simpa using hbt40
      have e1 : findR l t = ((gK Nr.of l t).getD default, isK Nr.of l t) := by rw [findR, h0]; rfl
      have e2 := find_pos (t := t) h0
      have F := And.intro e1 F
      have F := And.intro e2 F
      refine AW.region (cfg := cfg) ?_
      iterate 2 refine stp (fun _ h => s0 h) ?_
      refine stp (fun _ h => cr (w := good_rfindN nil l (by omega) t) (x := h)) ?_
      refine stp (fun _ h => sd h) ?_
      refine stp0 (fun _ h => ss h) ?_
      refine aops_nil ?_
      refine AW.seq ?_
      refine AW.seq ?_
      refine AW.region (cfg := cfg) ?_
      iterate 2 refine stp (fun _ h => sl h) ?_
      iterate 2 refine stp (fun _ h => s0 h) ?_
      refine mrg wa (fun hc _ h => s0 h) ?_
      refine mrg wa (fun hc _ h => sx h) ?_
      refine mrg wa (fun hc _ h => sl h) ?_
      iterate 2 refine mrg wa (fun hc _ h => s0 h) ?_
      refine stp (fun _ h => s0 h) ?_
      refine aops_nil ?_
      refine cnd (fun hb => ?ht4) (fun hb => ?hf4)
      case ht4 => simp [cells_eqN] at hb
      case hf4 =>
      have hbt72 := hb
      refine AW.skip ?_
      refine AW.seq ?_
      refine AW.seq ?_
      refine AW.region (cfg := cfg) ?_
      refine stp (fun _ h => sl h) ?_
      refine stp (fun _ h => cs (w := good_mayN x) (x := h)) ?_
      refine stp (fun _ h => s0 h) ?_
      refine aops_nil ?_
      refine cnd (fun hb => ?ht5) (fun hb => ?hf5)
      case ht5 =>
        have hw75 := hb
        try simp only [bo1, bo2, bo3, bo4, bo5, bo6] at hb
        have hbt75 := hb
        refine AW.seq ?_
        refine AW.region (cfg := cfg) ?_
        iterate 3 refine stp (fun _ h => s0 h) ?_
        refine mrg wa (fun hc _ h => s0 h) ?_
        refine mrg wa (fun hc _ h => sd h) ?_
        refine mrg wa (fun hc _ h => s0 h) ?_
        iterate 2 refine stp (fun _ h => s0 h) ?_
        refine mrg wa (fun hc _ h => cs (w := good_awakeT) (x := h)) ?_
        iterate 2 refine stp (fun _ h => s0 h) ?_
        refine aops_nil ?_
        refine AW.ret ?_
        refine ⟨.inr rfl, ?_⟩
        refine leaves_tmp1 6 rfl ?_ (by exact hG)
        simp (disch := first | omega | decide) only [go_sem, F, aIndex_map]
        all_goals (have q2 := setR_no (l := l) (.inr (mb_no (x := x) (by simpa using hw75))); simp [q2]; done)
      case hf5 =>
        have hw75 := hb
        try simp only [bo1, bo2, bo3, bo4, bo5, bo6] at hb
        have hbt75 := hb
        refine AW.skip ?_
        refine AW.seq ?_
        have h1 : bad x = false := by simpa using hbt75
        refine AW.region (cfg := cfg) ?_
        refine stp (fun _ h => s0 h) ?_
        refine stp (fun _ h => sl h) ?_
        refine stp (fun _ h => cr (w := good_rputN nil l (by omega) x) (x := h)) ?_
        refine stp (fun _ h => s0 h) ?_
        refine aops_nil ?_
        refine AW.seq ?_
        refine AW.seq ?_
        refine AW.region (cfg := cfg) ?_
        refine stp (fun _ h => s0 h) ?_
        refine stp (fun _ h => sd h) ?_
        refine stp (fun _ h => s0 h) ?_
        refine aops_nil ?_
        refine cnd (fun hb => ?ht6) (fun hb => ?hf6)
        case ht6 =>
          have hw91 := hb
          try simp only [bo1, bo2, bo3, bo4, bo5, bo6] at hb
          have hbt91 := hb
          refine AW.seq ?_
          refine AW.region (cfg := cfg) ?_
          iterate 3 refine stp (fun _ h => s0 h) ?_
          refine mrg wa (fun hc _ h => s0 h) ?_
          refine mrg wa (fun hc _ h => sd h) ?_
          refine mrg wa (fun hc _ h => s0 h) ?_
          iterate 2 refine stp (fun _ h => s0 h) ?_
          refine mrg wa (fun hc _ h => cs (w := good_awakeT) (x := h)) ?_
          iterate 2 refine stp (fun _ h => s0 h) ?_
          refine aops_nil ?_
          refine AW.ret ?_
          refine ⟨.inr rfl, ?_⟩
          refine leaves_tmp1 6 rfl ?_ (by exact hG)
          simp (disch := first | omega | decide) only [go_sem, F, aIndex_map]
          all_goals (have q2 := set_full h0 h1 hbt91; simp [q2]; done)
        case hf6 =>
          have hw91 := hb
          try simp only [bo1, bo2, bo3, bo4, bo5, bo6] at hb
          have hbt91 := hb
          refine AW.skip ?_
          refine AW.seq ?_
          obtain ⟨s1, s2, s3⟩ := set_ins h0 h1 hbt91
          have wl : (refPut Nr.of l x).length ≤ 16 := by omega
          have F := And.intro s1 F
          have F := And.intro s3 F
          refine AW.region (cfg := cfg) ?_
          refine stp (fun _ h => s0 h) ?_
          refine stp (fun _ h => sx h) ?_
          refine stp (fun _ h => sl h) ?_
          refine stp (fun _ h => cr (w := good_FindT false (refPut Nr.of l x) (by omega) x.of) (x := h)) ?_
          iterate 3 refine stp (fun _ h => s0 h) ?_
          refine stp (fun _ h => sd h) ?_
          refine stp0 (fun _ h => ss h) ?_
          refine stp (fun _ h => s0 h) ?_
          refine aops_nil ?_
          refine AW.seq ?_
          refine AW.region (cfg := cfg) ?_
          iterate 3 refine stp (fun _ h => s0 h) ?_
          iterate 2 refine mrg wa (fun hc _ h => s0 h) ?_
          refine mrg wa (fun hc _ h => cs (w := good_sameN false false (refPut Nr.of l x) (refPut Nr.of l x) (by omega) (by omega)) (x := h)) ?_
          iterate 2 refine stp (fun _ h => s0 h) ?_
          refine mrg wa (fun hc _ h => s0 h) ?_
          iterate 2 refine stp (fun _ h => s0 h) ?_
          iterate 2 refine mrg wa (fun hc _ h => sl h) ?_
          refine mrg wa (fun hc _ h => s0 h) ?_
          iterate 2 refine stp (fun _ h => s0 h) ?_
          refine mrg wa (fun hc _ h => cs (w := good_awakeT) (x := h)) ?_
          iterate 2 refine stp (fun _ h => s0 h) ?_
          refine aops_nil ?_
          refine AW.ret ?_
          refine ⟨.inr rfl, ?_⟩
          refine leaves_tmp1 6 rfl ?_ (by exact hG)
          simp (disch := first | omega | decide) only [go_sem, F, aIndex_map]
          all_goals rfl
end Go.Vai.T
