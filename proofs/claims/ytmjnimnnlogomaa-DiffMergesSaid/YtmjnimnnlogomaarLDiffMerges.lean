import Derived.Test.YtmjnimnnlogomaarDf9
namespace Go.Vai.DB
open Go.Proofs Go.Vai Go.Vai.D Go.Vai.I Go.Vai.L Go.Vai.N Go.Vai.O
set_option linter.unusedSimpArgs false
set_option linter.unusedVariables false
set_option maxHeartbeats 4000000
set_option maxRecDepth 100000
theorem good_DiffMerges (na : Bool) (a : List Lsa) (ha : a.length ≤ 9223372036854775807) (hza : na = true → a = []) (pa : ∀ x ∈ a, x.ls.length ≤ 9223372036854775807 ∧ (x.nil = true → x.ls = [])) (nb : Bool) (b : List Lsa) (hb : b.length ≤ 9223372036854775807) (hzb : nb = true → b = []) (pb : ∀ x ∈ b, x.ls.length ≤ 9223372036854775807 ∧ (x.nil = true → x.ls = [])) (nc : Bool) (c : List Lsa) (hc1 : c.length ≤ 9223372036854775807) (hzc : nc = true → c = []) (pc : ∀ x ∈ c, x.ls.length ≤ 9223372036854775807 ∧ (x.nil = true → x.ls = [])) : Good Try.prog 5 [(.sl 3 na (a.map lsaA), false), (.sl 3 nb (b.map lsaA), false), (.sl 3 nc (c.map lsaA), false)] [] [(.b true, false)] [] := by
  refine good_of_body2 123 Try.func5 rfl rfl rfl (by simp) ?_
  intro s m ha hr hv hG
  have f0 : s 0 = .v (.sl 3 na (a.map lsaA)) := ha 0 _ rfl
  have f1 : s 1 = .v (.sl 3 nb (b.map lsaA)) := ha 1 _ rfl
  have f2 : s 2 = .v (.sl 3 nc (c.map lsaA)) := ha 2 _ rfl
  clear ha
  have hc : True := trivial
  have F := (And.intro f0 (And.intro f1 (And.intro f2 hG)))
  refine AW.seq ?_
  refine AW.region (cfg := cfg) ?_
  refine stp (fun _ h => s0 h) ?_
  refine aops_nil ?_
  refine AW.seq ?_
  refine AW.seq ?_
  refine AW.region (cfg := cfg) ?_
  refine stp (fun _ h => s0 h) ?_
  refine stp (fun _ h => cs (w := good_LightDb na a (by omega) (fun x hx => (pa x hx).1)) (x := h)) ?_
  iterate 2 refine stp (fun _ h => s0 h) ?_
  refine mrg wa (fun hc _ h => s0 h) ?_
  refine mrg wa (fun hc _ h => cs (w := good_LightDb nb b (by omega) (fun x hx => (pb x hx).1)) (x := h)) ?_
  refine mrg wa (fun hc _ h => s0 h) ?_
  iterate 2 refine stp (fun _ h => s0 h) ?_
  refine mrg wa (fun hc _ h => s0 h) ?_
  refine mrg wa (fun hc _ h => cs (w := good_LightDb nc c (by omega) (fun x hx => (pc x hx).1)) (x := h)) ?_
  refine mrg wa (fun hc _ h => s0 h) ?_
  refine stp (fun _ h => s0 h) ?_
  refine aops_nil ?_
  refine cnd (fun hb => ?ht1) (fun hb => ?hf1)
  case ht1 =>
    have hw29 := hb
    try simp only [bo1, bo2, bo3, bo4, bo5, bo6] at hb
    have hbt29 := hb
    refine AW.seq ?_
    refine AW.region (cfg := cfg) ?_
    refine stp (fun _ h => cs (w := good_awakeDf) (x := h)) ?_
    refine stp (fun _ h => s0 h) ?_
    refine aops_nil ?_
    refine AW.ret ?_
    refine ⟨.inr rfl, ?_⟩
    refine leaves_tmp1 6 rfl ?_ (by exact hG)
    simp (disch := first | omega | decide) only [go_sem, F, aIndex_map]
    all_goals first | done | rfl | (simp; done) | trace_state
  case hf1 =>
    have hw29 := hb
    try simp only [bo1, bo2, bo3, bo4, bo5, bo6] at hb
    have hbt29 := hb
    refine AW.skip ?_
    refine AW.seq ?_
    obtain ⟨ha2, pa2⟩ := light_of (show lightD a = true by simpa using hbt29.1.1) (fun x hx => (pa x hx).2)
    obtain ⟨hb2, pb2⟩ := light_of (show lightD b = true by simpa using hbt29.1.2) (fun x hx => (pb x hx).2)
    obtain ⟨hc2, pc2⟩ := light_of (show lightD c = true by simpa using hbt29.2) (fun x hx => (pc x hx).2)
    refine AW.region (cfg := cfg) ?_
    iterate 2 refine stp (fun _ h => s0 h) ?_
    refine stp (fun _ h => cr (w := good_MergeDf na a (by omega) pa2 nb b (by omega) pb2) (x := h)) ?_
    iterate 5 refine stp (fun _ h => s0 h) ?_
    refine aops_nil ?_
    refine AW.seq ?_
    refine AW.seq ?_
    refine AW.region (cfg := cfg) ?_
    refine stp (fun _ h => s0 h) ?_
    refine stp (fun _ h => cs (w := good_MayDb na a (by omega) (fun x hx => by have := (pa2 x hx).1; omega)) (x := h)) ?_
    iterate 2 refine stp (fun _ h => s0 h) ?_
    refine mrg wa (fun hc _ h => s0 h) ?_
    refine mrg wa (fun hc _ h => cs (w := good_MayDb nb b (by omega) (fun x hx => by have := (pb2 x hx).1; omega)) (x := h)) ?_
    refine mrg wa (fun hc _ h => s0 h) ?_
    refine stp (fun _ h => s0 h) ?_
    refine aops_nil ?_
    refine cnd (fun hb => ?ht2) (fun hb => ?hf2)
    case ht2 =>
      have hw44 := hb
      try simp only [bo1, bo2, bo3, bo4, bo5, bo6] at hb
      have hbt44 := hb
      refine AW.seq ?_
      have e1 : mergeR a b = (true, [], 1) := mergeR_no (by (rcases hbt44 with q | q; exact .inl (by simpa using q); exact .inr (by simpa using q)))
      have F := And.intro e1 F
      refine AW.region (cfg := cfg) ?_
      iterate 3 refine stp (fun _ h => s0 h) ?_
      refine mrg wa (fun hc _ h => s0 h) ?_
      refine mrg wa (fun hc _ h => sd h) ?_
      refine mrg wa (fun hc _ h => s0 h) ?_
      iterate 2 refine stp (fun _ h => s0 h) ?_
      refine mrg wa (fun hc _ h => cs (w := good_awakeDf) (x := h)) ?_
      iterate 2 refine stp (fun _ h => s0 h) ?_
      refine aops_nil ?_
      refine AW.ret ?_
      refine ⟨.inr rfl, ?_⟩
      refine leaves_tmp1 6 rfl ?_ (by exact hG)
      simp (disch := first | omega | decide) only [go_sem, F, aIndex_map]
      all_goals rfl
    case hf2 =>
      have hw44 := hb
      try simp only [bo1, bo2, bo3, bo4, bo5, bo6] at hb
      have hbt44 := hb
      refine AW.skip ?_
      refine AW.seq ?_
      have h0a : dbOK a = true := by simpa using hbt44.1
      have h0b : dbOK b = true := by simpa using hbt44.2
      have e1 := mergeR_is h0a h0b
      have e2 := mergeR_is h0b h0a
      have er := merge_ref h0a h0b
      have em := meet h0a h0b
      have hX := xS_ok h0a (fun y hy => (fA_mem h0a h0b hy).2.1) (fA a b).length
      have wX := db_len hX
      have wY := xS_len h0b h0a (fA b a).length
      have pX := xS_fit (k := (fA a b).length) pa2 pb2
      obtain ⟨x, hx⟩ : ∃ x, x = xS a (fA a b) (fA a b).length := ⟨_, rfl⟩
      obtain ⟨y, hy⟩ : ∃ y, y = xS b (fA b a) (fA b a).length := ⟨_, rfl⟩
      rw [← hx] at e1 er em hX wX pX
      rw [← hy] at e2 em wY
      have er := er.symm
      have em := em.symm
      have ea := all_refl x
      have F := And.intro e1 F
      have F := And.intro e2 F
      have F := And.intro er F
      have F := And.intro em F
      have F := And.intro ea F
      refine AW.region (cfg := cfg) ?_
      iterate 2 refine stp (fun _ h => s0 h) ?_
      refine stp (fun _ h => cr (w := good_MergeDf nb b (by omega) pb2 na a (by omega) pa2) (x := h)) ?_
      iterate 5 refine stp (fun _ h => s0 h) ?_
      refine aops_nil ?_
      refine AW.seq ?_
      refine AW.seq ?_
      refine AW.region (cfg := cfg) ?_
      iterate 3 refine stp (fun _ h => s0 h) ?_
      iterate 2 refine mrg wa (fun hc _ h => s0 h) ?_
      iterate 2 refine stp (fun _ h => s0 h) ?_
      iterate 3 refine mrg wa (fun hc _ h => s0 h) ?_
      refine mrg wa (fun hc _ h => cr (w := good_refMergeDf na a (by omega) pa2 nb b (by omega) pb2) (x := h)) ?_
      refine mrg wa (fun hc _ h => cs (w := good_refAllDb _ false x x (by omega) (by omega) pX pX) (x := h)) ?_
      refine mrg wa (fun hc _ h => s0 h) ?_
      iterate 2 refine stp (fun _ h => s0 h) ?_
      refine mrg wa (fun hc _ h => s0 h) ?_
      refine mrg wa (fun hc _ h => cr (w := good_refItemsDb _ x (by omega)) (x := h)) ?_
      refine mrg wa (fun hc _ h => s0 h) ?_
      refine mrg wa (fun hc _ h => cr (w := good_refItemsDb _ y (by omega)) (x := h)) ?_
      refine mrg wa (fun hc _ h => cs (w := good_sameI false false (x.map itm) (x.map itm) (by rw [List.length_map]; omega) (by rw [List.length_map]; omega)) (x := h)) ?_
      refine mrg wa (fun hc _ h => s0 h) ?_
      refine stp (fun _ h => s0 h) ?_
      refine aops_nil ?_
      refine cnd (fun hb => ?ht3) (fun hb => ?hf3)
      case ht3 => simp at hb
      case hf3 =>
      have hbt82 := hb
      refine AW.skip ?_
      refine AW.seq ?_
      refine AW.seq ?_
      refine AW.region (cfg := cfg) ?_
      refine stp (fun _ h => s0 h) ?_
      refine stp (fun _ h => cs (w := good_MayDb nc c (by omega) (fun x hx => by have := (pc2 x hx).1; omega)) (x := h)) ?_
      refine stp (fun _ h => s0 h) ?_
      refine aops_nil ?_
      refine cnd (fun hb => ?ht4) (fun hb => ?hf4)
      case ht4 =>
        have hw85 := hb
        try simp only [bo1, bo2, bo3, bo4, bo5, bo6] at hb
        have hbt85 := hb
        refine AW.seq ?_
        refine AW.region (cfg := cfg) ?_
        refine stp (fun _ h => cs (w := good_awakeDf) (x := h)) ?_
        refine stp (fun _ h => s0 h) ?_
        refine aops_nil ?_
        refine AW.ret ?_
        refine ⟨.inr rfl, ?_⟩
        refine leaves_tmp1 6 rfl ?_ (by exact hG)
        simp (disch := first | omega | decide) only [go_sem, F, aIndex_map]
        all_goals first | done | rfl | (simp; done) | trace_state
      case hf4 =>
        have hw85 := hb
        try simp only [bo1, bo2, bo3, bo4, bo5, bo6] at hb
        have hbt85 := hb
        refine AW.skip ?_
        refine AW.seq ?_
        have h0c : dbOK c = true := by simpa using hbt85
        have hV := xS_ok h0b (fun y hy => (fA_mem h0b h0c hy).2.1) (fA b c).length
        have wV := db_len hV
        have pV := xS_fit (k := (fA b c).length) pb2 pc2
        obtain ⟨v, hv⟩ : ∃ v, v = xS b (fA b c) (fA b c).length := ⟨_, rfl⟩
        rw [← hv] at hV wV pV
        have e3 := mergeR_is hX h0c
        have e4 := mergeR_is h0b h0c
        have e5 := mergeR_is h0a hV
        rw [← hv] at e4
        have hzw := assoc h0a h0b h0c hx hv
        rw [← hzw] at e5
        have wZ := xS_len hX h0c (fA x c).length
        have pZ := xS_fit (k := (fA x c).length) pX pc2
        have eb := all_refl (xS x (fA x c) (fA x c).length)
        have F := And.intro e3 F
        have F := And.intro e4 F
        have F := And.intro e5 F
        have F := And.intro eb F
        refine AW.region (cfg := cfg) ?_
        iterate 2 refine stp (fun _ h => s0 h) ?_
        refine stp (fun _ h => cr (w := good_MergeDf _ x (by omega) pX nc c (by omega) pc2) (x := h)) ?_
        iterate 5 refine stp (fun _ h => s0 h) ?_
        refine aops_nil ?_
        refine AW.seq ?_
        refine AW.region (cfg := cfg) ?_
        iterate 2 refine stp (fun _ h => s0 h) ?_
        refine stp (fun _ h => cr (w := good_MergeDf nb b (by omega) pb2 nc c (by omega) pc2) (x := h)) ?_
        iterate 5 refine stp (fun _ h => s0 h) ?_
        refine aops_nil ?_
        refine AW.seq ?_
        refine AW.region (cfg := cfg) ?_
        iterate 2 refine stp (fun _ h => s0 h) ?_
        refine stp (fun _ h => cr (w := good_MergeDf na a (by omega) pa2 _ v (by omega) pV) (x := h)) ?_
        iterate 5 refine stp (fun _ h => s0 h) ?_
        refine aops_nil ?_
        refine AW.seq ?_
        refine AW.region (cfg := cfg) ?_
        iterate 3 refine stp (fun _ h => s0 h) ?_
        iterate 2 refine mrg wa (fun hc _ h => s0 h) ?_
        iterate 2 refine stp (fun _ h => s0 h) ?_
        iterate 2 refine mrg wa (fun hc _ h => s0 h) ?_
        iterate 2 refine stp (fun _ h => s0 h) ?_
        iterate 2 refine mrg wa (fun hc _ h => s0 h) ?_
        refine mrg wa (fun hc _ h => cs (w := good_refAllDb _ _ (xS x (fA x c) (fA x c).length) (xS x (fA x c) (fA x c).length) (by omega) (by omega) pZ pZ) (x := h)) ?_
        iterate 2 refine stp (fun _ h => s0 h) ?_
        refine mrg wa (fun hc _ h => cs (w := good_awakeDf) (x := h)) ?_
        iterate 2 refine stp (fun _ h => s0 h) ?_
        refine aops_nil ?_
        refine AW.ret ?_
        refine ⟨.inr rfl, ?_⟩
        refine leaves_tmp1 6 rfl ?_ (by exact hG)
        simp (disch := first | omega | decide) only [go_sem, F, aIndex_map]
        all_goals rfl
end Go.Vai.DB
