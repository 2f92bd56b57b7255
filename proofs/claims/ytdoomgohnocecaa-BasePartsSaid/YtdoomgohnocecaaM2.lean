import Derived.Test.YtdoomgohnocecaaM1
import Derived.Test.YtdoomgohnocecaaVaiD
import Derived.Shelf.Spec.SlicesInsert
namespace Go.Vai.C
open Go.Proofs Go.Vai Go.Vai.G Go.Vai.L Go.Vai.O
set_option linter.unusedSimpArgs false
set_option linter.unusedVariables false
set_option maxHeartbeats 4000000
set_option maxRecDepth 100000
attribute [go_sem] cellsOf_ch
theorem lsaE_dec (l : Lsa) : decide (lsaE l = 0) = lsaOK l := by cases h : lsaOK l <;> simp [lsaE, h]
theorem bare_eq (c : Ch) : lsaEq c.l lsa0 = bare c := by
  have : decide (c.l.ls = lsa0.ls) = decide ((c.l.ls.length : Int) = 0) := decide_eq_decide.2 ⟨fun h => by rw [h]; rfl, fun h => List.eq_nil_of_length_eq_zero (by omega)⟩
  rw [lsaEq, this]; rfl
theorem ch_k1 {c : Ch} (h : c.kind = 1) : chOK c = ((lsaOK c.l && decide (c.n = 0)) && decide (c.of = 0)) := by rw [chOK, if_pos h, Bool.and_assoc]
theorem ch_k2 {c : Ch} (h : c.kind = 2) : chOK c = ((bare c && wi c.n 1 4611686018427387904) && decide (c.of = 0)) := by rw [chOK, if_neg (by omega), if_pos h, Bool.and_assoc]
theorem ch_k3 {c : Ch} (h : c.kind = 3) : chOK c = ((bare c && wi c.n 1 1073741824) && decide (c.of = 0)) := by rw [chOK, if_neg (by omega), if_neg (by omega), if_pos h, Bool.and_assoc]
theorem ch_k4 {c : Ch} (h : c.kind = 4) : chOK c = ((bare c && wi c.n 1 1073741824) && wi c.of 1 64) := by rw [chOK, if_neg (by omega), if_neg (by omega), if_neg (by omega), if_pos h, Bool.and_assoc]
theorem ch_k0 {c : Ch} (h1 : ¬ c.kind = 1) (h2 : ¬ c.kind = 2) (h3 : ¬ c.kind = 3) (h4 : ¬ c.kind = 4) : chOK c = false := by rw [chOK, if_neg h1, if_neg h2, if_neg h3, if_neg h4]
theorem good_withinC (n lo hi : Int) : Good Try.prog 54 [(i64 n, false), (i64 lo, false), (i64 hi, false)] [] [(.b (wi n lo hi), false)] [] := by
  refine good_of_body2 15 Try.func54 rfl rfl rfl (by simp) ?_
  intro s m ha hr hv hG
  have f0 : s 0 = .v (i64 n) := ha 0 _ rfl
  have f1 : s 1 = .v (i64 lo) := ha 1 _ rfl
  have f2 : s 2 = .v (i64 hi) := ha 2 _ rfl
  clear ha
  have hc : True := trivial
  have F := (And.intro f0 (And.intro f1 (And.intro f2 hG)))
  refine AW.seq ?_
  refine AW.region (cfg := cfg) ?_
  refine stp (fun _ h => s0 h) ?_
  refine aops_nil ?_
  refine AW.seq ?_
  refine AW.region (cfg := cfg) ?_
  iterate 4 refine stp (fun _ h => s0 h) ?_
  iterate 3 refine mrg wa (fun hc _ h => s0 h) ?_
  iterate 2 refine stp (fun _ h => s0 h) ?_
  refine aops_nil ?_
  refine AW.ret ?_
  refine ⟨.inr rfl, ?_⟩
  refine leaves_tmp1 6 rfl ?_ (by exact hG)
  simp (disch := first | omega | decide) only [go_sem, F, aIndex_map]
  all_goals rfl
attribute [go_sem] lsaE_dec bare_eq
theorem good_bare (c : Ch) (hc : c.l.ls.length ≤ 9223372036854775807) : Good Try.prog 53 [(chA c, false)] [] [(.b (bare c), false)] [] := by
  refine good_of_body2 20 Try.func53 rfl rfl rfl (by simp) ?_
  intro s m ha hr hv hG
  have f0 : s 0 = .v (.agg [i64 c.kind, i64 c.l.o, i64 c.l.s, .sl 2 c.l.nil (c.l.ls.map linkA), i64 c.n, i64 c.of]) := ha 0 _ rfl
  clear ha
  have hc : True := trivial
  have F := (And.intro f0 hG)
  refine AW.seq ?_
  refine AW.region (cfg := cfg) ?_
  refine stp (fun _ h => sb h) ?_
  refine stp (fun _ h => s0 h) ?_
  refine aops_nil ?_
  refine AW.seq ?_
  refine AW.region (cfg := cfg) ?_
  iterate 2 refine stp (fun _ h => sx h) ?_
  refine stp (fun _ h => sl h) ?_
  iterate 2 refine stp (fun _ h => s0 h) ?_
  iterate 2 refine mrg wa (fun hc _ h => sx h) ?_
  refine mrg wa (fun hc _ h => sl h) ?_
  refine mrg wa (fun hc _ h => s0 h) ?_
  iterate 2 refine stp (fun _ h => s0 h) ?_
  iterate 2 refine mrg wa (fun hc _ h => sx h) ?_
  refine mrg wa (fun hc _ h => sl h) ?_
  refine mrg wa (fun hc _ h => sd h) ?_
  refine mrg wa (fun hc _ h => s0 h) ?_
  iterate 2 refine stp (fun _ h => s0 h) ?_
  refine aops_nil ?_
  refine AW.ret ?_
  refine ⟨.inr rfl, ?_⟩
  refine leaves_tmp1 2 rfl ?_ (by exact hG)
  simp (disch := first | omega | decide) only [go_sem, F, aIndex_map]
  all_goals (simp only [bare, Bool.and_assoc]; done)
theorem good_CheckC (c : Ch) (hc : c.l.ls.length ≤ 9223372036854775807) : Good Try.prog 26 [(chA c, false)] [] [(i64 (chE c), false)] [] := by
  refine good_of_body2 66 Try.func26 rfl rfl rfl (by simp) ?_
  intro s m ha hr hv hG
  have f0 : s 0 = .v (.agg [i64 c.kind, i64 c.l.o, i64 c.l.s, .sl 2 c.l.nil (c.l.ls.map linkA), i64 c.n, i64 c.of]) := ha 0 _ rfl
  clear ha
  have hc : True := trivial
  have F := (And.intro f0 hG)
  refine AW.seq ?_
  refine AW.region (cfg := cfg) ?_
  refine stp (fun _ h => sb h) ?_
  refine stp (fun _ h => s0 h) ?_
  refine aops_nil ?_
  refine AW.seq ?_
  refine AW.region (cfg := cfg) ?_
  refine stp (fun _ h => s0 h) ?_
  refine aops_nil ?_
  refine AW.seq ?_
  refine AW.seq ?_
  refine AW.region (cfg := cfg) ?_
  refine stp (fun _ h => sx h) ?_
  refine stp (fun _ h => sl h) ?_
  refine aops_nil ?_
  refine AW.block ?_
  refine AW.seq ?_
  refine AW.region (cfg := cfg) ?_
  iterate 2 refine stp (fun _ h => s0 h) ?_
  refine aops_nil ?_
  refine cnd (fun hb => ?ht1) (fun hb => ?hf1)
  case ht1 =>
    have hw6 := hb
    try simp only [bo1, bo2, bo3, bo4, bo5, bo6] at hb
    have hbt6 := hb
    refine AW.region (cfg := cfg) ?_
    refine stp (fun _ h => sx h) ?_
    refine stp (fun _ h => sl h) ?_
    refine stp (fun _ h => cs (w := L.good_Check c.l.o c.l.s c.l.nil c.l.ls (by omega)) (x := h)) ?_
    iterate 2 refine stp (fun _ h => s0 h) ?_
    refine mrg wa (fun hc _ h => sx h) ?_
    refine mrg wa (fun hc _ h => sl h) ?_
    refine mrg wa (fun hc _ h => s0 h) ?_
    iterate 2 refine stp (fun _ h => s0 h) ?_
    refine mrg wa (fun hc _ h => sx h) ?_
    refine mrg wa (fun hc _ h => sl h) ?_
    refine mrg wa (fun hc _ h => s0 h) ?_
    iterate 2 refine stp (fun _ h => s0 h) ?_
    refine aops_nil ?_
    refine AW.seq ?_
    refine AW.seq ?_
    refine AW.region (cfg := cfg) ?_
    iterate 2 refine stp (fun _ h => s0 h) ?_
    refine aops_nil ?_
    refine cnd (fun hb => ?ht2) (fun hb => ?hf2)
    case ht2 =>
      have hw65 := hb
      try simp only [bo1, bo2, bo3, bo4, bo5, bo6] at hb
      have hbt65 := hb
      refine AW.seq ?_
      refine AW.region (cfg := cfg) ?_
      refine stp (fun _ h => s0 h) ?_
      refine aops_nil ?_
      refine AW.ret ?_
      refine ⟨.inr rfl, ?_⟩
      refine leaves_tmp1 2 rfl ?_ (by exact hG)
      simp (disch := first | omega | decide) only [go_sem, F, aIndex_map]
      all_goals (rw [chE, ch_k1 hbt6, bnot_t hbt65]; rfl)
    case hf2 =>
      have hw65 := hb
      try simp only [bo1, bo2, bo3, bo4, bo5, bo6] at hb
      have hbt65 := hb
      refine AW.skip ?_
      refine AW.seq ?_
      refine AW.region (cfg := cfg) ?_
      refine stp (fun _ h => s0 h) ?_
      refine aops_nil ?_
      refine AW.ret ?_
      refine ⟨.inr rfl, ?_⟩
      refine leaves_tmp1 2 rfl ?_ (by exact hG)
      simp (disch := first | omega | decide) only [go_sem, F, aIndex_map]
      all_goals (rw [chE, ch_k1 hbt6, bnot_f hbt65]; rfl)
  case hf1 =>
    have hw6 := hb
    try simp only [bo1, bo2, bo3, bo4, bo5, bo6] at hb
    have hbt6 := hb
    refine AW.seq ?_
    refine AW.region (cfg := cfg) ?_
    iterate 2 refine stp (fun _ h => s0 h) ?_
    refine aops_nil ?_
    refine cnd (fun hb => ?ht3) (fun hb => ?hf3)
    case ht3 =>
      have hw22 := hb
      try simp only [bo1, bo2, bo3, bo4, bo5, bo6] at hb
      have hbt22 := hb
      refine AW.region (cfg := cfg) ?_
      refine stp (fun _ h => sl h) ?_
      refine stp (fun _ h => cs (w := good_bare c (by omega)) (x := h)) ?_
      refine stp (fun _ h => s0 h) ?_
      refine mrg wa (fun hc _ h => sx h) ?_
      refine mrg wa (fun hc _ h => sl h) ?_
      refine mrg wa (fun hc _ h => cs (w := good_withinC _ _ _) (x := h)) ?_
      iterate 2 refine stp (fun _ h => s0 h) ?_
      refine mrg wa (fun hc _ h => sx h) ?_
      refine mrg wa (fun hc _ h => sl h) ?_
      refine mrg wa (fun hc _ h => s0 h) ?_
      iterate 2 refine stp (fun _ h => s0 h) ?_
      refine aops_nil ?_
      refine AW.seq ?_
      refine AW.seq ?_
      refine AW.region (cfg := cfg) ?_
      iterate 2 refine stp (fun _ h => s0 h) ?_
      refine aops_nil ?_
      refine cnd (fun hb => ?ht4) (fun hb => ?hf4)
      case ht4 =>
        have hw65 := hb
        try simp only [bo1, bo2, bo3, bo4, bo5, bo6] at hb
        have hbt65 := hb
        refine AW.seq ?_
        refine AW.region (cfg := cfg) ?_
        refine stp (fun _ h => s0 h) ?_
        refine aops_nil ?_
        refine AW.ret ?_
        refine ⟨.inr rfl, ?_⟩
        refine leaves_tmp1 2 rfl ?_ (by exact hG)
        simp (disch := first | omega | decide) only [go_sem, F, aIndex_map]
        all_goals (rw [chE, ch_k2 hbt22, bnot_t hbt65]; rfl)
      case hf4 =>
        have hw65 := hb
        try simp only [bo1, bo2, bo3, bo4, bo5, bo6] at hb
        have hbt65 := hb
        refine AW.skip ?_
        refine AW.seq ?_
        refine AW.region (cfg := cfg) ?_
        refine stp (fun _ h => s0 h) ?_
        refine aops_nil ?_
        refine AW.ret ?_
        refine ⟨.inr rfl, ?_⟩
        refine leaves_tmp1 2 rfl ?_ (by exact hG)
        simp (disch := first | omega | decide) only [go_sem, F, aIndex_map]
        all_goals (rw [chE, ch_k2 hbt22, bnot_f hbt65]; rfl)
    case hf3 =>
      have hw22 := hb
      try simp only [bo1, bo2, bo3, bo4, bo5, bo6] at hb
      have hbt22 := hb
      refine AW.seq ?_
      refine AW.region (cfg := cfg) ?_
      iterate 2 refine stp (fun _ h => s0 h) ?_
      refine aops_nil ?_
      refine cnd (fun hb => ?ht5) (fun hb => ?hf5)
      case ht5 =>
        have hw36 := hb
        try simp only [bo1, bo2, bo3, bo4, bo5, bo6] at hb
        have hbt36 := hb
        refine AW.region (cfg := cfg) ?_
        refine stp (fun _ h => sl h) ?_
        refine stp (fun _ h => cs (w := good_bare c (by omega)) (x := h)) ?_
        refine stp (fun _ h => s0 h) ?_
        refine mrg wa (fun hc _ h => sx h) ?_
        refine mrg wa (fun hc _ h => sl h) ?_
        refine mrg wa (fun hc _ h => cs (w := good_withinC _ _ _) (x := h)) ?_
        iterate 2 refine stp (fun _ h => s0 h) ?_
        refine mrg wa (fun hc _ h => sx h) ?_
        refine mrg wa (fun hc _ h => sl h) ?_
        refine mrg wa (fun hc _ h => s0 h) ?_
        iterate 2 refine stp (fun _ h => s0 h) ?_
        refine aops_nil ?_
        refine AW.seq ?_
        refine AW.seq ?_
        refine AW.region (cfg := cfg) ?_
        iterate 2 refine stp (fun _ h => s0 h) ?_
        refine aops_nil ?_
        refine cnd (fun hb => ?ht6) (fun hb => ?hf6)
        case ht6 =>
          have hw65 := hb
          try simp only [bo1, bo2, bo3, bo4, bo5, bo6] at hb
          have hbt65 := hb
          refine AW.seq ?_
          refine AW.region (cfg := cfg) ?_
          refine stp (fun _ h => s0 h) ?_
          refine aops_nil ?_
          refine AW.ret ?_
          refine ⟨.inr rfl, ?_⟩
          refine leaves_tmp1 2 rfl ?_ (by exact hG)
          simp (disch := first | omega | decide) only [go_sem, F, aIndex_map]
          all_goals (rw [chE, ch_k3 hbt36, bnot_t hbt65]; rfl)
        case hf6 =>
          have hw65 := hb
          try simp only [bo1, bo2, bo3, bo4, bo5, bo6] at hb
          have hbt65 := hb
          refine AW.skip ?_
          refine AW.seq ?_
          refine AW.region (cfg := cfg) ?_
          refine stp (fun _ h => s0 h) ?_
          refine aops_nil ?_
          refine AW.ret ?_
          refine ⟨.inr rfl, ?_⟩
          refine leaves_tmp1 2 rfl ?_ (by exact hG)
          simp (disch := first | omega | decide) only [go_sem, F, aIndex_map]
          all_goals (rw [chE, ch_k3 hbt36, bnot_f hbt65]; rfl)
      case hf5 =>
        have hw36 := hb
        try simp only [bo1, bo2, bo3, bo4, bo5, bo6] at hb
        have hbt36 := hb
        refine AW.seq ?_
        refine AW.region (cfg := cfg) ?_
        iterate 2 refine stp (fun _ h => s0 h) ?_
        refine aops_nil ?_
        refine cnd (fun hb => ?ht7) (fun hb => ?hf7)
        case ht7 =>
          have hw50 := hb
          try simp only [bo1, bo2, bo3, bo4, bo5, bo6] at hb
          have hbt50 := hb
          refine AW.region (cfg := cfg) ?_
          refine stp (fun _ h => sl h) ?_
          refine stp (fun _ h => cs (w := good_bare c (by omega)) (x := h)) ?_
          refine stp (fun _ h => s0 h) ?_
          refine mrg wa (fun hc _ h => sx h) ?_
          refine mrg wa (fun hc _ h => sl h) ?_
          refine mrg wa (fun hc _ h => cs (w := good_withinC _ _ _) (x := h)) ?_
          iterate 2 refine stp (fun _ h => s0 h) ?_
          refine mrg wa (fun hc _ h => sx h) ?_
          refine mrg wa (fun hc _ h => sl h) ?_
          refine mrg wa (fun hc _ h => cs (w := good_withinC _ _ _) (x := h)) ?_
          iterate 2 refine stp (fun _ h => s0 h) ?_
          refine aops_nil ?_
          refine AW.seq ?_
          refine AW.seq ?_
          refine AW.region (cfg := cfg) ?_
          iterate 2 refine stp (fun _ h => s0 h) ?_
          refine aops_nil ?_
          refine cnd (fun hb => ?ht8) (fun hb => ?hf8)
          case ht8 =>
            have hw65 := hb
            try simp only [bo1, bo2, bo3, bo4, bo5, bo6] at hb
            have hbt65 := hb
            refine AW.seq ?_
            refine AW.region (cfg := cfg) ?_
            refine stp (fun _ h => s0 h) ?_
            refine aops_nil ?_
            refine AW.ret ?_
            refine ⟨.inr rfl, ?_⟩
            refine leaves_tmp1 2 rfl ?_ (by exact hG)
            simp (disch := first | omega | decide) only [go_sem, F, aIndex_map]
            all_goals (rw [chE, ch_k4 hbt50, bnot_t hbt65]; rfl)
          case hf8 =>
            have hw65 := hb
            try simp only [bo1, bo2, bo3, bo4, bo5, bo6] at hb
            have hbt65 := hb
            refine AW.skip ?_
            refine AW.seq ?_
            refine AW.region (cfg := cfg) ?_
            refine stp (fun _ h => s0 h) ?_
            refine aops_nil ?_
            refine AW.ret ?_
            refine ⟨.inr rfl, ?_⟩
            refine leaves_tmp1 2 rfl ?_ (by exact hG)
            simp (disch := first | omega | decide) only [go_sem, F, aIndex_map]
            all_goals (rw [chE, ch_k4 hbt50, bnot_f hbt65]; rfl)
        case hf7 =>
          have hw50 := hb
          try simp only [bo1, bo2, bo3, bo4, bo5, bo6] at hb
          have hbt50 := hb
          refine AW.skip ?_
          refine AW.seq ?_
          refine AW.seq ?_
          refine AW.region (cfg := cfg) ?_
          iterate 2 refine stp (fun _ h => s0 h) ?_
          refine aops_nil ?_
          refine cnd (fun hb => ?ht9) (fun hb => ?hf9)
          case ht9 =>
            have hw65 := hb
            try simp only [bo1, bo2, bo3, bo4, bo5, bo6] at hb
            have hbt65 := hb
            refine AW.seq ?_
            refine AW.region (cfg := cfg) ?_
            refine stp (fun _ h => s0 h) ?_
            refine aops_nil ?_
            refine AW.ret ?_
            refine ⟨.inr rfl, ?_⟩
            refine leaves_tmp1 2 rfl ?_ (by exact hG)
            simp (disch := first | omega | decide) only [go_sem, F, aIndex_map]
            all_goals (rw [chE, ch_k0 hbt6 hbt22 hbt36 hbt50]; rfl)
          case hf9 =>
            have hw65 := hb
            try simp only [bo1, bo2, bo3, bo4, bo5, bo6] at hb
            have hbt65 := hb
            refine AW.skip ?_
            refine AW.seq ?_
            refine AW.region (cfg := cfg) ?_
            refine stp (fun _ h => s0 h) ?_
            refine aops_nil ?_
            refine AW.ret ?_
            refine ⟨.inr rfl, ?_⟩
            refine leaves_tmp1 2 rfl ?_ (by exact hG)
            simp (disch := first | omega | decide) only [go_sem, F, aIndex_map]
            all_goals (exfalso; simp at hbt65; done)
def lightC (l : List Ch) : Bool := ((l.take 51).all fun c => decide ((c.l.ls.length : Int) ≤ 40)) && decide ((l.length : Int) ≤ 50)
theorem lightC_at {l : List Ch} {k : Nat} (hk : k < l.length) (hk2 : k < 51) (h : decide (((l[k]).l.ls.length : Int) ≤ 40) = false) : lightC l = false := by
  have : ((l.take 51).all fun c => decide ((c.l.ls.length : Int) ≤ 40)) = false := by
    cases e : (l.take 51).all fun c => decide ((c.l.ls.length : Int) ≤ 40) with
    | false => rfl
    | true =>
      have := List.all_eq_true.1 e l[k] (List.mem_take_iff_getElem.2 ⟨k, by omega, rfl⟩)
      rw [h] at this; cases this
  rw [lightC, this, Bool.false_and]
theorem lightC_end {l : List Ch} (h : ((l.take (min l.length 51)).all fun c => decide ((c.l.ls.length : Int) ≤ 40)) = true) : decide ((l.length : Int) ≤ 50) = lightC l := by
  have e : l.take (min l.length 51) = l.take 51 := by
    by_cases h2 : l.length ≤ 51
    · rw [Nat.min_eq_left h2, List.take_of_length_le (Nat.le_refl _), List.take_of_length_le h2]
    · rw [Nat.min_eq_right (by omega)]
  rw [e] at h
  rw [lightC, h, Bool.true_and]
theorem lightC_bd {l : List Ch} (h : lightC l = true) : l.length ≤ 50 ∧ ∀ x ∈ l, x.l.ls.length ≤ 40 := by
  simp only [lightC, Bool.and_eq_true, decide_eq_true_eq] at h
  refine ⟨by omega, fun x hx => ?_⟩
  have := List.all_eq_true.1 h.1 x (by rw [List.take_of_length_le (by omega)]; exact hx)
  have := of_decide_eq_true this
  omega
theorem good_LightC (nil : Bool) (l : List Ch) (hl : l.length ≤ 9223372036854775807) (pl : ∀ c ∈ l, c.l.ls.length ≤ 9223372036854775807) : Good Try.prog 8 [(.sl 6 nil (l.map chA), false)] [] [(.b (lightC l), false)] [] := by
  refine good_of_body2 24 Try.func8 rfl rfl rfl (by simp) ?_
  intro s m ha hr hv hG
  have f0 : s 0 = .v (.sl 6 nil (l.map chA)) := ha 0 _ rfl
  clear ha
  have hc : True := trivial
  have F := (And.intro f0 hG)
  refine AW.seq ?_
  refine AW.region (cfg := cfg) ?_
  refine stp (fun _ h => s0 h) ?_
  refine aops_nil ?_
  refine AW.seq ?_
  refine AW.seq ?_
  refine AW.region (cfg := cfg) ?_
  refine stp (fun _ h => s0 h) ?_
  refine aops_nil ?_
  refine AW.block ?_
  refine AW.forN (fun k σ => ∃ s m, σ = ⟨24, s, m⟩ ∧ s 0 = .v (.sl 6 nil (l.map chA)) ∧ s 3 = .v (i64 (k : Int)) ∧ (((l.take k).all fun c => decide ((c.l.ls.length : Int) ≤ 40)) = true) ∧ (∀ i, (m.objs (.res i)).2 = .dead) ∧ m.G = []) (min l.length 51) ?_ ?_ ?_
  · refine ⟨_, _, rfl, ?_, ?_, ?_, (by intro i; simp [Mem.set, hr]), (by exact hG)⟩ <;> try simp (disch := first | omega | decide) only [go_sem, F, aIndex_map]
    all_goals rfl
  · clear F f0 hr hG
    rintro k σ hk ⟨s, m, rfl, f0, f3, mo0, hr, hG⟩
    have F := (And.intro f0 (And.intro f3 hG))
    refine AW.seq ?_
    refine AW.seq ?_
    refine AW.region (cfg := cfg) ?_
    iterate 2 refine stp (fun _ h => s0 h) ?_
    refine stp (fun _ h => sd h) ?_
    iterate 2 refine stp (fun _ h => s0 h) ?_
    iterate 2 refine mrg wa (fun hc _ h => s0 h) ?_
    refine stp (fun _ h => s0 h) ?_
    refine aops_nil ?_
    refine cnd (fun hb => ?ht1) (fun hb => ?hf1)
    case hf1 => (simp at hb; omega)
    case ht1 =>
    have hbt11 := hb
    refine AW.skip ?_
    refine AW.seq ?_
    refine AW.block ?_
    refine AW.seq ?_
    have hkl : k < l.length := by omega
    have pkl := pl l[k] (List.getElem_mem hkl)
    refine AW.region (cfg := cfg) ?_
    iterate 2 refine stp (fun _ h => s0 h) ?_
    refine stp (fun _ h => si h) ?_
    refine stp (fun _ h => sx h) ?_
    refine stp (fun _ h => sl h) ?_
    refine stp (fun _ h => cs (w := L.good_Light l[k].l pkl) (x := h)) ?_
    refine stp (fun _ h => s0 h) ?_
    refine aops_nil ?_
    refine cnd (fun hb => ?ht2) (fun hb => ?hf2)
    case ht2 =>
      have hw20 := hb
      try simp only [bo1, bo2, bo3, bo4, bo5, bo6] at hb
      have hbt20 := hb
      refine AW.seq ?_
      refine AW.region (cfg := cfg) ?_
      refine stp (fun _ h => s0 h) ?_
      refine aops_nil ?_
      refine AW.ret ?_
      refine ⟨.inr rfl, ?_⟩
      refine leaves_tmp1 2 rfl ?_ (by exact hG)
      simp (disch := first | omega | decide) only [go_sem, F, aIndex_map]
      all_goals (rw [lightC_at (k := k) (by omega) (by omega) (bnot_t hb)]; done)
    case hf2 =>
      have hw20 := hb
      try simp only [bo1, bo2, bo3, bo4, bo5, bo6] at hb
      have hbt20 := hb
      refine AW.skip ?_
      refine AW.region (cfg := cfg) ?_
      refine stp (fun _ h => s0 h) ?_
      refine stp (fun _ h => sd h) ?_
      refine stp (fun _ h => s0 h) ?_
      refine aops_nil ?_
      refine ⟨_, _, rfl, ?_, ?_, ?_, (by intro i; simp [Mem.set, hr]), (by exact hG)⟩ <;> try simp (disch := first | omega | decide) only [go_sem, F, aIndex_map]
      all_goals first | rfl | (exact all_step (f := fun c : Ch => decide ((c.l.ls.length : Int) ≤ 40)) (by omega) mo0 (by simpa using hb))
  · clear F f0 hr hG
    rintro σ ⟨s, m, rfl, f0, f3, mo0, hr, hG⟩
    have F := (And.intro f0 (And.intro f3 hG))
    refine AW.seq ?_
    refine AW.seq ?_
    refine AW.region (cfg := cfg) ?_
    iterate 2 refine stp (fun _ h => s0 h) ?_
    refine stp (fun _ h => sd h) ?_
    iterate 2 refine stp (fun _ h => s0 h) ?_
    iterate 2 refine mrg wa (fun hc _ h => s0 h) ?_
    refine stp (fun _ h => s0 h) ?_
    refine aops_nil ?_
    refine cnd (fun hb => ?ht3) (fun hb => ?hf3)
    case ht3 => (simp at hb; omega)
    case hf3 =>
    have hbt11 := hb
    refine AW.exit ?_
    refine AW.seq ?_
    refine AW.region (cfg := cfg) ?_
    refine stp (fun _ h => s0 h) ?_
    refine stp (fun _ h => sd h) ?_
    iterate 2 refine stp (fun _ h => s0 h) ?_
    refine aops_nil ?_
    refine AW.ret ?_
    refine ⟨.inr rfl, ?_⟩
    refine leaves_tmp1 2 rfl ?_ (by exact hG)
    simp (disch := first | omega | decide) only [go_sem, F, aIndex_map]
    all_goals (rw [lightC_end mo0]; done)
end Go.Vai.C
namespace Go.Vai.O
open Go.Proofs Go.Vai
set_option linter.unusedSimpArgs false
set_option linter.unusedVariables false
set_option maxHeartbeats 4000000
set_option maxRecDepth 100000
attribute [simp] numB_length numR_length
theorem good_Clone (nil : Bool) (l : List (BitVec 8)) (hl : l.length ≤ 140737488355328) (hz : nil = true → l = []) : Good Try.prog 62 [(.sl 1 nil (bsl l), false)] [] [(.sl 1 nil (bsl l), true)] [] := by
  refine good_of_body3 8 Try.func62 rfl rfl rfl (by simp) ?_
  intro s m ha hr hv hG
  have f0 : s 0 = .v (.sl 1 nil (bsl l)) := ha 0 _ rfl
  clear ha
  have hc : True := trivial
  have F := (And.intro f0 hG)
  refine AW.seq ?_
  refine AW.region (cfg := cfg) ?_
  refine stp (fun _ h => s0 h) ?_
  refine aops_nil ?_
  refine AW.seq ?_
  refine AW.seq ?_
  refine AW.region (cfg := cfg) ?_
  iterate 2 refine stp (fun _ h => s0 h) ?_
  refine aops_nil ?_
  refine cnd (fun hb => ?ht1) (fun hb => ?hf1)
  case ht1 =>
    have hw4 := hb
    try simp only [bo1, bo2, bo3, bo4, bo5, bo6] at hb
    have hbt4 := hb
    refine AW.seq ?_
    refine AW.region (cfg := cfg) ?_
    refine stp (fun _ h => s0 h) ?_
    refine aops_nil ?_
    refine AW.ret ?_
    refine ⟨.inr rfl, ?_⟩
    (obtain rfl : nil = true := (by simpa using hb); obtain rfl := hz rfl; refine ⟨_, nilEq_nil (nilEq_refl _), leaves_own1 2 rfl (by simp (disch := first | omega | decide) only [go_sem, F, aIndex_map] <;> rfl) (by simp (disch := first | omega | decide) only [go_sem, F, aIndex_map] <;> rfl) (by decide) (by simp [sub, List.take_of_length_le]) (by exact hG)⟩)
  case hf1 =>
    have hw4 := hb
    try simp only [bo1, bo2, bo3, bo4, bo5, bo6] at hb
    have hbt4 := hb
    refine AW.skip ?_
    refine AW.seq ?_
    refine AW.region (cfg := cfg) ?_
    refine stp (fun _ h => sq h) ?_
    refine stp (fun _ h => s0 h) ?_
    refine stp (fun _ h => sp h) ?_
    refine stp (fun _ h => st h) ?_
    refine aops_nil ?_
    refine AW.ret ?_
    refine ⟨.inr rfl, ?_⟩
    (obtain rfl : nil = false := (by simpa using hb); refine leavesN (leaves_own1 2 rfl (by simp (disch := first | omega | decide) only [go_sem, F, aIndex_map] <;> rfl) (by simp (disch := first | omega | decide) only [go_sem, F, aIndex_map] <;> rfl) (by decide) (by simp [sub, List.take_of_length_le]) (by exact hG)))
theorem good_mayO (w : Int) : Good Try.prog 63 [(i64 w, false)] [] [(.b (mayW w), false)] [] := by
  refine good_of_body2 9 Try.func63 rfl rfl rfl (by simp) ?_
  intro s m ha hr hv hG
  have f0 : s 0 = .v (i64 w) := ha 0 _ rfl
  clear ha
  have hc : True := trivial
  have F := (And.intro f0 hG)
  refine AW.seq ?_
  refine AW.region (cfg := cfg) ?_
  refine stp (fun _ h => s0 h) ?_
  refine aops_nil ?_
  refine AW.seq ?_
  refine AW.region (cfg := cfg) ?_
  iterate 3 refine stp (fun _ h => s0 h) ?_
  iterate 2 refine mrg wa (fun hc _ h => s0 h) ?_
  iterate 2 refine stp (fun _ h => s0 h) ?_
  refine aops_nil ?_
  refine AW.ret ?_
  refine ⟨.inr rfl, ?_⟩
  refine leaves_mwp2 (rs := [.tmp 2]) rfl ?_
  simp (config := {failIfUnchanged := false}) [giveL, srcOne, rehome, freezeN, sub, upd, opn, aLoad, loadL, giveOne, reify, reifyL, readL, readOne, Mwp, M.bind, Mem.set, setAt, cellsL, hG, f0, mayW]
  all_goals first | done | omega | (simp_all; done) | (simp_all; omega) | grind
theorem mayW_range {w : Int} (h : mayW w = true) : 1 ≤ w ∧ w ≤ 8 := by simpa [mayW] using h
theorem byte_div {n : Int} {w k : Nat} (h : k < w) : BitVec.ofInt 8 (n / 2 ^ (8 * ((w : Int) - 1 - (k : Int))).toNat) = byteAt n (w - 1 - k) := by
  unfold byteAt
  rw [show (8 * ((w : Int) - 1 - (k : Int))).toNat = 8 * (w - 1 - k) by omega]
theorem byte_wrap (x : Int) : IntKind.u8.wrap x = ((BitVec.ofInt 8 x).toNat : Int) := wrapu8 x
theorem numS_no {w n : Int} (h : mayW w = false) : numS w n = [] := by simp [numS, h]
theorem numS_is {w n : Int} (h : mayW w = true) : numS w n = numB w.toNat n w.toNat := by simp [numS, h]
attribute [go_sem] byte_wrap
theorem good_Num (nil : Bool) (l : List (BitVec 8)) (hl : l.length ≤ 140737488355320) (hz : nil = true → l = []) (w n : Int) (hn : 0 ≤ n ∧ n < 18446744073709551616) : Good Try.prog 42 [(.sl 1 nil (bsl l), false), (i64 w, false), (.i .u64 n, false)] [] [(.sl 1 (nil && !mayW w) (bsl (l ++ numS w n)), true)] [] := by
  refine good_of_body3 30 Try.func42 rfl rfl rfl (by simp) ?_
  intro s m ha hr hv hG
  have f0 : s 0 = .v (.sl 1 nil (bsl l)) := ha 0 _ rfl
  have f1 : s 1 = .v (i64 w) := ha 1 _ rfl
  have f2 : s 2 = .v (.i .u64 n) := ha 2 _ rfl
  clear ha
  have hc : True := trivial
  have F := (And.intro f0 (And.intro f1 (And.intro f2 hG)))
  refine AW.seq ?_
  refine AW.region (cfg := cfgN) ?_
  refine stp (fun _ h => s0 h) ?_
  refine aops_nil ?_
  refine AW.seq ?_
  refine AW.region (cfg := cfgN) ?_
  refine stp (fun _ h => s0 h) ?_
  refine stp (fun _ h => co1 (w := good_Clone _ _ (by omega) hz) (x := h)) ?_
  refine stp (fun _ h => st h) ?_
  refine aops_nil ?_
  refine AW.seq ?_
  refine AW.seq ?_
  refine AW.region (cfg := cfgN) ?_
  refine stp (fun _ h => s0 h) ?_
  refine stp (fun _ h => cs (w := good_mayO _) (x := h)) ?_
  refine stp (fun _ h => s0 h) ?_
  refine aops_nil ?_
  refine cnd (fun hb => ?ht1) (fun hb => ?hf1)
  case ht1 =>
    have hw13 := hb
    try simp only [bo1, bo2, bo3, bo4, bo5, bo6] at hb
    have hbt13 := hb
    refine AW.seq ?_
    refine AW.region (cfg := cfgN) ?_
    refine stp (fun _ h => s0 h) ?_
    refine stp (fun _ h => sm h) ?_
    refine aops_nil ?_
    refine AW.ret ?_
    refine ⟨.inr rfl, ?_⟩
    (have hw : mayW w = false := (by simpa using hb); have e0 : (nil && !mayW w) = nil := (by simp [hw]); rw [e0, numS_no hw, List.append_nil]; refine leavesN (leaves_own1 6 rfl (by simp (disch := first | omega | decide) only [go_sem, F, aIndex_map] <;> rfl) (by simp (disch := first | omega | decide) only [go_sem, F, aIndex_map] <;> rfl) (by decide) (by simp [sub, List.take_of_length_le]) (by exact hG)))
  case hf1 =>
    have hw13 := hb
    try simp only [bo1, bo2, bo3, bo4, bo5, bo6] at hb
    have hbt13 := hb
    refine AW.skip ?_
    refine AW.seq ?_
    refine AW.seq ?_
    have hw : mayW w = true := by simpa using hbt13
    have hw2 := mayW_range hw
    have e0 : (nil && !mayW w) = false := by simp [hw]
    obtain ⟨W, rfl⟩ := Int.eq_ofNat_of_zero_le (show 0 ≤ w by omega)
    refine AW.region (cfg := cfgN) ?_
    refine stp (fun _ h => s0 h) ?_
    refine stp (fun _ h => sd h) ?_
    refine stp (fun _ h => s0 h) ?_
    refine aops_nil ?_
    refine AW.block ?_
    refine AW.forN (fun k σ => ∃ s m, σ = ⟨30, s, m⟩ ∧ s 2 = .v (.i .u64 n) ∧ s 7 = .own (.var 7) (m.objs (.var 7)).1 0 (l.length + k) ∧ (m.objs (.var 7)).2 = .arr (nil && decide (k = 0)) 1 (bsl (l ++ numB W n k)) ∧ s 8 = .v (i64 ((W : Int) - 1 - (k : Int))) ∧ (mayW (W : Int) = true) ∧ (∀ i, (m.objs (.res i)).2 = .dead) ∧ m.G = []) (W) ?_ ?_ ?_
    · refine ⟨_, _, rfl, ?_, ?_, ?_, ?_, ?_, (by intro i; simp [Mem.set, hr]), (by exact hG)⟩ <;> try simp (disch := first | omega | decide) only [go_sem, F, aIndex_map]
      all_goals first | rfl | assumption | (simp [numB]; done)
    · clear F f0 f1 f2 hr hG
      rintro k σ hk ⟨s, m, rfl, f2, f7, o7, f8, mo0, hr, hG⟩
      obtain ⟨g7, o7⟩ : ∃ g, m.objs (.var 7) = (g, .arr (nil && decide (k = 0)) 1 (bsl (l ++ numB W n k))) := ⟨_, Prod.ext rfl o7⟩
      rw [o7] at f7
      have F := (And.intro f2 (And.intro f7 (And.intro f8 (And.intro o7 hG))))
      refine AW.seq ?_
      refine AW.seq ?_
      refine AW.region (cfg := cfgN) ?_
      iterate 2 refine stp (fun _ h => s0 h) ?_
      refine aops_nil ?_
      refine cnd (fun hb => ?ht2) (fun hb => ?hf2)
      case hf2 => (simp at hb; omega)
      case ht2 =>
      have hbt18 := hb
      refine AW.skip ?_
      refine AW.seq ?_
      refine AW.block ?_
      refine AW.region (cfg := cfgN) ?_
      iterate 3 refine stp (fun _ h => s0 h) ?_
      iterate 3 refine stp (fun _ h => sd h) ?_
      refine stp (fun _ h => sq h) ?_
      refine stp (fun _ h => sp h) ?_
      refine stp (fun _ h => st h) ?_
      refine aops_nil ?_
      refine AW.region (cfg := cfgN) ?_
      refine stp (fun _ h => s0 h) ?_
      refine stp (fun _ h => sd h) ?_
      refine stp (fun _ h => s0 h) ?_
      refine aops_nil ?_
      refine ⟨_, _, rfl, ?_, ?_, ?_, ?_, ?_, (by intro i; simp [Mem.set, hr]), (by exact hG)⟩ <;> try simp (disch := first | omega | decide) only [go_sem, F, aIndex_map]
      all_goals first | rfl | assumption | (simp [numB_length]; omega) | (rw [numB_succ]; simp [sub, byte_div hk]; done)
    · clear F f0 f1 f2 hr hG
      rintro σ ⟨s, m, rfl, f2, f7, o7, f8, mo0, hr, hG⟩
      obtain ⟨g7, o7⟩ : ∃ g, m.objs (.var 7) = (g, .arr (nil && decide (W = 0)) 1 (bsl (l ++ numB W n W))) := ⟨_, Prod.ext rfl o7⟩
      rw [o7] at f7
      have F := (And.intro f2 (And.intro f7 (And.intro f8 (And.intro o7 hG))))
      refine AW.seq ?_
      refine AW.seq ?_
      refine AW.region (cfg := cfgN) ?_
      iterate 2 refine stp (fun _ h => s0 h) ?_
      refine aops_nil ?_
      refine cnd (fun hb => ?ht3) (fun hb => ?hf3)
      case ht3 => (simp at hb; omega)
      case hf3 =>
      have hbt18 := hb
      refine AW.exit ?_
      refine AW.seq ?_
      refine AW.region (cfg := cfgN) ?_
      refine stp (fun _ h => s0 h) ?_
      refine stp (fun _ h => sm h) ?_
      refine aops_nil ?_
      refine AW.ret ?_
      refine ⟨.inr rfl, ?_⟩
      (rw [show (nil && !mayW (W : Int)) = (nil && decide (W = 0)) by (have := mayW_range mo0; simp [mo0]; omega), numS_is mo0, Int.toNat_natCast]; refine leavesN (leaves_own1 6 rfl (by simp (disch := first | omega | decide) only [go_sem, F, aIndex_map] <;> rfl) (by simp (disch := first | omega | decide) only [go_sem, F, aIndex_map] <;> rfl) (by decide) (sub_full (by simp [numB_length])) (by exact hG)))
theorem byte_rem (x : Int) : BitVec.ofInt 8 (x % 256) = BitVec.ofInt 8 x := by
  apply BitVec.eq_of_toNat_eq
  simp [BitVec.toNat_ofInt]
attribute [go_sem] byte_rem
def txO (t : List (BitVec 8)) : Bool := decide (t.length ≤ 65535)
def txR (l t : List (BitVec 8)) : List (BitVec 8) := if txO t then l ++ numS 2 (t.length : Int) ++ t else l
attribute [go_sem] Bool.false_or
attribute [go_sem] List.take_length
def nilS (l : List (BitVec 8)) (at_ : Nat) (w : Bool) : Bool := sBad l at_ w
end Go.Vai.O
namespace Go.Vai.L
open Go.Proofs Go.Vai Go.Vai.O
set_option linter.unusedSimpArgs false
set_option linter.unusedVariables false
set_option maxHeartbeats 4000000
set_option maxRecDepth 100000
attribute [simp] linksB_len rfLinks_length
theorem oneB_num (n : Int) : [BitVec.ofInt 8 n] = numR n 1 := (numR_one n).symm
attribute [go_sem] numS1 numS4 numS8 nm1 nm4 nm8 Bool.false_and List.append_assoc
theorem good_Put (nil : Bool) (l : List (BitVec 8)) (o q : Int) (nl : Bool) (ls : List LinkS) (hl : l.length ≤ 140737488350000) (hz : nil = true → l = []) (hls : ls.length ≤ 9223372036854775807) : Good Try.prog 43 [(.sl 1 nil (bsl l), false), (.agg [i64 o, i64 q, .sl 2 nl (ls.map linkA)], false)] [] [(.sl 1 (nil && !lsaOK ⟨o, q, nl, ls⟩) (bsl (l ++ lsaS ⟨o, q, nl, ls⟩)), true)] [] := by
  refine good_of_body3 47 Try.func43 rfl rfl rfl (by simp) ?_
  intro s m ha hr hv hG
  have f0 : s 0 = .v (.sl 1 nil (bsl l)) := ha 0 _ rfl
  have f1 : s 1 = .v (.agg [i64 o, i64 q, .sl 2 nl (ls.map linkA)]) := ha 1 _ rfl
  clear ha
  have hc : True := trivial
  have F := (And.intro f0 (And.intro f1 hG))
  refine AW.seq ?_
  refine AW.region (cfg := cfg4) ?_
  refine stp (fun _ h => sb h) ?_
  refine stp (fun _ h => s0 h) ?_
  refine aops_nil ?_
  refine AW.seq ?_
  refine AW.seq ?_
  refine AW.region (cfg := cfg4) ?_
  refine stp (fun _ h => sl h) ?_
  refine stp (fun _ h => cs (w := good_Check _ _ _ _ (by omega)) (x := h)) ?_
  refine stp (fun _ h => s0 h) ?_
  refine aops_nil ?_
  refine cnd (fun hb => ?ht1) (fun hb => ?hf1)
  case ht1 =>
    have hw9 := hb
    try simp only [bo1, bo2, bo3, bo4, bo5, bo6] at hb
    have hbt9 := hb
    refine AW.seq ?_
    refine AW.region (cfg := cfg4) ?_
    refine stp (fun _ h => s0 h) ?_
    refine stp (fun _ h => co1 (w := good_Clone _ _ (by omega) hz) (x := h)) ?_
    refine stp (fun _ h => st h) ?_
    refine aops_nil ?_
    refine AW.ret ?_
    refine ⟨.inr rfl, ?_⟩
    all_goals (have z : lsaOK ⟨o, q, nl, ls⟩ = false := (lsaE_ne (by simpa using hbt9)); rw [z, lsaS, z, Bool.not_false, Bool.and_true, if_neg (by decide), List.append_nil]; refine leavesN (leaves_own1 4 rfl (by simp (disch := first | omega | decide) only [go_sem, F, aIndex_map] <;> rfl) (by simp (disch := first | omega | decide) only [go_sem, F, aIndex_map] <;> rfl) (by decide) (by simp [sub, List.take_of_length_le]) (by exact hG)))
  case hf1 =>
    have hw9 := hb
    try simp only [bo1, bo2, bo3, bo4, bo5, bo6] at hb
    have hbt9 := hb
    refine AW.skip ?_
    refine AW.seq ?_
    have hok : lsaOK ⟨o, q, nl, ls⟩ = true := lsaE_eq (by simpa using hbt9)
    obtain ⟨b1, b2, b3, b4⟩ := lsa_bd hok
    dsimp only at b1 b2 b3 b4
    refine AW.region (cfg := cfg4) ?_
    refine stp (fun _ h => s0 h) ?_
    refine stp (fun _ h => sx h) ?_
    refine stp (fun _ h => sl h) ?_
    refine stp (fun _ h => sd h) ?_
    refine stp (fun _ h => co1 (w := good_Num _ _ (by omega) (by exact hz) _ _ (by omega)) (x := h)) ?_
    refine stp (fun _ h => st h) ?_
    refine aops_nil ?_
    refine AW.seq ?_
    refine AW.region (cfg := cfg4) ?_
    refine stp (fun _ h => s0 h) ?_
    refine stp (fun _ h => sx h) ?_
    refine stp (fun _ h => sl h) ?_
    refine stp (fun _ h => sd h) ?_
    refine stp (fun _ h => co1 (w := good_Num _ _ (by (simp [numR_length, linksB_len]; omega)) (by simp) _ _ (by omega)) (x := h)) ?_
    refine stp (fun _ h => st h) ?_
    refine aops_nil ?_
    refine AW.seq ?_
    refine AW.region (cfg := cfg4) ?_
    refine stp (fun _ h => s0 h) ?_
    refine stp (fun _ h => sx h) ?_
    refine stp (fun _ h => sl h) ?_
    iterate 2 refine stp (fun _ h => sd h) ?_
    refine stp (fun _ h => co1 (w := good_Num _ _ (by (simp [numR_length, linksB_len]; omega)) (by simp) _ _ (by omega)) (x := h)) ?_
    refine stp (fun _ h => st h) ?_
    refine aops_nil ?_
    refine AW.seq ?_
    refine AW.seq ?_
    refine AW.region (cfg := cfg4) ?_
    refine stp (fun _ h => sx h) ?_
    refine stp (fun _ h => sl h) ?_
    refine stp (fun _ h => sd h) ?_
    refine stp (fun _ h => s0 h) ?_
    refine aops_nil ?_
    refine AW.block ?_
    refine AW.forN (fun k σ => ∃ s m, σ = ⟨47, s, m⟩ ∧ s 0 = .own (.var 0) (m.objs (.var 0)).1 0 (l.length + 10 + 5 * k) ∧ (m.objs (.var 0)).2 = .arr false 1 (bsl (l ++ (numR o 1 ++ (numR q 8 ++ (numR (ls.length : Int) 1 ++ linksB (ls.take k)))))) ∧ s 29 = .v (.sl 2 nl (ls.map linkA)) ∧ s 30 = .v (i64 (ls.length : Int)) ∧ s 31 = .v (i64 (k : Int)) ∧ (∀ i, (m.objs (.res i)).2 = .dead) ∧ m.G = []) (ls.length) ?_ ?_ ?_
    · refine ⟨_, _, rfl, ?_, ?_, ?_, ?_, ?_, (by intro i; simp [Mem.set, hr]), (by exact hG)⟩ <;> try simp (disch := first | omega | decide) only [go_sem, F, aIndex_map]
      all_goals first | rfl | (simp [linksB]; done)
    · clear F f0 f1 hr hG
      rintro k σ hk ⟨s, m, rfl, f0, o0, f29, f30, f31, hr, hG⟩
      obtain ⟨g0, o0⟩ : ∃ g, m.objs (.var 0) = (g, .arr false 1 (bsl (l ++ (numR o 1 ++ (numR q 8 ++ (numR (ls.length : Int) 1 ++ linksB (ls.take k))))))) := ⟨_, Prod.ext rfl o0⟩
      rw [o0] at f0
      have F := (And.intro f0 (And.intro f29 (And.intro f30 (And.intro f31 (And.intro o0 hG)))))
      refine AW.seq ?_
      refine AW.region (cfg := cfg4) ?_
      refine stp (fun _ h => s0 h) ?_
      refine aops_nil ?_
      refine AW.seq ?_
      refine cnd (fun hb => ?ht2) (fun hb => ?hf2)
      case hf2 => (simp at hb; omega)
      case ht2 =>
      have hbt32 := hb
      refine AW.skip ?_
      refine AW.seq ?_
      refine AW.block ?_
      refine AW.seq ?_
      obtain ⟨c1, c2⟩ := link_bd b4 hk
      refine AW.region (cfg := cfg4) ?_
      refine stp (fun _ h => si h) ?_
      refine stp (fun _ h => sl h) ?_
      refine stp (fun _ h => sd h) ?_
      refine stp0 (fun _ h => ss h) ?_
      refine aops_nil ?_
      refine AW.seq ?_
      obtain ⟨c1, c2⟩ := link_bd b4 hk
      refine AW.region (cfg := cfg4) ?_
      refine stp (fun _ h => s0 h) ?_
      refine stp (fun _ h => sx h) ?_
      refine stp (fun _ h => sl h) ?_
      refine stp (fun _ h => sd h) ?_
      refine stp (fun _ h => co1 (w := good_Num _ _ (by (simp [numR_length, linksB_len]; omega)) (by simp) _ _ (by omega)) (x := h)) ?_
      refine stp (fun _ h => st h) ?_
      refine aops_nil ?_
      refine AW.region (cfg := cfg4) ?_
      refine stp (fun _ h => s0 h) ?_
      refine stp (fun _ h => sx h) ?_
      refine stp (fun _ h => sl h) ?_
      refine stp (fun _ h => sd h) ?_
      refine stp (fun _ h => co1 (w := good_Num _ _ (by (simp [numR_length, linksB_len]; omega)) (by simp) _ _ (by omega)) (x := h)) ?_
      refine stp (fun _ h => st h) ?_
      refine aops_nil ?_
      refine AW.region (cfg := cfg4) ?_
      refine stp (fun _ h => sd h) ?_
      refine stp (fun _ h => s0 h) ?_
      refine aops_nil ?_
      refine ⟨_, _, rfl, ?_, ?_, ?_, ?_, ?_, (by intro i; simp [Mem.set, hr]), (by exact hG)⟩ <;> try simp (disch := first | omega | decide) only [go_sem, F, aIndex_map]
      all_goals first | rfl | (simp [linksB_len, numR_length]; omega) | (rw [linksB_take hk]; simp [linkB]; done)
    · clear F f0 f1 hr hG
      rintro σ ⟨s, m, rfl, f0, o0, f29, f30, f31, hr, hG⟩
      obtain ⟨g0, o0⟩ : ∃ g, m.objs (.var 0) = (g, .arr false 1 (bsl (l ++ (numR o 1 ++ (numR q 8 ++ (numR (ls.length : Int) 1 ++ linksB (ls.take ls.length))))))) := ⟨_, Prod.ext rfl o0⟩
      rw [o0] at f0
      have F := (And.intro f0 (And.intro f29 (And.intro f30 (And.intro f31 (And.intro o0 hG)))))
      refine AW.seq ?_
      refine AW.region (cfg := cfg4) ?_
      refine stp (fun _ h => s0 h) ?_
      refine aops_nil ?_
      refine AW.seq ?_
      refine cnd (fun hb => ?ht3) (fun hb => ?hf3)
      case ht3 => (simp at hb; done)
      case hf3 =>
      have hbt32 := hb
      refine AW.exit ?_
      refine AW.seq ?_
      refine AW.region (cfg := cfg4) ?_
      refine stp (fun _ h => s0 h) ?_
      refine stp (fun _ h => sm h) ?_
      refine aops_nil ?_
      refine AW.ret ?_
      refine ⟨.inr rfl, ?_⟩
      all_goals (rw [hok, lsaS, hok, Bool.not_true, Bool.and_false, if_pos rfl]; refine leavesN (leaves_own1 4 rfl (by simp (disch := first | omega | decide) only [go_sem, F, aIndex_map] <;> rfl) (by simp (disch := first | omega | decide) only [go_sem, F, aIndex_map] <;> rfl) (by decide) (by rw [sub_full (by simp [numR_length, linksB_len]; omega)]; simp only [List.take_length, lsaB]) (by exact hG)))
attribute [go_sem] oneB_num
end Go.Vai.L
namespace Go.Vai.L
open Go.Proofs Go.Vai Go.Vai.O
set_option linter.unusedSimpArgs false
set_option linter.unusedVariables false
set_option maxHeartbeats 4000000
set_option maxRecDepth 100000
end Go.Vai.L
namespace Go.Vai.L
open Go.Proofs Go.Vai Go.Vai.O
set_option linter.unusedSimpArgs false
set_option linter.unusedVariables false
set_option maxHeartbeats 4000000
set_option maxRecDepth 100000
attribute [go_sem] getD_get Int.reduceToNat
end Go.Vai.L
set_option linter.unusedSimpArgs false
set_option linter.unusedVariables false
namespace Go.Vai.D
open Go.Vai.I Go.Vai.L
def fA (a b : List Lsa) : List Lsa := b.filter fun y => !hasI (a.map itm) (itm y)
def xS (a F : List Lsa) (k : Nat) : List Lsa := (F.take k).foldl (insP Lsa.o) a
theorem xS_succ {a F : List Lsa} {k : Nat} (hk : k < F.length) : xS a F (k + 1) = insP Lsa.o (xS a F k) F[k] := by
 rw [xS, List.take_succ_eq_append_getElem hk, List.foldl_append]; rfl
theorem xS_end {a F : List Lsa} {k : Nat} (hk : ¬ k < F.length) : xS a F (k + 1) = xS a F k := by
 rw [xS, xS, List.take_of_length_le (by omega), List.take_of_length_le (by omega)]
theorem xS_ok {a F : List Lsa} (ha : dbOK a = true) (hF : ∀ y ∈ F, lsaOK y = true) : ∀ k, dbOK (xS a F k) = true
 | 0 => ha
 | k + 1 => by
  by_cases hk : k < F.length
  ·rw [xS_succ hk]; exact ins_db (xS_ok ha hF k) (hF _ (List.getElem_mem hk))
  ·rw [xS_end hk]; exact xS_ok ha hF k
theorem take_none {F : List Lsa} (h : Srt Lsa.o F) {k : Nat} (hk : k < F.length) : gK Lsa.o (F.take k) F[k].o = none := by
 rw [gK_none]
 intro y hy e
 obtain ⟨j, hj, rfl⟩ := List.mem_take_iff_getElem.1 hy
 have := List.pairwise_iff_getElem.1 h j k (by omega) hk (by omega)
 omega
theorem xS_gK {a F : List Lsa} (h : Srt Lsa.o F) (t : Int) : ∀ k, k ≤ F.length → gK Lsa.o (xS a F k) t = (gK Lsa.o (F.take k) t).or (gK Lsa.o a t)
 | 0, _ => by simp [xS, gK]
 | k + 1, hk => by
  have hk : k < F.length := by omega
  rw [xS_succ hk, insP_gK, List.take_succ_eq_append_getElem hk, gK_append, gK_cons, gK_nil, xS_gK h t k (by omega)]
  by_cases e : t = F[k].o
  ·rw [if_pos e, if_pos e.symm, e, take_none h hk]; rfl
  ·rw [if_neg e, if_neg (fun h => e h.symm)]; cases gK Lsa.o (F.take k) t <;> rfl
def ordF (s : List Lsa) (x : Lsa) : List Lsa := if (putR s x).2.2 = 0 then (putR s x).2.1 else s
def ordS (x : List Lsa) (k : Nat) : List Lsa := (x.take k).foldl ordF []
def idxG {α : Type} (x : List α) (ts : List (BitVec 8)) (i : Nat) : Int := if i < ts.length then ((ts.getD i 0).toNat : Int) % (x.length : Int) else (x.length : Int) - 1 - ((i : Int) - (ts.length : Int))
def zsG {α : Type} [Inhabited α] (x : List α) (ts : List (BitVec 8)) : List α := if 0 < x.length then (List.range (ts.length + x.length)).map fun i => x.getD (idxG x ts i).toNat default else []
section
variable {α : Type}
end
end Go.Vai.D
set_option linter.unusedSimpArgs false
set_option linter.unusedVariables false
namespace Go.Vai.D
open Go.Vai.I Go.Vai.L
structure Dl where
 n1 : Bool
 nw : List Lsa
 n2 : Bool
 gn : List Int
 n3 : Bool
 ol : List Lsa
def dl0 : Dl := ⟨true, [], true, [], true, []⟩
abbrev gD (l : List Lsa) (t : Int) : Lsa := (gK Lsa.o l t).getD default
def nwP (a : List Lsa) (y : Lsa) : Bool := !isK Lsa.o a y.o || newer y ((gK Lsa.o a y.o).getD default)
def olP (a : List Lsa) (y : Lsa) : Bool := !nwP a y && !lsaEq y ((gK Lsa.o a y.o).getD default)
def gnP (b : List Lsa) (x : Lsa) : Bool := !isK Lsa.o b x.o
def nwL (a b : List Lsa) : List Lsa := b.filter (nwP a)
def olL (a b : List Lsa) : List Lsa := b.filter (olP a)
def gnL (a b : List Lsa) : List Int := (a.filter (gnP b)).map Lsa.o
def dlR (a b : List Lsa) : Dl := ⟨(nwL a b).isEmpty, nwL a b, (gnL a b).isEmpty, gnL a b, (olL a b).isEmpty, olL a b⟩
def ofR (a b : List Lsa) : Dl × Int := if dbOK a && dbOK b then (dlR a b, 0) else (dl0, 1)
def hasN (l : List Int) (x : Int) : Bool := l.any fun z => decide (x = z)
def kp (d : Dl) (x : Lsa) : Bool := !hasN d.gn x.o
def emptyD (d : Dl) : Bool := (decide ((d.nw.length : Int) = 0) && decide ((d.gn.length : Int) = 0)) && decide ((d.ol.length : Int) = 0)
def sameD (x y : Dl) : Bool := (eqAll lsaEq x.nw y.nw && eqAll lsaEq x.ol y.ol) && decide (x.gn = y.gn)
def mo (d : Dl) : List Lsa := d.ol ++ d.nw
def apA (a : List Lsa) (d : Dl) : List Lsa := a.filter (kp d)
def applyR (a : List Lsa) (d : Dl) : Bool × List Lsa × Int := if dbOK a && (mo d).all lsaOK then ((apA a d).isEmpty && decide ((mo d).length = 0), xS (apA a d) (mo d) (mo d).length, 0) else (true, [], 1)
theorem db_filter {a : List Lsa} {p : Lsa → Bool} (h : dbOK a = true) : dbOK (a.filter p) = true := by
 unfold dbOK at h ⊢
 rw [chn_iff] at h ⊢
 exact ⟨h.1.filter, fun x hx => h.2 x (List.mem_filter.1 hx).1⟩
theorem xS_app {a F G : List Lsa} : xS (xS a F F.length) G G.length = xS a (F ++ G) (F ++ G).length := by
 simp only [xS, List.take_length, List.foldl_append]
def mD (a b : List Lsa) : Dl := ⟨(nwL a b).isEmpty, nwL a b, true, [], true, []⟩
def mergeR (a b : List Lsa) : Bool × List Lsa × Int := if dbOK a && dbOK b then applyR a (mD a b) else (true, [], 1)
theorem applyR_dbno {a : List Lsa} {d : Dl} (h : dbOK a = false) : applyR a d = (true, [], 1) := by rw [applyR, h]; rfl
theorem applyR_mono {a : List Lsa} {d : Dl} (h : (mo d).all lsaOK = false) : applyR a d = (true, [], 1) := by rw [applyR, h, Bool.and_false]; rfl
theorem mo_all {d : Dl} : (mo d).all lsaOK = (d.ol.all lsaOK && d.nw.all lsaOK) := List.all_append
theorem applyR_bad {a : List Lsa} {d : Dl} (h : ((!dbOK a) = true ∨ (!d.nw.all lsaOK) = true) ∨ (!d.ol.all lsaOK) = true) : applyR a d = (true, [], 1) := by
 rcases h with (h | h) | h
 ·exact applyR_dbno (by simpa using h)
 ·exact applyR_mono (by rw [mo_all, show d.nw.all lsaOK = false from by simpa using h, Bool.and_false])
 ·exact applyR_mono (by rw [mo_all, show d.ol.all lsaOK = false from by simpa using h]; rfl)
def rgF {α : Type} (f : Nat → Option α) (k : Nat) : List α := (List.range k).filterMap f
def roG (a b : List Lsa) (i : Nat) : Option Int := if (gD b ((i : Int) + 1)).o = 0 ∧ (gD a ((i : Int) + 1)).o > 0 then some ((i : Int) + 1) else none
def roN (a b : List Lsa) (i : Nat) : Option Lsa := if (gD b ((i : Int) + 1)).o = 0 ∧ (gD a ((i : Int) + 1)).o > 0 then none else if (gD b ((i : Int) + 1)).s > (gD a ((i : Int) + 1)).s then some (gD b ((i : Int) + 1)) else none
def roO (a b : List Lsa) (i : Nat) : Option Lsa := if (gD b ((i : Int) + 1)).o = 0 ∧ (gD a ((i : Int) + 1)).o > 0 then none else if (gD b ((i : Int) + 1)).s > (gD a ((i : Int) + 1)).s then none else if (!lsaEq (gD a ((i : Int) + 1)) (gD b ((i : Int) + 1))) = true then some (gD b ((i : Int) + 1)) else none
def mgX (a b : List Lsa) (i : Nat) : Lsa := if (gD b ((i : Int) + 1)).s > (gD a ((i : Int) + 1)).s then gD b ((i : Int) + 1) else gD a ((i : Int) + 1)
def mgI (a b : List Lsa) (i : Nat) : Option Lsa := if (mgX a b i).o > 0 then some (mgX a b i) else none
def rofR (a b : List Lsa) : Dl := ⟨(rgF (roN a b) 64).isEmpty, rgF (roN a b) 64, (rgF (roG a b) 64).isEmpty, rgF (roG a b) 64, (rgF (roO a b) 64).isEmpty, rgF (roO a b) 64⟩
end Go.Vai.D
set_option linter.unusedSimpArgs false
set_option linter.unusedVariables false
namespace Go.Vai.BA
open Go.Vai.L Go.Vai.D Go.Vai.I Go.Vai.G Go.Vai.C
structure Sta where
 n1 : Bool
 db : List Lsa
 up : Int
 bo : Int
 n2 : Bool
 ep : List It
def sta0 : Sta := ⟨true, [], 0, 0, true, []⟩
def epV (x : It) : Bool := (decide (x.o ≤ 64) && decide (1 ≤ x.s)) && decide (x.s ≤ 1073741824)
def epOK (l : List It) : Bool := chn epV It.o 0 l
def nuOK (s : Sta) : Bool := ((decide (0 ≤ s.up) && decide (s.up ≤ 4611686018427387904)) && decide (0 ≤ s.bo)) && decide (s.bo ≤ 1073741824)
def staOK (s : Sta) : Bool := (nuOK s && dbOK s.db) && epOK s.ep
def staE (s : Sta) : Int := if staOK s then 0 else 1
theorem staE_0 {s : Sta} (h : ¬ staE s ≠ 0) : staOK s = true := by
 rw [staE] at h
 cases e : staOK s with
 | true => rfl
 | false => rw [e] at h; exact absurd (by decide : (1 : Int) ≠ 0) h
theorem staE_1 {s : Sta} (h : staE s ≠ 0) : staOK s = false ∧ staE s = 1 := by
 rw [staE] at h ⊢
 cases e : staOK s with
 | false => exact ⟨rfl, rfl⟩
 | true => rw [e] at h; exact absurd rfl h
theorem sta_parts {s : Sta} (h : staOK s = true) : nuOK s = true ∧ dbOK s.db = true ∧ epOK s.ep = true := by
 simp only [staOK, Bool.and_eq_true] at h; exact ⟨h.1.1, h.1.2, h.2⟩
theorem sta_is {s : Sta} (h1 : nuOK s = true) (h2 : dbOK s.db = true) (h3 : epOK s.ep = true) : staOK s = true := by rw [staOK, h1, h2, h3]; rfl
theorem nu_no {s : Sta} (h : ((s.up < 0 ∨ s.up > 4611686018427387904) ∨ s.bo < 0) ∨ s.bo > 1073741824) : staE s = 1 := by
 have : nuOK s = false := by
  cases e : nuOK s with
  | false => rfl
  | true =>
   simp only [nuOK, Bool.and_eq_true, decide_eq_true_eq] at e
   omega
 rw [staE, staOK, this]; rfl
theorem nu_yes {s : Sta} (h : ((¬ s.up < 0 ∧ ¬ s.up > 4611686018427387904) ∧ ¬ s.bo < 0) ∧ ¬ s.bo > 1073741824) : nuOK s = true := by
 simp only [nuOK, Bool.and_eq_true, decide_eq_true_eq]; omega
theorem db_bad {s : Sta} (h : dbE s.db = 1) : staE s = 1 := by
 have : dbOK s.db = false := dbE_1 (by rw [h]; decide)
 rw [staE, staOK, this, Bool.and_false]; rfl
theorem db_zero {l : List Lsa} (h : dbE l = 0) : dbOK l = true := dbE_0 (by rw [h]; simp)
theorem epV_not {x : It} {last : Int} (h : ((x.o ≤ last ∨ x.o > 64) ∨ x.s < 1) ∨ x.s > 1073741824) : epV x = false ∨ x.o ≤ last := by
 by_cases h2 : x.o ≤ last
 ·exact .inr h2
 ·refine .inl ?_
  cases e : epV x with
  | false => rfl
  | true => simp only [epV, Bool.and_eq_true, decide_eq_true_eq] at e; omega
theorem ep_no {s : Sta} {last : Int} {k : Nat} (h : chn epV It.o 0 s.ep = chn epV It.o last (s.ep.drop k)) (hk : k < s.ep.length) (h2 : ((s.ep[k].o ≤ last ∨ s.ep[k].o > 64) ∨ s.ep[k].s < 1) ∨ s.ep[k].s > 1073741824) : staE s = 1 := by
 have : epOK s.ep = false := chn_no h hk (epV_not h2)
 rw [staE, staOK, this, Bool.and_false]; rfl
theorem epV_yes {x : It} {last : Int} (h : ((¬ x.o ≤ last ∧ ¬ x.o > 64) ∧ ¬ x.s < 1) ∧ ¬ x.s > 1073741824) : epV x = true ∧ last < x.o := by
 simp only [epV, Bool.and_eq_true, decide_eq_true_eq]; omega
theorem ep_go {l : List It} {last : Int} {k : Nat} (h : chn epV It.o 0 l = chn epV It.o last (l.drop k)) (hk : k < l.length) (h2 : ((¬ l[k].o ≤ last ∧ ¬ l[k].o > 64) ∧ ¬ l[k].s < 1) ∧ ¬ l[k].s > 1073741824) : chn epV It.o 0 l = chn epV It.o l[k].o (l.drop (k + 1)) :=
 chn_go h hk (epV_yes h2).1 (epV_yes h2).2
theorem ep_end {s : Sta} {last : Int} (hn : nuOK s = true) (hd : dbE s.db = 0) (h : chn epV It.o 0 s.ep = chn epV It.o last (s.ep.drop s.ep.length)) : staE s = 0 := by
 rw [staE, sta_is hn (db_zero hd) (h.trans chn_end)]; rfl
def lastE (l : List It) (k : Nat) : Int := if k = 0 then 0 else (l.getD ((k : Int) - 1).toNat default).o
theorem ep_srt {l : List It} (h : epOK l = true) : Srt It.o l := chn_srt h
theorem ep_len {l : List It} (h : epOK l = true) : l.length ≤ 64 := by
 have hs := ep_srt h
 have : ∀ (l : List It) (a : Int), chn epV It.o a l = true → 0 ≤ a → a ≤ 64 → (l.length : Int) ≤ 64 - a := by
  intro l
  induction l with
  | nil => intro a _ _ h; simp; omega
  | cons x l ih =>
   intro a h h0 h1
   simp only [chn, Bool.and_eq_true, decide_eq_true_eq] at h
   have hx : x.o ≤ 64 := by
    have := h.1.1
    simp only [epV, Bool.and_eq_true, decide_eq_true_eq] at this
    omega
   have := ih x.o h.2 (by omega) hx
   simp only [List.length_cons]; omega
 have := this l 0 h (by omega) (by omega)
 omega
def sameS (a b : Sta) : Bool := ((decide (a.up = b.up) && decide (a.bo = b.bo)) && eqAll lsaEq a.db b.db) && decide (a.ep = b.ep)
theorem sameS_refl (s : Sta) : sameS s s = true := by
 rw [sameS, eqAll_refl (fun x => by simp [lsaEq]) s.db]; simp
def doS (s : Sta) (c : Ch) : Option Sta :=
 if c.kind = 1 then (if sqL s.db c.l.o ≥ c.l.s then none else some { s with db := insP Lsa.o s.db c.l, n1 := false })
 else if c.kind = 2 then (if s.up ≥ c.n then none else some { s with up := c.n })
 else if c.kind = 3 then (if s.bo ≥ c.n then none else some { s with bo := c.n })
 else (if qK s.ep c.of ≥ c.n then none else some { s with ep := insP It.o s.ep ⟨c.of, c.n⟩, n2 := false })
def foldS : Sta → List Ch → Option Sta
 | s, [] => some s
 | s, c :: l => (doS s c).bind fun z => foldS z l
theorem foldS_append : ∀ (a b : List Ch) (s : Sta), foldS s (a ++ b) = (foldS s a).bind fun z => foldS z b
 | [], b, s => rfl
 | c :: a, b, s => by
  simp only [List.cons_append, foldS]
  cases doS s c with
  | none => rfl
  | some z => exact foldS_append a b z
theorem foldS_take {l : List Ch} {s z : Sta} {k : Nat} (hk : k < l.length) (h : foldS s (l.take k) = some z) : foldS s (l.take (k + 1)) = doS z l[k] := by
 rw [List.take_succ_eq_append_getElem hk, foldS_append, h]
 simp only [Option.bind_some, foldS]
 cases doS z l[k] <;> rfl
theorem foldS_none {l : List Ch} {s z : Sta} {k : Nat} (hk : k < l.length) (h : foldS s (l.take k) = some z) (h2 : doS z l[k] = none) : foldS s l = none := by
 rw [← List.take_append_drop (k + 1) l, foldS_append, foldS_take hk h, h2]; rfl
def applyR (s : Sta) (l : List Ch) : Sta × Int :=
 if staOK s && allCh l then (match foldS s l with | some z => (z, 0) | none => (sta0, 10)) else (sta0, 1)
theorem applyR_s {s : Sta} {l : List Ch} (h : staOK s = false) : applyR s l = (sta0, 1) := by rw [applyR, h]; rfl
theorem applyR_l {s : Sta} {l : List Ch} (h : allCh l = false) : applyR s l = (sta0, 1) := by rw [applyR, h, Bool.and_false]; rfl
theorem applyR_old {s : Sta} {l : List Ch} (h : staOK s = true) (h1 : allCh l = true) (h2 : foldS s l = none) : applyR s l = (sta0, 10) := by rw [applyR, h, h1, h2]; rfl
theorem applyR_ok {s z : Sta} {l : List Ch} (h : staOK s = true) (h1 : allCh l = true) (h2 : foldS s l = some z) : applyR s l = (z, 0) := by rw [applyR, h, h1, h2]; rfl
theorem epV_ch {c : Ch} (h : chOK c = true) (hk : c.kind = 4) : epV ⟨c.of, c.n⟩ = true ∧ 0 < c.of := by
 rcases ch_kind h with h | h | h | h
 ·omega
 ·omega
 ·omega
 ·refine ⟨?_, by omega⟩
  simp only [epV, Bool.and_eq_true, decide_eq_true_eq]; omega
theorem doS_ok {s z : Sta} {c : Ch} (hs : staOK s = true) (hc : chOK c = true) (h : doS s c = some z) : staOK z = true := by
 obtain ⟨h1, h2, h3⟩ := sta_parts hs
 have hk := ch_kind hc
 rw [doS] at h
 split at h
 ·split at h
  ·cases h
  ·simp only [Option.some.injEq] at h; subst h
   exact sta_is h1 (ins_db h2 (by rcases hk with h | h | h | h <;> first | exact h.2.1 | omega)) h3
 ·split at h
  ·split at h
   ·cases h
   ·simp only [Option.some.injEq] at h; subst h
    refine sta_is ?_ h2 h3
    simp only [nuOK, Bool.and_eq_true, decide_eq_true_eq] at h1 ⊢
    omega
  ·split at h
   ·split at h
    ·cases h
    ·simp only [Option.some.injEq] at h; subst h
     refine sta_is ?_ h2 h3
     simp only [nuOK, Bool.and_eq_true, decide_eq_true_eq] at h1 ⊢
     omega
   ·split at h
    ·cases h
    ·simp only [Option.some.injEq] at h; subst h
     have hv := epV_ch hc (by omega)
     exact sta_is h1 h2 (insP_chn h3 hv.1 hv.2)
end Go.Vai.BA
namespace Go.Vai.BA
open Go.Proofs Go.Vai Go.Vai.C Go.Vai.D Go.Vai.DB Go.Vai.G Go.Vai.I Go.Vai.L Go.Vai.N Go.Vai.O
set_option linter.unusedSimpArgs false
set_option linter.unusedVariables false
set_option maxHeartbeats 4000000
set_option maxRecDepth 100000
open Go.Vai.L Go.Vai.D Go.Vai.I Go.Vai.DB Go.Vai.C
def staA (a : Sta) : AV := .agg [.sl 3 a.n1 (a.db.map lsaA), i64 a.up, i64 a.bo, .sl 2 a.n2 (a.ep.map itA)]
theorem cellsOf_sta (a : Sta) : cellsOf (staA a) = [.sl 3 a.n1 (a.db.map lsaA), i64 a.up, i64 a.bo, .sl 2 a.n2 (a.ep.map itA)] := rfl
@[simp] theorem noPtr_sta (a : Sta) : noPtr (staA a) = true := by simp [staA, noPtr, noPtrL]
attribute [go_sem] cellsOf_sta
theorem good_CheckB (a : Sta) (ha1 : a.db.length ≤ 9223372036854775807) (ha2 : a.ep.length ≤ 9223372036854775807) (pa : ∀ x ∈ a.db, x.ls.length ≤ 9223372036854775807) : Good Try.prog 12 [(staA a, false)] [] [(i64 (staE a), false)] [] := by
  refine good_of_body2 74 Try.func12 rfl rfl rfl (by simp) ?_
  intro s m ha hr hv hG
  have f0 : s 0 = .v (.agg [.sl 3 a.n1 (a.db.map lsaA), i64 a.up, i64 a.bo, .sl 2 a.n2 (a.ep.map itA)]) := ha 0 _ rfl
  clear ha
  have hc : True := trivial
  have F := (And.intro f0 hG)
  refine AW.seq ?_
  refine AW.region (cfg := cfg) ?_
  refine stp (fun _ h => sb h) ?_
  refine stp (fun _ h => s0 h) ?_
  refine aops_nil ?_
  refine AW.seq ?_
  refine AW.seq ?_
  refine AW.region (cfg := cfg) ?_
  refine stp (fun _ h => sx h) ?_
  refine stp (fun _ h => sl h) ?_
  iterate 2 refine stp (fun _ h => s0 h) ?_
  refine mrg wa (fun hc _ h => sx h) ?_
  refine mrg wa (fun hc _ h => sl h) ?_
  refine mrg wa (fun hc _ h => s0 h) ?_
  iterate 2 refine stp (fun _ h => s0 h) ?_
  refine mrg wa (fun hc _ h => sx h) ?_
  refine mrg wa (fun hc _ h => sl h) ?_
  refine mrg wa (fun hc _ h => s0 h) ?_
  iterate 2 refine stp (fun _ h => s0 h) ?_
  refine mrg wa (fun hc _ h => sx h) ?_
  refine mrg wa (fun hc _ h => sl h) ?_
  refine mrg wa (fun hc _ h => s0 h) ?_
  refine stp (fun _ h => s0 h) ?_
  refine aops_nil ?_
  refine cnd (fun hb => ?ht1) (fun hb => ?hf1)
  case ht1 =>
    have hw25 := hb
    try simp only [bo1, bo2, bo3, bo4, bo5, bo6] at hb
    have hbt25 := hb
    refine AW.seq ?_
    refine AW.region (cfg := cfg) ?_
    refine stp (fun _ h => s0 h) ?_
    refine aops_nil ?_
    refine AW.ret ?_
    refine ⟨.inr rfl, ?_⟩
    refine leaves_tmp1 2 rfl ?_ (by exact hG)
    simp (disch := first | omega | decide) only [go_sem, F, aIndex_map]
    all_goals (rw [nu_no hbt25]; done)
  case hf1 =>
    have hw25 := hb
    try simp only [bo1, bo2, bo3, bo4, bo5, bo6] at hb
    have hbt25 := hb
    refine AW.skip ?_
    refine AW.seq ?_
    refine AW.region (cfg := cfg) ?_
    refine stp (fun _ h => s0 h) ?_
    refine aops_nil ?_
    refine AW.seq ?_
    refine AW.seq ?_
    refine AW.region (cfg := cfg) ?_
    refine stp (fun _ h => sx h) ?_
    refine stp (fun _ h => sl h) ?_
    refine stp (fun _ h => sd h) ?_
    refine stp (fun _ h => s0 h) ?_
    refine aops_nil ?_
    refine AW.block ?_
    refine AW.forN (fun k σ => ∃ s m last, σ = ⟨74, s, m⟩ ∧ s 1 = .lptr (.tmp 1 0) (m.objs (.tmp 1 0)).1 0 ∧ (m.objs (.tmp 1 0)).2 = .box [.v (.sl 3 a.n1 (a.db.map lsaA)), .v (i64 a.up), .v (i64 a.bo), .v (.sl 2 a.n2 (a.ep.map itA))] ∧ s 3 = .v (i64 last) ∧ s 27 = .v (.sl 3 a.n1 (a.db.map lsaA)) ∧ s 28 = .v (i64 (a.db.length : Int)) ∧ s 29 = .v (i64 (k : Int)) ∧ (chn lsaOK Lsa.o 0 a.db = chn lsaOK Lsa.o last (a.db.drop k)) ∧ (∀ i, (m.objs (.res i)).2 = .dead) ∧ m.G = []) (a.db.length) ?_ ?_ ?_
    · refine ⟨_, _, 0, rfl, ?_, ?_, ?_, ?_, ?_, ?_, ?_, (by intro i; simp [Mem.set, hr]), (by exact hG)⟩ <;> try simp (disch := first | omega | decide) only [go_sem, F, aIndex_map]
      all_goals rfl
    · clear F f0 hr hG
      rintro k σ hk ⟨s, m, last, rfl, f1, o1, f3, f27, f28, f29, mo0, hr, hG⟩
      obtain ⟨g1, o1⟩ : ∃ g, m.objs (.tmp 1 0) = (g, .box [.v (.sl 3 a.n1 (a.db.map lsaA)), .v (i64 a.up), .v (i64 a.bo), .v (.sl 2 a.n2 (a.ep.map itA))]) := ⟨_, Prod.ext rfl o1⟩
      rw [o1] at f1
      have F := (And.intro f1 (And.intro f3 (And.intro f27 (And.intro f28 (And.intro f29 (And.intro o1 hG))))))
      refine AW.seq ?_
      refine AW.region (cfg := cfg) ?_
      refine stp (fun _ h => s0 h) ?_
      refine aops_nil ?_
      refine AW.seq ?_
      refine cnd (fun hb => ?ht2) (fun hb => ?hf2)
      case hf2 => (simp at hb; omega)
      case ht2 =>
      have hbt30 := hb
      refine AW.skip ?_
      refine AW.seq ?_
      refine AW.block ?_
      refine AW.seq ?_
      refine AW.region (cfg := cfg) ?_
      refine stp (fun _ h => si h) ?_
      refine stp (fun _ h => sl h) ?_
      refine stp (fun _ h => sd h) ?_
      refine stp0 (fun _ h => ss h) ?_
      refine aops_nil ?_
      refine AW.seq ?_
      refine AW.seq ?_
      have hkl : k < a.db.length := by assumption
      have pk1 := pa a.db[k] (List.getElem_mem hkl)
      refine AW.region (cfg := cfg) ?_
      refine stp (fun _ h => sl h) ?_
      refine stp (fun _ h => cs (w := good_CheckX a.db[k] (by omega)) (x := h)) ?_
      iterate 2 refine stp (fun _ h => s0 h) ?_
      refine mrg wa (fun hc _ h => sx h) ?_
      refine mrg wa (fun hc _ h => sl h) ?_
      iterate 2 refine mrg wa (fun hc _ h => s0 h) ?_
      refine stp (fun _ h => s0 h) ?_
      refine aops_nil ?_
      refine cnd (fun hb => ?ht3) (fun hb => ?hf3)
      case ht3 =>
        have hw41 := hb
        try simp only [bo1, bo2, bo3, bo4, bo5, bo6] at hb
        have hbt41 := hb
        refine AW.seq ?_
        refine AW.region (cfg := cfg) ?_
        refine stp (fun _ h => s0 h) ?_
        refine aops_nil ?_
        refine AW.ret ?_
        refine ⟨.inr rfl, ?_⟩
        refine leaves_tmp1 2 rfl ?_ (by exact hG)
        simp (disch := first | omega | decide) only [go_sem, F, aIndex_map]
        all_goals (rw [db_bad (db_no mo0 hk hbt41)]; done)
      case hf3 =>
        have hw41 := hb
        try simp only [bo1, bo2, bo3, bo4, bo5, bo6] at hb
        have hbt41 := hb
        refine AW.skip ?_
        refine AW.region (cfg := cfg) ?_
        refine stp (fun _ h => sx h) ?_
        refine stp (fun _ h => sl h) ?_
        refine stp (fun _ h => s0 h) ?_
        refine aops_nil ?_
        refine AW.region (cfg := cfg) ?_
        refine stp (fun _ h => sd h) ?_
        refine stp (fun _ h => s0 h) ?_
        refine aops_nil ?_
        refine ⟨_, _, a.db[k].o, rfl, ?_, ?_, ?_, ?_, ?_, ?_, ?_, (by intro i; simp [Mem.set, hr]), (by exact hG)⟩ <;> try simp (disch := first | omega | decide) only [go_sem, F, aIndex_map]
        all_goals first | rfl | exact db_go mo0 hk hbt41
    · clear F f0 hr hG
      rintro σ ⟨s, m, last, rfl, f1, o1, f3, f27, f28, f29, mo0, hr, hG⟩
      obtain ⟨g1, o1⟩ : ∃ g, m.objs (.tmp 1 0) = (g, .box [.v (.sl 3 a.n1 (a.db.map lsaA)), .v (i64 a.up), .v (i64 a.bo), .v (.sl 2 a.n2 (a.ep.map itA))]) := ⟨_, Prod.ext rfl o1⟩
      rw [o1] at f1
      have F := (And.intro f1 (And.intro f3 (And.intro f27 (And.intro f28 (And.intro f29 (And.intro o1 hG))))))
      refine AW.seq ?_
      refine AW.region (cfg := cfg) ?_
      refine stp (fun _ h => s0 h) ?_
      refine aops_nil ?_
      refine AW.seq ?_
      refine cnd (fun hb => ?ht4) (fun hb => ?hf4)
      case ht4 => (simp at hb; done)
      case hf4 =>
      have hbt30 := hb
      refine AW.exit ?_
      refine AW.seq ?_
      refine AW.region (cfg := cfg) ?_
      refine stp (fun _ h => s0 h) ?_
      refine aops_nil ?_
      refine AW.seq ?_
      refine AW.seq ?_
      refine AW.region (cfg := cfg) ?_
      refine stp (fun _ h => sx h) ?_
      refine stp (fun _ h => sl h) ?_
      refine stp (fun _ h => sd h) ?_
      refine stp (fun _ h => s0 h) ?_
      refine aops_nil ?_
      refine AW.block ?_
      refine AW.forN (fun k σ => ∃ s m last, σ = ⟨74, s, m⟩ ∧ s 1 = .lptr (.tmp 1 0) (m.objs (.tmp 1 0)).1 0 ∧ (m.objs (.tmp 1 0)).2 = .box [.v (.sl 3 a.n1 (a.db.map lsaA)), .v (i64 a.up), .v (i64 a.bo), .v (.sl 2 a.n2 (a.ep.map itA))] ∧ s 3 = .v (i64 last) ∧ s 46 = .v (.sl 2 a.n2 (a.ep.map itA)) ∧ s 47 = .v (i64 (a.ep.length : Int)) ∧ s 48 = .v (i64 (k : Int)) ∧ (dbE a.db = 0) ∧ (chn epV It.o 0 a.ep = chn epV It.o last (a.ep.drop k)) ∧ (∀ i, (m.objs (.res i)).2 = .dead) ∧ m.G = []) (a.ep.length) ?_ ?_ ?_
      · refine ⟨_, _, 0, rfl, ?_, ?_, ?_, ?_, ?_, ?_, ?_, ?_, (by intro i; simp [Mem.set, hr]), (by exact hG)⟩ <;> try simp (disch := first | omega | decide) only [go_sem, F, aIndex_map]
        all_goals first | rfl | exact db_end mo0
      · clear F f1 f3 f27 f28 f29 o1 hr hG
        rintro k σ hk ⟨s, m, last, rfl, f1, o1, f3, f46, f47, f48, mo0, mo1, hr, hG⟩
        obtain ⟨g1, o1⟩ : ∃ g, m.objs (.tmp 1 0) = (g, .box [.v (.sl 3 a.n1 (a.db.map lsaA)), .v (i64 a.up), .v (i64 a.bo), .v (.sl 2 a.n2 (a.ep.map itA))]) := ⟨_, Prod.ext rfl o1⟩
        rw [o1] at f1
        have F := (And.intro f1 (And.intro f3 (And.intro f46 (And.intro f47 (And.intro f48 (And.intro o1 hG))))))
        refine AW.seq ?_
        refine AW.region (cfg := cfg) ?_
        refine stp (fun _ h => s0 h) ?_
        refine aops_nil ?_
        refine AW.seq ?_
        refine cnd (fun hb => ?ht5) (fun hb => ?hf5)
        case hf5 => (simp at hb; omega)
        case ht5 =>
        have hbt49 := hb
        refine AW.skip ?_
        refine AW.seq ?_
        refine AW.block ?_
        refine AW.seq ?_
        refine AW.region (cfg := cfg) ?_
        refine stp (fun _ h => si h) ?_
        refine stp (fun _ h => sl h) ?_
        refine stp (fun _ h => sd h) ?_
        refine stp0 (fun _ h => ss h) ?_
        refine aops_nil ?_
        refine AW.seq ?_
        refine AW.seq ?_
        refine AW.region (cfg := cfg) ?_
        refine stp (fun _ h => sx h) ?_
        refine stp (fun _ h => sl h) ?_
        iterate 3 refine stp (fun _ h => s0 h) ?_
        refine mrg wa (fun hc _ h => sx h) ?_
        refine mrg wa (fun hc _ h => sl h) ?_
        refine mrg wa (fun hc _ h => s0 h) ?_
        iterate 2 refine stp (fun _ h => s0 h) ?_
        refine mrg wa (fun hc _ h => sx h) ?_
        refine mrg wa (fun hc _ h => sl h) ?_
        refine mrg wa (fun hc _ h => s0 h) ?_
        iterate 2 refine stp (fun _ h => s0 h) ?_
        refine mrg wa (fun hc _ h => sx h) ?_
        refine mrg wa (fun hc _ h => sl h) ?_
        refine mrg wa (fun hc _ h => s0 h) ?_
        refine stp (fun _ h => s0 h) ?_
        refine aops_nil ?_
        refine cnd (fun hb => ?ht6) (fun hb => ?hf6)
        case ht6 =>
          have hw70 := hb
          try simp only [bo1, bo2, bo3, bo4, bo5, bo6] at hb
          have hbt70 := hb
          refine AW.seq ?_
          refine AW.region (cfg := cfg) ?_
          refine stp (fun _ h => s0 h) ?_
          refine aops_nil ?_
          refine AW.ret ?_
          refine ⟨.inr rfl, ?_⟩
          refine leaves_tmp1 2 rfl ?_ (by exact hG)
          simp (disch := first | omega | decide) only [go_sem, F, aIndex_map]
          all_goals (rw [ep_no mo1 hk hbt70]; done)
        case hf6 =>
          have hw70 := hb
          try simp only [bo1, bo2, bo3, bo4, bo5, bo6] at hb
          have hbt70 := hb
          refine AW.skip ?_
          refine AW.region (cfg := cfg) ?_
          refine stp (fun _ h => sx h) ?_
          refine stp (fun _ h => sl h) ?_
          refine stp (fun _ h => s0 h) ?_
          refine aops_nil ?_
          refine AW.region (cfg := cfg) ?_
          refine stp (fun _ h => sd h) ?_
          refine stp (fun _ h => s0 h) ?_
          refine aops_nil ?_
          refine ⟨_, _, a.ep[k].o, rfl, ?_, ?_, ?_, ?_, ?_, ?_, ?_, ?_, (by intro i; simp [Mem.set, hr]), (by exact hG)⟩ <;> try simp (disch := first | omega | decide) only [go_sem, F, aIndex_map]
          all_goals first | rfl | assumption | exact ep_go mo1 hk hbt70
      · clear F f1 f3 f27 f28 f29 o1 hr hG
        rintro σ ⟨s, m, last, rfl, f1, o1, f3, f46, f47, f48, mo0, mo1, hr, hG⟩
        obtain ⟨g1, o1⟩ : ∃ g, m.objs (.tmp 1 0) = (g, .box [.v (.sl 3 a.n1 (a.db.map lsaA)), .v (i64 a.up), .v (i64 a.bo), .v (.sl 2 a.n2 (a.ep.map itA))]) := ⟨_, Prod.ext rfl o1⟩
        rw [o1] at f1
        have F := (And.intro f1 (And.intro f3 (And.intro f46 (And.intro f47 (And.intro f48 (And.intro o1 hG))))))
        refine AW.seq ?_
        refine AW.region (cfg := cfg) ?_
        refine stp (fun _ h => s0 h) ?_
        refine aops_nil ?_
        refine AW.seq ?_
        refine cnd (fun hb => ?ht7) (fun hb => ?hf7)
        case ht7 => (simp at hb; done)
        case hf7 =>
        have hbt49 := hb
        refine AW.exit ?_
        refine AW.seq ?_
        refine AW.region (cfg := cfg) ?_
        refine stp (fun _ h => s0 h) ?_
        refine aops_nil ?_
        refine AW.ret ?_
        refine ⟨.inr rfl, ?_⟩
        refine leaves_tmp1 2 rfl ?_ (by exact hG)
        simp (disch := first | omega | decide) only [go_sem, F, aIndex_map]
        all_goals (rw [ep_end (nu_yes hbt25) mo0 mo1]; done)
end Go.Vai.BA
namespace Go.Vai.BA
open Go.Proofs Go.Vai Go.Vai.C Go.Vai.D Go.Vai.DB Go.Vai.G Go.Vai.I Go.Vai.L Go.Vai.N Go.Vai.O
set_option linter.unusedSimpArgs false
set_option linter.unusedVariables false
set_option maxHeartbeats 4000000
set_option maxRecDepth 100000
theorem itE_eq {x y : It} (h : (!(decide (x.o = y.o) && decide (x.s = y.s))) = false) : x = y := by
  obtain ⟨_, _⟩ := x
  obtain ⟨_, _⟩ := y
  simpa using h
theorem itE_ne {x y : It} (h : (!(decide (x.o = y.o) && decide (x.s = y.s))) = true) : x ≠ y := by
  rintro rfl
  simp at h
theorem sameS_no {a b : Sta} (h : ((¬ a.up = b.up ∨ ¬ a.bo = b.bo) ∨ (!eqAll lsaEq a.db b.db) = true) ∨ ¬ (a.ep.length : Int) = (b.ep.length : Int)) : sameS a b = false := by
  cases e : sameS a b with
  | false => rfl
  | true =>
    simp only [sameS, Bool.and_eq_true, decide_eq_true_eq] at e
    rcases h with ((h | h) | h) | h
    · exact absurd e.1.1.1 h
    · exact absurd e.1.1.2 h
    · rw [e.1.2] at h; cases h
    · exact absurd (by rw [e.2]) h
theorem sameS_ep {a b : Sta} (h : a.ep ≠ b.ep) : sameS a b = false := by rw [sameS, decide_eq_false h, Bool.and_false]
theorem sameS_yes {a b : Sta} (h : ((a.up = b.up ∧ a.bo = b.bo) ∧ (!eqAll lsaEq a.db b.db) = false) ∧ (a.ep.length : Int) = (b.ep.length : Int)) (h2 : a.ep.take a.ep.length = b.ep.take a.ep.length) : sameS a b = true := by
  rw [List.take_length, List.take_of_length_le (by omega)] at h2
  simp only [sameS, Bool.and_eq_true, decide_eq_true_eq]
  exact ⟨⟨⟨h.1.1.1, h.1.1.2⟩, by simpa using h.1.2⟩, h2⟩
theorem good_refSameB (a : Sta) (ha1 : a.db.length ≤ 1000000) (ha2 : a.ep.length ≤ 1000000) (pa : ∀ x ∈ a.db, fit x) (b : Sta) (hb1 : b.db.length ≤ 1000000) (hb2 : b.ep.length ≤ 1000000) (pb : ∀ x ∈ b.db, fit x) : Good Try.prog 14 [(staA a, false), (staA b, false)] [] [(.b (sameS a b), false)] [] := by
  refine good_of_body2 53 Try.func14 rfl rfl rfl (by simp) ?_
  intro s m ha hr hv hG
  have f0 : s 0 = .v (.agg [.sl 3 a.n1 (a.db.map lsaA), i64 a.up, i64 a.bo, .sl 2 a.n2 (a.ep.map itA)]) := ha 0 _ rfl
  have f1 : s 1 = .v (.agg [.sl 3 b.n1 (b.db.map lsaA), i64 b.up, i64 b.bo, .sl 2 b.n2 (b.ep.map itA)]) := ha 1 _ rfl
  clear ha
  have hc : True := trivial
  have F := (And.intro f0 (And.intro f1 hG))
  refine AW.seq ?_
  refine AW.region (cfg := cfg) ?_
  iterate 2 refine stp (fun _ h => sb h) ?_
  refine stp (fun _ h => s0 h) ?_
  refine aops_nil ?_
  refine AW.seq ?_
  refine AW.seq ?_
  refine AW.region (cfg := cfg) ?_
  refine stp (fun _ h => sx h) ?_
  refine stp (fun _ h => sl h) ?_
  refine stp (fun _ h => sx h) ?_
  refine stp (fun _ h => sl h) ?_
  iterate 2 refine stp (fun _ h => s0 h) ?_
  refine mrg wa (fun hc _ h => sx h) ?_
  refine mrg wa (fun hc _ h => sl h) ?_
  refine mrg wa (fun hc _ h => sx h) ?_
  refine mrg wa (fun hc _ h => sl h) ?_
  refine mrg wa (fun hc _ h => s0 h) ?_
  iterate 2 refine stp (fun _ h => s0 h) ?_
  refine mrg wa (fun hc _ h => sx h) ?_
  refine mrg wa (fun hc _ h => sl h) ?_
  refine mrg wa (fun hc _ h => sx h) ?_
  refine mrg wa (fun hc _ h => sl h) ?_
  refine mrg wa (fun hc _ h => cs (w := good_refAllDb a.n1 b.n1 a.db b.db (by omega) (by omega) pa pb) (x := h)) ?_
  refine mrg wa (fun hc _ h => s0 h) ?_
  iterate 2 refine stp (fun _ h => s0 h) ?_
  refine mrg wa (fun hc _ h => sx h) ?_
  refine mrg wa (fun hc _ h => sl h) ?_
  refine mrg wa (fun hc _ h => sd h) ?_
  refine mrg wa (fun hc _ h => sx h) ?_
  refine mrg wa (fun hc _ h => sl h) ?_
  refine mrg wa (fun hc _ h => sd h) ?_
  refine mrg wa (fun hc _ h => s0 h) ?_
  refine stp (fun _ h => s0 h) ?_
  refine aops_nil ?_
  refine cnd (fun hb => ?ht1) (fun hb => ?hf1)
  case ht1 =>
    have hw34 := hb
    try simp only [bo1, bo2, bo3, bo4, bo5, bo6] at hb
    have hbt34 := hb
    refine AW.seq ?_
    refine AW.region (cfg := cfg) ?_
    refine stp (fun _ h => s0 h) ?_
    refine aops_nil ?_
    refine AW.ret ?_
    refine ⟨.inr rfl, ?_⟩
    refine leaves_tmp1 4 rfl ?_ (by exact hG)
    simp (disch := first | omega | decide) only [go_sem, F, aIndex_map]
    all_goals (rw [sameS_no (by simpa using hbt34)]; done)
  case hf1 =>
    have hw34 := hb
    try simp only [bo1, bo2, bo3, bo4, bo5, bo6] at hb
    have hbt34 := hb
    refine AW.skip ?_
    refine AW.seq ?_
    refine AW.seq ?_
    refine AW.region (cfg := cfg) ?_
    refine stp (fun _ h => s0 h) ?_
    refine aops_nil ?_
    refine AW.block ?_
    refine AW.forN (fun k σ => ∃ s m, σ = ⟨53, s, m⟩ ∧ s 2 = .lptr (.tmp 2 0) (m.objs (.tmp 2 0)).1 0 ∧ (m.objs (.tmp 2 0)).2 = .box [.v (.sl 3 a.n1 (a.db.map lsaA)), .v (i64 a.up), .v (i64 a.bo), .v (.sl 2 a.n2 (a.ep.map itA))] ∧ s 3 = .lptr (.tmp 3 0) (m.objs (.tmp 3 0)).1 0 ∧ (m.objs (.tmp 3 0)).2 = .box [.v (.sl 3 b.n1 (b.db.map lsaA)), .v (i64 b.up), .v (i64 b.bo), .v (.sl 2 b.n2 (b.ep.map itA))] ∧ s 5 = .v (i64 (k : Int)) ∧ (((a.up = b.up ∧ a.bo = b.bo) ∧ (!eqAll lsaEq a.db b.db) = false) ∧ (a.ep.length : Int) = (b.ep.length : Int)) ∧ (a.ep.take k = b.ep.take k) ∧ (∀ i, (m.objs (.res i)).2 = .dead) ∧ m.G = []) (a.ep.length) ?_ ?_ ?_
    · refine ⟨_, _, rfl, ?_, ?_, ?_, ?_, ?_, ?_, ?_, (by intro i; simp [Mem.set, hr]), (by exact hG)⟩ <;> try simp (disch := first | omega | decide) only [go_sem, F, aIndex_map]
      all_goals first | rfl | (simpa using hbt34)
    · clear F f0 f1 hr hG
      rintro k σ hk ⟨s, m, rfl, f2, o2, f3, o3, f5, mo0, mo1, hr, hG⟩
      obtain ⟨g2, o2⟩ : ∃ g, m.objs (.tmp 2 0) = (g, .box [.v (.sl 3 a.n1 (a.db.map lsaA)), .v (i64 a.up), .v (i64 a.bo), .v (.sl 2 a.n2 (a.ep.map itA))]) := ⟨_, Prod.ext rfl o2⟩
      rw [o2] at f2
      obtain ⟨g3, o3⟩ : ∃ g, m.objs (.tmp 3 0) = (g, .box [.v (.sl 3 b.n1 (b.db.map lsaA)), .v (i64 b.up), .v (i64 b.bo), .v (.sl 2 b.n2 (b.ep.map itA))]) := ⟨_, Prod.ext rfl o3⟩
      rw [o3] at f3
      have F := (And.intro f2 (And.intro f3 (And.intro f5 (And.intro o2 (And.intro o3 hG)))))
      refine AW.seq ?_
      refine AW.seq ?_
      refine AW.region (cfg := cfg) ?_
      refine stp (fun _ h => s0 h) ?_
      refine stp (fun _ h => sx h) ?_
      refine stp (fun _ h => sl h) ?_
      refine stp (fun _ h => sd h) ?_
      refine stp (fun _ h => s0 h) ?_
      refine aops_nil ?_
      refine cnd (fun hb => ?ht2) (fun hb => ?hf2)
      case hf2 => (simp at hb; omega)
      case ht2 =>
      have hbt39 := hb
      refine AW.skip ?_
      refine AW.seq ?_
      refine AW.block ?_
      refine AW.seq ?_
      have hka : k < a.ep.length := by assumption
      have hkb : k < b.ep.length := by omega
      refine AW.draw (cfg := cfg) (by kernel_rfl) (by kernel_rfl) (by kernel_rfl) ?_
      refine dstp (fun _ h => sx h) ?_
      refine dstp (fun _ h => sl h) ?_
      refine dstp (fun _ h => s0 h) ?_
      refine dstp (fun _ h => si h) ?_
      refine dstp (fun _ h => sl h) ?_
      refine dstp (fun _ h => sx h) ?_
      refine dstp (fun _ h => sl h) ?_
      refine dstp (fun _ h => s0 h) ?_
      refine dstp (fun _ h => si h) ?_
      refine dstp (fun _ h => sl h) ?_
      refine dstp (fun _ h => s0 h) ?_
      refine adraw_nil (by kernel_rfl) ?_
      refine cnd (fun hb => ?ht3) (fun hb => ?hf3)
      case ht3 =>
        have hw52 := hb
        try simp only [bo1, bo2, bo3, bo4, bo5, bo6] at hb
        have hbt52 := hb
        refine AW.seq ?_
        refine AW.region (cfg := cfg) ?_
        refine stp (fun _ h => s0 h) ?_
        refine aops_nil ?_
        refine AW.ret ?_
        refine ⟨.inr rfl, ?_⟩
        refine leaves_tmp1 4 rfl ?_ (by exact hG)
        simp (disch := first | omega | decide) only [go_sem, F, aIndex_map]
        all_goals (rw [sameS_ep (fun e => itE_ne (by exact hb) (by simp [e]))]; done)
      case hf3 =>
        have hw52 := hb
        try simp only [bo1, bo2, bo3, bo4, bo5, bo6] at hb
        have hbt52 := hb
        refine AW.skip ?_
        refine AW.region (cfg := cfg) ?_
        refine stp (fun _ h => s0 h) ?_
        refine stp (fun _ h => sd h) ?_
        refine stp (fun _ h => s0 h) ?_
        refine aops_nil ?_
        refine ⟨_, _, rfl, ?_, ?_, ?_, ?_, ?_, ?_, ?_, (by intro i; simp [Mem.set, hr]), (by exact hG)⟩ <;> try simp (disch := first | omega | decide) only [go_sem, F, aIndex_map]
        all_goals first | rfl | assumption | exact take_eq hk (by omega) mo1 (itE_eq (by exact hb))
    · clear F f0 f1 hr hG
      rintro σ ⟨s, m, rfl, f2, o2, f3, o3, f5, mo0, mo1, hr, hG⟩
      obtain ⟨g2, o2⟩ : ∃ g, m.objs (.tmp 2 0) = (g, .box [.v (.sl 3 a.n1 (a.db.map lsaA)), .v (i64 a.up), .v (i64 a.bo), .v (.sl 2 a.n2 (a.ep.map itA))]) := ⟨_, Prod.ext rfl o2⟩
      rw [o2] at f2
      obtain ⟨g3, o3⟩ : ∃ g, m.objs (.tmp 3 0) = (g, .box [.v (.sl 3 b.n1 (b.db.map lsaA)), .v (i64 b.up), .v (i64 b.bo), .v (.sl 2 b.n2 (b.ep.map itA))]) := ⟨_, Prod.ext rfl o3⟩
      rw [o3] at f3
      have F := (And.intro f2 (And.intro f3 (And.intro f5 (And.intro o2 (And.intro o3 hG)))))
      refine AW.seq ?_
      refine AW.seq ?_
      refine AW.region (cfg := cfg) ?_
      refine stp (fun _ h => s0 h) ?_
      refine stp (fun _ h => sx h) ?_
      refine stp (fun _ h => sl h) ?_
      refine stp (fun _ h => sd h) ?_
      refine stp (fun _ h => s0 h) ?_
      refine aops_nil ?_
      refine cnd (fun hb => ?ht4) (fun hb => ?hf4)
      case ht4 => (simp at hb; done)
      case hf4 =>
      have hbt39 := hb
      refine AW.exit ?_
      refine AW.seq ?_
      refine AW.region (cfg := cfg) ?_
      refine stp (fun _ h => s0 h) ?_
      refine aops_nil ?_
      refine AW.ret ?_
      refine ⟨.inr rfl, ?_⟩
      refine leaves_tmp1 4 rfl ?_ (by exact hG)
      simp (disch := first | omega | decide) only [go_sem, F, aIndex_map]
      all_goals (rw [sameS_yes mo0 mo1]; done)
end Go.Vai.BA
namespace Go.Vai.BA
open Go.Proofs Go.Vai Go.Vai.C Go.Vai.D Go.Vai.DB Go.Vai.G Go.Vai.I Go.Vai.L Go.Vai.N Go.Vai.O
set_option linter.unusedSimpArgs false
set_option linter.unusedVariables false
set_option maxHeartbeats 4000000
set_option maxRecDepth 100000
theorem good_CloneIt (nil : Bool) (l : List It) (hl : l.length ≤ 8796093022208) (hz : nil = true → l = []) : Good Try.prog 48 [(.sl 2 nil (l.map itA), false)] [] [(.sl 2 nil (l.map itA), true)] [] := by
  refine good_of_body3 8 Try.func48 rfl rfl rfl (by simp) ?_
  intro s m ha hr hv hG
  have f0 : s 0 = .v (.sl 2 nil (l.map itA)) := ha 0 _ rfl
  clear ha
  have hc : True := trivial
  have F := (And.intro f0 hG)
  refine AW.seq ?_
  refine AW.region (cfg := cfg) ?_
  refine stp (fun _ h => s0 h) ?_
  refine aops_nil ?_
  refine AW.seq ?_
  refine AW.seq ?_
  refine AW.region (cfg := cfg) ?_
  iterate 2 refine stp (fun _ h => s0 h) ?_
  refine aops_nil ?_
  refine cnd (fun hb => ?ht1) (fun hb => ?hf1)
  case ht1 =>
    have hw4 := hb
    try simp only [bo1, bo2, bo3, bo4, bo5, bo6] at hb
    have hbt4 := hb
    refine AW.seq ?_
    refine AW.region (cfg := cfg) ?_
    refine stp (fun _ h => s0 h) ?_
    refine aops_nil ?_
    refine AW.ret ?_
    refine ⟨.inr rfl, ?_⟩
    (obtain rfl : nil = true := (by simpa using hb); obtain rfl := hz rfl; refine ⟨_, nilEq_nil (nilEq_refl _), leaves_own1 2 rfl (by simp (disch := first | omega | decide) only [go_sem, F, aIndex_map] <;> rfl) (by simp (disch := first | omega | decide) only [go_sem, F, aIndex_map] <;> rfl) (by decide) (by simp [sub, List.take_of_length_le]) (by exact hG)⟩)
  case hf1 =>
    have hw4 := hb
    try simp only [bo1, bo2, bo3, bo4, bo5, bo6] at hb
    have hbt4 := hb
    refine AW.skip ?_
    refine AW.seq ?_
    refine AW.region (cfg := cfg) ?_
    refine stp (fun _ h => sq h) ?_
    refine stp (fun _ h => s0 h) ?_
    refine stp (fun _ h => sp h) ?_
    refine stp (fun _ h => st h) ?_
    refine aops_nil ?_
    refine AW.ret ?_
    refine ⟨.inr rfl, ?_⟩
    (obtain rfl : nil = false := (by simpa using hb); refine leavesN (leaves_own1 2 rfl (by simp (disch := first | omega | decide) only [go_sem, F, aIndex_map] <;> rfl) (by simp (disch := first | omega | decide) only [go_sem, F, aIndex_map] <;> rfl) (by decide) (by simp [sub, List.take_of_length_le]) (by exact hG)))
end Go.Vai.BA
namespace Go.Vai.BA
open Go.Proofs Go.Vai Go.Vai.C Go.Vai.D Go.Vai.DB Go.Vai.G Go.Vai.I Go.Vai.L Go.Vai.N Go.Vai.O
set_option linter.unusedSimpArgs false
set_option linter.unusedVariables false
set_option maxHeartbeats 4000000
set_option maxRecDepth 100000
/-- The caller's state, written anew. -/
def wr (b g g0 g3 : Nat) (a : Sta) (m : Mem) : Mem := ((m.set (.cell b 0) (g0, .arr a.n1 3 (a.db.map lsaA))).set (.cell b 3) (g3, .arr a.n2 2 (a.ep.map itA))).set (.tmp b 0) (g, .box [.own (.cell b 0) g0 0 a.db.length, .v (i64 a.up), .v (i64 a.bo), .own (.cell b 3) g3 0 a.ep.length])
structure HasS (b g g0 g3 : Nat) (a : Sta) (m : Mem) : Prop where
  bx : m.objs (.tmp b 0) = (g, .box [.own (.cell b 0) g0 0 a.db.length, .v (i64 a.up), .v (i64 a.bo), .own (.cell b 3) g3 0 a.ep.length])
  r0 : m.objs (.cell b 0) = (g0, .arr a.n1 3 (a.db.map lsaA))
  r3 : m.objs (.cell b 3) = (g3, .arr a.n2 2 (a.ep.map itA))
theorem wr_G {b g g0 g3 : Nat} {a : Sta} {m : Mem} : (wr b g g0 g3 a m).G = m.G := rfl
theorem wr_has {b g g0 g3 : Nat} {a : Sta} {m : Mem} : HasS b g g0 g3 a (wr b g g0 g3 a m) := ⟨by simp [wr, mset_if], by simp [wr, mset_if], by simp [wr, mset_if]⟩
theorem up_wr {b g g0 g3 : Nat} {a : Sta} {m m1 m2 : Mem} (hu : UpMem m m1) (h : HasS (b + 1000) g g0 g3 a m2) (h4 : ∀ n : Nm, n ≠ .tmp b 0 → n ≠ .cell b 0 → n ≠ .cell b 3 → m2.objs n.up = m1.objs n.up) : ∀ n : Nm, m2.objs n.up = upO ((wr b g g0 g3 a m).objs n) := fun n => by
  simp only [wr, mset_if]
  split
  · rename_i e; subst e; exact h.bx
  · split
    · rename_i e; subst e; exact h.r3
    · split
      · rename_i e; subst e; exact h.r0
      · rw [h4 n (by assumption) (by assumption) (by assumption), hu.up]
theorem wr_other {b g g0 g3 : Nat} {a : Sta} {m : Mem} {n : Nm} (h1 : n ≠ .tmp b 0) (h2 : n ≠ .cell b 0) (h3 : n ≠ .cell b 3) : (wr b g g0 g3 a m).objs n = m.objs n := by
  simp only [wr, mset_if]
  rw [if_neg h1, if_neg h3, if_neg h2]
theorem good_cmpPutB (x : Lsa) (t : Int) : Good Try.prog 69 [(lsaA x, false), (i64 t, false)] [] [(i64 (cmpI (Lsa.o x) t), false)] [] := by
  refine good_of_body2 9 Try.func69 rfl rfl rfl (by simp) ?_
  intro s m ha hr hv hG
  have f0 : s 0 = .v (.agg [i64 x.o, i64 x.s, .sl 2 x.nil (x.ls.map linkA)]) := ha 0 _ rfl
  have f1 : s 1 = .v (i64 t) := ha 1 _ rfl
  clear ha
  have hc : True := trivial
  have F := (And.intro f0 (And.intro f1 hG))
  refine AW.seq ?_
  refine AW.region (cfg := cfg) ?_
  refine stp (fun _ h => sb h) ?_
  refine stp (fun _ h => s0 h) ?_
  refine aops_nil ?_
  refine AW.seq ?_
  refine AW.region (cfg := cfg) ?_
  refine stp (fun _ h => sx h) ?_
  refine stp (fun _ h => sl h) ?_
  refine stp (fun _ h => s0 h) ?_
  refine stp (fun _ h => cs (w := good_cmpInt (Lsa.o x) t) (x := h)) ?_
  refine stp (fun _ h => s0 h) ?_
  refine aops_nil ?_
  refine AW.ret ?_
  refine ⟨.inr rfl, ?_⟩
  refine leaves_tmp1 4 rfl ?_ (by exact hG)
  simp (disch := first | omega | decide) only [go_sem, F, aIndex_map]
  all_goals first | done | rfl | trace_state
theorem good_cmpEpB (x : It) (t : Int) : Good Try.prog 74 [(itA x, false), (i64 t, false)] [] [(i64 (cmpI (It.o x) t), false)] [] := by
  refine good_of_body2 9 Try.func74 rfl rfl rfl (by simp) ?_
  intro s m ha hr hv hG
  have f0 : s 0 = .v (.agg [i64 x.o, i64 x.s]) := ha 0 _ rfl
  have f1 : s 1 = .v (i64 t) := ha 1 _ rfl
  clear ha
  have hc : True := trivial
  have F := (And.intro f0 (And.intro f1 hG))
  refine AW.seq ?_
  refine AW.region (cfg := cfg) ?_
  refine stp (fun _ h => sb h) ?_
  refine stp (fun _ h => s0 h) ?_
  refine aops_nil ?_
  refine AW.seq ?_
  refine AW.region (cfg := cfg) ?_
  refine stp (fun _ h => sx h) ?_
  refine stp (fun _ h => sl h) ?_
  refine stp (fun _ h => s0 h) ?_
  refine stp (fun _ h => cs (w := good_cmpInt (It.o x) t) (x := h)) ?_
  refine stp (fun _ h => s0 h) ?_
  refine aops_nil ?_
  refine AW.ret ?_
  refine ⟨.inr rfl, ?_⟩
  refine leaves_tmp1 4 rfl ?_ (by exact hG)
  simp (disch := first | omega | decide) only [go_sem, F, aIndex_map]
  all_goals first | done | rfl | trace_state
theorem good_BSearchIt (nil : Bool) (l : List It) (t : Int) (f : FuncId) (hl : l.length ≤ 1000000) (hs : Rise It.o l) (hpu : cfg.pure f = true) (hsc : cfg.scalar f = true) (hxf : cfg.xfer f = false) (hp : ∀ x, Good Try.prog f [(itA x, false), (i64 t, false)] [] [(i64 (cmpI (It.o x) t), false)] []) : Good Try.prog 73 [(.sl 2 nil (l.map itA), false), (i64 t, false), (.clo f [], false)] [] [(i64 (posK It.o l t : Nat), false), (.b (isK It.o l t), false)] [] := by
  refine good_of_body2 49 Try.func73 rfl rfl rfl (by simp) ?_
  intro s m ha hr hv hG
  have f0 : s 0 = .v (.sl 2 nil (l.map itA)) := ha 0 _ rfl
  have f1 : s 1 = .v (i64 t) := ha 1 _ rfl
  have f2 : s 2 = .v (.clo f []) := ha 2 _ rfl
  clear ha
  have hc : True := trivial
  have F := (And.intro f0 (And.intro f1 (And.intro f2 hG)))
  obtain ⟨N, hlt, hge⟩ := bs_end It.o l t
  refine AW.seq ?_
  refine AW.region (cfg := cfg) ?_
  iterate 2 refine stp (fun _ h => s0 h) ?_
  refine aops_nil ?_
  refine AW.seq ?_
  refine AW.region (cfg := cfg) ?_
  refine stp (fun _ h => s0 h) ?_
  refine stp (fun _ h => sd h) ?_
  refine stp (fun _ h => s0 h) ?_
  refine aops_nil ?_
  refine AW.seq ?_
  refine AW.region (cfg := cfg) ?_
  iterate 3 refine stp (fun _ h => s0 h) ?_
  refine aops_nil ?_
  refine AW.seq ?_
  refine AW.block ?_
  refine AW.forN (fun k σ => ∃ s m, σ = ⟨49, s, m⟩ ∧ s 0 = .v (.sl 2 nil (l.map itA)) ∧ s 1 = .v (i64 t) ∧ s 2 = .v (.clo f []) ∧ s 8 = .v (i64 (l.length : Int)) ∧ s 9 = .v (i64 ((bsS It.o l t k).1 : Int)) ∧ s 10 = .v (i64 ((bsS It.o l t k).2 : Int)) ∧ (∀ i, (m.objs (.res i)).2 = .dead) ∧ m.G = []) (N) ?_ ?_ ?_
  · refine ⟨_, _, rfl, ?_, ?_, ?_, ?_, ?_, ?_, (by intro i; simp [Mem.set, hr]), (by exact hG)⟩ <;> try simp (disch := first | omega | decide) only [go_sem, F, aIndex_map]
    all_goals rfl
  · clear F f0 f1 f2 hr hG
    rintro k σ hk ⟨s, m, rfl, f0, f1, f2, f8, f9, f10, hr, hG⟩
    have F := (And.intro f0 (And.intro f1 (And.intro f2 (And.intro f8 (And.intro f9 (And.intro f10 hG))))))
    refine AW.seq ?_
    refine AW.seq ?_
    refine AW.region (cfg := cfg) ?_
    iterate 3 refine stp (fun _ h => s0 h) ?_
    refine aops_nil ?_
    refine cnd (fun hb => ?ht1) (fun hb => ?hf1)
    case hf1 => (have hb1 := of_decide_eq_false hb; have hlt2 := hlt _ hk; omega)
    case ht1 =>
    have hbt17 := hb
    refine AW.skip ?_
    refine AW.block ?_
    refine AW.seq ?_
    have hbl := bs_le It.o l t k
    have hlt2 := hlt k hk
    have hmid : IntKind.i64.wrap ((((bsS It.o l t k).1 : Int) + ((bsS It.o l t k).2 : Int)) / 2 ^ Int.toNat 1) = ((bsM (bsS It.o l t k) : Nat) : Int) := bs_mid (by omega)
    have F := And.intro hmid F
    refine AW.region (cfg := cfg) ?_
    iterate 2 refine stp (fun _ h => s0 h) ?_
    iterate 4 refine stp (fun _ h => sd h) ?_
    refine stp (fun _ h => s0 h) ?_
    refine aops_nil ?_
    refine AW.seq ?_
    have hbl := bs_le It.o l t k
    have hlt2 := hlt k hk
    have hmd : bsM (bsS It.o l t k) < l.length := by simp only [bsM]; omega
    refine AW.region (cfg := cfg) ?_
    iterate 3 refine stp (fun _ h => s0 h) ?_
    refine stp (fun _ h => si h) ?_
    refine stp (fun _ h => sl h) ?_
    refine stp (fun _ h => s0 h) ?_
    apply aops_step (by decide) rfl
    · intro K hK
      simp (disch := first | omega | decide) only [go_sem, F, aIndex_map, act_callv, List.map]
      apply mwp_call_sc hpu hxf hsc
      · intro Q hQ
        simp (disch := first | omega | decide) only [go_sem, F, aIndex_map, peekL, reifyL_nil, reifyL_cons, reify_v]
        exact hQ
      · exact hp _
      · simp [noPtrL, noPtr, itA]
      · rfl
      · exact hK _
    refine stp (fun _ h => s0 h) ?_
    refine aops_nil ?_
    refine cnd (fun hb => ?ht2) (fun hb => ?hf2)
    case ht2 =>
      have hw31 := hb
      try simp only [bo1, bo2, bo3, bo4, bo5, bo6] at hb
      have hbt31 := hb
      refine AW.region (cfg := cfg) ?_
      refine stp (fun _ h => s0 h) ?_
      refine stp (fun _ h => sd h) ?_
      refine stp (fun _ h => s0 h) ?_
      refine aops_nil ?_
      refine ⟨_, _, rfl, ?_, ?_, ?_, ?_, ?_, ?_, (by intro i; simp [Mem.set, hr]), (by exact hG)⟩ <;> try simp (disch := first | omega | decide) only [go_sem, F, aIndex_map]
      all_goals first | (rw [bs_yes hlt2 (bs_at1 hmd hb)]; done) | (rw [bs_yes hlt2 (bs_at1 hmd hb)]; rfl)
    case hf2 =>
      have hw31 := hb
      try simp only [bo1, bo2, bo3, bo4, bo5, bo6] at hb
      have hbt31 := hb
      refine AW.region (cfg := cfg) ?_
      iterate 2 refine stp (fun _ h => s0 h) ?_
      refine aops_nil ?_
      refine ⟨_, _, rfl, ?_, ?_, ?_, ?_, ?_, ?_, (by intro i; simp [Mem.set, hr]), (by exact hG)⟩ <;> try simp (disch := first | omega | decide) only [go_sem, F, aIndex_map]
      all_goals first | (rw [bs_no hlt2 (bs_at2 hmd hb)]; done) | (rw [bs_no hlt2 (bs_at2 hmd hb)]; rfl)
  · clear F f0 f1 f2 hr hG
    rintro σ ⟨s, m, rfl, f0, f1, f2, f8, f9, f10, hr, hG⟩
    have F := (And.intro f0 (And.intro f1 (And.intro f2 (And.intro f8 (And.intro f9 (And.intro f10 hG))))))
    refine AW.seq ?_
    refine AW.seq ?_
    refine AW.region (cfg := cfg) ?_
    iterate 3 refine stp (fun _ h => s0 h) ?_
    refine aops_nil ?_
    refine cnd (fun hb => ?ht3) (fun hb => ?hf3)
    case ht3 => (simp at hb; omega)
    case hf3 =>
    have hbt17 := hb
    refine AW.exit ?_
    refine AW.seq ?_
    rw [bs_pos hs hge] at f9
    have F := (And.intro f0 (And.intro f1 (And.intro f2 (And.intro f8 (And.intro f9 (And.intro f10 hG))))))
    by_cases hsp : ((posK It.o l t : Nat) : Int) < (l.length : Int)
    · have hd := decide_eq_true hsp
      have hpl : posK It.o l t < l.length := by omega
      have F := And.intro hd F
      refine AW.region (cfg := cfg) ?_
      iterate 8 refine stp (fun _ h => s0 h) ?_
      refine stp (fun _ h => si h) ?_
      refine stp (fun _ h => sl h) ?_
      refine stp (fun _ h => s0 h) ?_
      apply aops_step (by decide) rfl
      · intro K hK
        simp (disch := first | omega | decide) only [go_sem, F, aIndex_map, act_callv, List.map]
        apply mwp_call_sc hpu hxf hsc
        · intro Q hQ
          simp (disch := first | omega | decide) only [go_sem, F, aIndex_map, peekL, reifyL_nil, reifyL_cons, reify_v]
          exact hQ
        · exact hp _
        · simp [noPtrL, noPtr, itA]
        · rfl
        · exact hK _
      iterate 4 refine stp (fun _ h => s0 h) ?_
      refine aops_nil ?_
      refine AW.ret ?_
      refine ⟨.inr rfl, ?_⟩
      refine leaves_mwp2 (rs := [.tmp 6, .tmp 7]) rfl ?_
      simp (config := {failIfUnchanged := false}) [giveL, srcOne, rehome, freezeN, sub, upd, opn, aLoad, loadL, giveOne, reify, reifyL, readL, readOne, Mwp, M.bind, Mem.set, setAt, cellsL, hG, f0, f1, f2, f8, f9, f10, hd]
      all_goals (rw [isK_in2 hs hpl]; done)
    · have hd := decide_eq_false hsp
      have hpl : ¬ posK It.o l t < l.length := by omega
      have F := And.intro hd F
      refine AW.region (cfg := cfg) ?_
      iterate 5 refine stp (fun _ h => s0 h) ?_
      iterate 8 refine skp ?_
      iterate 3 refine stp (fun _ h => s0 h) ?_
      refine aops_nil ?_
      refine AW.ret ?_
      refine ⟨.inr rfl, ?_⟩
      refine leaves_mwp2 (rs := [.tmp 6, .tmp 7]) rfl ?_
      simp (config := {failIfUnchanged := false}) [giveL, srcOne, rehome, freezeN, sub, upd, opn, aLoad, loadL, giveOne, reify, reifyL, readL, readOne, Mwp, M.bind, Mem.set, setAt, cellsL, hG, f0, f1, f2, f8, f9, f10, hd]
      all_goals (rw [isK_out hs hpl]; done)
end Go.Vai.BA
namespace Go.Vai.BA
open Go.Proofs Go.Vai Go.Vai.C Go.Vai.D Go.Vai.DB Go.Vai.G Go.Vai.I Go.Vai.L Go.Vai.N Go.Vai.O
set_option linter.unusedSimpArgs false
set_option linter.unusedVariables false
set_option maxHeartbeats 4000000
set_option maxRecDepth 100000
theorem InsIt_shift (inf : TypeInfo) (hi0 : Try.prog.info? 61 = some inf) (hsz : inf.size = 2) (b n c i vc : Nat) (ad : Addr) (cs : Array Value) (tb : TypeId) (ca0 : Array Value) (ta : TypeId) (fa : Nat × Nat) (vs : List Value) (w : World) (hi : i < n) (hroom : n + 1 ≤ c) (hc63 : c ≤ 9223372036854775807)
    (hb : w.heap[b]? = some (.cells cs tb (0, 0))) (hcs : c * 2 ≤ cs.size) (hne : ad.block ≠ b) (ha : w.heap[ad.block]? = some (.cells ca0 ta fa)) (hka : ca0.size ≠ 0)
    (hvl : vs.length = 2) (hvs : ∀ j v, vs[j]? = some v → w.cell? (ad.add j) = some v) (h1c : ∀ v ∈ cs.toList.take (n * 2), v.oneCell' = true) (h1v : ∀ v ∈ vs, v.oneCell' = true) :
    Calls Try.prog 75 #[.slice (some ⟨b, 0, none⟩) n c, .int .i64 i, .slice (some ad) 1 vc] w fun e w' =>
      e = .returned (.slice (some ⟨b, 0, none⟩) (n + 1) c) ∧ w' = (w.drew.setRow b (spl cs ((i + 1) * 2) ((cs.toList.take (n * 2)).drop (i * 2)))).setRow b (spl (spl cs ((i + 1) * 2) ((cs.toList.take (n * 2)).drop (i * 2))) (i * 2) vs) := by
  have tS := un23
  have uS' := run_underlying (P := Try.prog) un23
  have t3 : Try.prog.underlying 3 = some (.int .i64) := by kernel_rfl
  have u3' := run_underlying (P := Try.prog) t3
  have zE : ∀ w, (Go.sizeOf 61).run Try.prog w = .ok 2 w := fun w => by rw [run_sizeOf hi0, hsz]
  have hz2 : ¬ ((i : Int) = (n : Int)) := by omega
  have hov : ∀ lb cb, (callFunc 79 #[.slice (some ad) 1 vc, .slice (some ⟨b, (i + 1) * 2, none⟩) lb cb]).run Try.prog w = .ok (.value (.bool false)) w := fun lb cb => by
    rw [run_callFunc_extern Try.func79 (by kernel_rfl) (by kernel_rfl) (by kernel_rfl) (e := Extern.SlicesOverlaps.overlaps #[23, 23] #[4]) (by kernel_rfl),
      run_overlaps_own tS hi0 hne ha hb (by omega) hka]
    rfl
  obtain ⟨mv, hmv⟩ : ∃ mv, mv = (cs.toList.take (n * 2)).drop (i * 2) := ⟨_, rfl⟩
  rw [← hmv]
  have hml : mv.length = (n - i) * inf.size := by rw [hmv, hsz]; simp; omega
  have hcp1 : ∀ ty dc sc, (Builtin.copy_ #[23, 23] ty #[.slice (some ⟨b, (i + 1) * 2, none⟩) (n - i) dc, .slice (some ⟨b, i * 2, none⟩) (n + 1 - i) sc]).run Try.prog w.drew = .ok (goInt (n - i : Nat)) (w.drew.setRow b (spl cs ((i + 1) * 2) mv)) := fun ty dc sc =>
    run_copy_k w.drew 23 23 ty 61 inf mv tS hi0 (n - i) (by simp only [Nat.min_def]; split <;> omega) hml
      (fun j v hj => by
        rw [add_off]
        show w.cell? _ = _
        simp only [World.cell?, hb]
        rw [hmv, List.getElem?_drop, List.getElem?_take] at hj
        split at hj
        · simpa using hj
        · cases hj) hb (by rw [hml, hsz]; omega) (fun v hv => h1c v (by rw [hmv] at hv; exact List.mem_of_mem_drop hv))
  obtain ⟨cs1, hcs1⟩ : ∃ cs1, cs1 = spl cs ((i + 1) * 2) mv := ⟨_, rfl⟩
  rw [← hcs1] at hcp1 ⊢
  have hb1 : (w.drew.setRow b cs1).heap[b]? = some (.cells cs1 tb (0, 0)) := setRow_heap w.drew b cs cs1 tb (0, 0) hb
  have hs1 : cs1.size = cs.size := by rw [hcs1]; exact spl_size (by rw [hml, hsz]; omega)
  have hcp2 : ∀ ty dc, (Builtin.copy_ #[23, 23] ty #[.slice (some ⟨b, i * 2, none⟩) (n + 1 - i) dc, .slice (some ad) 1 vc]).run Try.prog (w.drew.setRow b cs1) = .ok (goInt (1 : Nat)) ((w.drew.setRow b cs1).setRow b (spl cs1 (i * 2) vs)) := fun ty dc =>
    run_copy_k _ 23 23 ty 61 inf vs tS hi0 1 (by simp only [Nat.min_def]; split <;> omega) (by rw [hvl, hsz])
      (fun j v hj => by
        have e : (ad.add j).block ≠ b := by rw [add_block]; exact hne
        rw [cell_setRow_other _ _ _ _ e]
        exact hvs j v hj) hb1 (by rw [hvl, hs1]; omega) h1v
  have hw1 : IntKind.i64.wrap ((i : Int) + 1) = (i : Int) + 1 := by rw [IntKind.wrap_i64]; omega
  have hw2 : (0 : Int) ≤ (i : Int) + 1 := by omega
  have hw3 : (i : Int) + 1 ≤ (n : Int) + 1 := by omega
  have hw4 : (i : Int) ≤ (n : Int) + 1 := by omega
  have htn : ((i : Int) + 1).toNat = i + 1 := by omega
  have hin : i ≤ n := by omega
  have hb4 : ¬ (c = i) := by omega
  have hb2 : ¬ (c = i + 1) := by omega
  have hb5 : n + 1 - (i + 1) = n - i := by omega
  have mixed : Try.prog.follows .mixedOrders = true := by kernel_rfl
  clear hcs1 hmv hs1 hml
  go_enter Try.func75, Try.ntmps75
  go_wp2_with (simp only [hov])
  go_region_law_o (refine step_copy_runI rfl _ _ 23 23 rfl _ _ (by simp [Act.eval, Act.put]) (by simp [Act.eval, Act.put]) (hcp1 _ _ _) ?_)
  go_wp2_with (at_builtin; refine wpList_copy_runI _ rfl _ _ 23 23 rfl _ _ rfl rfl (hcp2 _ _) ?_)
  go_ret
  exact ⟨rfl, rfl⟩
theorem InsIt_end0 (inf : TypeInfo) (hi0 : Try.prog.info? 61 = some inf) (hsz : inf.size = 2) (vc : Nat) (ad : Addr) (w w2 : World) (v2 : Value)
    (hrun : ∀ ty, (Builtin.append_ #[23, 23] ty #[.slice none 0 0, .slice (some ad) 1 vc]).run Try.prog w = .ok v2 w2) :
    Calls Try.prog 75 #[.slice none 0 0, .int .i64 (0 : Nat), .slice (some ad) 1 vc] w fun e w' => e = .returned v2 ∧ w' = w2 := by
  have tS := un23
  have uS' := run_underlying (P := Try.prog) un23
  have t3 : Try.prog.underlying 3 = some (.int .i64) := by kernel_rfl
  have u3' := run_underlying (P := Try.prog) t3
  have zE : ∀ w, (Go.sizeOf 61).run Try.prog w = .ok 2 w := fun w => by rw [run_sizeOf hi0, hsz]
  go_enter Try.func75, Try.ntmps75
  go_wp2_with (at_builtin; refine Lib.wpList_append_run _ rfl _ _ _ _ rfl _ _ rfl rfl _ _ (hrun _) ?_)
  go_ret
  exact ⟨rfl, rfl⟩
theorem InsIt_end1 (inf : TypeInfo) (hi0 : Try.prog.info? 61 = some inf) (hsz : inf.size = 2) (b n c vc : Nat) (ad : Addr) (w w2 : World) (v2 : Value) (hnc : n ≤ c) (hc63 : c ≤ 9223372036854775807)
    (hrun : ∀ ty, (Builtin.append_ #[23, 23] ty #[.slice (some ⟨b, 0, none⟩) n c, .slice (some ad) 1 vc]).run Try.prog w = .ok v2 w2) :
    Calls Try.prog 75 #[.slice (some ⟨b, 0, none⟩) n c, .int .i64 n, .slice (some ad) 1 vc] w fun e w' => e = .returned v2 ∧ w' = w2 := by
  have tS := un23
  have uS' := run_underlying (P := Try.prog) un23
  have t3 : Try.prog.underlying 3 = some (.int .i64) := by kernel_rfl
  have u3' := run_underlying (P := Try.prog) t3
  have zE : ∀ w, (Go.sizeOf 61).run Try.prog w = .ok 2 w := fun w => by rw [run_sizeOf hi0, hsz]
  go_enter Try.func75, Try.ntmps75
  go_wp2_with (at_builtin; refine Lib.wpList_append_run _ rfl _ _ _ _ rfl _ _ rfl rfl _ _ (hrun _) ?_)
  all_goals (go_ret; exact ⟨rfl, rfl⟩)
theorem InsIt_grow (inf : TypeInfo) (hi0 : Try.prog.info? 61 = some inf) (hsz : inf.size = 2) (b n c i vc G : Nat) (ad : Addr) (cs ROW : Array Value) (tb : TypeId) (vs : List Value) (w : World) (hi : i < n) (hnc : n ≤ c) (hroom : c < n + 1) (hc63 : c ≤ 9223372036854775807) (hG : n + 1 ≤ G) (hG63 : G ≤ 9223372036854775807)
    (hb : w.heap[b]? = some (.cells cs tb (0, 0))) (hcs : n * 2 ≤ cs.size) (hav : ad.block ≠ w.heap.size)
    (hvl : vs.length = 2) (hvs : ∀ j v, vs[j]? = some v → w.cell? (ad.add j) = some v) (h1c : ∀ v ∈ cs.toList.take (n * 2), v.oneCell' = true) (h1v : ∀ v ∈ vs, v.oneCell' = true)
    (hrun : ∀ ty, (Builtin.append_ #[23, 3] ty #[.slice (some ⟨b, 0, none⟩) i c, .int .i64 ((n : Int) + 1 - (i : Int))]).run Try.prog w = .ok (.slice (some ⟨w.heap.size, 0, none⟩) (n + 1) G) (w.drew.alloc (.cells ROW 61))) (hrow : (n + 1) * 2 ≤ ROW.size) :
    Calls Try.prog 75 #[.slice (some ⟨b, 0, none⟩) n c, .int .i64 i, .slice (some ad) 1 vc] w fun e w' =>
      e = .returned (.slice (some ⟨w.heap.size, 0, none⟩) (n + 1) G) ∧
      w' = (((w.drew.alloc (.cells ROW 61)).setRow w.heap.size (spl ROW (i * 2) vs)).drew).setRow w.heap.size (spl (spl ROW (i * 2) vs) ((i + 1) * 2) ((cs.toList.take (n * 2)).drop (i * 2))) := by
  have tS := un23
  have uS' := run_underlying (P := Try.prog) un23
  have t3 : Try.prog.underlying 3 = some (.int .i64) := by kernel_rfl
  have u3' := run_underlying (P := Try.prog) t3
  have zE : ∀ w, (Go.sizeOf 61).run Try.prog w = .ok 2 w := fun w => by rw [run_sizeOf hi0, hsz]
  have hz2 : ¬ ((i : Int) = (n : Int)) := by omega
  have hz3 : (c : Int) < (n : Int) + 1 := by omega
  obtain ⟨mv, hmv⟩ : ∃ mv, mv = (cs.toList.take (n * 2)).drop (i * 2) := ⟨_, rfl⟩
  rw [← hmv]
  have hml : mv.length = (n - i) * inf.size := by rw [hmv, hsz]; simp; omega
  have hbw : b < w.heap.size := (Array.getElem?_eq_some_iff.1 hb).1
  have hbN : b ≠ w.heap.size := by omega
  obtain ⟨N, hN⟩ : ∃ N, N = w.heap.size := ⟨_, rfl⟩
  obtain ⟨W1, hW1⟩ : ∃ W1, W1 = w.drew.alloc (.cells ROW 61) := ⟨_, rfl⟩
  have hbA : W1.heap[N]? = some (.cells ROW 61 (0, 0)) := by rw [hW1, hN]; exact alloc_new w.drew _
  have hbB : W1.heap[b]? = some (.cells cs tb (0, 0)) := by rw [hW1, alloc_same w.drew _ b hbw (by show b ≠ w.heap.size; omega)]; exact hb
  rw [← hW1, ← hN] at hrun ⊢
  rw [← hN] at hav hbN
  have hcpA : ∀ ty dc, (Builtin.copy_ #[23, 23] ty #[.slice (some ⟨N, i * 2, none⟩) (n + 1 - i) dc, .slice (some ad) 1 vc]).run Try.prog W1 = .ok (goInt (1 : Nat)) (W1.setRow N (spl ROW (i * 2) vs)) := fun ty dc =>
    run_copy_k _ 23 23 ty 61 inf vs tS hi0 1 (by simp only [Nat.min_def]; split <;> omega) (by rw [hvl, hsz])
      (fun j v hj => by
        have h := hvs j v hj
        have hlt : (ad.add j).block < w.drew.heap.size := by
          simp only [World.cell?] at h
          split at h
          · exact (Array.getElem?_eq_some_iff.1 (by assumption)).1
          · cases h
        rw [hW1]
        exact (cell_same (w := w) (w' := w.drew.alloc (.cells ROW 61)) (alloc_same w.drew _ _ hlt (by omega))).trans h) hbA (by omega) h1v
  obtain ⟨R2, hR2⟩ : ∃ R2, R2 = spl ROW (i * 2) vs := ⟨_, rfl⟩
  rw [← hR2] at hcpA ⊢
  have hs2 : R2.size = ROW.size := by rw [hR2]; exact spl_size (by omega)
  have hbC : (W1.setRow N R2).drew.heap[N]? = some (.cells R2 61 (0, 0)) := setRow_heap W1 N ROW R2 61 (0, 0) hbA
  have hbD : (W1.setRow N R2).drew.heap[b]? = some (.cells cs tb (0, 0)) := (setRow_other W1 N b R2 hbN).trans hbB
  have hcpB : ∀ ty dc sc, (Builtin.copy_ #[23, 23] ty #[.slice (some ⟨N, (i + 1) * 2, none⟩) (n - i) dc, .slice (some ⟨b, i * 2, none⟩) (n - i) sc]).run Try.prog (W1.setRow N R2).drew = .ok (goInt (n - i : Nat)) ((W1.setRow N R2).drew.setRow N (spl R2 ((i + 1) * 2) mv)) := fun ty dc sc =>
    run_copy_k _ 23 23 ty 61 inf mv tS hi0 (n - i) (by simp only [Nat.min_def]; split <;> omega) hml
      (fun j v hj => by
        rw [add_off]
        simp only [World.cell?, hbD]
        rw [hmv, List.getElem?_drop, List.getElem?_take] at hj
        split at hj
        · simpa using hj
        · cases hj) hbC (by rw [hml, hsz]; omega) (fun v hv => h1c v (by rw [hmv] at hv; exact List.mem_of_mem_drop hv))
  have hw1 : IntKind.i64.wrap ((i : Int) + 1) = (i : Int) + 1 := by rw [IntKind.wrap_i64]; omega
  have hw5 : IntKind.i64.wrap ((n : Int) + 1) = (n : Int) + 1 := by rw [IntKind.wrap_i64]; omega
  have hw6 : IntKind.i64.wrap ((n : Int) + 1 - (i : Int)) = (n : Int) + 1 - (i : Int) := by rw [IntKind.wrap_i64]; omega
  have hw2 : (0 : Int) ≤ (i : Int) + 1 := by omega
  have hw3 : (i : Int) + 1 ≤ (n : Int) + 1 := by omega
  have hw4 : (i : Int) ≤ (n : Int) + 1 := by omega
  have htn : ((i : Int) + 1).toNat = i + 1 := by omega
  have hin : i ≤ n := by omega
  have hic : (i : Int) ≤ (c : Int) := by omega
  have hb4 : ¬ (c = i) := by omega
  have hGi : ¬ (G = i) := by omega
  have hGim : ¬ (G = i + 1) := by omega
  have hb5 : n + 1 - (i + 1) = n - i := by omega
  have mixed : Try.prog.follows .mixedOrders = true := by kernel_rfl
  clear hR2 hmv hs2 hml hN hW1 hbA hbB hbC hbD hrow hcs
  go_enter Try.func75, Try.ntmps75
  go_wp2_with (first
    | (at_builtin; refine Lib.wpList_append_run _ rfl _ _ _ _ rfl _ _ rfl rfl _ _ (hrun _) ?_)
    | (at_builtin; refine wpList_copy_runI _ rfl _ _ 23 23 rfl _ _ rfl rfl (hcpA _ _) ?_)
    | (at_builtin; refine wpList_copy_runI _ rfl _ _ 23 23 rfl _ _ rfl rfl (hcpB _ _ _) ?_))
  go_region_law_o (refine step_copy_runI rfl _ _ 23 23 rfl _ _ (by simp [Act.eval, Act.put]) (by simp [Act.eval, Act.put]) (hcpB _ _ _) ?_)
  go_wp2
  go_ret
  exact ⟨rfl, rfl⟩
theorem runs_InsIt : InsRuns Try.prog 75 23 3 61 2 := by
  have ti := tiOf_ok ti61
  obtain ⟨inf, z', dd, k1, k2, k3, k0, k4, k10, k5, k6, k7, k8, k9⟩ := ti.info
  have hsz : inf.size = 2 := k5.symm
  exact ⟨fun b n c i vc ad cs tb ca0 ta fa vs w h1 h2 h3 h4 h5 h6 h7 h8 h9 h10 h11 h12 => InsIt_shift inf k1 hsz b n c i vc ad cs tb ca0 ta fa vs w h1 h2 h3 h4 h5 h6 h7 h8 h9 h10 h11 h12,
    fun vc ad w w2 v2 h => InsIt_end0 inf k1 hsz vc ad w w2 v2 h, fun b n c vc ad w w2 v2 h1 h2 h => InsIt_end1 inf k1 hsz b n c vc ad w w2 v2 h1 h2 h,
    fun b n c i vc G ad cs ROW tb vs w h1 h2 h3 h4 h5 h6 h7 h8 h9 h10 h11 h12 h13 h14 h15 => InsIt_grow inf k1 hsz b n c i vc G ad cs ROW tb vs w h1 h2 h3 h4 h5 h6 h7 h8 h9 h10 h11 h12 h13 h14 h15⟩
theorem good_InsIt (nil : Bool) (l : List It) (y : It) (i : Nat) (hi : i ≤ l.length) (hl : l.length ≤ 1000000) :
    Good Try.prog 75 [(.sl 2 nil (l.map itA), true), (i64 i, false), (.sl 2 false [itA y], false)] [] [(.sl 2 false ((l.take i ++ [y] ++ l.drop i).map itA), true)] [] := by
  have h := good_insert (tiOf_ok ti61) un23 (by kernel_rfl) ⟨_, _, Try.func75, rfl, rfl⟩ runs_InsIt nil (l.map itA) (itA y) i (by simpa using hi) (by rw [List.length_map]; simp only [roomB]; omega)
  simpa only [List.map_append, List.map_take, List.map_drop, List.map_cons, List.map_nil] using h
end Go.Vai.BA
