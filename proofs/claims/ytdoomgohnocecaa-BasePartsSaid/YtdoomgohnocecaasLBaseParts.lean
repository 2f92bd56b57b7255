import Derived.Test.YtdoomgohnocecaaM3
namespace Go.Vai.BA
open Go.Proofs Go.Vai Go.Vai.C Go.Vai.D Go.Vai.DB Go.Vai.G Go.Vai.I Go.Vai.L Go.Vai.N Go.Vai.O
set_option linter.unusedSimpArgs false
set_option linter.unusedVariables false
set_option maxHeartbeats 4000000
set_option maxRecDepth 100000
theorem k_range {n : Int} {l : List Ch} (h : 0 ≤ n ∧ n < 256) (hl : l.length ≤ 50) : 0 ≤ n % ((l.length : Int) + 1) ∧ n % ((l.length : Int) + 1) ≤ (l.length : Int) := by
  have := Int.emod_nonneg n (show (l.length : Int) + 1 ≠ 0 by omega)
  have := Int.emod_lt_of_pos n (show 0 < (l.length : Int) + 1 by omega)
  omega
theorem good_BaseParts (a : Sta) (ha1 : a.db.length ≤ 9223372036854775807) (z1 : a.n1 = true → a.db = []) (qa : ∀ x ∈ a.db, x.ls.length ≤ 9223372036854775807 ∧ (x.nil = true → x.ls = [])) (ha2 : a.ep.length ≤ 9223372036854775807) (z2 : a.n2 = true → a.ep = []) (nl : Bool) (l : List Ch) (hl : l.length ≤ 9223372036854775807) (hzl : nl = true → l = []) (pl : ∀ c ∈ l, c.l.ls.length ≤ 9223372036854775807 ∧ (c.l.nil = true → c.l.ls = [])) (n : Int) (hn : 0 ≤ n ∧ n < 256) : Good Try.prog 4 [(staA a, false), (.sl 6 nl (l.map chA), false), (.i .u8 n, false)] [] [(.b true, false)] [] := by
  refine good_of_body2 68 Try.func4 rfl rfl rfl (by simp) ?_
  intro s m ha hr hv hG
  have f0 : s 0 = .v (.agg [.sl 3 a.n1 (a.db.map lsaA), i64 a.up, i64 a.bo, .sl 2 a.n2 (a.ep.map itA)]) := ha 0 _ rfl
  have f1 : s 1 = .v (.sl 6 nl (l.map chA)) := ha 1 _ rfl
  have f2 : s 2 = .v (.i .u8 n) := ha 2 _ rfl
  clear ha
  have hc : True := trivial
  have F := (And.intro f0 (And.intro f1 (And.intro f2 hG)))
  refine AW.seq ?_
  refine AW.region (cfg := cfg) ?_
  refine stp (fun _ h => sb h) ?_
  refine stp (fun _ h => s0 h) ?_
  refine aops_nil ?_
  refine AW.seq ?_
  refine AW.seq ?_
  refine AW.region (cfg := cfg) ?_
  refine stp (fun _ h => sl h) ?_
  refine stp (fun _ h => cs (w := good_LightB a (by omega) (by omega) (fun x hx => (qa x hx).1)) (x := h)) ?_
  iterate 2 refine stp (fun _ h => s0 h) ?_
  refine mrg wa (fun hc _ h => s0 h) ?_
  refine mrg wa (fun hc _ h => cs (w := C.good_LightC nl l (by omega) (fun c hc => (pl c hc).1)) (x := h)) ?_
  refine mrg wa (fun hc _ h => s0 h) ?_
  refine stp (fun _ h => s0 h) ?_
  refine aops_nil ?_
  refine cnd (fun hb => ?ht1) (fun hb => ?hf1)
  case ht1 =>
    have hw19 := hb
    try simp only [bo1, bo2, bo3, bo4, bo5, bo6] at hb
    have hbt19 := hb
    refine AW.seq ?_
    refine AW.region (cfg := cfg) ?_
    refine stp (fun _ h => cs (w := good_awakeB) (x := h)) ?_
    refine stp (fun _ h => s0 h) ?_
    refine aops_nil ?_
    refine AW.ret ?_
    refine ⟨.inr rfl, ?_⟩
    refine leaves_tmp1 6 rfl ?_ (by exact hG)
    simp (disch := first | omega | decide) only [go_sem, F, aIndex_map]
    all_goals first | done | (rw [decide_eq_true (parts_no hbt52 hbt42)]; done) | (have p := parts_yes (k := (n % ((l.length : Int) + 1)).toNat) (Decidable.not_not.1 hbt52); rw [p.2]; simp [sameS_refl]; done) | (exfalso; exact hbt42 (parts_yes (k := (n % ((l.length : Int) + 1)).toNat) (Decidable.not_not.1 hbt52)).1) | (simp [hbt42]; done) | trace_state
  case hf1 =>
    have hw19 := hb
    try simp only [bo1, bo2, bo3, bo4, bo5, bo6] at hb
    have hbt19 := hb
    refine AW.skip ?_
    refine AW.seq ?_
    have hL : lightB a = true := by simpa using hbt19.1
    have hM : lightC l = true := by simpa using hbt19.2
    obtain ⟨⟨w1, w2⟩, pa⟩ := lightB_of hL (fun x hx => (qa x hx).2)
    obtain ⟨w3, pc⟩ := lightC_of hM (fun c hc => (pl c hc).2)
    have hkr := k_range hn w3
    have pt : ∀ c ∈ l.take (n % ((l.length : Int) + 1)).toNat, fit c.l := fun c hc => pc c (List.mem_of_mem_take hc)
    have pd : ∀ c ∈ l.drop (n % ((l.length : Int) + 1)).toNat, fit c.l := fun c hc => pc c (List.mem_of_mem_drop hc)
    obtain ⟨⟨f0_, f1_⟩, f2_, f3_, f4_⟩ := applyR_fit (l := l) pa z1 z2 pc
    obtain ⟨⟨g0_, g1_⟩, g2_, g3_, g4_⟩ := applyR_fit (l := l.take (n % ((l.length : Int) + 1)).toNat) pa z1 z2 pt
    obtain ⟨⟨h0_, h1_⟩, h2_, h3_, h4_⟩ := applyR_fit (l := l.drop (n % ((l.length : Int) + 1)).toNat) g2_ g3_ g4_ pd
    have wt : (l.take (n % ((l.length : Int) + 1)).toNat).length ≤ 50 := Nat.le_trans (by rw [List.length_take]; omega) w3
    have wd : (l.drop (n % ((l.length : Int) + 1)).toNat).length ≤ 50 := Nat.le_trans (by rw [List.length_drop]; omega) w3
    have e1 := sameS_refl (applyR a l).1
    have F := And.intro e1 F
    refine AW.region (cfg := cfg) ?_
    refine stp (fun _ h => s0 h) ?_
    refine stp (fun _ h => sd h) ?_
    refine stp (fun _ h => s0 h) ?_
    iterate 3 refine stp (fun _ h => sd h) ?_
    refine stp (fun _ h => s0 h) ?_
    refine aops_nil ?_
    refine AW.seq ?_
    refine AW.region (cfg := cfg) ?_
    refine stp (fun _ h => sl h) ?_
    refine stp (fun _ h => s0 h) ?_
    refine stp (fun _ h => cr (w := good_ApplyB a (by omega) (by omega) pa z1 z2 nl l (by omega) pc) (x := h)) ?_
    iterate 3 refine stp (fun _ h => s0 h) ?_
    refine stp (fun _ h => sd h) ?_
    refine stp0 (fun _ h => ssw h) ?_
    refine stp (fun _ h => s0 h) ?_
    refine aops_nil ?_
    refine AW.seq ?_
    refine AW.draw (cfg := cfg) (by kernel_rfl) (by kernel_rfl) (by kernel_rfl) ?_
    refine dstp (fun _ h => sl h) ?_
    iterate 2 refine dstp (fun _ h => s0 h) ?_
    refine dstp (fun _ h => sd h) ?_
    refine dstp (fun _ h => cr (w := good_ApplyB a (by omega) (by omega) pa z1 z2 nl (l.take (n % ((l.length : Int) + 1)).toNat) (by omega) pt) (x := h)) ?_
    iterate 3 refine dstp (fun _ h => s0 h) ?_
    refine dstp (fun _ h => sd h) ?_
    refine dstp0 (fun _ h => ssw h) ?_
    refine dstp (fun _ h => s0 h) ?_
    refine adraw_nil (by kernel_rfl) ?_
    refine AW.seq ?_
    refine AW.seq ?_
    refine AW.region (cfg := cfg) ?_
    iterate 2 refine stp (fun _ h => s0 h) ?_
    refine aops_nil ?_
    refine cnd (fun hb => ?ht2) (fun hb => ?hf2)
    case ht2 =>
      have hw42 := hb
      try simp only [bo1, bo2, bo3, bo4, bo5, bo6] at hb
      have hbt42 := hb
      refine AW.draw (cfg := cfg) (by kernel_rfl) (by kernel_rfl) (by kernel_rfl) ?_
      refine dstp (fun _ h => sl h) ?_
      iterate 2 refine dstp (fun _ h => s0 h) ?_
      refine dstp (fun _ h => sd h) ?_
      refine dstp (fun _ h => cr (w := good_ApplyB (applyR a (l.take (n % ((l.length : Int) + 1)).toNat)).1 (by omega) (by omega) g2_ g3_ g4_ nl (l.drop (n % ((l.length : Int) + 1)).toNat) (by omega) pd) (x := h)) ?_
      iterate 3 refine dstp (fun _ h => s0 h) ?_
      refine dstp0 (fun _ h => ssw h) ?_
      refine dstp (fun _ h => s0 h) ?_
      refine adraw_nil (by kernel_rfl) ?_
      refine AW.seq ?_
      refine AW.seq ?_
      refine AW.region (cfg := cfg) ?_
      iterate 2 refine stp (fun _ h => s0 h) ?_
      refine aops_nil ?_
      refine cnd (fun hb => ?ht3) (fun hb => ?hf3)
      case ht3 =>
        have hw52 := hb
        try simp only [bo1, bo2, bo3, bo4, bo5, bo6] at hb
        have hbt52 := hb
        refine AW.seq ?_
        refine AW.region (cfg := cfg) ?_
        iterate 3 refine stp (fun _ h => s0 h) ?_
        refine mrg wa (fun hc _ h => cs (w := good_awakeB) (x := h)) ?_
        iterate 2 refine stp (fun _ h => s0 h) ?_
        refine aops_nil ?_
        refine AW.ret ?_
        refine ⟨.inr rfl, ?_⟩
        refine leaves_tmp1 6 rfl ?_ (by exact hG)
        simp (disch := first | omega | decide) only [go_sem, F, aIndex_map]
        all_goals (rw [decide_eq_true (parts_no hbt52 hbt42)]; done)
      case hf3 =>
        have hw52 := hb
        try simp only [bo1, bo2, bo3, bo4, bo5, bo6] at hb
        have hbt52 := hb
        refine AW.skip ?_
        refine AW.seq ?_
        refine AW.region (cfg := cfg) ?_
        iterate 3 refine stp (fun _ h => s0 h) ?_
        iterate 2 refine mrg wa (fun hc _ h => sl h) ?_
        refine mrg wa (fun hc _ h => cs (w := good_refSameB _ (by omega) (by omega) (by assumption) _ (by omega) (by omega) (by assumption)) (x := h)) ?_
        iterate 2 refine stp (fun _ h => s0 h) ?_
        refine mrg wa (fun hc _ h => cs (w := good_awakeB) (x := h)) ?_
        iterate 2 refine stp (fun _ h => s0 h) ?_
        refine aops_nil ?_
        refine AW.ret ?_
        refine ⟨.inr rfl, ?_⟩
        refine leaves_tmp1 6 rfl ?_ (by exact hG)
        simp (disch := first | omega | decide) only [go_sem, F, aIndex_map]
        all_goals (have p := parts_yes (k := (n % ((l.length : Int) + 1)).toNat) (Decidable.not_not.1 hbt52); rw [p.2]; simp [sameS_refl]; done)
    case hf2 =>
      have hw42 := hb
      try simp only [bo1, bo2, bo3, bo4, bo5, bo6] at hb
      have hbt42 := hb
      refine AW.skip ?_
      refine AW.seq ?_
      refine AW.seq ?_
      refine AW.region (cfg := cfg) ?_
      iterate 2 refine stp (fun _ h => s0 h) ?_
      refine aops_nil ?_
      refine cnd (fun hb => ?ht4) (fun hb => ?hf4)
      case ht4 =>
        have hw52 := hb
        try simp only [bo1, bo2, bo3, bo4, bo5, bo6] at hb
        have hbt52 := hb
        refine AW.seq ?_
        refine AW.region (cfg := cfg) ?_
        iterate 3 refine stp (fun _ h => s0 h) ?_
        refine mrg wa (fun hc _ h => cs (w := good_awakeB) (x := h)) ?_
        iterate 2 refine stp (fun _ h => s0 h) ?_
        refine aops_nil ?_
        refine AW.ret ?_
        refine ⟨.inr rfl, ?_⟩
        refine leaves_tmp1 6 rfl ?_ (by exact hG)
        simp (disch := first | omega | decide) only [go_sem, F, aIndex_map]
        all_goals (simp [hbt42]; done)
      case hf4 =>
        have hw52 := hb
        try simp only [bo1, bo2, bo3, bo4, bo5, bo6] at hb
        have hbt52 := hb
        refine AW.skip ?_
        refine AW.seq ?_
        refine AW.region (cfg := cfg) ?_
        iterate 3 refine stp (fun _ h => s0 h) ?_
        iterate 2 refine mrg wa (fun hc _ h => sl h) ?_
        refine mrg wa (fun hc _ h => cs (w := good_refSameB _ (by omega) (by omega) (by assumption) _ (by omega) (by omega) (by assumption)) (x := h)) ?_
        iterate 2 refine stp (fun _ h => s0 h) ?_
        refine mrg wa (fun hc _ h => cs (w := good_awakeB) (x := h)) ?_
        iterate 2 refine stp (fun _ h => s0 h) ?_
        refine aops_nil ?_
        refine AW.ret ?_
        refine ⟨.inr rfl, ?_⟩
        refine leaves_tmp1 6 rfl ?_ (by exact hG)
        simp (disch := first | omega | decide) only [go_sem, F, aIndex_map]
        all_goals (exfalso; exact hbt42 (parts_yes (k := (n % ((l.length : Int) + 1)).toNat) (Decidable.not_not.1 hbt52)).1)
end Go.Vai.BA
