import Derived.Test.YtbnpnljlfnaheaapAg8
import Derived.Test.YtbnpnljlfnaheaapIt
namespace Go.Vai.AG
open Go.Proofs Go.Vai Go.Vai.I Go.Vai.IT Go.Vai.N Go.Vai.Y
set_option linter.unusedSimpArgs false
set_option linter.unusedVariables false
set_option maxHeartbeats 4000000
set_option maxRecDepth 100000
theorem good_AgeStays (x : It) (nt : Bool) (ts : List (BitVec 8)) (ht : ts.length ≤ 9223372036854775807) : Good Try.prog 6 [(.agg [i64 x.o, i64 x.s], false), (.sl 1 nt (bsl ts), false)] [] [(.b true, false)] [] := by
  refine good_of_body2 112 Try.func6 rfl rfl rfl (by simp) ?_
  intro s m ha hr hv hG
  have f0 : s 0 = .v (.agg [i64 x.o, i64 x.s]) := ha 0 _ rfl
  have f1 : s 1 = .v (.sl 1 nt (bsl ts)) := ha 1 _ rfl
  clear ha
  have hc : True := trivial
  have F := (And.intro f0 (And.intro f1 hG))
  refine AW.seq ?_
  refine AW.region (cfg := cfg) ?_
  refine stp (fun _ h => sb h) ?_
  refine stp (fun _ h => s0 h) ?_
  refine aops_nil ?_
  refine AW.seq ?_
  refine AW.seq ?_
  by_cases hsp : ((ts.length : Int) > 12)
  · have hd := decide_eq_true hsp
    have F := And.intro hd F
    refine AW.region (cfg := cfg) ?_
    refine stp (fun _ h => s0 h) ?_
    refine stp (fun _ h => sd h) ?_
    iterate 2 refine stp (fun _ h => s0 h) ?_
    iterate 4 refine skp ?_
    refine stp (fun _ h => s0 h) ?_
    refine aops_nil ?_
    refine cnd (fun hb => ?ht1) (fun hb => ?hf1)
    case hf1 => (simp at hb; done)
    case ht1 =>
    have hbt18 := hb
    refine AW.seq ?_
    refine AW.region (cfg := cfg) ?_
    refine stp (fun _ h => cs (w := good_awakeA) (x := h)) ?_
    refine stp (fun _ h => s0 h) ?_
    refine aops_nil ?_
    refine AW.ret ?_
    refine ⟨.inr rfl, ?_⟩
    refine leaves_tmp1 4 rfl ?_ (by exact hG)
    simp (disch := first | omega | decide) only [go_sem, F, aIndex_map]
    all_goals first | done | rfl | (simp; done) | trace_state
  · have hd := decide_eq_false hsp
    have F := And.intro hd F
    refine AW.region (cfg := cfg) ?_
    refine stp (fun _ h => s0 h) ?_
    refine stp (fun _ h => sd h) ?_
    iterate 2 refine stp (fun _ h => s0 h) ?_
    refine stp (fun _ h => sl h) ?_
    refine stp (fun _ h => sq h) ?_
    refine stp (fun _ h => cs (w := good_RItems false [x] (by simp)) (x := h)) ?_
    iterate 2 refine stp (fun _ h => s0 h) ?_
    refine aops_nil ?_
    refine cnd (fun hb => ?ht2) (fun hb => ?hf2)
    case ht2 =>
      have hw18 := hb
      try simp only [bo1, bo2, bo3, bo4, bo5, bo6] at hb
      have hbt18 := hb
      refine AW.seq ?_
      refine AW.region (cfg := cfg) ?_
      refine stp (fun _ h => cs (w := good_awakeA) (x := h)) ?_
      refine stp (fun _ h => s0 h) ?_
      refine aops_nil ?_
      refine AW.ret ?_
      refine ⟨.inr rfl, ?_⟩
      refine leaves_tmp1 4 rfl ?_ (by exact hG)
      simp (disch := first | omega | decide) only [go_sem, F, aIndex_map]
      all_goals first | done | rfl | (simp; done) | trace_state
    case hf2 =>
      have hw18 := hb
      try simp only [bo1, bo2, bo3, bo4, bo5, bo6] at hb
      have hbt18 := hb
      refine AW.skip ?_
      refine AW.seq ?_
      have hx1 : it1 x = true := by (have := bnot_f hw18; rwa [it1_eq] at this)
      have w0 := com_nil hx1
      have F := And.intro w0 F
      refine AW.region (cfg := cfg) ?_
      refine stp (fun _ h => sl h) ?_
      refine stp (fun _ h => cr (w := (good_Come true [] (by simp) (by simp) x).nil0) (x := h)) ?_
      iterate 5 refine stp (fun _ h => s0 h) ?_
      refine aops_nil ?_
      refine AW.seq ?_
      refine AW.seq ?_
      refine AW.region (cfg := cfg) ?_
      refine stp (fun _ h => s0 h) ?_
      refine aops_nil ?_
      refine AW.block ?_
      refine AW.forN (fun k σ => ∃ s m, σ = ⟨112, s, m⟩ ∧ s 1 = .v (.sl 1 nt (bsl ts)) ∧ s 2 = .lptr (.tmp 2 0) (m.objs (.tmp 2 0)).1 0 ∧ (m.objs (.tmp 2 0)).2 = .box [.v (i64 x.o), .v (i64 x.s)] ∧ s 6 = .v (i64 0) ∧ s 7 = .v (i64 (k : Int)) ∧ s 5 = .v (.sl 4 false [agA (tk x 0)]) ∧ (∀ i, (m.objs (.res i)).2 = .dead) ∧ m.G = []) (ts.length) ?_ ?_ ?_
      · refine ⟨_, _, rfl, ?_, ?_, ?_, ?_, ?_, ?_, (by intro i; simp [Mem.set, hr]), (by exact hG)⟩ <;> try simp (disch := first | omega | decide) only [go_sem, F, aIndex_map]
        all_goals rfl
      · clear F f0 f1 hr hG
        rintro k σ hk ⟨s, m, rfl, f1, f2, o2, f6, f7, f5, hr, hG⟩
        obtain ⟨g2, o2⟩ : ∃ g, m.objs (.tmp 2 0) = (g, .box [.v (i64 x.o), .v (i64 x.s)]) := ⟨_, Prod.ext rfl o2⟩
        rw [o2] at f2
        have F := (And.intro f1 (And.intro f2 (And.intro f6 (And.intro f7 (And.intro f5 (And.intro o2 (And.intro hd (And.intro w0 hG))))))))
        refine AW.seq ?_
        refine AW.seq ?_
        refine AW.region (cfg := cfg) ?_
        iterate 2 refine stp (fun _ h => s0 h) ?_
        refine stp (fun _ h => sd h) ?_
        iterate 2 refine stp (fun _ h => s0 h) ?_
        iterate 2 refine mrg wa (fun hc _ h => s0 h) ?_
        refine stp (fun _ h => s0 h) ?_
        refine aops_nil ?_
        refine cnd (fun hb => ?ht3) (fun hb => ?hf3)
        case hf3 => (simp at hb; omega)
        case ht3 =>
        have hbt32 := hb
        refine AW.skip ?_
        refine AW.seq ?_
        refine AW.block ?_
        refine AW.seq ?_
        obtain ⟨N, hN, hN8⟩ := byte80 (ts[k]'(by assumption))
        have hwb := i64_b (ts[k]'(by assumption))
        have F := And.intro hwb F
        have F := And.intro hN F
        refine AW.region (cfg := cfg) ?_
        iterate 2 refine stp (fun _ h => s0 h) ?_
        refine stp (fun _ h => si h) ?_
        refine stp (fun _ h => sl h) ?_
        iterate 2 refine stp (fun _ h => sd h) ?_
        refine stp (fun _ h => s0 h) ?_
        refine aops_nil ?_
        refine AW.seq ?_
        refine AW.seq ?_
        refine AW.region (cfg := cfg) ?_
        refine stp (fun _ h => s0 h) ?_
        refine aops_nil ?_
        refine AW.block ?_
        refine AW.forN (fun j σ => ∃ s m, σ = ⟨112, s, m⟩ ∧ s 1 = .v (.sl 1 nt (bsl ts)) ∧ s 2 = .lptr (.tmp 2 0) (m.objs (.tmp 2 0)).1 0 ∧ (m.objs (.tmp 2 0)).2 = .box [.v (i64 x.o), .v (i64 x.s)] ∧ s 6 = .v (i64 0) ∧ s 7 = .v (i64 (k : Int)) ∧ s 5 = .v (.sl 4 false [agA (tk x j)]) ∧ s 8 = .v (i64 (N : Int)) ∧ s 9 = .v (i64 (j : Int)) ∧ (∀ i, (m.objs (.res i)).2 = .dead) ∧ m.G = []) (N) ?_ ?_ ?_
        · refine ⟨_, _, rfl, ?_, ?_, ?_, ?_, ?_, ?_, ?_, ?_, (by intro i; simp [Mem.set, hr]), (by exact hG)⟩ <;> try simp (disch := first | omega | decide) only [go_sem, F, aIndex_map]
          all_goals rfl
        · clear F f1 f2 f6 f7 f5 o2 hr hG
          rintro j σ hj ⟨s, m, rfl, f1, f2, o2, f6, f7, f5, f8, f9, hr, hG⟩
          obtain ⟨g2, o2⟩ : ∃ g, m.objs (.tmp 2 0) = (g, .box [.v (i64 x.o), .v (i64 x.s)]) := ⟨_, Prod.ext rfl o2⟩
          rw [o2] at f2
          have F := (And.intro f1 (And.intro f2 (And.intro f6 (And.intro f7 (And.intro f5 (And.intro f8 (And.intro f9 (And.intro o2 (And.intro hd (And.intro w0 (And.intro hwb (And.intro hN hG))))))))))))
          refine AW.seq ?_
          refine AW.seq ?_
          refine AW.region (cfg := cfg) ?_
          iterate 4 refine stp (fun _ h => s0 h) ?_
          iterate 2 refine mrg wa (fun hc _ h => s0 h) ?_
          refine stp (fun _ h => s0 h) ?_
          refine aops_nil ?_
          refine cnd (fun hb => ?ht4) (fun hb => ?hf4)
          case hf4 => (simp at hb; omega)
          case ht4 =>
          have hbt47 := hb
          refine AW.skip ?_
          refine AW.seq ?_
          refine AW.block ?_
          have w1 := tick_one hx1 j
          have F := And.intro w1 F
          refine AW.region (cfg := cfg) ?_
          refine stp (fun _ h => s0 h) ?_
          refine stp (fun _ h => cr (w := good_Tick false [tk x j] (by simp) (by simp)) (x := h)) ?_
          iterate 5 refine stp (fun _ h => s0 h) ?_
          refine aops_nil ?_
          refine AW.region (cfg := cfg) ?_
          refine stp (fun _ h => s0 h) ?_
          refine stp (fun _ h => sd h) ?_
          refine stp (fun _ h => s0 h) ?_
          refine aops_nil ?_
          refine ⟨_, _, rfl, ?_, ?_, ?_, ?_, ?_, ?_, ?_, ?_, (by intro i; simp [Mem.set, hr]), (by exact hG)⟩ <;> try simp (disch := first | omega | decide) only [go_sem, F, aIndex_map]
          all_goals rfl
        · clear F f1 f2 f6 f7 f5 o2 hr hG
          rintro σ ⟨s, m, rfl, f1, f2, o2, f6, f7, f5, f8, f9, hr, hG⟩
          obtain ⟨g2, o2⟩ : ∃ g, m.objs (.tmp 2 0) = (g, .box [.v (i64 x.o), .v (i64 x.s)]) := ⟨_, Prod.ext rfl o2⟩
          rw [o2] at f2
          have F := (And.intro f1 (And.intro f2 (And.intro f6 (And.intro f7 (And.intro f5 (And.intro f8 (And.intro f9 (And.intro o2 (And.intro hd (And.intro w0 (And.intro hwb (And.intro hN hG))))))))))))
          refine AW.seq ?_
          refine AW.seq ?_
          refine AW.region (cfg := cfg) ?_
          iterate 4 refine stp (fun _ h => s0 h) ?_
          iterate 2 refine mrg wa (fun hc _ h => s0 h) ?_
          refine stp (fun _ h => s0 h) ?_
          refine aops_nil ?_
          refine cnd (fun hb => ?ht5) (fun hb => ?hf5)
          case ht5 => (simp at hb; done)
          case hf5 =>
          have hbt47 := hb
          refine AW.exit ?_
          refine AW.seq ?_
          refine AW.seq ?_
          refine AW.region (cfg := cfg) ?_
          iterate 3 refine stp (fun _ h => s0 h) ?_
          refine mrg wa (fun hc _ h => s0 h) ?_
          refine mrg wa (fun hc _ h => sd h) ?_
          refine mrg wa (fun hc _ h => s0 h) ?_
          iterate 2 refine stp (fun _ h => s0 h) ?_
          refine mrg wa (fun hc _ h => s0 h) ?_
          refine mrg wa (fun hc _ h => si h) ?_
          refine mrg wa (fun hc _ h => sx h) ?_
          refine mrg wa (fun hc _ h => sl h) ?_
          iterate 3 refine mrg wa (fun hc _ h => s0 h) ?_
          iterate 2 refine stp (fun _ h => s0 h) ?_
          refine mrg wa (fun hc _ h => s0 h) ?_
          refine mrg wa (fun hc _ h => cr (w := good_Due false [tk x N] (by simp)) (x := h)) ?_
          refine mrg wa (fun hc _ h => sd h) ?_
          iterate 8 refine mrg wa (fun hc _ h => s0 h) ?_
          refine stp (fun _ h => s0 h) ?_
          refine aops_nil ?_
          refine cnd (fun hb => ?ht6) (fun hb => ?hf6)
          case ht6 => simp [tk_go, due_dec hx1] at hb
          case hf6 =>
          have hbt83 := hb
          refine AW.skip ?_
          refine AW.seq ?_
          refine AW.seq ?_
          refine AW.region (cfg := cfg) ?_
          iterate 2 refine stp (fun _ h => s0 h) ?_
          refine aops_nil ?_
          refine cnd (fun hb => ?ht7) (fun hb => ?hf7)
          case ht7 =>
            have hw85 := hb
            try simp only [bo1, bo2, bo3, bo4, bo5, bo6] at hb
            have hbt85 := hb
            refine AW.seq ?_
            refine AW.region (cfg := cfg) ?_
            refine stp (fun _ h => cs (w := good_awakeA) (x := h)) ?_
            refine stp (fun _ h => s0 h) ?_
            refine aops_nil ?_
            refine AW.ret ?_
            refine ⟨.inr rfl, ?_⟩
            refine leaves_tmp1 4 rfl ?_ (by exact hG)
            simp (disch := first | omega | decide) only [go_sem, F, aIndex_map]
            all_goals first | done | rfl | (simp; done) | trace_state
          case hf7 =>
            have hw85 := hb
            try simp only [bo1, bo2, bo3, bo4, bo5, bo6] at hb
            have hbt85 := hb
            refine AW.skip ?_
            refine AW.seq ?_
            have hN6 : N ≤ 60 := by omega
            have w2 := com_one hx1 hN6
            have F := And.intro w2 F
            refine AW.region (cfg := cfg) ?_
            refine stp (fun _ h => s0 h) ?_
            refine stp (fun _ h => sl h) ?_
            refine stp (fun _ h => cr (w := good_Come false [tk x N] (by simp) (by simp) x) (x := h)) ?_
            iterate 5 refine stp (fun _ h => s0 h) ?_
            refine aops_nil ?_
            refine AW.seq ?_
            refine AW.region (cfg := cfg) ?_
            iterate 3 refine stp (fun _ h => s0 h) ?_
            refine mrg wa (fun hc _ h => s0 h) ?_
            refine mrg wa (fun hc _ h => sd h) ?_
            refine mrg wa (fun hc _ h => s0 h) ?_
            iterate 2 refine stp (fun _ h => s0 h) ?_
            refine mrg wa (fun hc _ h => s0 h) ?_
            refine mrg wa (fun hc _ h => si h) ?_
            refine mrg wa (fun hc _ h => sx h) ?_
            refine mrg wa (fun hc _ h => sl h) ?_
            refine mrg wa (fun hc _ h => s0 h) ?_
            refine stp (fun _ h => s0 h) ?_
            refine aops_nil ?_
            refine cnd (fun hb => ?ht8) (fun hb => ?hf8)
            case ht8 => simp [tk_ag0] at hb
            case hf8 =>
            have hbt106 := hb
            refine AW.skip ?_
            refine AW.region (cfg := cfg) ?_
            refine stp (fun _ h => s0 h) ?_
            refine stp (fun _ h => sd h) ?_
            refine stp (fun _ h => s0 h) ?_
            refine aops_nil ?_
            refine ⟨_, _, rfl, ?_, ?_, ?_, ?_, ?_, ?_, (by intro i; simp [Mem.set, hr]), (by exact hG)⟩ <;> try simp (disch := first | omega | decide) only [go_sem, F, aIndex_map]
            all_goals rfl
      · clear F f0 f1 hr hG
        rintro σ ⟨s, m, rfl, f1, f2, o2, f6, f7, f5, hr, hG⟩
        obtain ⟨g2, o2⟩ : ∃ g, m.objs (.tmp 2 0) = (g, .box [.v (i64 x.o), .v (i64 x.s)]) := ⟨_, Prod.ext rfl o2⟩
        rw [o2] at f2
        have F := (And.intro f1 (And.intro f2 (And.intro f6 (And.intro f7 (And.intro f5 (And.intro o2 (And.intro hd (And.intro w0 hG))))))))
        refine AW.seq ?_
        refine AW.seq ?_
        refine AW.region (cfg := cfg) ?_
        iterate 2 refine stp (fun _ h => s0 h) ?_
        refine stp (fun _ h => sd h) ?_
        iterate 2 refine stp (fun _ h => s0 h) ?_
        iterate 2 refine mrg wa (fun hc _ h => s0 h) ?_
        refine stp (fun _ h => s0 h) ?_
        refine aops_nil ?_
        refine cnd (fun hb => ?ht9) (fun hb => ?hf9)
        case ht9 => (simp at hb; done)
        case hf9 =>
        have hbt32 := hb
        refine AW.exit ?_
        refine AW.seq ?_
        refine AW.region (cfg := cfg) ?_
        iterate 3 refine stp (fun _ h => s0 h) ?_
        refine mrg wa (fun hc _ h => cs (w := good_awakeA) (x := h)) ?_
        iterate 2 refine stp (fun _ h => s0 h) ?_
        refine aops_nil ?_
        refine AW.ret ?_
        refine ⟨.inr rfl, ?_⟩
        refine leaves_tmp1 4 rfl ?_ (by exact hG)
        simp (disch := first | omega | decide) only [go_sem, F, aIndex_map]
        all_goals rfl
end Go.Vai.AG
