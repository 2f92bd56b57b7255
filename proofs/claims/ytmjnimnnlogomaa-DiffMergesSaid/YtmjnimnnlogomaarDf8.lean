import Derived.Test.YtmjnimnnlogomaarDf6
namespace Go.Vai.DB
open Go.Proofs Go.Vai Go.Vai.D Go.Vai.I Go.Vai.L Go.Vai.N Go.Vai.O
set_option linter.unusedSimpArgs false
set_option linter.unusedVariables false
set_option maxHeartbeats 4000000
set_option maxRecDepth 100000
theorem good_refMergeDf (na : Bool) (a : List Lsa) (ha : a.length ≤ 1000000) (pa : ∀ x ∈ a, fit x) (nb : Bool) (b : List Lsa) (hb0 : b.length ≤ 1000000) (pb : ∀ x ∈ b, fit x) : Good Try.prog 18 [(.sl 3 na (a.map lsaA), false), (.sl 3 nb (b.map lsaA), false)] [] [(.sl 3 false ((rgF (mgI a b) 64).map lsaA), false)] [] := by
  refine good_of_body2 34 Try.func18 rfl rfl rfl (by simp) ?_
  intro s m ha hr hv hG
  have f0 : s 0 = .v (.sl 3 na (a.map lsaA)) := ha 0 _ rfl
  have f1 : s 1 = .v (.sl 3 nb (b.map lsaA)) := ha 1 _ rfl
  clear ha
  have hc : True := trivial
  have F := (And.intro f0 (And.intro f1 hG))
  refine AW.seq ?_
  refine AW.region (cfg := cfg) ?_
  refine stp (fun _ h => s0 h) ?_
  refine aops_nil ?_
  refine AW.seq ?_
  refine AW.region (cfg := cfg) ?_
  refine stp (fun _ h => sq h) ?_
  refine stp (fun _ h => st h) ?_
  refine aops_nil ?_
  refine AW.seq ?_
  refine AW.seq ?_
  refine AW.region (cfg := cfg) ?_
  refine stp (fun _ h => s0 h) ?_
  refine aops_nil ?_
  refine AW.block ?_
  refine AW.forN (fun k σ => ∃ s m, σ = ⟨34, s, m⟩ ∧ s 0 = .v (.sl 3 na (a.map lsaA)) ∧ s 1 = .v (.sl 3 nb (b.map lsaA)) ∧ s 5 = .own (.var 5) (m.objs (.var 5)).1 0 ((rgF (mgI a b) k).length) ∧ (m.objs (.var 5)).2 = .arr false 3 ((rgF (mgI a b) k).map lsaA) ∧ s 6 = .v (i64 ((k : Int) + 1)) ∧ (∀ i, (m.objs (.res i)).2 = .dead) ∧ m.G = []) (64) ?_ ?_ ?_
  · refine ⟨_, _, rfl, ?_, ?_, ?_, ?_, ?_, (by intro i; simp [Mem.set, hr]), (by exact hG)⟩ <;> try simp (disch := first | omega | decide) only [go_sem, F, aIndex_map]
    all_goals rfl
  · clear F f0 f1 hr hG
    rintro k σ hk ⟨s, m, rfl, f0, f1, f5, o5, f6, hr, hG⟩
    obtain ⟨g5, o5⟩ : ∃ g, m.objs (.var 5) = (g, .arr false 3 ((rgF (mgI a b) k).map lsaA)) := ⟨_, Prod.ext rfl o5⟩
    rw [o5] at f5
    have F := (And.intro f0 (And.intro f1 (And.intro f5 (And.intro f6 (And.intro o5 hG)))))
    refine AW.seq ?_
    refine AW.seq ?_
    refine AW.region (cfg := cfg) ?_
    iterate 2 refine stp (fun _ h => s0 h) ?_
    refine aops_nil ?_
    refine cnd (fun hb => ?ht1) (fun hb => ?hf1)
    case hf1 => (simp at hb; omega)
    case ht1 =>
    have hbt11 := hb
    refine AW.skip ?_
    refine AW.seq ?_
    refine AW.block ?_
    refine AW.seq ?_
    have pga := gd_fit (t := (k : Int) + 1) pa
    have pgb := gd_fit (t := (k : Int) + 1) pb
    have w0 := fm_len (mgI a b) k
    have hk64 : k < 64 := by assumption
    refine AW.region (cfg := cfg) ?_
    iterate 2 refine stp (fun _ h => s0 h) ?_
    refine stp (fun _ h => cr (w := good_Get11 na a (by omega) ((k : Int) + 1)) (x := h)) ?_
    iterate 2 refine stp (fun _ h => s0 h) ?_
    refine stp (fun _ h => cr (w := good_Get11 nb b (by omega) ((k : Int) + 1)) (x := h)) ?_
    iterate 2 refine stp (fun _ h => sd h) ?_
    iterate 2 refine stp0 (fun _ h => ss h) ?_
    refine aops_nil ?_
    refine AW.seq ?_
    refine AW.seq ?_
    refine AW.region (cfg := cfg) ?_
    refine stp (fun _ h => sx h) ?_
    refine stp (fun _ h => sl h) ?_
    refine stp (fun _ h => sx h) ?_
    refine stp (fun _ h => sl h) ?_
    refine stp (fun _ h => s0 h) ?_
    refine aops_nil ?_
    refine cnd (fun hb => ?ht2) (fun hb => ?hf2)
    case ht2 =>
      have hw24 := hb
      try simp only [bo1, bo2, bo3, bo4, bo5, bo6] at hb
      have hbt24 := hb
      refine AW.region (cfg := cfg) ?_
      refine stp (fun _ h => sl h) ?_
      refine stp0 (fun _ h => ss h) ?_
      refine aops_nil ?_
      refine AW.seq ?_
      refine AW.region (cfg := cfg) ?_
      refine stp (fun _ h => sx h) ?_
      refine stp (fun _ h => sl h) ?_
      refine stp (fun _ h => s0 h) ?_
      refine aops_nil ?_
      refine cnd (fun hb => ?ht3) (fun hb => ?hf3)
      case ht3 =>
        have hw28 := hb
        try simp only [bo1, bo2, bo3, bo4, bo5, bo6] at hb
        have hbt28 := hb
        refine AW.region (cfg := cfg) ?_
        refine stp (fun _ h => s0 h) ?_
        refine stp (fun _ h => sl h) ?_
        refine stp (fun _ h => sq h) ?_
        refine stp (fun _ h => sp h) ?_
        refine stp (fun _ h => st h) ?_
        refine aops_nil ?_
        refine AW.region (cfg := cfg) ?_
        refine stp (fun _ h => s0 h) ?_
        refine stp (fun _ h => sd h) ?_
        refine stp (fun _ h => s0 h) ?_
        refine aops_nil ?_
        refine ⟨_, _, rfl, ?_, ?_, ?_, ?_, ?_, (by intro i; simp [Mem.set, hr]), (by exact hG)⟩ <;> try simp (disch := first | omega | decide) only [go_sem, F, aIndex_map]
        all_goals first | rfl | (rw [fm_yes (f := mgI a b) (mg_b hbt24 hbt28)]; first | (simp; done) | (simp [lsaA]; done))
      case hf3 =>
        have hw28 := hb
        try simp only [bo1, bo2, bo3, bo4, bo5, bo6] at hb
        have hbt28 := hb
        refine AW.skip ?_
        refine AW.region (cfg := cfg) ?_
        refine stp (fun _ h => s0 h) ?_
        refine stp (fun _ h => sd h) ?_
        refine stp (fun _ h => s0 h) ?_
        refine aops_nil ?_
        refine ⟨_, _, rfl, ?_, ?_, ?_, ?_, ?_, (by intro i; simp [Mem.set, hr]), (by exact hG)⟩ <;> try simp (disch := first | omega | decide) only [go_sem, F, aIndex_map]
        all_goals first | rfl | (rw [fm_no (f := mgI a b) (mg_b0 hbt24 hbt28)]; done)
    case hf2 =>
      have hw24 := hb
      try simp only [bo1, bo2, bo3, bo4, bo5, bo6] at hb
      have hbt24 := hb
      refine AW.skip ?_
      refine AW.seq ?_
      refine AW.region (cfg := cfg) ?_
      refine stp (fun _ h => sx h) ?_
      refine stp (fun _ h => sl h) ?_
      refine stp (fun _ h => s0 h) ?_
      refine aops_nil ?_
      refine cnd (fun hb => ?ht4) (fun hb => ?hf4)
      case ht4 =>
        have hw28 := hb
        try simp only [bo1, bo2, bo3, bo4, bo5, bo6] at hb
        have hbt28 := hb
        refine AW.region (cfg := cfg) ?_
        refine stp (fun _ h => s0 h) ?_
        refine stp (fun _ h => sl h) ?_
        refine stp (fun _ h => sq h) ?_
        refine stp (fun _ h => sp h) ?_
        refine stp (fun _ h => st h) ?_
        refine aops_nil ?_
        refine AW.region (cfg := cfg) ?_
        refine stp (fun _ h => s0 h) ?_
        refine stp (fun _ h => sd h) ?_
        refine stp (fun _ h => s0 h) ?_
        refine aops_nil ?_
        refine ⟨_, _, rfl, ?_, ?_, ?_, ?_, ?_, (by intro i; simp [Mem.set, hr]), (by exact hG)⟩ <;> try simp (disch := first | omega | decide) only [go_sem, F, aIndex_map]
        all_goals first | rfl | (rw [fm_yes (f := mgI a b) (mg_a hbt24 hbt28)]; first | (simp; done) | (simp [lsaA]; done))
      case hf4 =>
        have hw28 := hb
        try simp only [bo1, bo2, bo3, bo4, bo5, bo6] at hb
        have hbt28 := hb
        refine AW.skip ?_
        refine AW.region (cfg := cfg) ?_
        refine stp (fun _ h => s0 h) ?_
        refine stp (fun _ h => sd h) ?_
        refine stp (fun _ h => s0 h) ?_
        refine aops_nil ?_
        refine ⟨_, _, rfl, ?_, ?_, ?_, ?_, ?_, (by intro i; simp [Mem.set, hr]), (by exact hG)⟩ <;> try simp (disch := first | omega | decide) only [go_sem, F, aIndex_map]
        all_goals first | rfl | (rw [fm_no (f := mgI a b) (mg_a0 hbt24 hbt28)]; done)
  · clear F f0 f1 hr hG
    rintro σ ⟨s, m, rfl, f0, f1, f5, o5, f6, hr, hG⟩
    obtain ⟨g5, o5⟩ : ∃ g, m.objs (.var 5) = (g, .arr false 3 ((rgF (mgI a b) 64).map lsaA)) := ⟨_, Prod.ext rfl o5⟩
    rw [o5] at f5
    have F := (And.intro f0 (And.intro f1 (And.intro f5 (And.intro f6 (And.intro o5 hG)))))
    refine AW.seq ?_
    refine AW.seq ?_
    refine AW.region (cfg := cfg) ?_
    iterate 2 refine stp (fun _ h => s0 h) ?_
    refine aops_nil ?_
    refine cnd (fun hb => ?ht5) (fun hb => ?hf5)
    case ht5 => (simp at hb; done)
    case hf5 =>
    have hbt11 := hb
    refine AW.exit ?_
    refine AW.seq ?_
    refine AW.region (cfg := cfg) ?_
    refine stp (fun _ h => s0 h) ?_
    refine stp (fun _ h => sm h) ?_
    refine aops_nil ?_
    refine AW.ret ?_
    refine ⟨.inr rfl, ?_⟩
    refine leaves_tmp1 4 rfl ?_ (by exact hG)
    simp (disch := first | omega | decide) only [go_sem, F, aIndex_map]
    all_goals (rw [sub_full (by simp)]; done)
end Go.Vai.DB
