import Derived.Test.YtmjnimnnlogomaarDf6
namespace Go.Vai.DB
open Go.Proofs Go.Vai Go.Vai.D Go.Vai.I Go.Vai.L Go.Vai.N Go.Vai.O
set_option linter.unusedSimpArgs false
set_option linter.unusedVariables false
set_option maxHeartbeats 4000000
set_option maxRecDepth 100000
theorem good_refOfDf (na : Bool) (a : List Lsa) (ha : a.length ≤ 1000000) (pa : ∀ x ∈ a, fit x) (nb : Bool) (b : List Lsa) (hb0 : b.length ≤ 1000000) (pb : ∀ x ∈ b, fit x) : Good Try.prog 13 [(.sl 3 na (a.map lsaA), false), (.sl 3 nb (b.map lsaA), false)] [] [(dlA (rofR a b), false)] [] := by
  refine good_of_body2 56 Try.func13 rfl rfl rfl (by simp) ?_
  intro s m ha hr hv hG
  have f0 : s 0 = .v (.sl 3 na (a.map lsaA)) := ha 0 _ rfl
  have f1 : s 1 = .v (.sl 3 nb (b.map lsaA)) := ha 1 _ rfl
  clear ha
  have hc : True := trivial
  have F := (And.intro f0 (And.intro f1 hG))
  refine AW.seq ?_
  refine AW.region (cfg := cfg) ?_
  refine stp (fun _ h => sd h) ?_
  refine aops_nil ?_
  refine AW.seq ?_
  refine AW.region (cfg := cfg) ?_
  refine stp (fun _ h => su h) ?_
  refine stp (fun _ h => sd h) ?_
  refine stp0 (fun _ h => ss h) ?_
  refine aops_nil ?_
  refine AW.seq ?_
  refine AW.seq ?_
  refine AW.cellNil 5 0 3 (by simp (disch := first | omega | decide) only [go_sem, F, aIndex_map]; rfl) (by rfl) ?_
  refine AW.cellNil 5 1 1 (by simp (disch := first | omega | decide) only [go_sem, F, aIndex_map]; rfl) (by rfl) ?_
  refine AW.cellNil 5 2 3 (by simp (disch := first | omega | decide) only [go_sem, F, aIndex_map]; rfl) (by rfl) ?_
  refine AW.region (cfg := cfg) ?_
  refine stp (fun _ h => s0 h) ?_
  refine aops_nil ?_
  refine AW.block ?_
  refine AW.forN (fun k σ => ∃ s m, σ = ⟨56, s, m⟩ ∧ s 0 = .v (.sl 3 na (a.map lsaA)) ∧ s 1 = .v (.sl 3 nb (b.map lsaA)) ∧ s 4 = .lptr (.tmp 4 0) (m.objs (.tmp 4 0)).1 0 ∧ (m.objs (.tmp 4 0)).2 = .box [.v (.sl 3 true []), .v (.sl 1 true []), .v (.sl 3 true [])] ∧ s 5 = .lptr (.tmp 5 0) (m.objs (.tmp 5 0)).1 0 ∧ (m.objs (.tmp 5 0)).2 = .box [.own (.cell 5 0) (m.objs (.cell 5 0)).1 0 ((rgF (roN a b) k).length), .own (.cell 5 1) (m.objs (.cell 5 1)).1 0 ((rgF (roG a b) k).length), .own (.cell 5 2) (m.objs (.cell 5 2)).1 0 ((rgF (roO a b) k).length)] ∧ (m.objs (.cell 5 0)).2 = .arr (rgF (roN a b) k).isEmpty 3 ((rgF (roN a b) k).map lsaA) ∧ (m.objs (.cell 5 1)).2 = .arr (rgF (roG a b) k).isEmpty 1 ((rgF (roG a b) k).map i64) ∧ (m.objs (.cell 5 2)).2 = .arr (rgF (roO a b) k).isEmpty 3 ((rgF (roO a b) k).map lsaA) ∧ s 6 = .v (i64 ((k : Int) + 1)) ∧ (∀ i, (m.objs (.res i)).2 = .dead) ∧ m.G = []) (64) ?_ ?_ ?_
  · refine ⟨_, _, rfl, ?_, ?_, ?_, ?_, ?_, ?_, ?_, ?_, ?_, ?_, (by intro i; simp [Mem.set, hr]), (by exact hG)⟩ <;> try simp (disch := first | omega | decide) only [go_sem, F, aIndex_map]
    all_goals rfl
  · clear F f0 f1 hr hG
    rintro k σ hk ⟨s, m, rfl, f0, f1, f4, o4, f5, o5, o5c0, o5c1, o5c2, f6, hr, hG⟩
    obtain ⟨g4, o4⟩ : ∃ g, m.objs (.tmp 4 0) = (g, .box [.v (.sl 3 true []), .v (.sl 1 true []), .v (.sl 3 true [])]) := ⟨_, Prod.ext rfl o4⟩
    rw [o4] at f4
    obtain ⟨g5c0, o5c0⟩ : ∃ g, m.objs (.cell 5 0) = (g, .arr (rgF (roN a b) k).isEmpty 3 ((rgF (roN a b) k).map lsaA)) := ⟨_, Prod.ext rfl o5c0⟩
    rw [o5c0] at o5
    obtain ⟨g5c1, o5c1⟩ : ∃ g, m.objs (.cell 5 1) = (g, .arr (rgF (roG a b) k).isEmpty 1 ((rgF (roG a b) k).map i64)) := ⟨_, Prod.ext rfl o5c1⟩
    rw [o5c1] at o5
    obtain ⟨g5c2, o5c2⟩ : ∃ g, m.objs (.cell 5 2) = (g, .arr (rgF (roO a b) k).isEmpty 3 ((rgF (roO a b) k).map lsaA)) := ⟨_, Prod.ext rfl o5c2⟩
    rw [o5c2] at o5
    simp only at o5
    obtain ⟨g5, o5⟩ : ∃ g, m.objs (.tmp 5 0) = (g, .box [.own (.cell 5 0) g5c0 0 ((rgF (roN a b) k).length), .own (.cell 5 1) g5c1 0 ((rgF (roG a b) k).length), .own (.cell 5 2) g5c2 0 ((rgF (roO a b) k).length)]) := ⟨_, Prod.ext rfl o5⟩
    rw [o5] at f5
    have F := (And.intro f0 (And.intro f1 (And.intro f4 (And.intro f5 (And.intro f6 (And.intro o4 (And.intro o5 (And.intro o5c0 (And.intro o5c1 (And.intro o5c2 hG))))))))))
    refine AW.seq ?_
    refine AW.seq ?_
    refine AW.region (cfg := cfg) ?_
    iterate 2 refine stp (fun _ h => s0 h) ?_
    refine aops_nil ?_
    refine cnd (fun hb => ?ht1) (fun hb => ?hf1)
    case hf1 => (simp at hb; omega)
    case ht1 =>
    have hbt11 := hb
    refine AW.skip ?_
    refine AW.seq ?_
    refine AW.block ?_
    refine AW.seq ?_
    have pga := gd_fit (t := (k : Int) + 1) pa
    have pgb := gd_fit (t := (k : Int) + 1) pb
    have w0 := fm_len (roN a b) k
    have w1 := fm_len (roG a b) k
    have w2 := fm_len (roO a b) k
    have hk64 : k < 64 := by assumption
    refine AW.region (cfg := cfg) ?_
    iterate 2 refine stp (fun _ h => s0 h) ?_
    refine stp (fun _ h => cr (w := good_Get11 na a (by omega) ((k : Int) + 1)) (x := h)) ?_
    iterate 2 refine stp (fun _ h => s0 h) ?_
    refine stp (fun _ h => cr (w := good_Get11 nb b (by omega) ((k : Int) + 1)) (x := h)) ?_
    iterate 2 refine stp (fun _ h => sd h) ?_
    iterate 2 refine stp0 (fun _ h => ss h) ?_
    refine aops_nil ?_
    refine AW.seq ?_
    refine AW.region (cfg := cfg) ?_
    refine stp (fun _ h => sx h) ?_
    refine stp (fun _ h => sl h) ?_
    iterate 2 refine stp (fun _ h => s0 h) ?_
    refine mrg wa (fun hc _ h => sx h) ?_
    refine mrg wa (fun hc _ h => sl h) ?_
    refine mrg wa (fun hc _ h => s0 h) ?_
    refine stp (fun _ h => s0 h) ?_
    refine aops_nil ?_
    refine cnd (fun hb => ?ht2) (fun hb => ?hf2)
    case ht2 =>
      have hw27 := hb
      try simp only [bo1, bo2, bo3, bo4, bo5, bo6] at hb
      have hbt27 := hb
      refine AW.region (cfg := cfg) ?_
      refine stp (fun _ h => sx h) ?_
      refine stp (fun _ h => sl h) ?_
      refine stp (fun _ h => s0 h) ?_
      refine stp (fun _ h => sq h) ?_
      refine stp (fun _ h => sp h) ?_
      refine stp (fun _ h => sx h) ?_
      refine stp0 (fun _ h => ss h) ?_
      refine aops_nil ?_
      refine AW.region (cfg := cfg) ?_
      refine stp (fun _ h => s0 h) ?_
      refine stp (fun _ h => sd h) ?_
      refine stp (fun _ h => s0 h) ?_
      refine aops_nil ?_
      refine ⟨_, _, rfl, ?_, ?_, ?_, ?_, ?_, ?_, ?_, ?_, ?_, ?_, (by intro i; simp [Mem.set, hr]), (by exact hG)⟩ <;> try simp (disch := first | omega | decide) only [go_sem, F, aIndex_map]
      all_goals first | rfl | (rw [fm_yes (f := roG a b) (if_pos hbt27), fm_no (f := roN a b) (if_pos hbt27), fm_no (f := roO a b) (if_pos hbt27)]; (simp; done)) | (rw [fm_yes (f := roG a b) (if_pos hbt27)]; (simp; done)) | (rw [fm_no (f := roN a b) (if_pos hbt27)]; done) | (rw [fm_no (f := roO a b) (if_pos hbt27)]; done)
    case hf2 =>
      have hw27 := hb
      try simp only [bo1, bo2, bo3, bo4, bo5, bo6] at hb
      have hbt27 := hb
      refine AW.seq ?_
      refine AW.region (cfg := cfg) ?_
      refine stp (fun _ h => sx h) ?_
      refine stp (fun _ h => sl h) ?_
      refine stp (fun _ h => sx h) ?_
      refine stp (fun _ h => sl h) ?_
      refine stp (fun _ h => s0 h) ?_
      refine aops_nil ?_
      refine cnd (fun hb => ?ht3) (fun hb => ?hf3)
      case ht3 =>
        have hw38 := hb
        try simp only [bo1, bo2, bo3, bo4, bo5, bo6] at hb
        have hbt38 := hb
        refine AW.region (cfg := cfg) ?_
        refine stp (fun _ h => sx h) ?_
        iterate 2 refine stp (fun _ h => sl h) ?_
        refine stp (fun _ h => sq h) ?_
        refine stp (fun _ h => sp h) ?_
        refine stp (fun _ h => sx h) ?_
        refine stp0 (fun _ h => ss h) ?_
        refine aops_nil ?_
        refine AW.region (cfg := cfg) ?_
        refine stp (fun _ h => s0 h) ?_
        refine stp (fun _ h => sd h) ?_
        refine stp (fun _ h => s0 h) ?_
        refine aops_nil ?_
        refine ⟨_, _, rfl, ?_, ?_, ?_, ?_, ?_, ?_, ?_, ?_, ?_, ?_, (by intro i; simp [Mem.set, hr]), (by exact hG)⟩ <;> try simp (disch := first | omega | decide) only [go_sem, F, aIndex_map]
        all_goals first | rfl | (rw [fm_no (f := roG a b) (if_neg (na_or hbt27)), fm_yes (f := roN a b) ((if_neg (na_or hbt27)).trans (if_pos hbt38)), fm_no (f := roO a b) ((if_neg (na_or hbt27)).trans (if_pos hbt38))]; (simp; done)) | (rw [fm_no (f := roG a b) (if_neg (na_or hbt27))]; done) | (rw [fm_yes (f := roN a b) ((if_neg (na_or hbt27)).trans (if_pos hbt38))]; (simp [lsaA]; done)) | (rw [fm_no (f := roO a b) ((if_neg (na_or hbt27)).trans (if_pos hbt38))]; done)
      case hf3 =>
        have hw38 := hb
        try simp only [bo1, bo2, bo3, bo4, bo5, bo6] at hb
        have hbt38 := hb
        refine AW.seq ?_
        refine AW.region (cfg := cfg) ?_
        iterate 2 refine stp (fun _ h => sl h) ?_
        refine stp (fun _ h => cs (w := L.good_refSame ((gK Lsa.o a ((k : Int) + 1)).getD default) (by have := pga.1; omega) ((gK Lsa.o b ((k : Int) + 1)).getD default) (by have := pgb.1; omega)) (x := h)) ?_
        refine stp (fun _ h => s0 h) ?_
        refine aops_nil ?_
        refine cnd (fun hb => ?ht4) (fun hb => ?hf4)
        case ht4 =>
          have hw48 := hb
          try simp only [bo1, bo2, bo3, bo4, bo5, bo6] at hb
          have hbt48 := hb
          refine AW.region (cfg := cfg) ?_
          refine stp (fun _ h => sx h) ?_
          iterate 2 refine stp (fun _ h => sl h) ?_
          refine stp (fun _ h => sq h) ?_
          refine stp (fun _ h => sp h) ?_
          refine stp (fun _ h => sx h) ?_
          refine stp0 (fun _ h => ss h) ?_
          refine aops_nil ?_
          refine AW.region (cfg := cfg) ?_
          refine stp (fun _ h => s0 h) ?_
          refine stp (fun _ h => sd h) ?_
          refine stp (fun _ h => s0 h) ?_
          refine aops_nil ?_
          refine ⟨_, _, rfl, ?_, ?_, ?_, ?_, ?_, ?_, ?_, ?_, ?_, ?_, (by intro i; simp [Mem.set, hr]), (by exact hG)⟩ <;> try simp (disch := first | omega | decide) only [go_sem, F, aIndex_map]
          all_goals first | rfl | (rw [fm_no (f := roG a b) (if_neg (na_or hbt27))]; done) | (rw [fm_no (f := roG a b) (if_neg (na_or hbt27)), fm_no (f := roN a b) ((if_neg (na_or hbt27)).trans (if_neg hbt38)), fm_yes (f := roO a b) ((if_neg (na_or hbt27)).trans ((if_neg hbt38).trans (if_pos hw48)))]; (simp; done)) | (rw [fm_no (f := roN a b) ((if_neg (na_or hbt27)).trans (if_neg hbt38))]; done) | (rw [fm_yes (f := roO a b) ((if_neg (na_or hbt27)).trans ((if_neg hbt38).trans (if_pos hw48)))]; (simp [lsaA]; done))
        case hf4 =>
          have hw48 := hb
          try simp only [bo1, bo2, bo3, bo4, bo5, bo6] at hb
          have hbt48 := hb
          refine AW.skip ?_
          refine AW.region (cfg := cfg) ?_
          refine stp (fun _ h => s0 h) ?_
          refine stp (fun _ h => sd h) ?_
          refine stp (fun _ h => s0 h) ?_
          refine aops_nil ?_
          refine ⟨_, _, rfl, ?_, ?_, ?_, ?_, ?_, ?_, ?_, ?_, ?_, ?_, (by intro i; simp [Mem.set, hr]), (by exact hG)⟩ <;> try simp (disch := first | omega | decide) only [go_sem, F, aIndex_map]
          all_goals first | rfl | (rw [fm_no (f := roG a b) (if_neg (na_or hbt27))]; done) | (rw [fm_no (f := roN a b) ((if_neg (na_or hbt27)).trans (if_neg hbt38))]; done) | (rw [fm_no (f := roG a b) (if_neg (na_or hbt27)), fm_no (f := roN a b) ((if_neg (na_or hbt27)).trans (if_neg hbt38)), fm_no (f := roO a b) ((if_neg (na_or hbt27)).trans ((if_neg hbt38).trans (if_neg (fun q => by rw [hw48] at q; cases q))))]; done) | (rw [fm_no (f := roO a b) ((if_neg (na_or hbt27)).trans ((if_neg hbt38).trans (if_neg (fun q => by rw [hw48] at q; cases q))))]; done)
  · clear F f0 f1 hr hG
    rintro σ ⟨s, m, rfl, f0, f1, f4, o4, f5, o5, o5c0, o5c1, o5c2, f6, hr, hG⟩
    obtain ⟨g4, o4⟩ : ∃ g, m.objs (.tmp 4 0) = (g, .box [.v (.sl 3 true []), .v (.sl 1 true []), .v (.sl 3 true [])]) := ⟨_, Prod.ext rfl o4⟩
    rw [o4] at f4
    obtain ⟨g5c0, o5c0⟩ : ∃ g, m.objs (.cell 5 0) = (g, .arr (rgF (roN a b) (64)).isEmpty 3 ((rgF (roN a b) (64)).map lsaA)) := ⟨_, Prod.ext rfl o5c0⟩
    rw [o5c0] at o5
    obtain ⟨g5c1, o5c1⟩ : ∃ g, m.objs (.cell 5 1) = (g, .arr (rgF (roG a b) (64)).isEmpty 1 ((rgF (roG a b) (64)).map i64)) := ⟨_, Prod.ext rfl o5c1⟩
    rw [o5c1] at o5
    obtain ⟨g5c2, o5c2⟩ : ∃ g, m.objs (.cell 5 2) = (g, .arr (rgF (roO a b) (64)).isEmpty 3 ((rgF (roO a b) (64)).map lsaA)) := ⟨_, Prod.ext rfl o5c2⟩
    rw [o5c2] at o5
    simp only at o5
    obtain ⟨g5, o5⟩ : ∃ g, m.objs (.tmp 5 0) = (g, .box [.own (.cell 5 0) g5c0 0 ((rgF (roN a b) (64)).length), .own (.cell 5 1) g5c1 0 ((rgF (roG a b) (64)).length), .own (.cell 5 2) g5c2 0 ((rgF (roO a b) (64)).length)]) := ⟨_, Prod.ext rfl o5⟩
    rw [o5] at f5
    have F := (And.intro f0 (And.intro f1 (And.intro f4 (And.intro f5 (And.intro f6 (And.intro o4 (And.intro o5 (And.intro o5c0 (And.intro o5c1 (And.intro o5c2 hG))))))))))
    refine AW.seq ?_
    refine AW.seq ?_
    refine AW.region (cfg := cfg) ?_
    iterate 2 refine stp (fun _ h => s0 h) ?_
    refine aops_nil ?_
    refine cnd (fun hb => ?ht5) (fun hb => ?hf5)
    case ht5 => (simp at hb; done)
    case hf5 =>
    have hbt11 := hb
    refine AW.exit ?_
    refine AW.seq ?_
    refine AW.region (cfg := cfg) ?_
    refine stp (fun _ h => sl h) ?_
    refine stp0 (fun _ h => ss h) ?_
    refine aops_nil ?_
    refine AW.ret ?_
    refine ⟨.inr rfl, ?_⟩
    refine leaves_mwp2 (rs := [.cell 4 27]) rfl ?_
    simp (config := {failIfUnchanged := false}) [giveL, srcOne, rehome, freezeN, sub, ti27, upd, opn, aLoad, loadL, giveOne, reify, reifyL, readL, readOne, Mwp, M.bind, Mem.set, setAt, cellsL, hG, f0, f1, f4, f5, f6, o4, o5, o5c0, o5c1, o5c2]
    all_goals (simp only [rofR, dlA]; (simp [List.take_of_length_le, sub_full]; done))
end Go.Vai.DB
