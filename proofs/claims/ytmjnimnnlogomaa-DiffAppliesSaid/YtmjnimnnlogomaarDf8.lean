import Derived.Test.YtmjnimnnlogomaarDf6
namespace Go.Vai.DB
open Go.Proofs Go.Vai Go.Vai.D Go.Vai.I Go.Vai.L Go.Vai.N Go.Vai.O
set_option linter.unusedSimpArgs false
set_option linter.unusedVariables false
set_option maxHeartbeats 4000000
set_option maxRecDepth 100000
theorem app_end {a : List Lsa} {d : Dl} : xS (xS (apA a d) d.ol d.ol.length) d.nw d.nw.length = xS (apA a d) (mo d) (mo d).length := xS_app
theorem good_refApplyDf (na : Bool) (a : List Lsa) (ha : a.length ≤ 1000000) (pa : ∀ x ∈ a, fit x) (d : Dl) (hd1 : d.nw.length ≤ 400000) (hd2 : d.gn.length ≤ 1000000) (hd3 : d.ol.length ≤ 400000) (pd1 : ∀ x ∈ d.nw, fit x) (pd3 : ∀ x ∈ d.ol, fit x) (h0 : dbOK a = true) (h1 : ∀ y ∈ d.ol, lsaOK y = true) (h2 : ∀ y ∈ d.nw, lsaOK y = true) : Good Try.prog 16 [(.sl 3 na (a.map lsaA), false), (dlA d, false)] [] [(.sl 3 false ((xS (apA a d) (mo d) (mo d).length).map lsaA), false)] [] := by
  refine good_of_body2 61 Try.func16 rfl rfl rfl (by simp) ?_
  intro s m ha hr hv hG
  have f0 : s 0 = .v (.sl 3 na (a.map lsaA)) := ha 0 _ rfl
  have f1 : s 1 = .v (.agg [.sl 3 d.n1 (d.nw.map lsaA), .sl 1 d.n2 (d.gn.map i64), .sl 3 d.n3 (d.ol.map lsaA)]) := ha 1 _ rfl
  clear ha
  have hc : True := trivial
  have F := (And.intro f0 (And.intro f1 hG))
  have hA : dbOK (apA a d) = true := db_filter h0
  have hla := db_len h0
  refine AW.seq ?_
  refine AW.region (cfg := cfg) ?_
  refine stp (fun _ h => sb h) ?_
  refine stp (fun _ h => s0 h) ?_
  refine aops_nil ?_
  refine AW.seq ?_
  refine AW.region (cfg := cfg) ?_
  refine stp (fun _ h => sq h) ?_
  refine stp (fun _ h => st h) ?_
  refine aops_nil ?_
  refine AW.seq ?_
  refine AW.seq ?_
  refine AW.region (cfg := cfg) ?_
  refine stp (fun _ h => s0 h) ?_
  refine aops_nil ?_
  refine AW.block ?_
  refine AW.forN (fun k σ => ∃ s m, σ = ⟨61, s, m⟩ ∧ s 0 = .v (.sl 3 na (a.map lsaA)) ∧ s 3 = .lptr (.tmp 3 0) (m.objs (.tmp 3 0)).1 0 ∧ (m.objs (.tmp 3 0)).2 = .box [.v (.sl 3 d.n1 (d.nw.map lsaA)), .v (.sl 1 d.n2 (d.gn.map i64)), .v (.sl 3 d.n3 (d.ol.map lsaA))] ∧ s 5 = .own (.var 5) (m.objs (.var 5)).1 0 (((a.take k).filter (kp d)).length) ∧ (m.objs (.var 5)).2 = .arr false 3 (((a.take k).filter (kp d)).map lsaA) ∧ s 6 = .v (i64 (k : Int)) ∧ (∀ i, (m.objs (.res i)).2 = .dead) ∧ m.G = []) (a.length) ?_ ?_ ?_
  · refine ⟨_, _, rfl, ?_, ?_, ?_, ?_, ?_, ?_, (by intro i; simp [Mem.set, hr]), (by exact hG)⟩ <;> try simp (disch := first | omega | decide) only [go_sem, F, aIndex_map]
    all_goals rfl
  · clear F f0 f1 hr hG
    rintro k σ hk ⟨s, m, rfl, f0, f3, o3, f5, o5, f6, hr, hG⟩
    obtain ⟨g3, o3⟩ : ∃ g, m.objs (.tmp 3 0) = (g, .box [.v (.sl 3 d.n1 (d.nw.map lsaA)), .v (.sl 1 d.n2 (d.gn.map i64)), .v (.sl 3 d.n3 (d.ol.map lsaA))]) := ⟨_, Prod.ext rfl o3⟩
    rw [o3] at f3
    obtain ⟨g5, o5⟩ : ∃ g, m.objs (.var 5) = (g, .arr false 3 (((a.take k).filter (kp d)).map lsaA)) := ⟨_, Prod.ext rfl o5⟩
    rw [o5] at f5
    have F := (And.intro f0 (And.intro f3 (And.intro f5 (And.intro f6 (And.intro o3 (And.intro o5 hG))))))
    refine AW.seq ?_
    refine AW.seq ?_
    refine AW.region (cfg := cfg) ?_
    iterate 2 refine stp (fun _ h => s0 h) ?_
    refine stp (fun _ h => sd h) ?_
    refine stp (fun _ h => s0 h) ?_
    refine aops_nil ?_
    refine cnd (fun hb => ?ht1) (fun hb => ?hf1)
    case hf1 => (simp at hb; omega)
    case ht1 =>
    have hbt13 := hb
    refine AW.skip ?_
    refine AW.seq ?_
    refine AW.block ?_
    refine AW.seq ?_
    have hka : k < a.length := by assumption
    have pk := pa a[k] (List.getElem_mem hka)
    have w0 := flt_len (kp d) a k
    refine AW.draw (cfg := cfg) (by kernel_rfl) (by kernel_rfl) (by kernel_rfl) ?_
    refine dstp (fun _ h => sx h) ?_
    refine dstp (fun _ h => sl h) ?_
    iterate 2 refine dstp (fun _ h => s0 h) ?_
    refine dstp (fun _ h => si h) ?_
    refine dstp (fun _ h => sx h) ?_
    refine dstp (fun _ h => sl h) ?_
    refine dstp (fun _ h => cs (w := good_HasN d.n2 d.gn (by omega) a[k].o) (x := h)) ?_
    refine dstp (fun _ h => s0 h) ?_
    refine adraw_nil (by kernel_rfl) ?_
    refine cnd (fun hb => ?ht2) (fun hb => ?hf2)
    case ht2 =>
      have hw24 := hb
      try simp only [bo1, bo2, bo3, bo4, bo5, bo6] at hb
      have hbt24 := hb
      refine AW.region (cfg := cfg) ?_
      iterate 3 refine stp (fun _ h => s0 h) ?_
      refine stp (fun _ h => si h) ?_
      refine stp (fun _ h => sl h) ?_
      refine stp (fun _ h => sq h) ?_
      refine stp (fun _ h => sp h) ?_
      refine stp (fun _ h => st h) ?_
      refine aops_nil ?_
      refine AW.region (cfg := cfg) ?_
      refine stp (fun _ h => s0 h) ?_
      refine stp (fun _ h => sd h) ?_
      refine stp (fun _ h => s0 h) ?_
      refine aops_nil ?_
      refine ⟨_, _, rfl, ?_, ?_, ?_, ?_, ?_, ?_, (by intro i; simp [Mem.set, hr]), (by exact hG)⟩ <;> try simp (disch := first | omega | decide) only [go_sem, F, aIndex_map]
      all_goals first | rfl | (rw [flt_yes (p := kp d) hka hw24]; first | (simp; done) | (simp [lsaA]; done))
    case hf2 =>
      have hw24 := hb
      try simp only [bo1, bo2, bo3, bo4, bo5, bo6] at hb
      have hbt24 := hb
      refine AW.skip ?_
      refine AW.region (cfg := cfg) ?_
      refine stp (fun _ h => s0 h) ?_
      refine stp (fun _ h => sd h) ?_
      refine stp (fun _ h => s0 h) ?_
      refine aops_nil ?_
      refine ⟨_, _, rfl, ?_, ?_, ?_, ?_, ?_, ?_, (by intro i; simp [Mem.set, hr]), (by exact hG)⟩ <;> try simp (disch := first | omega | decide) only [go_sem, F, aIndex_map]
      all_goals first | rfl | (rw [flt_no (p := kp d) hka hw24]; done)
  · clear F f0 f1 hr hG
    rintro σ ⟨s, m, rfl, f0, f3, o3, f5, o5, f6, hr, hG⟩
    obtain ⟨g3, o3⟩ : ∃ g, m.objs (.tmp 3 0) = (g, .box [.v (.sl 3 d.n1 (d.nw.map lsaA)), .v (.sl 1 d.n2 (d.gn.map i64)), .v (.sl 3 d.n3 (d.ol.map lsaA))]) := ⟨_, Prod.ext rfl o3⟩
    rw [o3] at f3
    obtain ⟨g5, o5⟩ : ∃ g, m.objs (.var 5) = (g, .arr false 3 (((a.take a.length).filter (kp d)).map lsaA)) := ⟨_, Prod.ext rfl o5⟩
    rw [o5] at f5
    have F := (And.intro f0 (And.intro f3 (And.intro f5 (And.intro f6 (And.intro o3 (And.intro o5 hG))))))
    refine AW.seq ?_
    refine AW.seq ?_
    refine AW.region (cfg := cfg) ?_
    iterate 2 refine stp (fun _ h => s0 h) ?_
    refine stp (fun _ h => sd h) ?_
    refine stp (fun _ h => s0 h) ?_
    refine aops_nil ?_
    refine cnd (fun hb => ?ht3) (fun hb => ?hf3)
    case ht3 => (simp at hb; done)
    case hf3 =>
    have hbt13 := hb
    refine AW.exit ?_
    refine AW.seq ?_
    refine AW.seq ?_
    refine AW.frzVar 5 (by simp (disch := first | omega | decide) only [go_sem, F]; rfl) (by simp (disch := first | omega | decide) only [go_sem, F]; rfl) ?_
    refine AW.region (cfg := cfg) ?_
    refine stp (fun _ h => s0 h) ?_
    refine aops_nil ?_
    refine AW.block ?_
    refine AW.forN (fun k σ => ∃ s m, σ = ⟨61, s, m⟩ ∧ s 3 = .lptr (.tmp 3 0) (m.objs (.tmp 3 0)).1 0 ∧ (m.objs (.tmp 3 0)).2 = .box [.v (.sl 3 d.n1 (d.nw.map lsaA)), .v (.sl 1 d.n2 (d.gn.map i64)), .v (.sl 3 d.n3 (d.ol.map lsaA))] ∧ s 5 = .v (.sl 3 false ((xS (apA a d) d.ol k).map lsaA)) ∧ s 7 = .v (i64 (k : Int)) ∧ (∀ i, (m.objs (.res i)).2 = .dead) ∧ m.G = []) (d.ol.length) ?_ ?_ ?_
    · refine ⟨_, _, rfl, ?_, ?_, ?_, ?_, (by intro i; simp [Mem.set, hr]), (by exact hG)⟩ <;> try simp (disch := first | omega | decide) only [go_sem, F, aIndex_map]
      all_goals first | rfl | (rw [sub_full (by simp)]; simp [xS, apA]; done)
    · clear F f0 f3 f5 f6 o3 o5 hr hG
      rintro k σ hk ⟨s, m, rfl, f3, o3, f5, f7, hr, hG⟩
      obtain ⟨g3, o3⟩ : ∃ g, m.objs (.tmp 3 0) = (g, .box [.v (.sl 3 d.n1 (d.nw.map lsaA)), .v (.sl 1 d.n2 (d.gn.map i64)), .v (.sl 3 d.n3 (d.ol.map lsaA))]) := ⟨_, Prod.ext rfl o3⟩
      rw [o3] at f3
      have F := (And.intro f3 (And.intro f5 (And.intro f7 (And.intro o3 hG))))
      refine AW.seq ?_
      refine AW.seq ?_
      refine AW.region (cfg := cfg) ?_
      refine stp (fun _ h => s0 h) ?_
      refine stp (fun _ h => sx h) ?_
      refine stp (fun _ h => sl h) ?_
      refine stp (fun _ h => sd h) ?_
      refine stp (fun _ h => s0 h) ?_
      refine aops_nil ?_
      refine cnd (fun hb => ?ht4) (fun hb => ?hf4)
      case hf4 => (simp at hb; omega)
      case ht4 =>
      have hbt36 := hb
      refine AW.skip ?_
      refine AW.seq ?_
      refine AW.block ?_
      have hkm : k < d.ol.length := by assumption
      have hx := xS_ok hA h1 k
      have hs := db_srt hx
      have hle := db_len hx
      have er := refPut_eq hs d.ol[k]
      rw [← xS_succ hkm] at er
      have F := And.intro er F
      refine AW.region (cfg := cfg) ?_
      refine stp (fun _ h => s0 h) ?_
      refine stp (fun _ h => sx h) ?_
      refine stp (fun _ h => sl h) ?_
      refine stp (fun _ h => s0 h) ?_
      refine stp (fun _ h => si h) ?_
      refine stp (fun _ h => sl h) ?_
      refine stp (fun _ h => cr (w := good_Put11 false (xS (apA a d) d.ol k) (by omega) d.ol[k]) (x := h)) ?_
      refine stp (fun _ h => s0 h) ?_
      refine aops_nil ?_
      refine AW.region (cfg := cfg) ?_
      refine stp (fun _ h => s0 h) ?_
      refine stp (fun _ h => sd h) ?_
      refine stp (fun _ h => s0 h) ?_
      refine aops_nil ?_
      refine ⟨_, _, rfl, ?_, ?_, ?_, ?_, (by intro i; simp [Mem.set, hr]), (by exact hG)⟩ <;> try simp (disch := first | omega | decide) only [go_sem, F, aIndex_map]
      all_goals rfl
    · clear F f0 f3 f5 f6 o3 o5 hr hG
      rintro σ ⟨s, m, rfl, f3, o3, f5, f7, hr, hG⟩
      obtain ⟨g3, o3⟩ : ∃ g, m.objs (.tmp 3 0) = (g, .box [.v (.sl 3 d.n1 (d.nw.map lsaA)), .v (.sl 1 d.n2 (d.gn.map i64)), .v (.sl 3 d.n3 (d.ol.map lsaA))]) := ⟨_, Prod.ext rfl o3⟩
      rw [o3] at f3
      have F := (And.intro f3 (And.intro f5 (And.intro f7 (And.intro o3 hG))))
      refine AW.seq ?_
      refine AW.seq ?_
      refine AW.region (cfg := cfg) ?_
      refine stp (fun _ h => s0 h) ?_
      refine stp (fun _ h => sx h) ?_
      refine stp (fun _ h => sl h) ?_
      refine stp (fun _ h => sd h) ?_
      refine stp (fun _ h => s0 h) ?_
      refine aops_nil ?_
      refine cnd (fun hb => ?ht5) (fun hb => ?hf5)
      case ht5 => (simp at hb; done)
      case hf5 =>
      have hbt36 := hb
      refine AW.exit ?_
      refine AW.seq ?_
      refine AW.seq ?_
      refine AW.region (cfg := cfg) ?_
      refine stp (fun _ h => s0 h) ?_
      refine aops_nil ?_
      refine AW.block ?_
      refine AW.forN (fun k σ => ∃ s m, σ = ⟨61, s, m⟩ ∧ s 3 = .lptr (.tmp 3 0) (m.objs (.tmp 3 0)).1 0 ∧ (m.objs (.tmp 3 0)).2 = .box [.v (.sl 3 d.n1 (d.nw.map lsaA)), .v (.sl 1 d.n2 (d.gn.map i64)), .v (.sl 3 d.n3 (d.ol.map lsaA))] ∧ s 5 = .v (.sl 3 false ((xS (xS (apA a d) d.ol d.ol.length) d.nw k).map lsaA)) ∧ s 8 = .v (i64 (k : Int)) ∧ (∀ i, (m.objs (.res i)).2 = .dead) ∧ m.G = []) (d.nw.length) ?_ ?_ ?_
      · refine ⟨_, _, rfl, ?_, ?_, ?_, ?_, (by intro i; simp [Mem.set, hr]), (by exact hG)⟩ <;> try simp (disch := first | omega | decide) only [go_sem, F, aIndex_map]
        all_goals rfl
      · clear F f3 f5 f7 o3 hr hG
        rintro k σ hk ⟨s, m, rfl, f3, o3, f5, f8, hr, hG⟩
        obtain ⟨g3, o3⟩ : ∃ g, m.objs (.tmp 3 0) = (g, .box [.v (.sl 3 d.n1 (d.nw.map lsaA)), .v (.sl 1 d.n2 (d.gn.map i64)), .v (.sl 3 d.n3 (d.ol.map lsaA))]) := ⟨_, Prod.ext rfl o3⟩
        rw [o3] at f3
        have F := (And.intro f3 (And.intro f5 (And.intro f8 (And.intro o3 hG))))
        refine AW.seq ?_
        refine AW.seq ?_
        refine AW.region (cfg := cfg) ?_
        refine stp (fun _ h => s0 h) ?_
        refine stp (fun _ h => sx h) ?_
        refine stp (fun _ h => sl h) ?_
        refine stp (fun _ h => sd h) ?_
        refine stp (fun _ h => s0 h) ?_
        refine aops_nil ?_
        refine cnd (fun hb => ?ht6) (fun hb => ?hf6)
        case hf6 => (simp at hb; omega)
        case ht6 =>
        have hbt50 := hb
        refine AW.skip ?_
        refine AW.seq ?_
        refine AW.block ?_
        have hkm : k < d.nw.length := by assumption
        have hB := xS_ok hA h1 d.ol.length
        have hx := xS_ok hB h2 k
        have hs := db_srt hx
        have hle := db_len hx
        have er := refPut_eq hs d.nw[k]
        rw [← xS_succ hkm] at er
        have F := And.intro er F
        refine AW.region (cfg := cfg) ?_
        refine stp (fun _ h => s0 h) ?_
        refine stp (fun _ h => sx h) ?_
        refine stp (fun _ h => sl h) ?_
        refine stp (fun _ h => s0 h) ?_
        refine stp (fun _ h => si h) ?_
        refine stp (fun _ h => sl h) ?_
        refine stp (fun _ h => cr (w := good_Put11 false (xS (xS (apA a d) d.ol d.ol.length) d.nw k) (by omega) d.nw[k]) (x := h)) ?_
        refine stp (fun _ h => s0 h) ?_
        refine aops_nil ?_
        refine AW.region (cfg := cfg) ?_
        refine stp (fun _ h => s0 h) ?_
        refine stp (fun _ h => sd h) ?_
        refine stp (fun _ h => s0 h) ?_
        refine aops_nil ?_
        refine ⟨_, _, rfl, ?_, ?_, ?_, ?_, (by intro i; simp [Mem.set, hr]), (by exact hG)⟩ <;> try simp (disch := first | omega | decide) only [go_sem, F, aIndex_map]
        all_goals rfl
      · clear F f3 f5 f7 o3 hr hG
        rintro σ ⟨s, m, rfl, f3, o3, f5, f8, hr, hG⟩
        obtain ⟨g3, o3⟩ : ∃ g, m.objs (.tmp 3 0) = (g, .box [.v (.sl 3 d.n1 (d.nw.map lsaA)), .v (.sl 1 d.n2 (d.gn.map i64)), .v (.sl 3 d.n3 (d.ol.map lsaA))]) := ⟨_, Prod.ext rfl o3⟩
        rw [o3] at f3
        have F := (And.intro f3 (And.intro f5 (And.intro f8 (And.intro o3 hG))))
        refine AW.seq ?_
        refine AW.seq ?_
        refine AW.region (cfg := cfg) ?_
        refine stp (fun _ h => s0 h) ?_
        refine stp (fun _ h => sx h) ?_
        refine stp (fun _ h => sl h) ?_
        refine stp (fun _ h => sd h) ?_
        refine stp (fun _ h => s0 h) ?_
        refine aops_nil ?_
        refine cnd (fun hb => ?ht7) (fun hb => ?hf7)
        case ht7 => (simp at hb; done)
        case hf7 =>
        have hbt50 := hb
        refine AW.exit ?_
        refine AW.seq ?_
        refine AW.region (cfg := cfg) ?_
        refine stp (fun _ h => s0 h) ?_
        refine stp (fun _ h => sm h) ?_
        refine aops_nil ?_
        refine AW.ret ?_
        refine ⟨.inr rfl, ?_⟩
        refine leaves_tmp1 4 rfl ?_ (by exact hG)
        simp (disch := first | omega | decide) only [go_sem, F, aIndex_map]
        all_goals (rw [app_end]; done)
end Go.Vai.DB
