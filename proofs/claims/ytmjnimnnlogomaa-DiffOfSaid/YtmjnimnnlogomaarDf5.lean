import Derived.Test.YtmjnimnnlogomaarDf4
import Derived.Test.YtmjnimnnlogomaaVaiE
namespace Go.Vai.DB
open Go.Proofs Go.Vai Go.Vai.D Go.Vai.I Go.Vai.L Go.Vai.N Go.Vai.O
set_option linter.unusedSimpArgs false
set_option linter.unusedVariables false
set_option maxHeartbeats 4000000
set_option maxRecDepth 100000
theorem good_EmptyDf (d : Dl) (hd1 : d.nw.length ≤ 400000) (hd2 : d.gn.length ≤ 1000000) (hd3 : d.ol.length ≤ 400000) : Good Try.prog 10 [(dlA d, false)] [] [(.b (emptyD d), false)] [] := by
  refine good_of_body2 19 Try.func10 rfl rfl rfl (by simp) ?_
  intro s m ha hr hv hG
  have f0 : s 0 = .v (.agg [.sl 3 d.n1 (d.nw.map lsaA), .sl 1 d.n2 (d.gn.map i64), .sl 3 d.n3 (d.ol.map lsaA)]) := ha 0 _ rfl
  clear ha
  have hc : True := trivial
  have F := (And.intro f0 hG)
  refine AW.seq ?_
  refine AW.region (cfg := cfg) ?_
  refine stp (fun _ h => sb h) ?_
  refine stp (fun _ h => s0 h) ?_
  refine aops_nil ?_
  refine AW.seq ?_
  refine AW.region (cfg := cfg) ?_
  refine stp (fun _ h => sx h) ?_
  refine stp (fun _ h => sl h) ?_
  refine stp (fun _ h => sd h) ?_
  iterate 2 refine stp (fun _ h => s0 h) ?_
  refine mrg wa (fun hc _ h => sx h) ?_
  refine mrg wa (fun hc _ h => sl h) ?_
  refine mrg wa (fun hc _ h => sd h) ?_
  refine mrg wa (fun hc _ h => s0 h) ?_
  iterate 2 refine stp (fun _ h => s0 h) ?_
  refine mrg wa (fun hc _ h => sx h) ?_
  refine mrg wa (fun hc _ h => sl h) ?_
  refine mrg wa (fun hc _ h => sd h) ?_
  refine mrg wa (fun hc _ h => s0 h) ?_
  iterate 2 refine stp (fun _ h => s0 h) ?_
  refine aops_nil ?_
  refine AW.ret ?_
  refine ⟨.inr rfl, ?_⟩
  refine leaves_tmp1 2 rfl ?_ (by exact hG)
  simp (disch := first | omega | decide) only [go_sem, F, aIndex_map]
  all_goals rfl
theorem good_SameDf (d : Dl) (hd1 : d.nw.length ≤ 400000) (hd2 : d.gn.length ≤ 1000000) (hd3 : d.ol.length ≤ 400000) (pd1 : ∀ x ∈ d.nw, fit x) (pd3 : ∀ x ∈ d.ol, fit x) (e : Dl) (he1 : e.nw.length ≤ 400000) (he2 : e.gn.length ≤ 1000000) (he3 : e.ol.length ≤ 400000) (pe1 : ∀ x ∈ e.nw, fit x) (pe3 : ∀ x ∈ e.ol, fit x) : Good Try.prog 12 [(dlA d, false), (dlA e, false)] [] [(.b (sameD d e), false)] [] := by
  refine good_of_body2 24 Try.func12 rfl rfl rfl (by simp) ?_
  intro s m ha hr hv hG
  have f0 : s 0 = .v (.agg [.sl 3 d.n1 (d.nw.map lsaA), .sl 1 d.n2 (d.gn.map i64), .sl 3 d.n3 (d.ol.map lsaA)]) := ha 0 _ rfl
  have f1 : s 1 = .v (.agg [.sl 3 e.n1 (e.nw.map lsaA), .sl 1 e.n2 (e.gn.map i64), .sl 3 e.n3 (e.ol.map lsaA)]) := ha 1 _ rfl
  clear ha
  have hc : True := trivial
  have F := (And.intro f0 (And.intro f1 hG))
  refine AW.seq ?_
  refine AW.region (cfg := cfg) ?_
  iterate 2 refine stp (fun _ h => sb h) ?_
  refine stp (fun _ h => s0 h) ?_
  refine aops_nil ?_
  refine AW.seq ?_
  refine AW.region (cfg := cfg) ?_
  refine stp (fun _ h => sx h) ?_
  refine stp (fun _ h => sl h) ?_
  refine stp (fun _ h => sx h) ?_
  refine stp (fun _ h => sl h) ?_
  refine stp (fun _ h => cs (w := good_refAllDb d.n1 e.n1 d.nw e.nw (by omega) (by omega) pd1 pe1) (x := h)) ?_
  refine stp (fun _ h => s0 h) ?_
  refine mrg wa (fun hc _ h => sx h) ?_
  refine mrg wa (fun hc _ h => sl h) ?_
  refine mrg wa (fun hc _ h => sx h) ?_
  refine mrg wa (fun hc _ h => sl h) ?_
  refine mrg wa (fun hc _ h => cs (w := good_refAllDb d.n3 e.n3 d.ol e.ol (by omega) (by omega) pd3 pe3) (x := h)) ?_
  iterate 2 refine stp (fun _ h => s0 h) ?_
  refine mrg wa (fun hc _ h => sx h) ?_
  refine mrg wa (fun hc _ h => sl h) ?_
  refine mrg wa (fun hc _ h => sx h) ?_
  refine mrg wa (fun hc _ h => sl h) ?_
  refine mrg wa (fun hc _ h => cs (w := good_IntsN d.n2 e.n2 d.gn e.gn (by omega) (by omega)) (x := h)) ?_
  iterate 2 refine stp (fun _ h => s0 h) ?_
  refine aops_nil ?_
  refine AW.ret ?_
  refine ⟨.inr rfl, ?_⟩
  refine leaves_tmp1 4 rfl ?_ (by exact hG)
  simp (disch := first | omega | decide) only [go_sem, F, aIndex_map]
  all_goals rfl
theorem good_ApplyDf (na : Bool) (a : List Lsa) (ha : a.length ≤ 1000000) (pa : ∀ x ∈ a, fit x) (d : Dl) (hd1 : d.nw.length ≤ 400000) (hd2 : d.gn.length ≤ 1000000) (hd3 : d.ol.length ≤ 400000) (pd1 : ∀ x ∈ d.nw, fit x) (pd3 : ∀ x ∈ d.ol, fit x) : Good Try.prog 11 [(.sl 3 na (a.map lsaA), false), (dlA d, false)] [] [(.sl 3 (applyR a d).1 ((applyR a d).2.1.map lsaA), false), (i64 (applyR a d).2.2, false)] [] := by
  refine good_of_body2 55 Try.func11 rfl rfl rfl (by simp) ?_
  intro s m ha hr hv hG
  have f0 : s 0 = .v (.sl 3 na (a.map lsaA)) := ha 0 _ rfl
  have f1 : s 1 = .v (.agg [.sl 3 d.n1 (d.nw.map lsaA), .sl 1 d.n2 (d.gn.map i64), .sl 3 d.n3 (d.ol.map lsaA)]) := ha 1 _ rfl
  clear ha
  have hc : True := trivial
  have F := (And.intro f0 (And.intro f1 hG))
  have hml : (mo d).length = d.ol.length + d.nw.length := List.length_append
  have pm : ∀ x ∈ mo d, fit x := fun x hx => by (rcases List.mem_append.1 hx with h | h; exact pd3 x h; exact pd1 x h)
  have ec : catLsa [(d.n3, d.ol), (d.n1, d.nw)] = mo d := by simp [catLsa, mo]
  refine AW.seq ?_
  refine AW.region (cfg := cfg) ?_
  refine stp (fun _ h => sb h) ?_
  iterate 2 refine stp (fun _ h => s0 h) ?_
  refine aops_nil ?_
  refine AW.seq ?_
  skip
  have F := And.intro ec F
  refine AW.region (cfg := cfg) ?_
  refine stp (fun _ h => sx h) ?_
  refine stp (fun _ h => sl h) ?_
  refine stp (fun _ h => sx h) ?_
  refine stp (fun _ h => sl h) ?_
  refine stp (fun _ h => sq h) ?_
  refine stp (fun _ h => co1 (w := good_ConcatLsa false [(d.n3, d.ol), (d.n1, d.nw)] (by simp) (by rw [ec]; omega)) (x := h)) ?_
  refine stp (fun _ h => st h) ?_
  refine aops_nil ?_
  refine AW.seq ?_
  refine AW.seq ?_
  refine AW.frzVar 6 (by simp (disch := first | omega | decide) only [go_sem, F]; rfl) (by simp (disch := first | omega | decide) only [go_sem, F]; rfl) ?_
  have sf : sub ((mo d).map lsaA) 0 (mo d).length = (mo d).map lsaA := sub_full (by simp)
  have F := And.intro sf F
  refine AW.region (cfg := cfg) ?_
  refine stp (fun _ h => s0 h) ?_
  refine stp (fun _ h => cs (w := good_CheckDb na a (by omega) (fun x hx => by have := (pa x hx).1; omega)) (x := h)) ?_
  iterate 2 refine stp (fun _ h => s0 h) ?_
  refine mrg wa (fun hc _ h => s0 h) ?_
  refine mrg wa (fun hc _ h => cs (w := good_ContainsFuncLsa (!decide (((mo d).length : Int) > 0)) (mo d) 30 [] (fun y => !lsaOK y) (by omega) rfl rfl rfl rfl (fun y hy => good_apply1 y (pm y hy))) (x := h)) ?_
  refine stp (fun _ h => s0 h) ?_
  refine aops_nil ?_
  refine cnd (fun hb => ?ht1) (fun hb => ?hf1)
  case ht1 =>
    have hw24 := hb
    try simp only [bo1, bo2, bo3, bo4, bo5, bo6] at hb
    have hbt24 := hb
    refine AW.seq ?_
    refine AW.region (cfg := cfg) ?_
    iterate 2 refine stp (fun _ h => s0 h) ?_
    refine aops_nil ?_
    refine AW.ret ?_
    refine ⟨.inr rfl, ?_⟩
    refine leaves_mwp2 (rs := [.tmp 4, .tmp 5]) rfl ?_
    simp (config := {failIfUnchanged := false}) [giveL, srcOne, rehome, freezeN, sub, upd, opn, aLoad, loadL, giveOne, reify, reifyL, readL, readOne, Mwp, M.bind, Mem.set, setAt, cellsL, hG, f0, f1, ec, sf]
    all_goals (rw [applyR_no hbt24]; (simp; done))
  case hf1 =>
    have hw24 := hb
    try simp only [bo1, bo2, bo3, bo4, bo5, bo6] at hb
    have hbt24 := hb
    refine AW.skip ?_
    refine AW.seq ?_
    have h0 := dbE_0 hbt24.1
    have h1 := any_no hbt24.2
    have hla := db_len h0
    refine AW.region (cfg := cfg) ?_
    refine stp (fun _ h => s0 h) ?_
    refine aops_nil ?_
    refine AW.seq ?_
    refine AW.seq ?_
    refine AW.region (cfg := cfg) ?_
    refine stp (fun _ h => s0 h) ?_
    refine stp (fun _ h => sd h) ?_
    refine stp (fun _ h => s0 h) ?_
    refine aops_nil ?_
    refine AW.block ?_
    refine AW.forN (fun k σ => ∃ s m, σ = ⟨55, s, m⟩ ∧ s 0 = .v (.sl 3 na (a.map lsaA)) ∧ s 3 = .lptr (.tmp 3 0) (m.objs (.tmp 3 0)).1 0 ∧ (m.objs (.tmp 3 0)).2 = .box [.v (.sl 3 d.n1 (d.nw.map lsaA)), .v (.sl 1 d.n2 (d.gn.map i64)), .v (.sl 3 d.n3 (d.ol.map lsaA))] ∧ s 6 = .v (.sl 3 (!decide (((mo d).length : Int) > 0)) ((mo d).map lsaA)) ∧ s 7 = .own (.var 7) (m.objs (.var 7)).1 0 (((a.take k).filter (kp d)).length) ∧ (m.objs (.var 7)).2 = .arr ((a.take k).filter (kp d)).isEmpty 3 (((a.take k).filter (kp d)).map lsaA) ∧ s 25 = .v (.sl 3 na (a.map lsaA)) ∧ s 26 = .v (i64 (a.length : Int)) ∧ s 27 = .v (i64 (k : Int)) ∧ (∀ i, (m.objs (.res i)).2 = .dead) ∧ m.G = []) (a.length) ?_ ?_ ?_
    · refine ⟨_, _, rfl, ?_, ?_, ?_, ?_, ?_, ?_, ?_, ?_, ?_, (by intro i; simp [Mem.set, hr]), (by exact hG)⟩ <;> try simp (disch := first | omega | decide) only [go_sem, F, aIndex_map]
      all_goals rfl
    · clear F f0 f1 hr hG
      rintro k σ hk ⟨s, m, rfl, f0, f3, o3, f6, f7, o7, f25, f26, f27, hr, hG⟩
      obtain ⟨g3, o3⟩ : ∃ g, m.objs (.tmp 3 0) = (g, .box [.v (.sl 3 d.n1 (d.nw.map lsaA)), .v (.sl 1 d.n2 (d.gn.map i64)), .v (.sl 3 d.n3 (d.ol.map lsaA))]) := ⟨_, Prod.ext rfl o3⟩
      rw [o3] at f3
      obtain ⟨g7, o7⟩ : ∃ g, m.objs (.var 7) = (g, .arr ((a.take k).filter (kp d)).isEmpty 3 (((a.take k).filter (kp d)).map lsaA)) := ⟨_, Prod.ext rfl o7⟩
      rw [o7] at f7
      have F := (And.intro f0 (And.intro f3 (And.intro f6 (And.intro f7 (And.intro f25 (And.intro f26 (And.intro f27 (And.intro o3 (And.intro o7 (And.intro ec (And.intro sf hG)))))))))))
      refine AW.seq ?_
      refine AW.region (cfg := cfg) ?_
      refine stp (fun _ h => s0 h) ?_
      refine aops_nil ?_
      refine AW.seq ?_
      refine cnd (fun hb => ?ht2) (fun hb => ?hf2)
      case hf2 => (simp at hb; omega)
      case ht2 =>
      have hbt28 := hb
      refine AW.skip ?_
      refine AW.seq ?_
      refine AW.block ?_
      refine AW.seq ?_
      have hka : k < a.length := by assumption
      have pk := pa a[k] (List.getElem_mem hka)
      have w0 := flt_len (kp d) a k
      refine AW.region (cfg := cfg) ?_
      refine stp (fun _ h => si h) ?_
      refine stp (fun _ h => sl h) ?_
      refine stp (fun _ h => sd h) ?_
      refine stp0 (fun _ h => ss h) ?_
      refine aops_nil ?_
      refine AW.seq ?_
      refine AW.region (cfg := cfg) ?_
      refine stp (fun _ h => sx h) ?_
      refine stp (fun _ h => sl h) ?_
      refine stp (fun _ h => sx h) ?_
      refine stp (fun _ h => sl h) ?_
      refine stp (fun _ h => cs (w := good_ContainsN d.n2 d.gn (by omega) a[k].o) (x := h)) ?_
      refine stp (fun _ h => s0 h) ?_
      refine aops_nil ?_
      refine cnd (fun hb => ?ht3) (fun hb => ?hf3)
      case ht3 =>
        have hw36 := hb
        try simp only [bo1, bo2, bo3, bo4, bo5, bo6] at hb
        have hbt36 := hb
        refine AW.region (cfg := cfg) ?_
        refine stp (fun _ h => s0 h) ?_
        refine stp (fun _ h => sl h) ?_
        refine stp (fun _ h => cr (w := good_CopyX a[k] pk) (x := h)) ?_
        refine stp (fun _ h => sq h) ?_
        refine stp (fun _ h => sp h) ?_
        refine stp (fun _ h => st h) ?_
        refine aops_nil ?_
        refine AW.region (cfg := cfg) ?_
        refine stp (fun _ h => sd h) ?_
        refine stp (fun _ h => s0 h) ?_
        refine aops_nil ?_
        refine ⟨_, _, rfl, ?_, ?_, ?_, ?_, ?_, ?_, ?_, ?_, ?_, (by intro i; simp [Mem.set, hr]), (by exact hG)⟩ <;> try simp (disch := first | omega | decide) only [go_sem, F, aIndex_map]
        all_goals first | rfl | (rw [flt_yes (p := kp d) hka hw36]; simp; done)
      case hf3 =>
        have hw36 := hb
        try simp only [bo1, bo2, bo3, bo4, bo5, bo6] at hb
        have hbt36 := hb
        refine AW.skip ?_
        refine AW.region (cfg := cfg) ?_
        refine stp (fun _ h => sd h) ?_
        refine stp (fun _ h => s0 h) ?_
        refine aops_nil ?_
        refine ⟨_, _, rfl, ?_, ?_, ?_, ?_, ?_, ?_, ?_, ?_, ?_, (by intro i; simp [Mem.set, hr]), (by exact hG)⟩ <;> try simp (disch := first | omega | decide) only [go_sem, F, aIndex_map]
        all_goals first | rfl | (rw [flt_no (p := kp d) hka hw36]; done)
    · clear F f0 f1 hr hG
      rintro σ ⟨s, m, rfl, f0, f3, o3, f6, f7, o7, f25, f26, f27, hr, hG⟩
      obtain ⟨g3, o3⟩ : ∃ g, m.objs (.tmp 3 0) = (g, .box [.v (.sl 3 d.n1 (d.nw.map lsaA)), .v (.sl 1 d.n2 (d.gn.map i64)), .v (.sl 3 d.n3 (d.ol.map lsaA))]) := ⟨_, Prod.ext rfl o3⟩
      rw [o3] at f3
      obtain ⟨g7, o7⟩ : ∃ g, m.objs (.var 7) = (g, .arr ((a.take a.length).filter (kp d)).isEmpty 3 (((a.take a.length).filter (kp d)).map lsaA)) := ⟨_, Prod.ext rfl o7⟩
      rw [o7] at f7
      have F := (And.intro f0 (And.intro f3 (And.intro f6 (And.intro f7 (And.intro f25 (And.intro f26 (And.intro f27 (And.intro o3 (And.intro o7 (And.intro ec (And.intro sf hG)))))))))))
      refine AW.seq ?_
      refine AW.region (cfg := cfg) ?_
      refine stp (fun _ h => s0 h) ?_
      refine aops_nil ?_
      refine AW.seq ?_
      refine cnd (fun hb => ?ht4) (fun hb => ?hf4)
      case ht4 => (simp at hb; done)
      case hf4 =>
      have hbt28 := hb
      refine AW.exit ?_
      refine AW.seq ?_
      refine AW.seq ?_
      have hA : dbOK (apA a d) = true := db_filter h0
      refine AW.region (cfg := cfg) ?_
      refine stp (fun _ h => s0 h) ?_
      refine stp (fun _ h => sn h) ?_
      refine stp (fun _ h => s0 h) ?_
      refine aops_nil ?_
      refine AW.block ?_
      refine AW.forN (fun k σ => ∃ s m, σ = ⟨55, s, m⟩ ∧ s 7 = .own (.var 7) (m.objs (.var 7)).1 0 ((xS (apA a d) (mo d) k).length) ∧ (m.objs (.var 7)).2 = .arr ((apA a d).isEmpty && decide (k = 0)) 3 ((xS (apA a d) (mo d) k).map lsaA) ∧ s 43 = .v (.sl 3 (!decide (((mo d).length : Int) > 0)) ((mo d).map lsaA)) ∧ s 44 = .v (i64 ((mo d).length : Int)) ∧ s 45 = .v (i64 (k : Int)) ∧ (∀ i, (m.objs (.res i)).2 = .dead) ∧ m.G = []) ((mo d).length) ?_ ?_ ?_
      · refine ⟨_, _, rfl, ?_, ?_, ?_, ?_, ?_, (by intro i; simp [Mem.set, hr]), (by exact hG)⟩ <;> try simp (disch := first | omega | decide) only [go_sem, F, aIndex_map]
        all_goals first | rfl | (simp [xS, apA]; done)
      · clear F f0 f3 f6 f7 f25 f26 f27 o3 o7 hr hG
        rintro k σ hk ⟨s, m, rfl, f7, o7, f43, f44, f45, hr, hG⟩
        obtain ⟨g7, o7⟩ : ∃ g, m.objs (.var 7) = (g, .arr ((apA a d).isEmpty && decide (k = 0)) 3 ((xS (apA a d) (mo d) k).map lsaA)) := ⟨_, Prod.ext rfl o7⟩
        rw [o7] at f7
        have F := (And.intro f7 (And.intro f43 (And.intro f44 (And.intro f45 (And.intro o7 (And.intro ec (And.intro sf hG)))))))
        refine AW.seq ?_
        refine AW.region (cfg := cfg) ?_
        refine stp (fun _ h => s0 h) ?_
        refine aops_nil ?_
        refine AW.seq ?_
        refine cnd (fun hb => ?ht5) (fun hb => ?hf5)
        case hf5 => (simp at hb; omega)
        case ht5 =>
        have hbt46 := hb
        refine AW.skip ?_
        refine AW.seq ?_
        refine AW.block ?_
        refine AW.seq ?_
        have hkm : k < (mo d).length := by assumption
        have pk := pm (mo d)[k] (List.getElem_mem hkm)
        have hx := xS_ok hA h1 k
        have hs := db_srt hx
        have hle := db_len hx
        refine AW.region (cfg := cfg) ?_
        refine stp (fun _ h => si h) ?_
        refine stp (fun _ h => sl h) ?_
        refine stp (fun _ h => sd h) ?_
        refine stp0 (fun _ h => ss h) ?_
        refine aops_nil ?_
        refine AW.region (cfg := cfg) ?_
        refine stp (fun _ h => s0 h) ?_
        refine stp (fun _ h => sl h) ?_
        refine stp (fun _ h => cr (w := good_CopyX (mo d)[k] pk) (x := h)) ?_
        refine stp (fun _ h => cx1 (w := good_putDf ((apA a d).isEmpty && decide (k = 0)) (xS (apA a d) (mo d) k) (by omega) xS_nil2 hs (mo d)[k]) (x := h)) ?_
        refine stp (fun _ h => st h) ?_
        refine aops_nil ?_
        refine AW.region (cfg := cfg) ?_
        refine stp (fun _ h => sd h) ?_
        refine stp (fun _ h => s0 h) ?_
        refine aops_nil ?_
        refine ⟨_, _, rfl, ?_, ?_, ?_, ?_, ?_, (by intro i; simp [Mem.set, hr]), (by exact hG)⟩ <;> try simp (disch := first | omega | decide) only [go_sem, F, aIndex_map]
        all_goals first | rfl | (rw [xS_succ hkm]; done) | (rw [xS_succ hkm]; simp; done)
      · clear F f0 f3 f6 f7 f25 f26 f27 o3 o7 hr hG
        rintro σ ⟨s, m, rfl, f7, o7, f43, f44, f45, hr, hG⟩
        obtain ⟨g7, o7⟩ : ∃ g, m.objs (.var 7) = (g, .arr ((apA a d).isEmpty && decide ((mo d).length = 0)) 3 ((xS (apA a d) (mo d) (mo d).length).map lsaA)) := ⟨_, Prod.ext rfl o7⟩
        rw [o7] at f7
        have F := (And.intro f7 (And.intro f43 (And.intro f44 (And.intro f45 (And.intro o7 (And.intro ec (And.intro sf hG)))))))
        refine AW.seq ?_
        refine AW.region (cfg := cfg) ?_
        refine stp (fun _ h => s0 h) ?_
        refine aops_nil ?_
        refine AW.seq ?_
        refine cnd (fun hb => ?ht6) (fun hb => ?hf6)
        case ht6 => (simp at hb; done)
        case hf6 =>
        have hbt46 := hb
        refine AW.exit ?_
        refine AW.seq ?_
        refine AW.region (cfg := cfg) ?_
        refine stp (fun _ h => s0 h) ?_
        refine stp (fun _ h => sm h) ?_
        refine stp (fun _ h => s0 h) ?_
        refine aops_nil ?_
        refine AW.ret ?_
        refine ⟨.inr rfl, ?_⟩
        refine leaves_mwp2 (rs := [.tmp 4, .tmp 5]) rfl ?_
        simp (config := {failIfUnchanged := false}) [giveL, srcOne, rehome, freezeN, sub, upd, opn, aLoad, loadL, giveOne, reify, reifyL, readL, readOne, Mwp, M.bind, Mem.set, setAt, cellsL, hG, f7, f43, f44, f45, o7, ec, sf]
        all_goals (rw [applyR_yes h0 h1]; (simp [List.take_of_length_le]; done))
end Go.Vai.DB
