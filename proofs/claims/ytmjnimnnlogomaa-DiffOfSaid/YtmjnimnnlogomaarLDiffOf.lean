import Derived.Test.YtmjnimnnlogomaarDf9
namespace Go.Vai.DB
open Go.Proofs Go.Vai Go.Vai.D Go.Vai.I Go.Vai.L Go.Vai.N Go.Vai.O
set_option linter.unusedSimpArgs false
set_option linter.unusedVariables false
set_option maxHeartbeats 4000000
set_option maxRecDepth 100000
theorem dl_fit {a b : List Lsa} (pb : ∀ x ∈ b, fit x) : (∀ x ∈ (dlR a b).nw, fit x) ∧ ∀ x ∈ (dlR a b).ol, fit x := ⟨fun x hx => pb x (List.mem_filter.1 hx).1, fun x hx => pb x (List.mem_filter.1 hx).1⟩
theorem good_DiffOf (na : Bool) (a : List Lsa) (ha : a.length ≤ 9223372036854775807) (hza : na = true → a = []) (pa : ∀ x ∈ a, x.ls.length ≤ 9223372036854775807 ∧ (x.nil = true → x.ls = [])) (nb : Bool) (b : List Lsa) (hb : b.length ≤ 9223372036854775807) (hzb : nb = true → b = []) (pb : ∀ x ∈ b, x.ls.length ≤ 9223372036854775807 ∧ (x.nil = true → x.ls = [])) : Good Try.prog 3 [(.sl 3 na (a.map lsaA), false), (.sl 3 nb (b.map lsaA), false)] [] [(.b true, false)] [] := by
  refine good_of_body2 92 Try.func3 rfl rfl rfl (by simp) ?_
  intro s m ha hr hv hG
  have f0 : s 0 = .v (.sl 3 na (a.map lsaA)) := ha 0 _ rfl
  have f1 : s 1 = .v (.sl 3 nb (b.map lsaA)) := ha 1 _ rfl
  clear ha
  have hc : True := trivial
  have F := (And.intro f0 (And.intro f1 hG))
  refine AW.seq ?_
  refine AW.region (cfg := cfg) ?_
  refine stp (fun _ h => s0 h) ?_
  refine aops_nil ?_
  refine AW.seq ?_
  refine AW.seq ?_
  refine AW.region (cfg := cfg) ?_
  refine stp (fun _ h => s0 h) ?_
  refine stp (fun _ h => cs (w := good_LightDb na a (by omega) (fun x hx => (pa x hx).1)) (x := h)) ?_
  iterate 2 refine stp (fun _ h => s0 h) ?_
  refine mrg wa (fun hc _ h => s0 h) ?_
  refine mrg wa (fun hc _ h => cs (w := good_LightDb nb b (by omega) (fun x hx => (pb x hx).1)) (x := h)) ?_
  refine mrg wa (fun hc _ h => s0 h) ?_
  refine stp (fun _ h => s0 h) ?_
  refine aops_nil ?_
  refine cnd (fun hb => ?ht1) (fun hb => ?hf1)
  case ht1 =>
    have hw18 := hb
    try simp only [bo1, bo2, bo3, bo4, bo5, bo6] at hb
    have hbt18 := hb
    refine AW.seq ?_
    refine AW.region (cfg := cfg) ?_
    refine stp (fun _ h => cs (w := good_awakeDf) (x := h)) ?_
    refine stp (fun _ h => s0 h) ?_
    refine aops_nil ?_
    refine AW.ret ?_
    refine ⟨.inr rfl, ?_⟩
    refine leaves_tmp1 4 rfl ?_ (by exact hG)
    simp (disch := first | omega | decide) only [go_sem, F, aIndex_map]
    all_goals first | done | rfl | (simp; done) | trace_state
  case hf1 =>
    have hw18 := hb
    try simp only [bo1, bo2, bo3, bo4, bo5, bo6] at hb
    have hbt18 := hb
    refine AW.skip ?_
    refine AW.seq ?_
    obtain ⟨ha2, pa2⟩ := light_of (show lightD a = true by simpa using hbt18.1) (fun x hx => (pa x hx).2)
    obtain ⟨hb2, pb2⟩ := light_of (show lightD b = true by simpa using hbt18.2) (fun x hx => (pb x hx).2)
    refine AW.region (cfg := cfg) ?_
    iterate 2 refine stp (fun _ h => s0 h) ?_
    refine stp (fun _ h => cr (w := good_OfDf na a (by omega) pa2 nb b (by omega) pb2) (x := h)) ?_
    iterate 3 refine stp (fun _ h => s0 h) ?_
    refine stp (fun _ h => sd h) ?_
    refine stp0 (fun _ h => ss h) ?_
    refine stp (fun _ h => s0 h) ?_
    refine aops_nil ?_
    refine AW.seq ?_
    refine AW.seq ?_
    refine AW.region (cfg := cfg) ?_
    refine stp (fun _ h => s0 h) ?_
    refine stp (fun _ h => cs (w := good_MayDb na a (by omega) (fun x hx => by have := (pa2 x hx).1; omega)) (x := h)) ?_
    iterate 2 refine stp (fun _ h => s0 h) ?_
    refine mrg wa (fun hc _ h => s0 h) ?_
    refine mrg wa (fun hc _ h => cs (w := good_MayDb nb b (by omega) (fun x hx => by have := (pb2 x hx).1; omega)) (x := h)) ?_
    refine mrg wa (fun hc _ h => s0 h) ?_
    refine stp (fun _ h => s0 h) ?_
    refine aops_nil ?_
    refine cnd (fun hb => ?ht2) (fun hb => ?hf2)
    case ht2 =>
      have hw33 := hb
      try simp only [bo1, bo2, bo3, bo4, bo5, bo6] at hb
      have hbt33 := hb
      refine AW.seq ?_
      have e1 : ofR a b = (dl0, 1) := by (rw [ofR]; rcases hbt33 with q | q; rw [show dbOK a = false by simpa using q]; rfl; rw [show dbOK b = false by simpa using q, Bool.and_false]; rfl)
      have F := And.intro e1 F
      refine AW.region (cfg := cfg) ?_
      iterate 3 refine stp (fun _ h => s0 h) ?_
      refine mrg wa (fun hc _ h => sl h) ?_
      refine mrg wa (fun hc _ h => cs (w := good_E1) (x := h)) ?_
      iterate 2 refine stp (fun _ h => s0 h) ?_
      refine mrg wa (fun hc _ h => cs (w := good_awakeDf) (x := h)) ?_
      iterate 2 refine stp (fun _ h => s0 h) ?_
      refine aops_nil ?_
      refine AW.ret ?_
      refine ⟨.inr rfl, ?_⟩
      refine leaves_tmp1 4 rfl ?_ (by exact hG)
      simp (disch := first | omega | decide) only [go_sem, F, aIndex_map]
      all_goals rfl
    case hf2 =>
      have hw33 := hb
      try simp only [bo1, bo2, bo3, bo4, bo5, bo6] at hb
      have hbt33 := hb
      refine AW.skip ?_
      refine AW.seq ?_
      have h0a : dbOK a = true := by simpa using hbt33.1
      have h0b : dbOK b = true := by simpa using hbt33.2
      have e1 := ofR_yes h0a h0b
      have e3 := ofR_yes h0a h0a
      have e2 := applyR_yes h0a (dl_ok (a := a) h0b)
      have er := of_ref h0a h0b
      have es := same_self (dlR a b)
      have eb := back h0a h0b
      have en := self_nil h0a
      have ei := nil_iff h0a h0b
      have hX : dbOK (xS (apA a (dlR a b)) (mo (dlR a b)) (mo (dlR a b)).length) = true := xS_ok (db_filter (p := kp (dlR a b)) h0a) (dl_ok (a := a) h0b) (mo (dlR a b)).length
      have wX := db_len hX
      have pX : ∀ y ∈ (xS (apA a (dlR a b)) (mo (dlR a b)) (mo (dlR a b)).length), fit y := fun y hy => by (rcases xS_mem _ y hy with q | q; exact pa2 y (List.mem_filter.1 q).1; rcases List.mem_append.1 q with q | q; exact pb2 y (List.mem_filter.1 q).1; exact pb2 y (List.mem_filter.1 q).1)
      have w1 := nw_len a b
      have w2 := gn_len a b
      have w3 := ol_len a b
      have u1 := nw_len a a
      have u2 := gn_len a a
      have u3 := ol_len a a
      obtain ⟨q1, q3⟩ := dl_fit (a := a) pb2
      have F := And.intro e1 F
      have F := And.intro e2 F
      have F := And.intro e3 F
      have F := And.intro er F
      have F := And.intro es F
      have F := And.intro eb F
      have F := And.intro en F
      have F := And.intro ei F
      refine AW.region (cfg := cfg) ?_
      refine stp (fun _ h => s0 h) ?_
      refine stp (fun _ h => sl h) ?_
      refine stp (fun _ h => cr (w := good_ApplyDf na a (by omega) pa2 (dlR a b) (show (nwL a b).length ≤ 400000 by omega) (show (gnL a b).length ≤ 1000000 by omega) (show (olL a b).length ≤ 400000 by omega) q1 q3) (x := h)) ?_
      iterate 5 refine stp (fun _ h => s0 h) ?_
      refine aops_nil ?_
      refine AW.seq ?_
      refine AW.region (cfg := cfg) ?_
      iterate 2 refine stp (fun _ h => s0 h) ?_
      refine stp (fun _ h => cr (w := good_OfDf na a (by omega) pa2 na a (by omega) pa2) (x := h)) ?_
      iterate 3 refine stp (fun _ h => s0 h) ?_
      refine stp (fun _ h => sd h) ?_
      refine stp0 (fun _ h => ss h) ?_
      refine stp (fun _ h => s0 h) ?_
      refine aops_nil ?_
      refine AW.seq ?_
      refine AW.draw (cfg := cfg) (by kernel_rfl) (by kernel_rfl) (by kernel_rfl) ?_
      iterate 3 refine dstp (fun _ h => s0 h) ?_
      refine dmrg wa (fun hc _ h => sl h) ?_
      iterate 2 refine dmrg wa (fun hc _ h => s0 h) ?_
      refine dmrg wa (fun hc _ h => cr (w := good_refOfDf na a (by omega) pa2 nb b (by omega) pb2) (x := h)) ?_
      refine dmrg wa (fun hc _ h => cs (w := good_SameDf (dlR a b) (show (nwL a b).length ≤ 400000 by omega) (show (gnL a b).length ≤ 1000000 by omega) (show (olL a b).length ≤ 400000 by omega) q1 q3 (dlR a b) (show (nwL a b).length ≤ 400000 by omega) (show (gnL a b).length ≤ 1000000 by omega) (show (olL a b).length ≤ 400000 by omega) q1 q3) (x := h)) ?_
      iterate 2 refine dstp (fun _ h => s0 h) ?_
      iterate 2 refine dmrg wa (fun hc _ h => s0 h) ?_
      iterate 2 refine dstp (fun _ h => s0 h) ?_
      iterate 2 refine dmrg wa (fun hc _ h => s0 h) ?_
      refine dmrg wa (fun hc _ h => cs (w := good_refAllDb _ nb (xS (apA a (dlR a b)) (mo (dlR a b)) (mo (dlR a b)).length) b (by omega) (by omega) pX pb2) (x := h)) ?_
      iterate 2 refine dstp (fun _ h => s0 h) ?_
      iterate 2 refine dmrg wa (fun hc _ h => s0 h) ?_
      iterate 2 refine dstp (fun _ h => s0 h) ?_
      refine dmrg wa (fun hc _ h => sl h) ?_
      refine dmrg wa (fun hc _ h => cs (w := good_EmptyDf (dlR a a) (show (nwL a a).length ≤ 400000 by omega) (show (gnL a a).length ≤ 1000000 by omega) (show (olL a a).length ≤ 400000 by omega)) (x := h)) ?_
      iterate 2 refine dstp (fun _ h => s0 h) ?_
      refine dmrg wa (fun hc _ h => sl h) ?_
      refine dmrg wa (fun hc _ h => cs (w := good_EmptyDf (dlR a b) (show (nwL a b).length ≤ 400000 by omega) (show (gnL a b).length ≤ 1000000 by omega) (show (olL a b).length ≤ 400000 by omega)) (x := h)) ?_
      iterate 2 refine dmrg wa (fun hc _ h => s0 h) ?_
      refine dmrg wa (fun hc _ h => cs (w := good_refAllDb na nb a b (by omega) (by omega) pa2 pb2) (x := h)) ?_
      refine dmrg wa (fun hc _ h => s0 h) ?_
      iterate 2 refine dstp (fun _ h => s0 h) ?_
      refine dmrg wa (fun hc _ h => cs (w := good_awakeDf) (x := h)) ?_
      iterate 2 refine dstp (fun _ h => s0 h) ?_
      refine adraw_nil (by kernel_rfl) ?_
      refine AW.ret ?_
      refine ⟨.inr rfl, ?_⟩
      refine leaves_tmp1 4 rfl ?_ (by exact hG)
      simp (disch := first | omega | decide) only [go_sem, F, aIndex_map]
      all_goals rfl
end Go.Vai.DB
