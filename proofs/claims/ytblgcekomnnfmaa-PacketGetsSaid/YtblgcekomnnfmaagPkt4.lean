import Derived.Test.YtblgcekomnnfmaagPkt3
import Derived.Test.YtblgcekomnnfmaagDs
namespace Go.Vai.P
open Go.Proofs Go.Vai Go.Vai.G Go.Vai.L Go.Vai.O Go.Vai.U Go.Vai.Z
set_option linter.unusedSimpArgs false
set_option linter.unusedVariables false
set_option maxHeartbeats 4000000
set_option maxRecDepth 100000
def lightK (p : Pkt) : Bool := ((p.ls.take 21).all fun x => decide ((x.ls.length : Int) ≤ 40)) && ((decide ((p.ls.length : Int) ≤ 20) && decide ((p.hs.length : Int) ≤ 40)) && decide ((p.xs.length : Int) ≤ 100))
theorem pkH_iff {p : Pkt} : pkH p = true ↔ (1 ≤ p.fr ∧ p.fr ≤ 64) ∧ (1 ≤ p.to ∧ p.to ≤ 64) ∧ ¬ p.fr = p.to ∧ (1 ≤ p.boot ∧ p.boot ≤ 1073741824) ∧ (0 ≤ p.tb ∧ p.tb ≤ 1073741824) := by
  simp only [pkH, wi, Bool.and_eq_true, decide_eq_true_eq]
theorem kd_way (k : Int) : k = 2 ∨ k = 3 ∨ (¬ k = 2 ∧ ¬ k = 3) := by omega
theorem may_h {p : Pkt} (h : ¬ ((1 ≤ p.fr ∧ p.fr ≤ 64) ∧ (1 ≤ p.to ∧ p.to ≤ 64) ∧ ¬ p.fr = p.to ∧ (1 ≤ p.boot ∧ p.boot ≤ 1073741824) ∧ (0 ≤ p.tb ∧ p.tb ≤ 1073741824))) : pktOK p = false := by
  cases e : pktOK p with
  | false => rfl
  | true =>
    simp only [pktOK, Bool.and_eq_true] at e
    exact absurd (pkH_iff.1 e.1) h
theorem may_c {p : Pkt} (h : chain 1073741824 0 p.hs = false ∨ lsasOK 0 p.ls = false ∨ itemsOK p.xs = false) : pktOK p = false := by
  cases e : pktOK p with
  | false => rfl
  | true =>
    exfalso
    simp only [pktOK, Bool.and_eq_true] at e
    rcases pk_kind e.2.2 with ⟨_, h1, h2, h3⟩ | ⟨_, h1, h2, h3⟩ | ⟨_, h1, h2, h3⟩ | ⟨_, h1, h2, h3⟩
    · simp only [heardOK, Bool.and_eq_true] at h1
      rw [h1.1, h2, h3] at h; simp [lsasOK, itemsOK, chain] at h
    · rw [h1, h2, h3] at h; simp [lsasOK, chain] at h
    · rw [h1, h2, h3] at h; simp [lsasOK, itemsOK, chain] at h
    · simp only [lsasM, Bool.and_eq_true] at h3
      rw [h1, h2, h3.1] at h; simp [itemsOK, chain] at h
theorem may_e {p : Pkt} (h : pkE p = false) : pktOK p = false := by rw [pktOK, h]; simp
theorem pkE2 {p : Pkt} (k : p.kind = 2) : pkE p = true ↔ (1 ≤ p.ep ∧ p.ep ≤ 1073741824) ∧ p.te = 0 := by rw [pkE, if_pos k]; simp only [wi, Bool.and_eq_true, decide_eq_true_eq]
theorem pkE3 {p : Pkt} (k : p.kind = 3) : pkE p = true ↔ (1 ≤ p.ep ∧ p.ep ≤ 1073741824) ∧ (1 ≤ p.te ∧ p.te ≤ 1073741824) := by rw [pkE, if_neg (by omega), if_pos k]; simp only [wi, Bool.and_eq_true, decide_eq_true_eq]
theorem pkE0 {p : Pkt} (k : ¬ p.kind = 2 ∧ ¬ p.kind = 3) : pkE p = true ↔ p.ep = 0 ∧ p.te = 0 := by rw [pkE, if_neg k.1, if_neg k.2]; simp only [Bool.and_eq_true, decide_eq_true_eq]
theorem pkE_iff {p : Pkt} : pkE p = true ↔ (p.kind = 2 ∧ (1 ≤ p.ep ∧ p.ep ≤ 1073741824) ∧ p.te = 0) ∨ (p.kind = 3 ∧ (1 ≤ p.ep ∧ p.ep ≤ 1073741824) ∧ (1 ≤ p.te ∧ p.te ≤ 1073741824)) ∨ ((¬ p.kind = 2 ∧ ¬ p.kind = 3) ∧ p.ep = 0 ∧ p.te = 0) := by
  by_cases k2 : p.kind = 2
  · rw [pkE2 k2]; omega
  · by_cases k3 : p.kind = 3
    · rw [pkE3 k3]; omega
    · rw [pkE0 ⟨k2, k3⟩]; omega
theorem nE {p : Pkt} {q : Prop} (h : pkE p = true ↔ q) (h2 : ¬ q) : pkE p = false := by
  cases e : pkE p with
  | false => rfl
  | true => exact absurd (h.1 e) h2
theorem may1 {p : Pkt} (k : p.kind = 1) (hh : pkH p = true) (he : pkE p = true) (h1 : chain 1073741824 0 p.hs = true) : ((decide ((p.hs.length : Int) ≤ 16) && decide ((p.xs.length : Int) = 0)) && decide ((p.ls.length : Int) = 0)) = pktOK p := by
  rw [pktOK, hh, he, pkL, if_pos k, heardOK, h1]; simp only [none0, Bool.and_assoc, Bool.true_and]
theorem may2 {p : Pkt} (k : p.kind = 2 ∨ p.kind = 5) (hh : pkH p = true) (he : pkE p = true) (h3 : itemsOK p.xs = true) : (decide ((p.hs.length : Int) = 0) && decide ((p.ls.length : Int) = 0)) = pktOK p := by
  rw [pktOK, hh, he, pkL, if_neg (by omega), if_pos k, h3]; simp only [none0, Bool.true_and]
theorem may3 {p : Pkt} (k : p.kind = 3) (hh : pkH p = true) (he : pkE p = true) : ((decide ((p.hs.length : Int) = 0) && decide ((p.xs.length : Int) = 0)) && decide ((p.ls.length : Int) = 0)) = pktOK p := by
  rw [pktOK, hh, he, pkL, if_neg (by omega), if_neg (by omega), if_pos k]; simp only [none0, Bool.and_assoc, Bool.true_and]
theorem may4 {p : Pkt} (k : p.kind = 4) (hh : pkH p = true) (he : pkE p = true) (h2 : lsasOK 0 p.ls = true) : (((decide ((p.hs.length : Int) = 0) && decide ((p.xs.length : Int) = 0)) && decide ((p.ls.length : Int) ≥ 1)) && decide ((p.ls.length : Int) ≤ 8)) = pktOK p := by
  rw [pktOK, hh, he, pkL, if_neg (by omega), if_neg (by omega), if_neg (by omega), if_pos k, lsasM, h2]; simp only [none0, wi, Bool.and_assoc, Bool.true_and]
theorem good_refMay14 (p : Pkt) (hp1 : p.hs.length ≤ 9223372036854775807) (hp2 : p.xs.length ≤ 9223372036854775807) (hp3 : p.ls.length ≤ 9223372036854775807) (hp4 : ∀ x ∈ p.ls, x.ls.length ≤ 9223372036854775807) : Good Try.prog 16 [(pktA p, false)] [] [(.b (pktOK p), false)] [] := by
 refine good_of_body2 255 Try.func16 rfl rfl rfl (by simp) ?_
 intro s m ha hr hv hG
 have f0 : s 0 = .v (.agg [i64 p.kind, i64 p.fr, i64 p.boot, i64 p.to, i64 p.tb, i64 p.ep, i64 p.te, .sl 2 p.hn (p.hs.map linkA), .sl 2 p.xn (p.xs.map linkA), .sl 3 p.ln (p.ls.map lsaA)]) := ha 0 _ rfl
 clear ha
 refine AW.sr (cfg := cfg) ?_
 apply aops_step (by decide) rfl
 ·intro K hK
  simp (disch := first | omega | decide) only [go_sem, f0, act_box_t ti28, List.map]
  rw [settleL_vish _ _ (by rfl)]
  simp (disch := first | omega | decide) only [go_sem, f0, cellsL, List.map, List.length_cons, List.length_nil, Nat.reduceAdd, if_true]
  exact hK _
 iterate 1 (apply aops_step (by decide) rfl; · (intro K hK; simp (disch := first | omega | decide) only [go_sem, f0]; exact hK _))
 refine aops_nil ?_
 refine AW.seq ?_
 refine AW.sr (cfg := cfg) ?_
 refine aops_fl (by decide) (by decide) fo28_1 ti3 (by simp only [go_sem, f0]; rfl) (by simp only [go_sem, f0]; rfl) (by rfl) ?_
 iterate 2 (apply aops_step (by decide) rfl; · (intro K hK; simp (disch := first | omega | decide) only [go_sem, f0]; exact hK _))
 refine aops_flm (dg := 14) (by decide) (by decide) (by decide) fo28_1 ti3 rfl (by simp only [go_sem, f0]; rfl) (by simp only [go_sem, f0]; rfl) (by simp only [go_sem, f0]; rfl) (by rfl) ?_
 apply aops_merge' (by decide) (by exact want_of (d := 14) rfl (by simp (disch := first | omega | decide) only [go_sem, f0, opn_cond]; rfl))
 ·intro hc K hK
  simp (disch := first | omega | decide) only [go_sem, f0, opn_cond, hc, if_true]
  exact hK _
 iterate 2 (apply aops_step (by decide) rfl; · (intro K hK; simp (disch := first | omega | decide) only [go_sem, f0]; exact hK _))
 refine aops_flm (dg := 19) (by decide) (by decide) (by decide) fo28_3 ti3 rfl (by simp only [go_sem, f0]; rfl) (by simp only [go_sem, f0]; rfl) (by simp only [go_sem, f0]; rfl) (by rfl) ?_
 apply aops_merge' (by decide) (by exact want_of (d := 19) rfl (by simp (disch := first | omega | decide) only [go_sem, f0, opn_cond]; rfl))
 ·intro hc K hK
  simp (disch := first | omega | decide) only [go_sem, f0, opn_cond, hc, if_true]
  exact hK _
 iterate 2 (apply aops_step (by decide) rfl; · (intro K hK; simp (disch := first | omega | decide) only [go_sem, f0]; exact hK _))
 refine aops_flm (dg := 24) (by decide) (by decide) (by decide) fo28_3 ti3 rfl (by simp only [go_sem, f0]; rfl) (by simp only [go_sem, f0]; rfl) (by simp only [go_sem, f0]; rfl) (by rfl) ?_
 apply aops_merge' (by decide) (by exact want_of (d := 24) rfl (by simp (disch := first | omega | decide) only [go_sem, f0, opn_cond]; rfl))
 ·intro hc K hK
  simp (disch := first | omega | decide) only [go_sem, f0, opn_cond, hc, if_true]
  exact hK _
 iterate 2 (apply aops_step (by decide) rfl; · (intro K hK; simp (disch := first | omega | decide) only [go_sem, f0]; exact hK _))
 refine aops_flm (dg := 29) (by decide) (by decide) (by decide) fo28_1 ti3 rfl (by simp only [go_sem, f0]; rfl) (by simp only [go_sem, f0]; rfl) (by simp only [go_sem, f0]; rfl) (by rfl) ?_
 refine aops_flm (dg := 29) (by decide) (by decide) (by decide) fo28_3 ti3 rfl (by simp (disch := first | omega | decide) only [go_sem, f0]; rfl) (by simp (disch := first | omega | decide) only [go_sem, f0]; rfl) (by simp (disch := first | omega | decide) only [go_sem, f0]; rfl) (by rfl) ?_
 apply aops_merge' (by decide) (by exact want_of (d := 29) rfl (by simp (disch := first | omega | decide) only [go_sem, f0, opn_cond]; rfl))
 ·intro hc K hK
  simp (disch := first | omega | decide) only [go_sem, f0, opn_cond, hc, if_true]
  exact hK _
 iterate 2 (apply aops_step (by decide) rfl; · (intro K hK; simp (disch := first | omega | decide) only [go_sem, f0]; exact hK _))
 refine aops_flm (dg := 36) (by decide) (by decide) (by decide) fo28_2 ti3 rfl (by simp only [go_sem, f0]; rfl) (by simp only [go_sem, f0]; rfl) (by simp only [go_sem, f0]; rfl) (by rfl) ?_
 apply aops_merge' (by decide) (by exact want_of (d := 36) rfl (by simp (disch := first | omega | decide) only [go_sem, f0, opn_cond]; rfl))
 ·intro hc K hK
  simp (disch := first | omega | decide) only [go_sem, f0, opn_cond, hc, if_true]
  exact hK _
 iterate 2 (apply aops_step (by decide) rfl; · (intro K hK; simp (disch := first | omega | decide) only [go_sem, f0]; exact hK _))
 refine aops_flm (dg := 41) (by decide) (by decide) (by decide) fo28_2 ti3 rfl (by simp only [go_sem, f0]; rfl) (by simp only [go_sem, f0]; rfl) (by simp only [go_sem, f0]; rfl) (by rfl) ?_
 apply aops_merge' (by decide) (by exact want_of (d := 41) rfl (by simp (disch := first | omega | decide) only [go_sem, f0, opn_cond]; rfl))
 ·intro hc K hK
  simp (disch := first | omega | decide) only [go_sem, f0, opn_cond, hc, if_true]
  exact hK _
 iterate 2 (apply aops_step (by decide) rfl; · (intro K hK; simp (disch := first | omega | decide) only [go_sem, f0]; exact hK _))
 refine aops_flm (dg := 46) (by decide) (by decide) (by decide) fo28_4 ti3 rfl (by simp only [go_sem, f0]; rfl) (by simp only [go_sem, f0]; rfl) (by simp only [go_sem, f0]; rfl) (by rfl) ?_
 apply aops_merge' (by decide) (by exact want_of (d := 46) rfl (by simp (disch := first | omega | decide) only [go_sem, f0, opn_cond]; rfl))
 ·intro hc K hK
  simp (disch := first | omega | decide) only [go_sem, f0, opn_cond, hc, if_true]
  exact hK _
 iterate 2 (apply aops_step (by decide) rfl; · (intro K hK; simp (disch := first | omega | decide) only [go_sem, f0]; exact hK _))
 refine aops_flm (dg := 51) (by decide) (by decide) (by decide) fo28_4 ti3 rfl (by simp only [go_sem, f0]; rfl) (by simp only [go_sem, f0]; rfl) (by simp only [go_sem, f0]; rfl) (by rfl) ?_
 apply aops_merge' (by decide) (by exact want_of (d := 51) rfl (by simp (disch := first | omega | decide) only [go_sem, f0, opn_cond]; rfl))
 ·intro hc K hK
  simp (disch := first | omega | decide) only [go_sem, f0, opn_cond, hc, if_true]
  exact hK _
 iterate 1 (apply aops_step (by decide) rfl; · (intro K hK; simp (disch := first | omega | decide) only [go_sem, f0]; exact hK _))
 refine aops_nil ?_
 apply AW.cond
 ·(simp only [go_sem, f0]; rfl)
 case ht =>
  intro hb
  try simp only [bo1, bo2, bo3, bo4, bo5, bo6] at hb
  have hbt55 := hb
  refine AW.sr (cfg := cfg) ?_
  iterate 1 (apply aops_step (by decide) rfl; · (intro K hK; simp (disch := first | omega | decide) only [go_sem, f0]; exact hK _))
  refine aops_nil ?_
  refine AW.ret ?_
  refine ⟨.inr rfl, ?_⟩
  refine leaves_tmp1 2 rfl ?_ (by exact hG)
  simp (disch := first | omega | decide) only [go_sem, f0]
  all_goals (rw [may_h (by have := hbt55; omega)]; done)
  all_goals first | done | (rw [may_e (nE pkE_iff (by have z := hbt203; simp only [Bool.not_eq_true', Bool.not_eq_false', decide_eq_true_eq, decide_eq_false_iff_not] at z; omega))]; done) | skip
  all_goals first | done | (rw [may1 hbt206 hh he hc1]; done) | (rw [may2 (.inl hk) hh he hc3]; done) | (rw [may2 (.inr hbt218) hh he hc3]; done) | (rw [may3 hk hh he]; done) | (rw [may4 hbt239 hh he hc2]; done) | (rw [chk0 (by omega)]; done) | trace_state
 case hf =>
  intro hb
  try simp only [bo1, bo2, bo3, bo4, bo5, bo6] at hb
  have hbt55 := hb
  refine AW.skip ?_
  refine AW.seq ?_
  refine AW.seq ?_
  have hh : pkH p = true := pkH_iff.2 (by have := hbt55; omega)
  refine AW.region (cfg := cfg) ?_
  iterate 1 (apply aops_step (by decide) rfl; · (intro K hK; simp (disch := first | omega | decide) only [go_sem, f0]; exact hK _))
  refine aops_nil ?_
  refine AW.block ?_
  refine AW.forN (fun k σ => ∃ s m, σ = ⟨255, s, m⟩ ∧ s 1 = .lptr (.tmp 1 0) (m.objs (.tmp 1 0)).1 0 ∧ (m.objs (.tmp 1 0)).2 = .box [.v (i64 p.kind), .v (i64 p.fr), .v (i64 p.boot), .v (i64 p.to), .v (i64 p.tb), .v (i64 p.ep), .v (i64 p.te), .v (.sl 2 p.hn (p.hs.map linkA)), .v (.sl 2 p.xn (p.xs.map linkA)), .v (.sl 3 p.ln (p.ls.map lsaA))] ∧ s 3 = .v (i64 (k : Int)) ∧ (chain 1073741824 0 p.hs = chain 1073741824 (lastOf p.hs k) (p.hs.drop k)) ∧ (0 ≤ lastOf p.hs k) ∧ (∀ i, (m.objs (.res i)).2 = .dead) ∧ m.G = []) (p.hs.length) ?_ ?_ ?_
  ·refine ⟨_, _, rfl, ?_, ?_, ?_, ?_, ?_, (by intro i; simp [Mem.set, hr]), (by exact hG)⟩ <;> try simp (disch := first | omega | decide) only [go_sem, f0]
   all_goals first | rfl | exact last_0 _
  ·clear f0 hr hG
   rintro k σ hk ⟨s, m, rfl, f1, o1, f3, mo0, mo1, hr, hG⟩
   obtain ⟨g1, o1⟩ : ∃ g, m.objs (.tmp 1 0) = (g, .box [.v (i64 p.kind), .v (i64 p.fr), .v (i64 p.boot), .v (i64 p.to), .v (i64 p.tb), .v (i64 p.ep), .v (i64 p.te), .v (.sl 2 p.hn (p.hs.map linkA)), .v (.sl 2 p.xn (p.xs.map linkA)), .v (.sl 3 p.ln (p.ls.map lsaA))]) := ⟨_, Prod.ext rfl o1⟩
   rw [o1] at f1
   refine AW.seq ?_
   refine AW.sr (cfg := cfg) ?_
   iterate 1 (apply aops_step (by decide) rfl; · (intro K hK; simp (disch := first | omega | decide) only [go_sem, f1, f3, o1]; exact hK _))
   refine aops_fl (by decide) (by decide) fo28_7 ti24 (by simp (disch := first | omega | decide) only [go_sem, f1, f3, o1]; rfl) (by simp (disch := first | omega | decide) only [go_sem, f1, f3, o1]; rfl) (by rfl) ?_
   iterate 2 (apply aops_step (by decide) rfl; · (intro K hK; simp (disch := first | omega | decide) only [go_sem, f1, f3, o1, List.map, List.length_map, aops_len u24]; exact hK _))
   refine aops_nil ?_
   apply AW.cond
   ·(simp only [go_sem, f1, f3, o1]; rfl)
   case hf => intro hb; (simp at hb; omega)
   case ht =>
   intro hb
   have hbt60 := hb
   refine AW.skip ?_
   refine AW.seq ?_
   refine AW.block ?_
   refine AW.sr (cfg := cfg) ?_
   refine aops_fl (by decide) (by decide) fo28_7 ti24 (by simp (disch := first | omega | decide) only [go_sem, f1, f3, o1]; rfl) (by simp (disch := first | omega | decide) only [go_sem, f1, f3, o1]; rfl) (by rfl) ?_
   iterate 1 (apply aops_step (by decide) rfl; · (intro K hK; simp (disch := first | omega | decide) only [go_sem, f1, f3, o1]; exact hK _))
   apply aops_step (by decide) rfl
   ·intro K hK
    simp (disch := first | omega | decide) only [go_sem, f1, f3, o1, act_indexAddr_s u24 ti74, List.map]
    skip
    exact hK _
   apply aops_step (by decide) rfl
   ·intro K hK
    simp (disch := first | omega | decide) only [go_sem, f1, f3, o1, act_load_t ti74, List.map]
    rw [mwp_load_is (by simp)]
    exact hK _
   apply aops_step (by decide) rfl
   ·intro K hK
    simp (disch := first | omega | decide) only [go_sem, f1, f3, o1, act_alloc_t ti74, List.map]
    exact hK _
   apply aops_step0 rfl
   ·intro K hK
    simp (disch := first | omega | decide) only [go_sem, f1, f3, o1, act_store_t ti74, List.map]
    rw [mwp_store_c (by simp (disch := first | omega | decide) only [go_sem, f1, f3, o1]; rfl) (by rfl) (by rfl) (by rfl) (by simp)]
    try simp only [setAt, cellsL, cellsOf_agg, cellsOf_base, List.map_cons, List.map_nil, List.set_cons_zero, List.set_cons_succ, Nat.reduceAdd, Nat.zero_add, hG]
    exact hK _
   refine aops_nil ?_
   refine AW.seq ?_
   refine AW.draw (cfg := cfg) (by kernel_rfl) (by kernel_rfl) (by kernel_rfl) ?_
   apply adraw_step rfl
   ·intro K hK
    simp (disch := first | omega | decide) only [go_sem, f1, f3, o1, act_fieldAddr_t fo74_0, List.map]
    rw [mwp_fieldAddr_b (by simp only [go_sem, f1, f3, o1]; rfl)]
    exact hK
   apply adraw_step rfl
   ·intro K hK
    simp (disch := first | omega | decide) only [go_sem, f1, f3, o1, act_load_t ti3, List.map]
    rw [mwp_load_b1 (by simp only [go_sem, f1, f3, o1]; rfl) (by rfl)]
    exact hK
   iterate 2 (apply adraw_step rfl; · (intro K hK; simp (disch := first | omega | decide) only [go_sem, f1, f3, o1]; exact hK))
   apply adraw_merge' (by exact want_of (d := 71) rfl (by simp only [go_sem, f1, f3, o1, opn_cond]; rfl))
   ·intro hc K hK
    simp (disch := first | omega | decide) only [go_sem, f1, f3, o1, opn_cond, hc, if_true, act_fieldAddr_t fo74_0]
    rw [mwp_fieldAddr_b (by simp only [go_sem, f1, f3, o1, opn_cond, hc, if_true]; rfl)]
    exact hK
   apply adraw_merge' (by exact want_of (d := 71) rfl (by simp only [go_sem, f1, f3, o1, opn_cond]; rfl))
   ·intro hc K hK
    simp (disch := first | omega | decide) only [go_sem, f1, f3, o1, opn_cond, hc, if_true, act_load_t ti3]
    rw [mwp_load_b1 (by simp only [go_sem, f1, f3, o1, opn_cond, hc, if_true]; rfl) (by rfl)]
    exact hK
   apply adraw_merge' (by exact want_of (d := 71) rfl (by simp only [go_sem, f1, f3, o1, opn_cond]; rfl))
   ·intro hc K hK
    simp (disch := first | omega | decide) only [go_sem, f1, f3, o1, opn_cond, hc, if_true]
    exact hK
   iterate 2 (apply adraw_step rfl; · (intro K hK; simp (disch := first | omega | decide) only [go_sem, f1, f3, o1]; exact hK))
   apply adraw_merge' (by exact want_of (d := 76) rfl (by simp only [go_sem, f1, f3, o1, opn_cond]; rfl))
   ·intro hc K hK
    simp (disch := first | omega | decide) only [go_sem, f1, f3, o1, opn_cond, hc, if_true, act_fieldAddr_t fo74_1]
    rw [mwp_fieldAddr_b (by simp only [go_sem, f1, f3, o1, opn_cond, hc, if_true]; rfl)]
    exact hK
   apply adraw_merge' (by exact want_of (d := 76) rfl (by simp only [go_sem, f1, f3, o1, opn_cond]; rfl))
   ·intro hc K hK
    simp (disch := first | omega | decide) only [go_sem, f1, f3, o1, opn_cond, hc, if_true, act_load_t ti3]
    rw [mwp_load_b1 (by simp only [go_sem, f1, f3, o1, opn_cond, hc, if_true]; rfl) (by rfl)]
    exact hK
   apply adraw_merge' (by exact want_of (d := 76) rfl (by simp only [go_sem, f1, f3, o1, opn_cond]; rfl))
   ·intro hc K hK
    simp (disch := first | omega | decide) only [go_sem, f1, f3, o1, opn_cond, hc, if_true]
    exact hK
   iterate 2 (apply adraw_step rfl; · (intro K hK; simp (disch := first | omega | decide) only [go_sem, f1, f3, o1]; exact hK))
   apply adraw_merge' (by exact want_of (d := 81) rfl (by simp only [go_sem, f1, f3, o1, opn_cond]; rfl))
   ·intro hc K hK
    simp (disch := first | omega | decide) only [go_sem, f1, f3, o1, opn_cond, hc, if_true, act_fieldAddr_t fo74_1]
    rw [mwp_fieldAddr_b (by simp only [go_sem, f1, f3, o1, opn_cond, hc, if_true]; rfl)]
    exact hK
   apply adraw_merge' (by exact want_of (d := 81) rfl (by simp only [go_sem, f1, f3, o1, opn_cond]; rfl))
   ·intro hc K hK
    simp (disch := first | omega | decide) only [go_sem, f1, f3, o1, opn_cond, hc, if_true, act_load_t ti3]
    rw [mwp_load_b1 (by simp only [go_sem, f1, f3, o1, opn_cond, hc, if_true]; rfl) (by rfl)]
    exact hK
   apply adraw_merge' (by exact want_of (d := 81) rfl (by simp only [go_sem, f1, f3, o1, opn_cond]; rfl))
   ·intro hc K hK
    simp (disch := first | omega | decide) only [go_sem, f1, f3, o1, opn_cond, hc, if_true]
    exact hK
   iterate 2 (apply adraw_step rfl; · (intro K hK; simp (disch := first | omega | decide) only [go_sem, f1, f3, o1]; exact hK))
   apply adraw_merge' (by exact want_of (d := 86) rfl (by simp only [go_sem, f1, f3, o1, opn_cond]; rfl))
   ·intro hc K hK
    simp (disch := first | omega | decide) only [go_sem, f1, f3, o1, opn_cond, hc, if_true]
    exact hK
   apply adraw_merge' (by exact want_of (d := 86) rfl (by simp only [go_sem, f1, f3, o1, opn_cond]; rfl))
   ·intro hc K hK
    simp (disch := first | omega | decide) only [go_sem, f1, f3, o1, opn_cond, hc, if_true]
    exact hK
   apply adraw_merge' (by exact want_of (d := 86) rfl (by simp only [go_sem, f1, f3, o1, opn_cond]; rfl))
   ·intro hc K hK
    simp (disch := first | omega | decide) only [go_sem, f1, f3, o1, opn_cond, hc, if_true]
    exact hK
   apply adraw_merge' (by exact want_of_cond (d := 89) rfl (by simp only [go_sem, f1, f3, o1, opn_cond]; rfl))
   ·intro hc K hK
    simp (disch := first | omega | decide) only [go_sem, f1, f3, o1, opn_cond, hc, if_true, act_fieldAddr_t fo28_7]
    rw [mwp_fieldAddr_b (by simp (disch := first | omega | decide) only [go_sem, f1, f3, o1, opn_cond, hc, if_true]; rfl)]
    exact hK
   apply adraw_merge' (by exact want_of_cond (d := 89) rfl (by simp only [go_sem, f1, f3, o1, opn_cond]; rfl))
   ·intro hc K hK
    simp (disch := first | omega | decide) only [go_sem, f1, f3, o1, opn_cond, hc, if_true, act_load_t ti24]
    rw [mwp_load_b1 (by simp (disch := first | omega | decide) only [go_sem, f1, f3, o1, opn_cond, hc, if_true]; rfl) (by rfl)]
    exact hK
   apply adraw_merge' (by exact want_of_cond (d := 89) rfl (by simp only [go_sem, f1, f3, o1, opn_cond]; rfl))
   ·intro hc K hK
    simp (disch := first | omega | decide) only [go_sem, f1, f3, o1, opn_cond, hc, if_true]
    exact hK
   apply adraw_merge' (by exact want_of_cond (d := 89) rfl (by simp only [go_sem, f1, f3, o1, opn_cond]; rfl))
   ·intro hc K hK
    have hc2 := hc
    simp only [beq_iff_eq, decide_eq_true_eq, decide_eq_false_iff_not, Bool.or_eq_true, Bool.and_eq_true, Bool.or_eq_false_iff, Bool.and_eq_false_iff] at hc2
    simp (disch := first | omega | decide) only [go_sem, f1, f3, o1, opn_cond, hc, if_true]
    exact hK
   apply adraw_merge' (by exact want_of_cond (d := 89) rfl (by simp only [go_sem, f1, f3, o1, opn_cond]; rfl))
   ·intro hc K hK
    have hc2 := hc
    simp only [beq_iff_eq, decide_eq_true_eq, decide_eq_false_iff_not, Bool.or_eq_true, Bool.and_eq_true, Bool.or_eq_false_iff, Bool.and_eq_false_iff] at hc2
    simp (disch := first | omega | decide) only [opn_cond, hc, if_true, raw_tmp, raw_int, upd_same, upd_ne, opn_v, intOf_v, idxL_some, f1, f3, o1, act_indexAddr_s u24 ti74]
    rw [mwp_aIndex_getD (by omega) (by omega)]
    exact hK
   apply adraw_merge' (by exact want_of_cond (d := 89) rfl (by simp only [go_sem, f1, f3, o1, opn_cond]; rfl))
   ·intro hc K hK
    simp (disch := first | omega | decide) only [go_sem, f1, f3, o1, opn_cond, hc, if_true, act_fieldAddr_t fo74_0]
    skip
    exact hK
   apply adraw_merge' (by exact want_of_cond (d := 89) rfl (by simp only [go_sem, f1, f3, o1, opn_cond]; rfl))
   ·intro hc K hK
    simp (disch := first | omega | decide) only [go_sem, f1, f3, o1, opn_cond, hc, if_true, act_load_t ti3]
    rw [mwp_load_i1 (by rfl)]
    exact hK
   apply adraw_merge' (by exact want_of_cond (d := 89) rfl (by simp only [go_sem, f1, f3, o1, opn_cond]; rfl))
   ·intro hc K hK
    simp (disch := first | omega | decide) only [go_sem, f1, f3, o1, opn_cond, hc, if_true, act_fieldAddr_t fo74_0]
    rw [mwp_fieldAddr_b (by simp only [go_sem, f1, f3, o1, opn_cond, hc, if_true]; rfl)]
    exact hK
   apply adraw_merge' (by exact want_of_cond (d := 89) rfl (by simp only [go_sem, f1, f3, o1, opn_cond]; rfl))
   ·intro hc K hK
    simp (disch := first | omega | decide) only [go_sem, f1, f3, o1, opn_cond, hc, if_true, act_load_t ti3]
    rw [mwp_load_b1 (by simp only [go_sem, f1, f3, o1, opn_cond, hc, if_true]; rfl) (by rfl)]
    exact hK
   apply adraw_merge' (by exact want_of_cond (d := 89) rfl (by simp only [go_sem, f1, f3, o1, opn_cond]; rfl))
   ·intro hc K hK
    simp (disch := first | omega | decide) only [go_sem, f1, f3, o1, opn_cond, hc, if_true]
    exact hK
   apply adraw_merge' (by exact want_of (d := 86) rfl (by simp only [go_sem, f1, f3, o1, opn_cond]; rfl))
   ·intro hc K hK
    simp (disch := first | omega | decide) only [go_sem, f1, f3, o1, opn_cond, hc, if_true]
    exact hK
   iterate 1 (apply adraw_step rfl; · (intro K hK; simp (disch := first | omega | decide) only [go_sem, f1, f3, o1]; exact hK))
   refine adraw_nil (by kernel_rfl) ?_
   apply AW.cond
   ·(simp only [go_sem, f1, f3, o1]; rfl)
   case ht =>
    intro hb
    try simp only [bo1, bo2, bo3, bo4, bo5, bo6] at hb
    have hbt101 := hb
    refine AW.sr (cfg := cfg) ?_
    iterate 1 (apply aops_step (by decide) rfl; · (intro K hK; simp (disch := first | omega | decide) only [go_sem, f1, f3, o1]; exact hK _))
    refine aops_nil ?_
    refine AW.ret ?_
    refine ⟨.inr rfl, ?_⟩
    refine leaves_tmp1 2 rfl ?_ (by exact hG)
    simp (disch := first | omega | decide) only [go_sem, f1, f3, o1]
    all_goals (rw [may_c (.inl (chain_no mo0 hk (rpair_f mo1 hbt101)))]; done)
    all_goals first | done | (rw [may_e (nE pkE_iff (by have z := hbt203; simp only [Bool.not_eq_true', Bool.not_eq_false', decide_eq_true_eq, decide_eq_false_iff_not] at z; omega))]; done) | skip
    all_goals first | done | (rw [may1 hbt206 hh he hc1]; done) | (rw [may2 (.inl hk) hh he hc3]; done) | (rw [may2 (.inr hbt218) hh he hc3]; done) | (rw [may3 hk hh he]; done) | (rw [may4 hbt239 hh he hc2]; done) | (rw [chk0 (by omega)]; done) | trace_state
   case hf =>
    intro hb
    try simp only [bo1, bo2, bo3, bo4, bo5, bo6] at hb
    have hbt101 := hb
    refine AW.skip ?_
    refine AW.region (cfg := cfg) ?_
    iterate 3 (apply aops_step (by decide) rfl; · (intro K hK; simp (disch := first | omega | decide) only [go_sem, f1, f3, o1]; exact hK _))
    refine aops_nil ?_
    refine ⟨_, _, rfl, ?_, ?_, ?_, ?_, ?_, (by intro i; simp [Mem.set, hr]), (by exact hG)⟩ <;> try simp (disch := first | omega | decide) only [go_sem, f1, f3, o1]
    all_goals first | rfl | (rw [lastOf_succ hk]; exact chain_go mo0 hk (rpair_t hb)) | exact last_s hk mo1 (rpair_t (most := 1073741824) hb)
  ·clear f0 hr hG
   rintro σ ⟨s, m, rfl, f1, o1, f3, mo0, mo1, hr, hG⟩
   obtain ⟨g1, o1⟩ : ∃ g, m.objs (.tmp 1 0) = (g, .box [.v (i64 p.kind), .v (i64 p.fr), .v (i64 p.boot), .v (i64 p.to), .v (i64 p.tb), .v (i64 p.ep), .v (i64 p.te), .v (.sl 2 p.hn (p.hs.map linkA)), .v (.sl 2 p.xn (p.xs.map linkA)), .v (.sl 3 p.ln (p.ls.map lsaA))]) := ⟨_, Prod.ext rfl o1⟩
   rw [o1] at f1
   refine AW.seq ?_
   refine AW.sr (cfg := cfg) ?_
   iterate 1 (apply aops_step (by decide) rfl; · (intro K hK; simp (disch := first | omega | decide) only [go_sem, f1, f3, o1]; exact hK _))
   refine aops_fl (by decide) (by decide) fo28_7 ti24 (by simp (disch := first | omega | decide) only [go_sem, f1, f3, o1]; rfl) (by simp (disch := first | omega | decide) only [go_sem, f1, f3, o1]; rfl) (by rfl) ?_
   iterate 2 (apply aops_step (by decide) rfl; · (intro K hK; simp (disch := first | omega | decide) only [go_sem, f1, f3, o1, List.map, List.length_map, aops_len u24]; exact hK _))
   refine aops_nil ?_
   apply AW.cond
   ·(simp only [go_sem, f1, f3, o1]; rfl)
   case ht => intro hb; (simp at hb; done)
   case hf =>
   intro hb
   have hbt60 := hb
   refine AW.exit ?_
   refine AW.seq ?_
   refine AW.seq ?_
   have hc1 : chain 1073741824 0 p.hs = true := chain_fin mo0
   refine AW.region (cfg := cfg) ?_
   iterate 1 (apply aops_step (by decide) rfl; · (intro K hK; simp (disch := first | omega | decide) only [go_sem, f1, f3, o1]; exact hK _))
   refine aops_nil ?_
   refine AW.block ?_
   refine AW.forN (fun k σ => ∃ s m, σ = ⟨255, s, m⟩ ∧ s 1 = .lptr (.tmp 1 0) (m.objs (.tmp 1 0)).1 0 ∧ (m.objs (.tmp 1 0)).2 = .box [.v (i64 p.kind), .v (i64 p.fr), .v (i64 p.boot), .v (i64 p.to), .v (i64 p.tb), .v (i64 p.ep), .v (i64 p.te), .v (.sl 2 p.hn (p.hs.map linkA)), .v (.sl 2 p.xn (p.xs.map linkA)), .v (.sl 3 p.ln (p.ls.map lsaA))] ∧ s 5 = .v (i64 (k : Int)) ∧ (lsasOK 0 p.ls = lsasOK (lastL p.ls k) (p.ls.drop k)) ∧ (∀ i, (m.objs (.res i)).2 = .dead) ∧ m.G = []) (p.ls.length) ?_ ?_ ?_
   ·refine ⟨_, _, rfl, ?_, ?_, ?_, ?_, (by intro i; simp [Mem.set, hr]), (by exact hG)⟩ <;> try simp (disch := first | omega | decide) only [go_sem, f1, f3, o1]
    all_goals rfl
   ·clear f1 f3 o1 hr hG
    rintro k σ hk ⟨s, m, rfl, f1, o1, f5, mo0, hr, hG⟩
    obtain ⟨g1, o1⟩ : ∃ g, m.objs (.tmp 1 0) = (g, .box [.v (i64 p.kind), .v (i64 p.fr), .v (i64 p.boot), .v (i64 p.to), .v (i64 p.tb), .v (i64 p.ep), .v (i64 p.te), .v (.sl 2 p.hn (p.hs.map linkA)), .v (.sl 2 p.xn (p.xs.map linkA)), .v (.sl 3 p.ln (p.ls.map lsaA))]) := ⟨_, Prod.ext rfl o1⟩
    rw [o1] at f1
    refine AW.seq ?_
    refine AW.sr (cfg := cfg) ?_
    iterate 1 (apply aops_step (by decide) rfl; · (intro K hK; simp (disch := first | omega | decide) only [go_sem, f1, f5, o1]; exact hK _))
    refine aops_fl (by decide) (by decide) fo28_9 ti26 (by simp (disch := first | omega | decide) only [go_sem, f1, f5, o1]; rfl) (by simp (disch := first | omega | decide) only [go_sem, f1, f5, o1]; rfl) (by rfl) ?_
    iterate 2 (apply aops_step (by decide) rfl; · (intro K hK; simp (disch := first | omega | decide) only [go_sem, f1, f5, o1, List.map, List.length_map, aops_len u26]; exact hK _))
    refine aops_nil ?_
    apply AW.cond
    ·(simp only [go_sem, f1, f5, o1]; rfl)
    case hf => intro hb; (simp at hb; omega)
    case ht =>
    intro hb
    have hbt106 := hb
    refine AW.skip ?_
    refine AW.seq ?_
    refine AW.block ?_
    refine AW.seq ?_
    have pkl := hp4 p.ls[k] (List.getElem_mem hk)
    refine AW.draw (cfg := cfg) (by kernel_rfl) (by kernel_rfl) (by kernel_rfl) ?_
    apply adraw_step rfl
    ·intro K hK
     simp (disch := first | omega | decide) only [go_sem, f1, f5, o1, act_fieldAddr_t fo28_9, List.map]
     rw [mwp_fieldAddr_b (by simp only [go_sem, f1, f5, o1]; rfl)]
     exact hK
    apply adraw_step rfl
    ·intro K hK
     simp (disch := first | omega | decide) only [go_sem, f1, f5, o1, act_load_t ti26, List.map]
     rw [mwp_load_b1 (by simp only [go_sem, f1, f5, o1]; rfl) (by rfl)]
     exact hK
    iterate 1 (apply adraw_step rfl; · (intro K hK; simp (disch := first | omega | decide) only [go_sem, f1, f5, o1]; exact hK))
    apply adraw_step rfl
    ·intro K hK
     simp (disch := first | omega | decide) only [go_sem, f1, f5, o1, act_indexAddr_s u26 ti79, List.map]
     skip
     exact hK
    apply adraw_step rfl
    ·intro K hK
     simp (disch := first | omega | decide) only [go_sem, f1, f5, o1, act_load_t ti79, List.map]
     rw [mwp_load_is (by simp)]
     exact hK
    apply adraw_step rfl
    ·intro K hK
     simp (disch := first | omega | decide) only [go_sem, f1, f5, o1, act_call, List.map]
     apply mwp_call_s rfl rfl rfl
     ·intro Q hQ
      (simp (disch := first | omega | decide) only [go_sem, f1, f5, o1, peekL, reifyL_nil, reifyL_cons, reify_v]; (exact hQ))
     ·exact L.good_refMay _ _ _ _ pkl
     ·simp [-List.map_take, -List.map_drop, -List.map_append, -List.map_replicate, -List.reduceReplicate, noPtrL, noPtr, noPtrL_bsl, noPtrL_map, sub]
     ·rfl
     ·exact hK
    iterate 2 (apply adraw_step rfl; · (intro K hK; simp (disch := first | omega | decide) only [go_sem, f1, f5, o1]; exact hK))
    apply adraw_merge' (by exact want_of (d := 116) rfl (by simp only [go_sem, f1, f5, o1, opn_cond]; rfl))
    ·intro hc K hK
     simp (disch := first | omega | decide) only [go_sem, f1, f5, o1, opn_cond, hc, if_true]
     exact hK
    apply adraw_merge' (by exact want_of (d := 116) rfl (by simp only [go_sem, f1, f5, o1, opn_cond]; rfl))
    ·intro hc K hK
     simp (disch := first | omega | decide) only [go_sem, f1, f5, o1, opn_cond, hc, if_true]
     exact hK
    apply adraw_merge' (by exact want_of (d := 116) rfl (by simp only [go_sem, f1, f5, o1, opn_cond]; rfl))
    ·intro hc K hK
     simp (disch := first | omega | decide) only [go_sem, f1, f5, o1, opn_cond, hc, if_true]
     exact hK
    apply adraw_merge' (by exact want_of_cond (d := 119) rfl (by simp only [go_sem, f1, f5, o1, opn_cond]; rfl))
    ·intro hc K hK
     simp (disch := first | omega | decide) only [go_sem, f1, f5, o1, opn_cond, hc, if_true, act_fieldAddr_t fo28_9]
     rw [mwp_fieldAddr_b (by simp only [go_sem, f1, f5, o1, opn_cond, hc, if_true]; rfl)]
     exact hK
    apply adraw_merge' (by exact want_of_cond (d := 119) rfl (by simp only [go_sem, f1, f5, o1, opn_cond]; rfl))
    ·intro hc K hK
     simp (disch := first | omega | decide) only [go_sem, f1, f5, o1, opn_cond, hc, if_true, act_load_t ti26]
     rw [mwp_load_b1 (by simp only [go_sem, f1, f5, o1, opn_cond, hc, if_true]; rfl) (by rfl)]
     exact hK
    apply adraw_merge' (by exact want_of_cond (d := 119) rfl (by simp only [go_sem, f1, f5, o1, opn_cond]; rfl))
    ·intro hc K hK
     simp (disch := first | omega | decide) only [go_sem, f1, f5, o1, opn_cond, hc, if_true]
     exact hK
    apply adraw_merge' (by exact want_of_cond (d := 119) rfl (by simp only [go_sem, f1, f5, o1, opn_cond]; rfl))
    ·intro hc K hK
     have hc2 := hc
     simp only [beq_iff_eq, decide_eq_true_eq, decide_eq_false_iff_not, Bool.or_eq_true, Bool.and_eq_true, Bool.or_eq_false_iff, Bool.and_eq_false_iff] at hc2
     simp (disch := first | omega | decide) only [go_sem, f1, f5, o1, opn_cond, hc, if_true]
     exact hK
    apply adraw_merge' (by exact want_of_cond (d := 119) rfl (by simp only [go_sem, f1, f5, o1, opn_cond]; rfl))
    ·intro hc K hK
     have hc2 := hc
     simp only [beq_iff_eq, decide_eq_true_eq, decide_eq_false_iff_not, Bool.or_eq_true, Bool.and_eq_true, Bool.or_eq_false_iff, Bool.and_eq_false_iff] at hc2
     simp (disch := first | omega | decide) only [opn_cond, hc, if_true, raw_tmp, raw_int, upd_same, upd_ne, opn_v, intOf_v, idxL_some, f1, f5, o1, act_indexAddr_s u26 ti79]
     rw [mwp_aIndex_getD (by omega) (by omega)]
     exact hK
    apply adraw_merge' (by exact want_of_cond (d := 119) rfl (by simp only [go_sem, f1, f5, o1, opn_cond]; rfl))
    ·intro hc K hK
     simp (disch := first | omega | decide) only [go_sem, f1, f5, o1, opn_cond, hc, if_true, act_fieldAddr_t fo79_0]
     skip
     exact hK
    apply adraw_merge' (by exact want_of_cond (d := 119) rfl (by simp only [go_sem, f1, f5, o1, opn_cond]; rfl))
    ·intro hc K hK
     simp (disch := first | omega | decide) only [go_sem, f1, f5, o1, opn_cond, hc, if_true, act_load_t ti3]
     rw [mwp_load_i1 (by rfl)]
     exact hK
    apply adraw_merge' (by exact want_of_cond (d := 119) rfl (by simp only [go_sem, f1, f5, o1, opn_cond]; rfl))
    ·intro hc K hK
     simp (disch := first | omega | decide) only [go_sem, f1, f5, o1, opn_cond, hc, if_true, act_fieldAddr_t fo28_9]
     rw [mwp_fieldAddr_b (by simp only [go_sem, f1, f5, o1, opn_cond, hc, if_true]; rfl)]
     exact hK
    apply adraw_merge' (by exact want_of_cond (d := 119) rfl (by simp only [go_sem, f1, f5, o1, opn_cond]; rfl))
    ·intro hc K hK
     simp (disch := first | omega | decide) only [go_sem, f1, f5, o1, opn_cond, hc, if_true, act_load_t ti26]
     rw [mwp_load_b1 (by simp only [go_sem, f1, f5, o1, opn_cond, hc, if_true]; rfl) (by rfl)]
     exact hK
    apply adraw_merge' (by exact want_of_cond (d := 119) rfl (by simp only [go_sem, f1, f5, o1, opn_cond]; rfl))
    ·intro hc K hK
     simp (disch := first | omega | decide) only [go_sem, f1, f5, o1, opn_cond, hc, if_true]
     exact hK
    apply adraw_merge' (by exact want_of_cond (d := 119) rfl (by simp only [go_sem, f1, f5, o1, opn_cond]; rfl))
    ·intro hc K hK
     have hc2 := hc
     simp only [beq_iff_eq, decide_eq_true_eq, decide_eq_false_iff_not, Bool.or_eq_true, Bool.and_eq_true, Bool.or_eq_false_iff, Bool.and_eq_false_iff] at hc2
     simp (disch := first | omega | decide) only [opn_cond, hc, if_true, raw_tmp, raw_int, upd_same, upd_ne, opn_v, intOf_v, idxL_some, f1, f5, o1, act_indexAddr_s u26 ti79]
     rw [mwp_aIndex_getD (by omega) (by omega)]
     exact hK
    apply adraw_merge' (by exact want_of_cond (d := 119) rfl (by simp only [go_sem, f1, f5, o1, opn_cond]; rfl))
    ·intro hc K hK
     simp (disch := first | omega | decide) only [go_sem, f1, f5, o1, opn_cond, hc, if_true, act_fieldAddr_t fo79_0]
     skip
     exact hK
    apply adraw_merge' (by exact want_of_cond (d := 119) rfl (by simp only [go_sem, f1, f5, o1, opn_cond]; rfl))
    ·intro hc K hK
     simp (disch := first | omega | decide) only [go_sem, f1, f5, o1, opn_cond, hc, if_true, act_load_t ti3]
     rw [mwp_load_i1 (by rfl)]
     exact hK
    apply adraw_merge' (by exact want_of_cond (d := 119) rfl (by simp only [go_sem, f1, f5, o1, opn_cond]; rfl))
    ·intro hc K hK
     simp (disch := first | omega | decide) only [go_sem, f1, f5, o1, opn_cond, hc, if_true]
     exact hK
    apply adraw_merge' (by exact want_of (d := 116) rfl (by simp only [go_sem, f1, f5, o1, opn_cond]; rfl))
    ·intro hc K hK
     simp (disch := first | omega | decide) only [go_sem, f1, f5, o1, opn_cond, hc, if_true]
     exact hK
    iterate 1 (apply adraw_step rfl; · (intro K hK; simp (disch := first | omega | decide) only [go_sem, f1, f5, o1]; exact hK))
    refine adraw_nil (by kernel_rfl) ?_
    apply AW.cond
    ·(simp only [go_sem, f1, f5, o1]; rfl)
    case ht =>
     intro hb
     try simp only [bo1, bo2, bo3, bo4, bo5, bo6] at hb
     have hbt135 := hb
     refine AW.sr (cfg := cfg) ?_
     iterate 1 (apply aops_step (by decide) rfl; · (intro K hK; simp (disch := first | omega | decide) only [go_sem, f1, f5, o1]; exact hK _))
     refine aops_nil ?_
     refine AW.ret ?_
     refine ⟨.inr rfl, ?_⟩
     refine leaves_tmp1 2 rfl ?_ (by exact hG)
     simp (disch := first | omega | decide) only [go_sem, f1, f5, o1]
     all_goals (rw [may_c (.inr (.inl (lsas_no mo0 hk (rlsa_fg hk hbt135))))]; done)
     all_goals first | done | (rw [may_e (nE pkE_iff (by have z := hbt203; simp only [Bool.not_eq_true', Bool.not_eq_false', decide_eq_true_eq, decide_eq_false_iff_not] at z; omega))]; done) | skip
     all_goals first | done | (rw [may1 hbt206 hh he hc1]; done) | (rw [may2 (.inl hk) hh he hc3]; done) | (rw [may2 (.inr hbt218) hh he hc3]; done) | (rw [may3 hk hh he]; done) | (rw [may4 hbt239 hh he hc2]; done) | (rw [chk0 (by omega)]; done) | trace_state
    case hf =>
     intro hb
     try simp only [bo1, bo2, bo3, bo4, bo5, bo6] at hb
     have hbt135 := hb
     refine AW.skip ?_
     refine AW.region (cfg := cfg) ?_
     iterate 3 (apply aops_step (by decide) rfl; · (intro K hK; simp (disch := first | omega | decide) only [go_sem, f1, f5, o1]; exact hK _))
     refine aops_nil ?_
     refine ⟨_, _, rfl, ?_, ?_, ?_, ?_, (by intro i; simp [Mem.set, hr]), (by exact hG)⟩ <;> try simp (disch := first | omega | decide) only [go_sem, f1, f5, o1]
     all_goals first | rfl | (rw [lastL_succ hk]; exact lsas_go mo0 hk (rlsa_tg hk hb))
   ·clear f1 f3 o1 hr hG
    rintro σ ⟨s, m, rfl, f1, o1, f5, mo0, hr, hG⟩
    obtain ⟨g1, o1⟩ : ∃ g, m.objs (.tmp 1 0) = (g, .box [.v (i64 p.kind), .v (i64 p.fr), .v (i64 p.boot), .v (i64 p.to), .v (i64 p.tb), .v (i64 p.ep), .v (i64 p.te), .v (.sl 2 p.hn (p.hs.map linkA)), .v (.sl 2 p.xn (p.xs.map linkA)), .v (.sl 3 p.ln (p.ls.map lsaA))]) := ⟨_, Prod.ext rfl o1⟩
    rw [o1] at f1
    refine AW.seq ?_
    refine AW.sr (cfg := cfg) ?_
    iterate 1 (apply aops_step (by decide) rfl; · (intro K hK; simp (disch := first | omega | decide) only [go_sem, f1, f5, o1]; exact hK _))
    refine aops_fl (by decide) (by decide) fo28_9 ti26 (by simp (disch := first | omega | decide) only [go_sem, f1, f5, o1]; rfl) (by simp (disch := first | omega | decide) only [go_sem, f1, f5, o1]; rfl) (by rfl) ?_
    iterate 2 (apply aops_step (by decide) rfl; · (intro K hK; simp (disch := first | omega | decide) only [go_sem, f1, f5, o1, List.map, List.length_map, aops_len u26]; exact hK _))
    refine aops_nil ?_
    apply AW.cond
    ·(simp only [go_sem, f1, f5, o1]; rfl)
    case ht => intro hb; (simp at hb; done)
    case hf =>
    intro hb
    have hbt106 := hb
    refine AW.exit ?_
    refine AW.seq ?_
    refine AW.seq ?_
    have hc2 : lsasOK 0 p.ls = true := lsas_fin mo0
    refine AW.region (cfg := cfg) ?_
    refine aops_fl (by decide) (by decide) fo28_8 ti25 (by simp (disch := first | omega | decide) only [go_sem, f1, f5, o1]; rfl) (by simp (disch := first | omega | decide) only [go_sem, f1, f5, o1]; rfl) (by rfl) ?_
    apply aops_step (by decide) rfl
    ·intro K hK
     simp (disch := first | omega | decide) only [go_sem, f1, f5, o1, act_call, List.map]
     apply mwp_call_s rfl rfl rfl
     ·intro Q hQ
      (simp (disch := first | omega | decide) only [go_sem, f1, f5, o1, peekL, reifyL_nil, reifyL_cons, reify_v]; (exact hQ))
     ·exact good_refItems _ _ (by omega)
     ·simp [-List.map_take, -List.map_drop, -List.map_append, -List.map_replicate, -List.reduceReplicate, noPtrL, noPtr, noPtrL_bsl, noPtrL_map, sub]
     ·rfl
     ·exact hK _
    iterate 1 (apply aops_step (by decide) rfl; · (intro K hK; simp (disch := first | omega | decide) only [go_sem, f1, f5, o1]; exact hK _))
    refine aops_nil ?_
    apply AW.cond
    ·(simp only [go_sem, f1, f5, o1]; rfl)
    case ht =>
     intro hb
     try simp only [bo1, bo2, bo3, bo4, bo5, bo6] at hb
     have hbt139 := hb
     refine AW.sr (cfg := cfg) ?_
     iterate 1 (apply aops_step (by decide) rfl; · (intro K hK; simp (disch := first | omega | decide) only [go_sem, f1, f5, o1]; exact hK _))
     refine aops_nil ?_
     refine AW.ret ?_
     refine ⟨.inr rfl, ?_⟩
     refine leaves_tmp1 2 rfl ?_ (by exact hG)
     simp (disch := first | omega | decide) only [go_sem, f1, f5, o1]
     all_goals (rw [may_c (.inr (.inr (by simpa using hbt139)))]; done)
     all_goals first | done | (rw [may_e (nE pkE_iff (by have z := hbt203; simp only [Bool.not_eq_true', Bool.not_eq_false', decide_eq_true_eq, decide_eq_false_iff_not] at z; omega))]; done) | skip
     all_goals first | done | (rw [may1 hbt206 hh he hc1]; done) | (rw [may2 (.inl hk) hh he hc3]; done) | (rw [may2 (.inr hbt218) hh he hc3]; done) | (rw [may3 hk hh he]; done) | (rw [may4 hbt239 hh he hc2]; done) | (rw [chk0 (by omega)]; done) | trace_state
    case hf =>
     intro hb
     try simp only [bo1, bo2, bo3, bo4, bo5, bo6] at hb
     have hbt139 := hb
     refine AW.skip ?_
     refine AW.seq ?_
     have hc3 : itemsOK p.xs = true := by simpa using hbt139
     refine AW.draw (cfg := cfg) (by kernel_rfl) (by kernel_rfl) (by kernel_rfl) ?_
     apply adraw_step rfl
     ·intro K hK
      simp (disch := first | omega | decide) only [go_sem, f1, f5, o1, act_fieldAddr_t fo28_7, List.map]
      rw [mwp_fieldAddr_b (by simp only [go_sem, f1, f5, o1]; rfl)]
      exact hK
     apply adraw_step rfl
     ·intro K hK
      simp (disch := first | omega | decide) only [go_sem, f1, f5, o1, act_load_t ti24, List.map]
      rw [mwp_load_b1 (by simp only [go_sem, f1, f5, o1]; rfl) (by rfl)]
      exact hK
     iterate 1 (apply adraw_step rfl; · (intro K hK; simp (disch := first | omega | decide) only [go_sem, f1, f5, o1, List.map, List.length_map, aops_len u24]; exact hK))
     apply adraw_step rfl
     ·intro K hK
      simp (disch := first | omega | decide) only [go_sem, f1, f5, o1, act_fieldAddr_t fo28_8, List.map]
      rw [mwp_fieldAddr_b (by simp only [go_sem, f1, f5, o1]; rfl)]
      exact hK
     apply adraw_step rfl
     ·intro K hK
      simp (disch := first | omega | decide) only [go_sem, f1, f5, o1, act_load_t ti25, List.map]
      rw [mwp_load_b1 (by simp only [go_sem, f1, f5, o1]; rfl) (by rfl)]
      exact hK
     iterate 1 (apply adraw_step rfl; · (intro K hK; simp (disch := first | omega | decide) only [go_sem, f1, f5, o1, List.map, List.length_map, aops_len u25]; exact hK))
     apply adraw_step rfl
     ·intro K hK
      simp (disch := first | omega | decide) only [go_sem, f1, f5, o1, act_fieldAddr_t fo28_9, List.map]
      rw [mwp_fieldAddr_b (by simp only [go_sem, f1, f5, o1]; rfl)]
      exact hK
     apply adraw_step rfl
     ·intro K hK
      simp (disch := first | omega | decide) only [go_sem, f1, f5, o1, act_load_t ti26, List.map]
      rw [mwp_load_b1 (by simp only [go_sem, f1, f5, o1]; rfl) (by rfl)]
      exact hK
     iterate 4 (apply adraw_step rfl; · (intro K hK; simp (disch := first | omega | decide) only [go_sem, f1, f5, o1, List.map, List.length_map, aops_len u26]; exact hK))
     refine adraw_nil (by kernel_rfl) ?_
     refine AW.seq ?_
     refine AW.draw (cfg := cfg) (by kernel_rfl) (by kernel_rfl) (by kernel_rfl) ?_
     apply adraw_step rfl
     ·intro K hK
      simp (disch := first | omega | decide) only [go_sem, f1, f5, o1, act_fieldAddr_t fo28_0, List.map]
      rw [mwp_fieldAddr_b (by simp only [go_sem, f1, f5, o1]; rfl)]
      exact hK
     apply adraw_step rfl
     ·intro K hK
      simp (disch := first | omega | decide) only [go_sem, f1, f5, o1, act_load_t ti3, List.map]
      rw [mwp_load_b1 (by simp only [go_sem, f1, f5, o1]; rfl) (by rfl)]
      exact hK
     iterate 1 (apply adraw_step rfl; · (intro K hK; simp (disch := first | omega | decide) only [go_sem, f1, f5, o1]; exact hK))
     apply adraw_step rfl
     ·intro K hK
      simp (disch := first | omega | decide) only [go_sem, f1, f5, o1, act_fieldAddr_t fo28_0, List.map]
      rw [mwp_fieldAddr_b (by simp only [go_sem, f1, f5, o1]; rfl)]
      exact hK
     apply adraw_step rfl
     ·intro K hK
      simp (disch := first | omega | decide) only [go_sem, f1, f5, o1, act_load_t ti3, List.map]
      rw [mwp_load_b1 (by simp only [go_sem, f1, f5, o1]; rfl) (by rfl)]
      exact hK
     iterate 3 (apply adraw_step rfl; · (intro K hK; simp (disch := first | omega | decide) only [go_sem, f1, f5, o1]; exact hK))
     refine adraw_nil (by kernel_rfl) ?_
     refine AW.seq ?_
     refine AW.sr (cfg := cfg) ?_
     iterate 3 (apply aops_step (by decide) rfl; · (intro K hK; simp (disch := first | omega | decide) only [go_sem, f1, f5, o1]; exact hK _))
     apply aops_merge' (by decide) (by exact want_of (d := 157) rfl (by simp only [go_sem, f1, f5, o1, opn_cond]; rfl))
     ·intro hc K hK
      simp (disch := first | omega | decide) only [go_sem, f1, f5, o1, opn_cond, hc, if_true]
      exact hK _
     apply aops_merge' (by decide) (by exact want_of (d := 157) rfl (by simp (disch := first | omega | decide) only [go_sem, f1, f5, o1, opn_cond]; rfl))
     ·intro hc K hK
      simp (disch := first | omega | decide) only [go_sem, f1, f5, o1, opn_cond, hc, if_true]
      exact hK _
     iterate 2 (apply aops_step (by decide) rfl; · (intro K hK; simp (disch := first | omega | decide) only [go_sem, f1, f5, o1]; exact hK _))
     refine aops_flm (dg := 161) (by decide) (by decide) (by decide) fo28_5 ti3 rfl (by simp (disch := first | omega | decide) only [go_sem, f1, f5, o1]; rfl) (by simp (disch := first | omega | decide) only [go_sem, f1, f5, o1]; rfl) (by simp (disch := first | omega | decide) only [go_sem, f1, f5, o1]; rfl) (by rfl) ?_
     apply aops_merge' (by decide) (by exact want_of (d := 161) rfl (by simp (disch := first | omega | decide) only [go_sem, f1, f5, o1, opn_cond]; rfl))
     ·intro hc K hK
      simp (disch := first | omega | decide) only [go_sem, f1, f5, o1, opn_cond, hc, if_true]
      exact hK _
     iterate 2 (apply aops_step (by decide) rfl; · (intro K hK; simp (disch := first | omega | decide) only [go_sem, f1, f5, o1]; exact hK _))
     apply aops_merge' (by decide) (by exact want_of (d := 166) rfl (by simp only [go_sem, f1, f5, o1, opn_cond]; rfl))
     ·intro hc K hK
      simp (disch := first | omega | decide) only [go_sem, f1, f5, o1, opn_cond, hc, if_true]
      exact hK _
     apply aops_merge' (by decide) (by exact want_of (d := 166) rfl (by simp (disch := first | omega | decide) only [go_sem, f1, f5, o1, opn_cond]; rfl))
     ·intro hc K hK
      simp (disch := first | omega | decide) only [go_sem, f1, f5, o1, opn_cond, hc, if_true]
      exact hK _
     apply aops_merge' (by decide) (by exact want_of_cond (d := 168) rfl (by simp only [go_sem, f1, f5, o1, opn_cond]; rfl))
     ·intro hc K hK
      simp (disch := first | omega | decide) only [go_sem, f1, f5, o1, opn_cond, hc, if_true]
      exact hK _
     apply aops_merge' (by decide) (by exact want_of (d := 166) rfl (by simp (disch := first | omega | decide) only [go_sem, f1, f5, o1, opn_cond]; rfl))
     ·intro hc K hK
      simp (disch := first | omega | decide) only [go_sem, f1, f5, o1, opn_cond, hc, if_true]
      exact hK _
     apply aops_merge' (by decide) (by exact want_of (d := 166) rfl (by simp (disch := first | omega | decide) only [go_sem, f1, f5, o1, opn_cond]; rfl))
     ·intro hc K hK
      simp (disch := first | omega | decide) only [go_sem, f1, f5, o1, opn_cond, hc, if_true]
      exact hK _
     refine aops_flc (dg := 171) (by decide) (by decide) (by decide) fo28_5 ti3 rfl (by simp (disch := first | omega | decide) only [go_sem, f1, f5, o1]; rfl) (by simp (disch := first | omega | decide) only [go_sem, f1, f5, o1]; rfl) (by simp (disch := first | omega | decide) only [go_sem, f1, f5, o1]; rfl) (by rfl) ?_
     apply aops_merge' (by decide) (by exact want_of_cond (d := 171) rfl (by simp (disch := first | omega | decide) only [go_sem, f1, f5, o1, opn_cond]; rfl))
     ·intro hc K hK
      simp (disch := first | omega | decide) only [go_sem, f1, f5, o1, opn_cond, hc, if_true]
      exact hK _
     apply aops_merge' (by decide) (by exact want_of_cond (d := 171) rfl (by simp (disch := first | omega | decide) only [go_sem, f1, f5, o1, opn_cond]; rfl))
     ·intro hc K hK
      simp (disch := first | omega | decide) only [go_sem, f1, f5, o1, opn_cond, hc, if_true]
      exact hK _
     refine aops_flc (dg := 175) (by decide) (by decide) (by decide) fo28_5 ti3 rfl (by simp (disch := first | omega | decide) only [go_sem, f1, f5, o1]; rfl) (by simp (disch := first | omega | decide) only [go_sem, f1, f5, o1]; rfl) (by simp (disch := first | omega | decide) only [go_sem, f1, f5, o1]; rfl) (by rfl) ?_
     apply aops_merge' (by decide) (by exact want_of_cond (d := 175) rfl (by simp (disch := first | omega | decide) only [go_sem, f1, f5, o1, opn_cond]; rfl))
     ·intro hc K hK
      simp (disch := first | omega | decide) only [go_sem, f1, f5, o1, opn_cond, hc, if_true]
      exact hK _
     apply aops_merge' (by decide) (by exact want_of_cond (d := 171) rfl (by simp (disch := first | omega | decide) only [go_sem, f1, f5, o1, opn_cond]; rfl))
     ·intro hc K hK
      simp (disch := first | omega | decide) only [go_sem, f1, f5, o1, opn_cond, hc, if_true]
      exact hK _
     apply aops_merge' (by decide) (by exact want_of (d := 166) rfl (by simp (disch := first | omega | decide) only [go_sem, f1, f5, o1, opn_cond]; rfl))
     ·intro hc K hK
      simp (disch := first | omega | decide) only [go_sem, f1, f5, o1, opn_cond, hc, if_true]
      exact hK _
     iterate 2 (apply aops_step (by decide) rfl; · (intro K hK; simp (disch := first | omega | decide) only [go_sem, f1, f5, o1]; exact hK _))
     apply aops_merge' (by decide) (by exact want_of (d := 182) rfl (by simp only [go_sem, f1, f5, o1, opn_cond]; rfl))
     ·intro hc K hK
      simp (disch := first | omega | decide) only [go_sem, f1, f5, o1, opn_cond, hc, if_true]
      exact hK _
     apply aops_merge' (by decide) (by exact want_of (d := 182) rfl (by simp (disch := first | omega | decide) only [go_sem, f1, f5, o1, opn_cond]; rfl))
     ·intro hc K hK
      simp (disch := first | omega | decide) only [go_sem, f1, f5, o1, opn_cond, hc, if_true]
      exact hK _
     apply aops_merge' (by decide) (by exact want_of (d := 182) rfl (by simp (disch := first | omega | decide) only [go_sem, f1, f5, o1, opn_cond]; rfl))
     ·intro hc K hK
      simp (disch := first | omega | decide) only [go_sem, f1, f5, o1, opn_cond, hc, if_true]
      exact hK _
     refine aops_flc (dg := 185) (by decide) (by decide) (by decide) fo28_6 ti3 rfl (by simp (disch := first | omega | decide) only [go_sem, f1, f5, o1]; rfl) (by simp (disch := first | omega | decide) only [go_sem, f1, f5, o1]; rfl) (by simp (disch := first | omega | decide) only [go_sem, f1, f5, o1]; rfl) (by rfl) ?_
     apply aops_merge' (by decide) (by exact want_of_cond (d := 185) rfl (by simp (disch := first | omega | decide) only [go_sem, f1, f5, o1, opn_cond]; rfl))
     ·intro hc K hK
      simp (disch := first | omega | decide) only [go_sem, f1, f5, o1, opn_cond, hc, if_true]
      exact hK _
     apply aops_merge' (by decide) (by exact want_of (d := 182) rfl (by simp (disch := first | omega | decide) only [go_sem, f1, f5, o1, opn_cond]; rfl))
     ·intro hc K hK
      simp (disch := first | omega | decide) only [go_sem, f1, f5, o1, opn_cond, hc, if_true]
      exact hK _
     iterate 2 (apply aops_step (by decide) rfl; · (intro K hK; simp (disch := first | omega | decide) only [go_sem, f1, f5, o1]; exact hK _))
     apply aops_merge' (by decide) (by exact want_of (d := 191) rfl (by simp only [go_sem, f1, f5, o1, opn_cond]; rfl))
     ·intro hc K hK
      simp (disch := first | omega | decide) only [go_sem, f1, f5, o1, opn_cond, hc, if_true]
      exact hK _
     apply aops_merge' (by decide) (by exact want_of (d := 191) rfl (by simp (disch := first | omega | decide) only [go_sem, f1, f5, o1, opn_cond]; rfl))
     ·intro hc K hK
      simp (disch := first | omega | decide) only [go_sem, f1, f5, o1, opn_cond, hc, if_true]
      exact hK _
     refine aops_flc (dg := 193) (by decide) (by decide) (by decide) fo28_6 ti3 rfl (by simp (disch := first | omega | decide) only [go_sem, f1, f5, o1]; rfl) (by simp (disch := first | omega | decide) only [go_sem, f1, f5, o1]; rfl) (by simp (disch := first | omega | decide) only [go_sem, f1, f5, o1]; rfl) (by rfl) ?_
     apply aops_merge' (by decide) (by exact want_of_cond (d := 193) rfl (by simp (disch := first | omega | decide) only [go_sem, f1, f5, o1, opn_cond]; rfl))
     ·intro hc K hK
      simp (disch := first | omega | decide) only [go_sem, f1, f5, o1, opn_cond, hc, if_true]
      exact hK _
     apply aops_merge' (by decide) (by exact want_of_cond (d := 193) rfl (by simp (disch := first | omega | decide) only [go_sem, f1, f5, o1, opn_cond]; rfl))
     ·intro hc K hK
      simp (disch := first | omega | decide) only [go_sem, f1, f5, o1, opn_cond, hc, if_true]
      exact hK _
     refine aops_flc (dg := 197) (by decide) (by decide) (by decide) fo28_6 ti3 rfl (by simp (disch := first | omega | decide) only [go_sem, f1, f5, o1]; rfl) (by simp (disch := first | omega | decide) only [go_sem, f1, f5, o1]; rfl) (by simp (disch := first | omega | decide) only [go_sem, f1, f5, o1]; rfl) (by rfl) ?_
     apply aops_merge' (by decide) (by exact want_of_cond (d := 197) rfl (by simp (disch := first | omega | decide) only [go_sem, f1, f5, o1, opn_cond]; rfl))
     ·intro hc K hK
      simp (disch := first | omega | decide) only [go_sem, f1, f5, o1, opn_cond, hc, if_true]
      exact hK _
     apply aops_merge' (by decide) (by exact want_of_cond (d := 193) rfl (by simp (disch := first | omega | decide) only [go_sem, f1, f5, o1, opn_cond]; rfl))
     ·intro hc K hK
      simp (disch := first | omega | decide) only [go_sem, f1, f5, o1, opn_cond, hc, if_true]
      exact hK _
     apply aops_merge' (by decide) (by exact want_of (d := 191) rfl (by simp (disch := first | omega | decide) only [go_sem, f1, f5, o1, opn_cond]; rfl))
     ·intro hc K hK
      simp (disch := first | omega | decide) only [go_sem, f1, f5, o1, opn_cond, hc, if_true]
      exact hK _
     iterate 1 (apply aops_step (by decide) rfl; · (intro K hK; simp (disch := first | omega | decide) only [go_sem, f1, f5, o1]; exact hK _))
     refine aops_nil ?_
     apply AW.cond
     ·(simp only [go_sem, f1, f5, o1]; rfl)
     case ht =>
      intro hb
      try simp only [bo1, bo2, bo3, bo4, bo5, bo6] at hb
      have hbt203 := hb
      refine AW.sr (cfg := cfg) ?_
      iterate 1 (apply aops_step (by decide) rfl; · (intro K hK; simp (disch := first | omega | decide) only [go_sem, f1, f5, o1]; exact hK _))
      refine aops_nil ?_
      refine AW.ret ?_
      refine ⟨.inr rfl, ?_⟩
      refine leaves_tmp1 2 rfl ?_ (by exact hG)
      simp (disch := first | omega | decide) only [go_sem, f1, f5, o1]
      all_goals skip
      all_goals (rw [may_e (nE pkE_iff (by have z := hbt203; simp only [Bool.not_eq_true', Bool.not_eq_false', decide_eq_true_eq, decide_eq_false_iff_not] at z; omega))]; done)
      all_goals first | done | (rw [may1 hbt206 hh he hc1]; done) | (rw [may2 (.inl hk) hh he hc3]; done) | (rw [may2 (.inr hbt218) hh he hc3]; done) | (rw [may3 hk hh he]; done) | (rw [may4 hbt239 hh he hc2]; done) | (rw [chk0 (by omega)]; done) | trace_state
     case hf =>
      intro hb
      try simp only [bo1, bo2, bo3, bo4, bo5, bo6] at hb
      have hbt203 := hb
      refine AW.skip ?_
      refine AW.seq ?_
      refine AW.seq ?_
      have he : pkE p = true := pkE_iff.2 (by have z := hbt203; simp only [Bool.not_eq_true', Bool.not_eq_false', decide_eq_true_eq, decide_eq_false_iff_not] at z; omega)
      rcases kd_way p.kind with hk | hk | hk
      ·skip
       have k2 : decide (p.kind = 2) = true := decide_eq_true hk
       have k3 : decide (p.kind = 3) = false := decide_eq_false (by omega)
       have k5 := d00
       have k1 : decide (p.kind = 1) = false := decide_eq_false (by omega)
       have he : pkE p = true := pkE_iff.2 (by have z := hbt203; simp only [Bool.not_eq_true', Bool.not_eq_false', decide_eq_true_eq, decide_eq_false_iff_not] at z; omega)
       refine AW.region (cfg := cfg) ?_
       refine aops_fl (by decide) (by decide) fo28_0 ti3 (by simp (disch := first | omega | decide) only [go_sem, f1, f5, o1, k1, k2, k3, k5]; rfl) (by simp (disch := first | omega | decide) only [go_sem, f1, f5, o1, k1, k2, k3, k5]; rfl) (by rfl) ?_
       refine aops_nil ?_
       refine AW.block ?_
       refine AW.sr (cfg := cfg) ?_
       iterate 2 (apply aops_step (by decide) rfl; · (intro K hK; simp (disch := first | omega | decide) only [go_sem, f1, f5, o1, k1, k2, k3, k5]; exact hK _))
       refine aops_nil ?_
       apply AW.cond
       ·(simp only [go_sem, f1, f5, o1, k1, k2, k3, k5]; rfl)
       case ht => intro hb; (simp at hb; done)
       case hf =>
       intro hb
       have hbt206 := hb
       refine AW.seq ?_
       refine AW.sr (cfg := cfg) ?_
       iterate 2 (apply aops_step (by decide) rfl; · (intro K hK; simp (disch := first | omega | decide) only [go_sem, f1, f5, o1, k1, k2, k3, k5]; exact hK _))
       refine aops_nil ?_
       apply AW.cond
       ·(simp only [go_sem, f1, f5, o1, k1, k2, k3, k5]; rfl)
       case hf => intro hb; (simp at hb; done)
       case ht =>
       intro hb
       have hbt218 := hb
       refine AW.skip ?_
       apply AW.cond
       ·(simp only [go_sem, f1, f5, o1, k1, k2, k3, k5]; rfl)
       case hf => intro hb; (simp at hb; done)
       case ht =>
       intro hb
       have hbt218 := hb
       refine AW.sr (cfg := cfg) ?_
       iterate 3 (apply aops_step (by decide) rfl; · (intro K hK; simp (disch := first | omega | decide) only [go_sem, f1, f5, o1, k1, k2, k3, k5]; exact hK _))
       apply aops_merge' (by decide) (by exact want_of (d := 223) rfl (by simp only [go_sem, f1, f5, o1, k1, k2, k3, k5, opn_cond]; rfl))
       ·intro hc K hK
        simp (disch := first | omega | decide) only [go_sem, f1, f5, o1, k1, k2, k3, k5, opn_cond, hc, if_true]
        exact hK _
       apply aops_merge' (by decide) (by exact want_of (d := 223) rfl (by simp only [go_sem, f1, f5, o1, k1, k2, k3, k5, opn_cond]; rfl))
       ·intro hc K hK
        simp (disch := first | omega | decide) only [go_sem, f1, f5, o1, k1, k2, k3, k5, opn_cond, hc, if_true]
        exact hK _
       iterate 2 (apply aops_step (by decide) rfl; · (intro K hK; simp (disch := first | omega | decide) only [go_sem, f1, f5, o1, k1, k2, k3, k5]; exact hK _))
       refine aops_nil ?_
       refine AW.ret ?_
       refine ⟨.inr rfl, ?_⟩
       refine leaves_tmp1 2 rfl ?_ (by exact hG)
       simp (disch := first | omega | decide) only [go_sem, f1, f5, o1, k1, k2, k3, k5]
       all_goals skip
       all_goals skip
       all_goals (rw [may2 (.inl hk) hh he hc3]; done)
      ·skip
       have k2 : decide (p.kind = 2) = false := decide_eq_false (by omega)
       have k3 : decide (p.kind = 3) = true := decide_eq_true hk
       have k1 : decide (p.kind = 1) = false := decide_eq_false (by omega)
       have k5 : decide (p.kind = 5) = false := decide_eq_false (by omega)
       have he : pkE p = true := pkE_iff.2 (by have z := hbt203; simp only [Bool.not_eq_true', Bool.not_eq_false', decide_eq_true_eq, decide_eq_false_iff_not] at z; omega)
       refine AW.region (cfg := cfg) ?_
       refine aops_fl (by decide) (by decide) fo28_0 ti3 (by simp (disch := first | omega | decide) only [go_sem, f1, f5, o1, k1, k2, k3, k5]; rfl) (by simp (disch := first | omega | decide) only [go_sem, f1, f5, o1, k1, k2, k3, k5]; rfl) (by rfl) ?_
       refine aops_nil ?_
       refine AW.block ?_
       refine AW.sr (cfg := cfg) ?_
       iterate 2 (apply aops_step (by decide) rfl; · (intro K hK; simp (disch := first | omega | decide) only [go_sem, f1, f5, o1, k1, k2, k3, k5]; exact hK _))
       refine aops_nil ?_
       apply AW.cond
       ·(simp only [go_sem, f1, f5, o1, k1, k2, k3, k5]; rfl)
       case ht => intro hb; (simp at hb; done)
       case hf =>
       intro hb
       have hbt206 := hb
       refine AW.seq ?_
       refine AW.sr (cfg := cfg) ?_
       iterate 2 (apply aops_step (by decide) rfl; · (intro K hK; simp (disch := first | omega | decide) only [go_sem, f1, f5, o1, k1, k2, k3, k5]; exact hK _))
       refine aops_nil ?_
       apply AW.cond
       ·(simp only [go_sem, f1, f5, o1, k1, k2, k3, k5]; rfl)
       case ht => intro hb; (simp at hb; done)
       case hf =>
       intro hb
       have hbt218 := hb
       refine AW.region (cfg := cfg) ?_
       iterate 2 (apply aops_step (by decide) rfl; · (intro K hK; simp (disch := first | omega | decide) only [go_sem, f1, f5, o1, k1, k2, k3, k5]; exact hK _))
       refine aops_nil ?_
       apply AW.cond
       ·(simp only [go_sem, f1, f5, o1, k1, k2, k3, k5]; rfl)
       case ht => intro hb; (simp at hb; done)
       case hf =>
       intro hb
       have hbt218 := hb
       refine AW.sr (cfg := cfg) ?_
       iterate 2 (apply aops_step (by decide) rfl; · (intro K hK; simp (disch := first | omega | decide) only [go_sem, f1, f5, o1, k1, k2, k3, k5]; exact hK _))
       refine aops_nil ?_
       apply AW.cond
       ·(simp only [go_sem, f1, f5, o1, k1, k2, k3, k5]; rfl)
       case hf => intro hb; (simp at hb; done)
       case ht =>
       intro hb
       have hbt227 := hb
       refine AW.sr (cfg := cfg) ?_
       iterate 3 (apply aops_step (by decide) rfl; · (intro K hK; simp (disch := first | omega | decide) only [go_sem, f1, f5, o1, k1, k2, k3, k5]; exact hK _))
       apply aops_merge' (by decide) (by exact want_of (d := 231) rfl (by simp only [go_sem, f1, f5, o1, k1, k2, k3, k5, opn_cond]; rfl))
       ·intro hc K hK
        simp (disch := first | omega | decide) only [go_sem, f1, f5, o1, k1, k2, k3, k5, opn_cond, hc, if_true]
        exact hK _
       apply aops_merge' (by decide) (by exact want_of (d := 231) rfl (by simp only [go_sem, f1, f5, o1, k1, k2, k3, k5, opn_cond]; rfl))
       ·intro hc K hK
        simp (disch := first | omega | decide) only [go_sem, f1, f5, o1, k1, k2, k3, k5, opn_cond, hc, if_true]
        exact hK _
       iterate 2 (apply aops_step (by decide) rfl; · (intro K hK; simp (disch := first | omega | decide) only [go_sem, f1, f5, o1, k1, k2, k3, k5]; exact hK _))
       apply aops_merge' (by decide) (by exact want_of (d := 235) rfl (by simp only [go_sem, f1, f5, o1, k1, k2, k3, k5, opn_cond]; rfl))
       ·intro hc K hK
        simp (disch := first | omega | decide) only [go_sem, f1, f5, o1, k1, k2, k3, k5, opn_cond, hc, if_true]
        exact hK _
       apply aops_merge' (by decide) (by exact want_of (d := 235) rfl (by simp only [go_sem, f1, f5, o1, k1, k2, k3, k5, opn_cond]; rfl))
       ·intro hc K hK
        simp (disch := first | omega | decide) only [go_sem, f1, f5, o1, k1, k2, k3, k5, opn_cond, hc, if_true]
        exact hK _
       iterate 2 (apply aops_step (by decide) rfl; · (intro K hK; simp (disch := first | omega | decide) only [go_sem, f1, f5, o1, k1, k2, k3, k5]; exact hK _))
       refine aops_nil ?_
       refine AW.ret ?_
       refine ⟨.inr rfl, ?_⟩
       refine leaves_tmp1 2 rfl ?_ (by exact hG)
       simp (disch := first | omega | decide) only [go_sem, f1, f5, o1, k1, k2, k3, k5]
       all_goals skip
       all_goals skip
       all_goals (rw [may3 hk hh he]; done)
      ·skip
       have k2 : decide (p.kind = 2) = false := decide_eq_false (by omega)
       have k3 : decide (p.kind = 3) = false := decide_eq_false (by omega)
       have k1 := d00
       have k5 := d00
       have he : pkE p = true := pkE_iff.2 (by have z := hbt203; simp only [Bool.not_eq_true', Bool.not_eq_false', decide_eq_true_eq, decide_eq_false_iff_not] at z; omega)
       refine AW.region (cfg := cfg) ?_
       refine aops_fl (by decide) (by decide) fo28_0 ti3 (by simp (disch := first | omega | decide) only [go_sem, f1, f5, o1, k1, k2, k3, k5]; rfl) (by simp (disch := first | omega | decide) only [go_sem, f1, f5, o1, k1, k2, k3, k5]; rfl) (by rfl) ?_
       refine aops_nil ?_
       refine AW.block ?_
       refine AW.sr (cfg := cfg) ?_
       iterate 2 (apply aops_step (by decide) rfl; · (intro K hK; simp (disch := first | omega | decide) only [go_sem, f1, f5, o1, k1, k2, k3, k5]; exact hK _))
       refine aops_nil ?_
       apply AW.cond
       ·(simp only [go_sem, f1, f5, o1, k1, k2, k3, k5]; rfl)
       case ht =>
        intro hb
        try simp only [bo1, bo2, bo3, bo4, bo5, bo6] at hb
        have hbt206 := hb
        refine AW.sr (cfg := cfg) ?_
        iterate 3 (apply aops_step (by decide) rfl; · (intro K hK; simp (disch := first | omega | decide) only [go_sem, f1, f5, o1, k1, k2, k3, k5]; exact hK _))
        apply aops_merge' (by decide) (by exact want_of (d := 210) rfl (by simp only [go_sem, f1, f5, o1, k1, k2, k3, k5, opn_cond]; rfl))
        ·intro hc K hK
         simp (disch := first | omega | decide) only [go_sem, f1, f5, o1, k1, k2, k3, k5, opn_cond, hc, if_true]
         exact hK _
        apply aops_merge' (by decide) (by exact want_of (d := 210) rfl (by simp only [go_sem, f1, f5, o1, k1, k2, k3, k5, opn_cond]; rfl))
        ·intro hc K hK
         simp (disch := first | omega | decide) only [go_sem, f1, f5, o1, k1, k2, k3, k5, opn_cond, hc, if_true]
         exact hK _
        iterate 2 (apply aops_step (by decide) rfl; · (intro K hK; simp (disch := first | omega | decide) only [go_sem, f1, f5, o1, k1, k2, k3, k5]; exact hK _))
        apply aops_merge' (by decide) (by exact want_of (d := 214) rfl (by simp only [go_sem, f1, f5, o1, k1, k2, k3, k5, opn_cond]; rfl))
        ·intro hc K hK
         simp (disch := first | omega | decide) only [go_sem, f1, f5, o1, k1, k2, k3, k5, opn_cond, hc, if_true]
         exact hK _
        apply aops_merge' (by decide) (by exact want_of (d := 214) rfl (by simp only [go_sem, f1, f5, o1, k1, k2, k3, k5, opn_cond]; rfl))
        ·intro hc K hK
         simp (disch := first | omega | decide) only [go_sem, f1, f5, o1, k1, k2, k3, k5, opn_cond, hc, if_true]
         exact hK _
        iterate 2 (apply aops_step (by decide) rfl; · (intro K hK; simp (disch := first | omega | decide) only [go_sem, f1, f5, o1, k1, k2, k3, k5]; exact hK _))
        refine aops_nil ?_
        refine AW.ret ?_
        refine ⟨.inr rfl, ?_⟩
        refine leaves_tmp1 2 rfl ?_ (by exact hG)
        simp (disch := first | omega | decide) only [go_sem, f1, f5, o1, k1, k2, k3, k5]
        all_goals skip
        all_goals skip
        all_goals (rw [may1 hbt206 hh he hc1]; done)
       case hf =>
        intro hb
        try simp only [bo1, bo2, bo3, bo4, bo5, bo6] at hb
        have hbt206 := hb
        refine AW.seq ?_
        refine AW.sr (cfg := cfg) ?_
        iterate 2 (apply aops_step (by decide) rfl; · (intro K hK; simp (disch := first | omega | decide) only [go_sem, f1, f5, o1, k1, k2, k3, k5]; exact hK _))
        refine aops_nil ?_
        apply AW.cond
        ·(simp only [go_sem, f1, f5, o1, k1, k2, k3, k5]; rfl)
        case ht => intro hb; (simp at hb; done)
        case hf =>
        intro hb
        have hbt218 := hb
        refine AW.region (cfg := cfg) ?_
        iterate 2 (apply aops_step (by decide) rfl; · (intro K hK; simp (disch := first | omega | decide) only [go_sem, f1, f5, o1, k1, k2, k3, k5]; exact hK _))
        refine aops_nil ?_
        apply AW.cond
        ·(simp only [go_sem, f1, f5, o1, k1, k2, k3, k5]; rfl)
        case ht =>
         intro hb
         try simp only [bo1, bo2, bo3, bo4, bo5, bo6] at hb
         have hbt218 := hb
         refine AW.sr (cfg := cfg) ?_
         iterate 3 (apply aops_step (by decide) rfl; · (intro K hK; simp (disch := first | omega | decide) only [go_sem, f1, f5, o1, k1, k2, k3, k5]; exact hK _))
         apply aops_merge' (by decide) (by exact want_of (d := 223) rfl (by simp only [go_sem, f1, f5, o1, k1, k2, k3, k5, opn_cond]; rfl))
         ·intro hc K hK
          simp (disch := first | omega | decide) only [go_sem, f1, f5, o1, k1, k2, k3, k5, opn_cond, hc, if_true]
          exact hK _
         apply aops_merge' (by decide) (by exact want_of (d := 223) rfl (by simp only [go_sem, f1, f5, o1, k1, k2, k3, k5, opn_cond]; rfl))
         ·intro hc K hK
          simp (disch := first | omega | decide) only [go_sem, f1, f5, o1, k1, k2, k3, k5, opn_cond, hc, if_true]
          exact hK _
         iterate 2 (apply aops_step (by decide) rfl; · (intro K hK; simp (disch := first | omega | decide) only [go_sem, f1, f5, o1, k1, k2, k3, k5]; exact hK _))
         refine aops_nil ?_
         refine AW.ret ?_
         refine ⟨.inr rfl, ?_⟩
         refine leaves_tmp1 2 rfl ?_ (by exact hG)
         simp (disch := first | omega | decide) only [go_sem, f1, f5, o1, k1, k2, k3, k5]
         all_goals skip
         all_goals skip
         all_goals (rw [may2 (.inr hbt218) hh he hc3]; done)
        case hf =>
         intro hb
         try simp only [bo1, bo2, bo3, bo4, bo5, bo6] at hb
         have hbt218 := hb
         refine AW.sr (cfg := cfg) ?_
         iterate 2 (apply aops_step (by decide) rfl; · (intro K hK; simp (disch := first | omega | decide) only [go_sem, f1, f5, o1, k1, k2, k3, k5]; exact hK _))
         refine aops_nil ?_
         apply AW.cond
         ·(simp only [go_sem, f1, f5, o1, k1, k2, k3, k5]; rfl)
         case ht => intro hb; (simp at hb; done)
         case hf =>
         intro hb
         have hbt227 := hb
         refine AW.sr (cfg := cfg) ?_
         iterate 2 (apply aops_step (by decide) rfl; · (intro K hK; simp (disch := first | omega | decide) only [go_sem, f1, f5, o1, k1, k2, k3, k5]; exact hK _))
         refine aops_nil ?_
         apply AW.cond
         ·(simp only [go_sem, f1, f5, o1, k1, k2, k3, k5]; rfl)
         case ht =>
          intro hb
          try simp only [bo1, bo2, bo3, bo4, bo5, bo6] at hb
          have hbt239 := hb
          refine AW.sr (cfg := cfg) ?_
          iterate 3 (apply aops_step (by decide) rfl; · (intro K hK; simp (disch := first | omega | decide) only [go_sem, f1, f5, o1, k1, k2, k3, k5]; exact hK _))
          apply aops_merge' (by decide) (by exact want_of (d := 243) rfl (by simp only [go_sem, f1, f5, o1, k1, k2, k3, k5, opn_cond]; rfl))
          ·intro hc K hK
           simp (disch := first | omega | decide) only [go_sem, f1, f5, o1, k1, k2, k3, k5, opn_cond, hc, if_true]
           exact hK _
          apply aops_merge' (by decide) (by exact want_of (d := 243) rfl (by simp only [go_sem, f1, f5, o1, k1, k2, k3, k5, opn_cond]; rfl))
          ·intro hc K hK
           simp (disch := first | omega | decide) only [go_sem, f1, f5, o1, k1, k2, k3, k5, opn_cond, hc, if_true]
           exact hK _
          iterate 2 (apply aops_step (by decide) rfl; · (intro K hK; simp (disch := first | omega | decide) only [go_sem, f1, f5, o1, k1, k2, k3, k5]; exact hK _))
          apply aops_merge' (by decide) (by exact want_of (d := 247) rfl (by simp only [go_sem, f1, f5, o1, k1, k2, k3, k5, opn_cond]; rfl))
          ·intro hc K hK
           simp (disch := first | omega | decide) only [go_sem, f1, f5, o1, k1, k2, k3, k5, opn_cond, hc, if_true]
           exact hK _
          apply aops_merge' (by decide) (by exact want_of (d := 247) rfl (by simp only [go_sem, f1, f5, o1, k1, k2, k3, k5, opn_cond]; rfl))
          ·intro hc K hK
           simp (disch := first | omega | decide) only [go_sem, f1, f5, o1, k1, k2, k3, k5, opn_cond, hc, if_true]
           exact hK _
          iterate 2 (apply aops_step (by decide) rfl; · (intro K hK; simp (disch := first | omega | decide) only [go_sem, f1, f5, o1, k1, k2, k3, k5]; exact hK _))
          apply aops_merge' (by decide) (by exact want_of (d := 251) rfl (by simp only [go_sem, f1, f5, o1, k1, k2, k3, k5, opn_cond]; rfl))
          ·intro hc K hK
           simp (disch := first | omega | decide) only [go_sem, f1, f5, o1, k1, k2, k3, k5, opn_cond, hc, if_true]
           exact hK _
          apply aops_merge' (by decide) (by exact want_of (d := 251) rfl (by simp only [go_sem, f1, f5, o1, k1, k2, k3, k5, opn_cond]; rfl))
          ·intro hc K hK
           simp (disch := first | omega | decide) only [go_sem, f1, f5, o1, k1, k2, k3, k5, opn_cond, hc, if_true]
           exact hK _
          iterate 2 (apply aops_step (by decide) rfl; · (intro K hK; simp (disch := first | omega | decide) only [go_sem, f1, f5, o1, k1, k2, k3, k5]; exact hK _))
          refine aops_nil ?_
          refine AW.ret ?_
          refine ⟨.inr rfl, ?_⟩
          refine leaves_tmp1 2 rfl ?_ (by exact hG)
          simp (disch := first | omega | decide) only [go_sem, f1, f5, o1, k1, k2, k3, k5]
          all_goals skip
          all_goals skip
          all_goals (rw [may4 hbt239 hh he hc2]; done)
         case hf =>
          intro hb
          try simp only [bo1, bo2, bo3, bo4, bo5, bo6] at hb
          have hbt239 := hb
          refine AW.skip ?_
          refine AW.sr (cfg := cfg) ?_
          iterate 1 (apply aops_step (by decide) rfl; · (intro K hK; simp (disch := first | omega | decide) only [go_sem, f1, f5, o1, k1, k2, k3, k5]; exact hK _))
          refine aops_nil ?_
          refine AW.ret ?_
          refine ⟨.inr rfl, ?_⟩
          refine leaves_tmp1 2 rfl ?_ (by exact hG)
          simp (disch := first | omega | decide) only [go_sem, f1, f5, o1, k1, k2, k3, k5]
          all_goals skip
          all_goals skip
          all_goals (rw [chk0 (by omega)]; done)
end Go.Vai.P
