import Derived.Test.YtblgcekomnnfmaagPkt
import Derived.Test.YtblgcekomnnfmaaVaiD
namespace Go.Vai.P
open Go.Proofs Go.Vai Go.Vai.G Go.Vai.L Go.Vai.O Go.Vai.U Go.Vai.Z
set_option linter.unusedSimpArgs false
set_option linter.unusedVariables false
set_option maxHeartbeats 4000000
set_option maxRecDepth 100000
theorem er_t {p : Pkt} (h : (!pktOK p) = true) : pktEr p = 1 := by
  have : pktOK p = false := by simpa using h
  rw [pktEr, this]; rfl
theorem er_f {p : Pkt} (h : (!pktOK p) = false) : pktEr p = 0 := by
  have : pktOK p = true := by simpa using h
  rw [pktEr, this]; rfl
def hdE (p : Pkt) : Bool := (((wi p.fr 1 64 && wi p.to 1 64) && decide (p.fr ≠ p.to)) && wi p.boot 1 1073741824) && wi p.tb 0 1073741824
theorem hdE_is (p : Pkt) : hdE p = pkH p := by simp only [hdE, pkH, Bool.and_assoc]
theorem pe2 {p : Pkt} (k : p.kind = 2) : ((hdE p && wi p.ep 1 1073741824) && decide (p.te = 0)) = (hdE p && pkE p) := by rw [pkE, if_pos k, Bool.and_assoc]
theorem pe3 {p : Pkt} (k : p.kind = 3) : ((hdE p && wi p.ep 1 1073741824) && wi p.te 1 1073741824) = (hdE p && pkE p) := by rw [pkE, if_neg (by omega), if_pos k, Bool.and_assoc]
theorem pe0 {p : Pkt} (k : ¬ p.kind = 2 ∧ ¬ p.kind = 3) : ((hdE p && decide (p.ep = 0)) && decide (p.te = 0)) = (hdE p && pkE p) := by rw [pkE, if_neg k.1, if_neg k.2, Bool.and_assoc]
theorem ok_e (p : Pkt) : ((hdE p && pkE p) && pkL p) = pktOK p := by rw [hdE_is, pktOK, Bool.and_assoc]
theorem pl1 {p : Pkt} (k : p.kind = 1) : ((((hdE p && pkE p) && heardOK p.hs) && decide ((p.xs.length : Int) = 0)) && decide ((p.ls.length : Int) = 0)) = pktOK p := by
  rw [← ok_e, pkL, if_pos k]; simp only [none0, Bool.and_assoc]
theorem pl2 {p : Pkt} (k : p.kind = 2 ∨ p.kind = 5) : ((((hdE p && pkE p) && decide ((p.hs.length : Int) = 0)) && itemsOK p.xs) && decide ((p.ls.length : Int) = 0)) = pktOK p := by
  rw [← ok_e, pkL, if_neg (by omega), if_pos k]; simp only [none0, Bool.and_assoc]
theorem pl3 {p : Pkt} (k : p.kind = 3) : ((((hdE p && pkE p) && decide ((p.hs.length : Int) = 0)) && decide ((p.xs.length : Int) = 0)) && decide ((p.ls.length : Int) = 0)) = pktOK p := by
  rw [← ok_e, pkL, if_neg (by omega), if_neg (by omega), if_pos k]; simp only [none0, Bool.and_assoc]
theorem pl4 {p : Pkt} (k : p.kind = 4) : ((((hdE p && pkE p) && decide ((p.hs.length : Int) = 0)) && decide ((p.xs.length : Int) = 0)) && lsasM p.ls) = pktOK p := by
  rw [← ok_e, pkL, if_neg (by omega), if_neg (by omega), if_neg (by omega), if_pos k]; simp only [none0, Bool.and_assoc]
theorem chk0 {p : Pkt} (k : ¬ p.kind = 1 ∧ ¬ p.kind = 2 ∧ ¬ p.kind = 3 ∧ ¬ p.kind = 4 ∧ ¬ p.kind = 5) : pktOK p = false := by
  rw [pktOK, pkL, if_neg k.1, if_neg (by omega), if_neg k.2.2.1, if_neg k.2.2.2.1]; simp
theorem good_Check (p : Pkt) (hp1 : p.hs.length ≤ 9223372036854775807) (hp2 : p.xs.length ≤ 9223372036854775807) (hp3 : p.ls.length ≤ 9223372036854775807) (hp4 : ∀ x ∈ p.ls, x.ls.length ≤ 9223372036854775807) : Good Try.prog 29 [(pktA p, false)] [] [(i64 (pktEr p), false)] [] := by
 refine good_of_body2 156 Try.func29 rfl rfl rfl (by simp) ?_
 intro s m ha hr hv hG
 have f0 : s 0 = .v (.agg [i64 p.kind, i64 p.fr, i64 p.boot, i64 p.to, i64 p.tb, i64 p.ep, i64 p.te, .sl 2 p.hn (p.hs.map linkA), .sl 2 p.xn (p.xs.map linkA), .sl 3 p.ln (p.ls.map lsaA)]) := ha 0 _ rfl
 clear ha
 refine AW.sr (cfg := cfg) ?_
 apply aops_step (by decide) rfl
 ·intro K hK
  simp (disch := first | omega | decide) only [go_sem, f0, act_box_t ti28, List.map]
  rw [settleL_vish _ _ (by rfl)]
  simp (disch := first | omega | decide) only [go_sem, f0, cellsL, List.map, List.length_cons, List.length_nil, Nat.reduceAdd, if_true]
  exact hK _
 iterate 1 (apply aops_step (by decide) rfl; · (intro K hK; simp (disch := first | omega | decide) only [go_sem, f0]; exact hK _))
 refine aops_nil ?_
 refine AW.sr (cfg := cfg) ?_
 refine aops_fl (by decide) (by decide) fo28_1 ti3 (by simp only [go_sem, f0]; rfl) (by simp only [go_sem, f0]; rfl) (by rfl) ?_
 apply aops_step (by decide) rfl
 ·intro K hK
  simp (disch := first | omega | decide) only [go_sem, f0, act_call, List.map]
  apply mwp_call_s rfl rfl rfl
  ·intro Q hQ
   (simp (disch := first | omega | decide) only [go_sem, f0, peekL, reifyL_nil, reifyL_cons, reify_v]; (exact hQ))
  ·exact good_withinK _ _ _
  ·simp [-List.map_take, -List.map_drop, -List.map_append, -List.map_replicate, -List.reduceReplicate, noPtrL, noPtr, noPtrL_bsl, noPtrL_map, sub]
  ·rfl
  ·exact hK _
 iterate 1 (apply aops_step (by decide) rfl; · (intro K hK; simp (disch := first | omega | decide) only [go_sem, f0]; exact hK _))
 refine aops_flm (dg := 9) (by decide) (by decide) (by decide) fo28_3 ti3 rfl (by simp only [go_sem, f0]; rfl) (by simp only [go_sem, f0]; rfl) (by simp only [go_sem, f0]; rfl) (by rfl) ?_
 apply aops_merge' (by decide) (by exact want_of (d := 9) rfl (by simp (disch := first | omega | decide) only [go_sem, f0, opn_cond]; rfl))
 ·intro hc K hK
  have hc2 := hc
  simp only [beq_iff_eq, decide_eq_true_eq, decide_eq_false_iff_not, Bool.or_eq_true, Bool.and_eq_true, Bool.or_eq_false_iff, Bool.and_eq_false_iff] at hc2
  simp (disch := first | omega | decide) only [go_sem, f0, opn_cond, hc, if_true, act_call, List.map]
  apply mwp_call_s rfl rfl rfl
  ·intro Q hQ
   (simp (disch := first | omega | decide) only [go_sem, f0, opn_cond, hc, if_true, peekL, reifyL_nil, reifyL_cons, reify_v]; (exact hQ))
  ·exact good_withinK _ _ _
  ·simp [-List.map_take, -List.map_drop, -List.map_append, -List.map_replicate, -List.reduceReplicate, noPtrL, noPtr, noPtrL_bsl, noPtrL_map, sub]
  ·rfl
  ·exact hK _
 iterate 2 (apply aops_step (by decide) rfl; · (intro K hK; simp (disch := first | omega | decide) only [go_sem, f0]; exact hK _))
 refine aops_flm (dg := 14) (by decide) (by decide) (by decide) fo28_1 ti3 rfl (by simp only [go_sem, f0]; rfl) (by simp only [go_sem, f0]; rfl) (by simp only [go_sem, f0]; rfl) (by rfl) ?_
 refine aops_flm (dg := 14) (by decide) (by decide) (by decide) fo28_3 ti3 rfl (by simp (disch := first | omega | decide) only [go_sem, f0]; rfl) (by simp (disch := first | omega | decide) only [go_sem, f0]; rfl) (by simp (disch := first | omega | decide) only [go_sem, f0]; rfl) (by rfl) ?_
 apply aops_merge' (by decide) (by exact want_of (d := 14) rfl (by simp (disch := first | omega | decide) only [go_sem, f0, opn_cond]; rfl))
 ·intro hc K hK
  simp (disch := first | omega | decide) only [go_sem, f0, opn_cond, hc, if_true]
  exact hK _
 iterate 2 (apply aops_step (by decide) rfl; · (intro K hK; simp (disch := first | omega | decide) only [go_sem, f0]; exact hK _))
 refine aops_flm (dg := 21) (by decide) (by decide) (by decide) fo28_2 ti3 rfl (by simp only [go_sem, f0]; rfl) (by simp only [go_sem, f0]; rfl) (by simp only [go_sem, f0]; rfl) (by rfl) ?_
 apply aops_merge' (by decide) (by exact want_of (d := 21) rfl (by simp (disch := first | omega | decide) only [go_sem, f0, opn_cond]; rfl))
 ·intro hc K hK
  have hc2 := hc
  simp only [beq_iff_eq, decide_eq_true_eq, decide_eq_false_iff_not, Bool.or_eq_true, Bool.and_eq_true, Bool.or_eq_false_iff, Bool.and_eq_false_iff] at hc2
  simp (disch := first | omega | decide) only [go_sem, f0, opn_cond, hc, if_true, act_call, List.map]
  apply mwp_call_s rfl rfl rfl
  ·intro Q hQ
   (simp (disch := first | omega | decide) only [go_sem, f0, opn_cond, hc, if_true, peekL, reifyL_nil, reifyL_cons, reify_v]; (exact hQ))
  ·exact good_withinK _ _ _
  ·simp [-List.map_take, -List.map_drop, -List.map_append, -List.map_replicate, -List.reduceReplicate, noPtrL, noPtr, noPtrL_bsl, noPtrL_map, sub]
  ·rfl
  ·exact hK _
 iterate 2 (apply aops_step (by decide) rfl; · (intro K hK; simp (disch := first | omega | decide) only [go_sem, f0]; exact hK _))
 refine aops_flm (dg := 26) (by decide) (by decide) (by decide) fo28_4 ti3 rfl (by simp only [go_sem, f0]; rfl) (by simp only [go_sem, f0]; rfl) (by simp only [go_sem, f0]; rfl) (by rfl) ?_
 apply aops_merge' (by decide) (by exact want_of (d := 26) rfl (by simp (disch := first | omega | decide) only [go_sem, f0, opn_cond]; rfl))
 ·intro hc K hK
  have hc2 := hc
  simp only [beq_iff_eq, decide_eq_true_eq, decide_eq_false_iff_not, Bool.or_eq_true, Bool.and_eq_true, Bool.or_eq_false_iff, Bool.and_eq_false_iff] at hc2
  simp (disch := first | omega | decide) only [go_sem, f0, opn_cond, hc, if_true, act_call, List.map]
  apply mwp_call_s rfl rfl rfl
  ·intro Q hQ
   (simp (disch := first | omega | decide) only [go_sem, f0, opn_cond, hc, if_true, peekL, reifyL_nil, reifyL_cons, reify_v]; (exact hQ))
  ·exact good_withinK _ _ _
  ·simp [-List.map_take, -List.map_drop, -List.map_append, -List.map_replicate, -List.reduceReplicate, noPtrL, noPtr, noPtrL_bsl, noPtrL_map, sub]
  ·rfl
  ·exact hK _
 iterate 2 (apply aops_step (by decide) rfl; · (intro K hK; simp (disch := first | omega | decide) only [go_sem, f0]; exact hK _))
 refine aops_nil ?_
 refine AW.seq ?_
 refine AW.draw (cfg := cfg) (by kernel_rfl) (by kernel_rfl) (by kernel_rfl) ?_
 apply adraw_step rfl
 ·intro K hK
  simp (disch := first | omega | decide) only [go_sem, f0, act_fieldAddr_t fo28_5, List.map]
  rw [mwp_fieldAddr_b (by simp only [go_sem, f0]; rfl)]
  exact hK
 apply adraw_step rfl
 ·intro K hK
  simp (disch := first | omega | decide) only [go_sem, f0, act_load_t ti3, List.map]
  rw [mwp_load_b1 (by simp only [go_sem, f0]; rfl) (by rfl)]
  exact hK
 apply adraw_step rfl
 ·intro K hK
  simp (disch := first | omega | decide) only [go_sem, f0, act_call, List.map]
  apply mwp_call_s rfl rfl rfl
  ·intro Q hQ
   (simp (disch := first | omega | decide) only [go_sem, f0, peekL, reifyL_nil, reifyL_cons, reify_v]; (exact hQ))
  ·exact good_withinK _ _ _
  ·simp [-List.map_take, -List.map_drop, -List.map_append, -List.map_replicate, -List.reduceReplicate, noPtrL, noPtr, noPtrL_bsl, noPtrL_map, sub]
  ·rfl
  ·exact hK
 apply adraw_step rfl
 ·intro K hK
  simp (disch := first | omega | decide) only [go_sem, f0, act_fieldAddr_t fo28_6, List.map]
  rw [mwp_fieldAddr_b (by simp only [go_sem, f0]; rfl)]
  exact hK
 apply adraw_step rfl
 ·intro K hK
  simp (disch := first | omega | decide) only [go_sem, f0, act_load_t ti3, List.map]
  rw [mwp_load_b1 (by simp only [go_sem, f0]; rfl) (by rfl)]
  exact hK
 apply adraw_step rfl
 ·intro K hK
  simp (disch := first | omega | decide) only [go_sem, f0, act_call, List.map]
  apply mwp_call_s rfl rfl rfl
  ·intro Q hQ
   (simp (disch := first | omega | decide) only [go_sem, f0, peekL, reifyL_nil, reifyL_cons, reify_v]; (exact hQ))
  ·exact good_withinK _ _ _
  ·simp [-List.map_take, -List.map_drop, -List.map_append, -List.map_replicate, -List.reduceReplicate, noPtrL, noPtr, noPtrL_bsl, noPtrL_map, sub]
  ·rfl
  ·exact hK
 iterate 2 (apply adraw_step rfl; · (intro K hK; simp (disch := first | omega | decide) only [go_sem, f0]; exact hK))
 refine adraw_nil (by kernel_rfl) ?_
 refine AW.join (fun σ => ∃ s m, σ = ⟨156, s, m⟩ ∧ s 1 = .lptr (.tmp 1 0) (m.objs (.tmp 1 0)).1 0 ∧ (m.objs (.tmp 1 0)).2 = .box [.v (i64 p.kind), .v (i64 p.fr), .v (i64 p.boot), .v (i64 p.to), .v (i64 p.tb), .v (i64 p.ep), .v (i64 p.te), .v (.sl 2 p.hn (p.hs.map linkA)), .v (.sl 2 p.xn (p.xs.map linkA)), .v (.sl 3 p.ln (p.ls.map lsaA))] ∧ s 3 = .v (.b (hdE p && pkE p)) ∧ (∀ i, (m.objs (.res i)).2 = .dead) ∧ m.G = []) ?_ ?_
 ·skip
  refine AW.sr (cfg := cfg) ?_
  refine aops_fl (by decide) (by decide) fo28_0 ti3 (by simp only [go_sem, f0]; rfl) (by simp only [go_sem, f0]; rfl) (by rfl) ?_
  refine aops_nil ?_
  refine AW.block ?_
  refine AW.sr (cfg := cfg) ?_
  iterate 2 (apply aops_step (by decide) rfl; · (intro K hK; simp (disch := first | omega | decide) only [go_sem, f0]; exact hK _))
  refine aops_nil ?_
  apply AW.cond
  ·(simp only [go_sem, f0]; rfl)
  case ht =>
   intro hb
   try simp only [bo1, bo2, bo3, bo4, bo5, bo6] at hb
   have hbt50 := hb
   refine AW.region (cfg := cfg) ?_
   iterate 2 (apply aops_step (by decide) rfl; · (intro K hK; simp (disch := first | omega | decide) only [go_sem, f0]; exact hK _))
   apply aops_merge' (by decide) (by exact want_of (d := 53) rfl (by simp only [go_sem, f0, opn_cond]; rfl))
   ·intro hc K hK
    simp (disch := first | omega | decide) only [go_sem, f0, opn_cond, hc, if_true]
    exact hK _
   iterate 2 (apply aops_step (by decide) rfl; · (intro K hK; simp (disch := first | omega | decide) only [go_sem, f0]; exact hK _))
   refine aops_flm (dg := 56) (by decide) (by decide) (by decide) fo28_6 ti3 rfl (by simp only [go_sem, f0]; rfl) (by simp only [go_sem, f0]; rfl) (by simp only [go_sem, f0]; rfl) (by rfl) ?_
   apply aops_merge' (by decide) (by exact want_of (d := 56) rfl (by simp (disch := first | omega | decide) only [go_sem, f0, opn_cond]; rfl))
   ·intro hc K hK
    simp (disch := first | omega | decide) only [go_sem, f0, opn_cond, hc, if_true]
    exact hK _
   iterate 2 (apply aops_step (by decide) rfl; · (intro K hK; simp (disch := first | omega | decide) only [go_sem, f0]; exact hK _))
   refine aops_nil ?_
   refine ⟨_, _, rfl, ?_, ?_, ?_, (by intro i; simp [Mem.set, hr]), (by exact hG)⟩ <;> try simp (disch := first | omega | decide) only [go_sem, f0]
   all_goals exact congrArg (fun b => LV.v (AV.b b)) (pe2 hbt50)
  case hf =>
   intro hb
   try simp only [bo1, bo2, bo3, bo4, bo5, bo6] at hb
   have hbt50 := hb
   refine AW.sr (cfg := cfg) ?_
   iterate 2 (apply aops_step (by decide) rfl; · (intro K hK; simp (disch := first | omega | decide) only [go_sem, f0]; exact hK _))
   refine aops_nil ?_
   apply AW.cond
   ·(simp only [go_sem, f0]; rfl)
   case ht =>
    intro hb
    try simp only [bo1, bo2, bo3, bo4, bo5, bo6] at hb
    have hbt61 := hb
    refine AW.region (cfg := cfg) ?_
    iterate 2 (apply aops_step (by decide) rfl; · (intro K hK; simp (disch := first | omega | decide) only [go_sem, f0]; exact hK _))
    apply aops_merge' (by decide) (by exact want_of (d := 64) rfl (by simp only [go_sem, f0, opn_cond]; rfl))
    ·intro hc K hK
     simp (disch := first | omega | decide) only [go_sem, f0, opn_cond, hc, if_true]
     exact hK _
    iterate 2 (apply aops_step (by decide) rfl; · (intro K hK; simp (disch := first | omega | decide) only [go_sem, f0]; exact hK _))
    apply aops_merge' (by decide) (by exact want_of (d := 67) rfl (by simp only [go_sem, f0, opn_cond]; rfl))
    ·intro hc K hK
     simp (disch := first | omega | decide) only [go_sem, f0, opn_cond, hc, if_true]
     exact hK _
    iterate 2 (apply aops_step (by decide) rfl; · (intro K hK; simp (disch := first | omega | decide) only [go_sem, f0]; exact hK _))
    refine aops_nil ?_
    refine ⟨_, _, rfl, ?_, ?_, ?_, (by intro i; simp [Mem.set, hr]), (by exact hG)⟩ <;> try simp (disch := first | omega | decide) only [go_sem, f0]
    all_goals exact congrArg (fun b => LV.v (AV.b b)) (pe3 hbt61)
   case hf =>
    intro hb
    try simp only [bo1, bo2, bo3, bo4, bo5, bo6] at hb
    have hbt61 := hb
    refine AW.region (cfg := cfg) ?_
    iterate 2 (apply aops_step (by decide) rfl; · (intro K hK; simp (disch := first | omega | decide) only [go_sem, f0]; exact hK _))
    refine aops_flm (dg := 40) (by decide) (by decide) (by decide) fo28_5 ti3 rfl (by simp only [go_sem, f0]; rfl) (by simp only [go_sem, f0]; rfl) (by simp only [go_sem, f0]; rfl) (by rfl) ?_
    apply aops_merge' (by decide) (by exact want_of (d := 40) rfl (by simp (disch := first | omega | decide) only [go_sem, f0, opn_cond]; rfl))
    ·intro hc K hK
     simp (disch := first | omega | decide) only [go_sem, f0, opn_cond, hc, if_true]
     exact hK _
    iterate 2 (apply aops_step (by decide) rfl; · (intro K hK; simp (disch := first | omega | decide) only [go_sem, f0]; exact hK _))
    refine aops_flm (dg := 45) (by decide) (by decide) (by decide) fo28_6 ti3 rfl (by simp only [go_sem, f0]; rfl) (by simp only [go_sem, f0]; rfl) (by simp only [go_sem, f0]; rfl) (by rfl) ?_
    apply aops_merge' (by decide) (by exact want_of (d := 45) rfl (by simp (disch := first | omega | decide) only [go_sem, f0, opn_cond]; rfl))
    ·intro hc K hK
     simp (disch := first | omega | decide) only [go_sem, f0, opn_cond, hc, if_true]
     exact hK _
    iterate 2 (apply aops_step (by decide) rfl; · (intro K hK; simp (disch := first | omega | decide) only [go_sem, f0]; exact hK _))
    refine aops_nil ?_
    refine ⟨_, _, rfl, ?_, ?_, ?_, (by intro i; simp [Mem.set, hr]), (by exact hG)⟩ <;> try simp (disch := first | omega | decide) only [go_sem, f0]
    all_goals exact congrArg (fun b => LV.v (AV.b b)) (pe0 ⟨hbt50, hbt61⟩)
 ·clear f0 hr hG
  rintro σ ⟨s, m, rfl, f1, o1, f3, hr, hG⟩
  obtain ⟨g1, o1⟩ : ∃ g, m.objs (.tmp 1 0) = (g, .box [.v (i64 p.kind), .v (i64 p.fr), .v (i64 p.boot), .v (i64 p.to), .v (i64 p.tb), .v (i64 p.ep), .v (i64 p.te), .v (.sl 2 p.hn (p.hs.map linkA)), .v (.sl 2 p.xn (p.xs.map linkA)), .v (.sl 3 p.ln (p.ls.map lsaA))]) := ⟨_, Prod.ext rfl o1⟩
  rw [o1] at f1
  refine AW.join (fun σ => ∃ s m, σ = ⟨156, s, m⟩ ∧ s 1 = .lptr (.tmp 1 0) (m.objs (.tmp 1 0)).1 0 ∧ (m.objs (.tmp 1 0)).2 = .box [.v (i64 p.kind), .v (i64 p.fr), .v (i64 p.boot), .v (i64 p.to), .v (i64 p.tb), .v (i64 p.ep), .v (i64 p.te), .v (.sl 2 p.hn (p.hs.map linkA)), .v (.sl 2 p.xn (p.xs.map linkA)), .v (.sl 3 p.ln (p.ls.map lsaA))] ∧ s 3 = .v (.b (pktOK p)) ∧ (∀ i, (m.objs (.res i)).2 = .dead) ∧ m.G = []) ?_ ?_
  ·skip
   refine AW.sr (cfg := cfg) ?_
   refine aops_fl (by decide) (by decide) fo28_0 ti3 (by simp only [go_sem, f1, f3, o1]; rfl) (by simp only [go_sem, f1, f3, o1]; rfl) (by rfl) ?_
   refine aops_nil ?_
   refine AW.block ?_
   refine AW.sr (cfg := cfg) ?_
   iterate 2 (apply aops_step (by decide) rfl; · (intro K hK; simp (disch := first | omega | decide) only [go_sem, f1, f3, o1]; exact hK _))
   refine aops_nil ?_
   apply AW.cond
   ·(simp only [go_sem, f1, f3, o1]; rfl)
   case ht =>
    intro hb
    try simp only [bo1, bo2, bo3, bo4, bo5, bo6] at hb
    have hbt72 := hb
    refine AW.region (cfg := cfg) ?_
    iterate 2 (apply aops_step (by decide) rfl; · (intro K hK; simp (disch := first | omega | decide) only [go_sem, f1, f3, o1]; exact hK _))
    refine aops_flm (dg := 75) (by decide) (by decide) (by decide) fo28_7 ti24 rfl (by simp (disch := first | omega | decide) only [go_sem, f1, f3, o1]; rfl) (by simp (disch := first | omega | decide) only [go_sem, f1, f3, o1]; rfl) (by simp (disch := first | omega | decide) only [go_sem, f1, f3, o1]; rfl) (by rfl) ?_
    apply aops_merge' (by decide) (by exact want_of (d := 75) rfl (by simp (disch := first | omega | decide) only [go_sem, f1, f3, o1, opn_cond]; rfl))
    ·intro hc K hK
     have hc2 := hc
     simp only [beq_iff_eq, decide_eq_true_eq, decide_eq_false_iff_not, Bool.or_eq_true, Bool.and_eq_true, Bool.or_eq_false_iff, Bool.and_eq_false_iff] at hc2
     simp (disch := first | omega | decide) only [go_sem, f1, f3, o1, opn_cond, hc, if_true, act_call, List.map]
     apply mwp_call_s rfl rfl rfl
     ·intro Q hQ
      (simp (disch := first | omega | decide) only [go_sem, f1, f3, o1, opn_cond, hc, if_true, peekL, reifyL_nil, reifyL_cons, reify_v]; (exact hQ))
     ·exact good_heard _ _ (by omega)
     ·simp [-List.map_take, -List.map_drop, -List.map_append, -List.map_replicate, -List.reduceReplicate, noPtrL, noPtr, noPtrL_bsl, noPtrL_map, sub]
     ·rfl
     ·exact hK _
    iterate 2 (apply aops_step (by decide) rfl; · (intro K hK; simp (disch := first | omega | decide) only [go_sem, f1, f3, o1]; exact hK _))
    refine aops_flm (dg := 80) (by decide) (by decide) (by decide) fo28_8 ti25 rfl (by simp (disch := first | omega | decide) only [go_sem, f1, f3, o1]; rfl) (by simp (disch := first | omega | decide) only [go_sem, f1, f3, o1]; rfl) (by simp (disch := first | omega | decide) only [go_sem, f1, f3, o1]; rfl) (by rfl) ?_
    apply aops_merge' (by decide) (by exact want_of (d := 80) rfl (by simp (disch := first | omega | decide) only [go_sem, f1, f3, o1, opn_cond]; rfl))
    ·intro hc K hK
     simp (disch := first | omega | decide) only [go_sem, f1, f3, o1, opn_cond, hc, if_true, List.map, List.length_map, aops_len u25]
     exact hK _
    apply aops_merge' (by decide) (by exact want_of (d := 80) rfl (by simp (disch := first | omega | decide) only [go_sem, f1, f3, o1, opn_cond]; rfl))
    ·intro hc K hK
     simp (disch := first | omega | decide) only [go_sem, f1, f3, o1, opn_cond, hc, if_true]
     exact hK _
    iterate 2 (apply aops_step (by decide) rfl; · (intro K hK; simp (disch := first | omega | decide) only [go_sem, f1, f3, o1]; exact hK _))
    refine aops_flm (dg := 86) (by decide) (by decide) (by decide) fo28_9 ti26 rfl (by simp (disch := first | omega | decide) only [go_sem, f1, f3, o1]; rfl) (by simp (disch := first | omega | decide) only [go_sem, f1, f3, o1]; rfl) (by simp (disch := first | omega | decide) only [go_sem, f1, f3, o1]; rfl) (by rfl) ?_
    apply aops_merge' (by decide) (by exact want_of (d := 86) rfl (by simp (disch := first | omega | decide) only [go_sem, f1, f3, o1, opn_cond]; rfl))
    ·intro hc K hK
     simp (disch := first | omega | decide) only [go_sem, f1, f3, o1, opn_cond, hc, if_true, List.map, List.length_map, aops_len u26]
     exact hK _
    apply aops_merge' (by decide) (by exact want_of (d := 86) rfl (by simp (disch := first | omega | decide) only [go_sem, f1, f3, o1, opn_cond]; rfl))
    ·intro hc K hK
     simp (disch := first | omega | decide) only [go_sem, f1, f3, o1, opn_cond, hc, if_true]
     exact hK _
    iterate 2 (apply aops_step (by decide) rfl; · (intro K hK; simp (disch := first | omega | decide) only [go_sem, f1, f3, o1]; exact hK _))
    refine aops_nil ?_
    refine ⟨_, _, rfl, ?_, ?_, ?_, (by intro i; simp [Mem.set, hr]), (by exact hG)⟩ <;> try simp (disch := first | omega | decide) only [go_sem, f1, f3, o1]
    all_goals (rw [pl1 hbt72]; done)
   case hf =>
    intro hb
    try simp only [bo1, bo2, bo3, bo4, bo5, bo6] at hb
    have hbt72 := hb
    refine AW.seq ?_
    refine AW.sr (cfg := cfg) ?_
    iterate 2 (apply aops_step (by decide) rfl; · (intro K hK; simp (disch := first | omega | decide) only [go_sem, f1, f3, o1]; exact hK _))
    refine aops_nil ?_
    apply AW.cond
    ·(simp only [go_sem, f1, f3, o1]; rfl)
    case ht =>
     intro hb
     try simp only [bo1, bo2, bo3, bo4, bo5, bo6] at hb
     have hbt92 := hb
     refine AW.skip ?_
     apply AW.cond
     ·(simp only [go_sem, f1, f3, o1]; rfl)
     case hf => intro hb; (simp at hb; omega)
     case ht =>
     intro hb
     have hbt92 := hb
     refine AW.region (cfg := cfg) ?_
     iterate 2 (apply aops_step (by decide) rfl; · (intro K hK; simp (disch := first | omega | decide) only [go_sem, f1, f3, o1]; exact hK _))
     refine aops_flm (dg := 96) (by decide) (by decide) (by decide) fo28_7 ti24 rfl (by simp (disch := first | omega | decide) only [go_sem, f1, f3, o1]; rfl) (by simp (disch := first | omega | decide) only [go_sem, f1, f3, o1]; rfl) (by simp (disch := first | omega | decide) only [go_sem, f1, f3, o1]; rfl) (by rfl) ?_
     apply aops_merge' (by decide) (by exact want_of (d := 96) rfl (by simp (disch := first | omega | decide) only [go_sem, f1, f3, o1, opn_cond]; rfl))
     ·intro hc K hK
      simp (disch := first | omega | decide) only [go_sem, f1, f3, o1, opn_cond, hc, if_true, List.map, List.length_map, aops_len u24]
      exact hK _
     apply aops_merge' (by decide) (by exact want_of (d := 96) rfl (by simp (disch := first | omega | decide) only [go_sem, f1, f3, o1, opn_cond]; rfl))
     ·intro hc K hK
      simp (disch := first | omega | decide) only [go_sem, f1, f3, o1, opn_cond, hc, if_true]
      exact hK _
     iterate 2 (apply aops_step (by decide) rfl; · (intro K hK; simp (disch := first | omega | decide) only [go_sem, f1, f3, o1]; exact hK _))
     refine aops_flm (dg := 102) (by decide) (by decide) (by decide) fo28_8 ti25 rfl (by simp (disch := first | omega | decide) only [go_sem, f1, f3, o1]; rfl) (by simp (disch := first | omega | decide) only [go_sem, f1, f3, o1]; rfl) (by simp (disch := first | omega | decide) only [go_sem, f1, f3, o1]; rfl) (by rfl) ?_
     apply aops_merge' (by decide) (by exact want_of (d := 102) rfl (by simp (disch := first | omega | decide) only [go_sem, f1, f3, o1, opn_cond]; rfl))
     ·intro hc K hK
      have hc2 := hc
      simp only [beq_iff_eq, decide_eq_true_eq, decide_eq_false_iff_not, Bool.or_eq_true, Bool.and_eq_true, Bool.or_eq_false_iff, Bool.and_eq_false_iff] at hc2
      simp (disch := first | omega | decide) only [go_sem, f1, f3, o1, opn_cond, hc, if_true, act_call, List.map]
      apply mwp_call_s rfl rfl rfl
      ·intro Q hQ
       (simp (disch := first | omega | decide) only [go_sem, f1, f3, o1, opn_cond, hc, if_true, peekL, reifyL_nil, reifyL_cons, reify_v]; (exact hQ))
      ·exact good_items _ _ (by omega)
      ·simp [-List.map_take, -List.map_drop, -List.map_append, -List.map_replicate, -List.reduceReplicate, noPtrL, noPtr, noPtrL_bsl, noPtrL_map, sub]
      ·rfl
      ·exact hK _
     iterate 2 (apply aops_step (by decide) rfl; · (intro K hK; simp (disch := first | omega | decide) only [go_sem, f1, f3, o1]; exact hK _))
     refine aops_flm (dg := 107) (by decide) (by decide) (by decide) fo28_9 ti26 rfl (by simp (disch := first | omega | decide) only [go_sem, f1, f3, o1]; rfl) (by simp (disch := first | omega | decide) only [go_sem, f1, f3, o1]; rfl) (by simp (disch := first | omega | decide) only [go_sem, f1, f3, o1]; rfl) (by rfl) ?_
     apply aops_merge' (by decide) (by exact want_of (d := 107) rfl (by simp (disch := first | omega | decide) only [go_sem, f1, f3, o1, opn_cond]; rfl))
     ·intro hc K hK
      simp (disch := first | omega | decide) only [go_sem, f1, f3, o1, opn_cond, hc, if_true, List.map, List.length_map, aops_len u26]
      exact hK _
     apply aops_merge' (by decide) (by exact want_of (d := 107) rfl (by simp (disch := first | omega | decide) only [go_sem, f1, f3, o1, opn_cond]; rfl))
     ·intro hc K hK
      simp (disch := first | omega | decide) only [go_sem, f1, f3, o1, opn_cond, hc, if_true]
      exact hK _
     iterate 2 (apply aops_step (by decide) rfl; · (intro K hK; simp (disch := first | omega | decide) only [go_sem, f1, f3, o1]; exact hK _))
     refine aops_nil ?_
     refine ⟨_, _, rfl, ?_, ?_, ?_, (by intro i; simp [Mem.set, hr]), (by exact hG)⟩ <;> try simp (disch := first | omega | decide) only [go_sem, f1, f3, o1]
     all_goals (rw [pl2 (.inl (of_decide_eq_true hbt92))]; done)
    case hf =>
     intro hb
     try simp only [bo1, bo2, bo3, bo4, bo5, bo6] at hb
     have hbt92 := hb
     refine AW.region (cfg := cfg) ?_
     iterate 2 (apply aops_step (by decide) rfl; · (intro K hK; simp (disch := first | omega | decide) only [go_sem, f1, f3, o1]; exact hK _))
     refine aops_nil ?_
     apply AW.cond
     ·(simp only [go_sem, f1, f3, o1]; rfl)
     case ht =>
      intro hb
      try simp only [bo1, bo2, bo3, bo4, bo5, bo6] at hb
      have hbt92 := hb
      refine AW.region (cfg := cfg) ?_
      iterate 2 (apply aops_step (by decide) rfl; · (intro K hK; simp (disch := first | omega | decide) only [go_sem, f1, f3, o1]; exact hK _))
      refine aops_flm (dg := 96) (by decide) (by decide) (by decide) fo28_7 ti24 rfl (by simp (disch := first | omega | decide) only [go_sem, f1, f3, o1]; rfl) (by simp (disch := first | omega | decide) only [go_sem, f1, f3, o1]; rfl) (by simp (disch := first | omega | decide) only [go_sem, f1, f3, o1]; rfl) (by rfl) ?_
      apply aops_merge' (by decide) (by exact want_of (d := 96) rfl (by simp (disch := first | omega | decide) only [go_sem, f1, f3, o1, opn_cond]; rfl))
      ·intro hc K hK
       simp (disch := first | omega | decide) only [go_sem, f1, f3, o1, opn_cond, hc, if_true, List.map, List.length_map, aops_len u24]
       exact hK _
      apply aops_merge' (by decide) (by exact want_of (d := 96) rfl (by simp (disch := first | omega | decide) only [go_sem, f1, f3, o1, opn_cond]; rfl))
      ·intro hc K hK
       simp (disch := first | omega | decide) only [go_sem, f1, f3, o1, opn_cond, hc, if_true]
       exact hK _
      iterate 2 (apply aops_step (by decide) rfl; · (intro K hK; simp (disch := first | omega | decide) only [go_sem, f1, f3, o1]; exact hK _))
      refine aops_flm (dg := 102) (by decide) (by decide) (by decide) fo28_8 ti25 rfl (by simp (disch := first | omega | decide) only [go_sem, f1, f3, o1]; rfl) (by simp (disch := first | omega | decide) only [go_sem, f1, f3, o1]; rfl) (by simp (disch := first | omega | decide) only [go_sem, f1, f3, o1]; rfl) (by rfl) ?_
      apply aops_merge' (by decide) (by exact want_of (d := 102) rfl (by simp (disch := first | omega | decide) only [go_sem, f1, f3, o1, opn_cond]; rfl))
      ·intro hc K hK
       have hc2 := hc
       simp only [beq_iff_eq, decide_eq_true_eq, decide_eq_false_iff_not, Bool.or_eq_true, Bool.and_eq_true, Bool.or_eq_false_iff, Bool.and_eq_false_iff] at hc2
       simp (disch := first | omega | decide) only [go_sem, f1, f3, o1, opn_cond, hc, if_true, act_call, List.map]
       apply mwp_call_s rfl rfl rfl
       ·intro Q hQ
        (simp (disch := first | omega | decide) only [go_sem, f1, f3, o1, opn_cond, hc, if_true, peekL, reifyL_nil, reifyL_cons, reify_v]; (exact hQ))
       ·exact good_items _ _ (by omega)
       ·simp [-List.map_take, -List.map_drop, -List.map_append, -List.map_replicate, -List.reduceReplicate, noPtrL, noPtr, noPtrL_bsl, noPtrL_map, sub]
       ·rfl
       ·exact hK _
      iterate 2 (apply aops_step (by decide) rfl; · (intro K hK; simp (disch := first | omega | decide) only [go_sem, f1, f3, o1]; exact hK _))
      refine aops_flm (dg := 107) (by decide) (by decide) (by decide) fo28_9 ti26 rfl (by simp (disch := first | omega | decide) only [go_sem, f1, f3, o1]; rfl) (by simp (disch := first | omega | decide) only [go_sem, f1, f3, o1]; rfl) (by simp (disch := first | omega | decide) only [go_sem, f1, f3, o1]; rfl) (by rfl) ?_
      apply aops_merge' (by decide) (by exact want_of (d := 107) rfl (by simp (disch := first | omega | decide) only [go_sem, f1, f3, o1, opn_cond]; rfl))
      ·intro hc K hK
       simp (disch := first | omega | decide) only [go_sem, f1, f3, o1, opn_cond, hc, if_true, List.map, List.length_map, aops_len u26]
       exact hK _
      apply aops_merge' (by decide) (by exact want_of (d := 107) rfl (by simp (disch := first | omega | decide) only [go_sem, f1, f3, o1, opn_cond]; rfl))
      ·intro hc K hK
       simp (disch := first | omega | decide) only [go_sem, f1, f3, o1, opn_cond, hc, if_true]
       exact hK _
      iterate 2 (apply aops_step (by decide) rfl; · (intro K hK; simp (disch := first | omega | decide) only [go_sem, f1, f3, o1]; exact hK _))
      refine aops_nil ?_
      refine ⟨_, _, rfl, ?_, ?_, ?_, (by intro i; simp [Mem.set, hr]), (by exact hG)⟩ <;> try simp (disch := first | omega | decide) only [go_sem, f1, f3, o1]
      all_goals (rw [pl2 (.inr hbt92)]; done)
     case hf =>
      intro hb
      try simp only [bo1, bo2, bo3, bo4, bo5, bo6] at hb
      have hbt92 := hb
      refine AW.sr (cfg := cfg) ?_
      iterate 2 (apply aops_step (by decide) rfl; · (intro K hK; simp (disch := first | omega | decide) only [go_sem, f1, f3, o1]; exact hK _))
      refine aops_nil ?_
      apply AW.cond
      ·(simp only [go_sem, f1, f3, o1]; rfl)
      case ht =>
       intro hb
       try simp only [bo1, bo2, bo3, bo4, bo5, bo6] at hb
       have hbt113 := hb
       refine AW.region (cfg := cfg) ?_
       iterate 2 (apply aops_step (by decide) rfl; · (intro K hK; simp (disch := first | omega | decide) only [go_sem, f1, f3, o1]; exact hK _))
       refine aops_flm (dg := 116) (by decide) (by decide) (by decide) fo28_7 ti24 rfl (by simp (disch := first | omega | decide) only [go_sem, f1, f3, o1]; rfl) (by simp (disch := first | omega | decide) only [go_sem, f1, f3, o1]; rfl) (by simp (disch := first | omega | decide) only [go_sem, f1, f3, o1]; rfl) (by rfl) ?_
       apply aops_merge' (by decide) (by exact want_of (d := 116) rfl (by simp (disch := first | omega | decide) only [go_sem, f1, f3, o1, opn_cond]; rfl))
       ·intro hc K hK
        simp (disch := first | omega | decide) only [go_sem, f1, f3, o1, opn_cond, hc, if_true, List.map, List.length_map, aops_len u24]
        exact hK _
       apply aops_merge' (by decide) (by exact want_of (d := 116) rfl (by simp (disch := first | omega | decide) only [go_sem, f1, f3, o1, opn_cond]; rfl))
       ·intro hc K hK
        simp (disch := first | omega | decide) only [go_sem, f1, f3, o1, opn_cond, hc, if_true]
        exact hK _
       iterate 2 (apply aops_step (by decide) rfl; · (intro K hK; simp (disch := first | omega | decide) only [go_sem, f1, f3, o1]; exact hK _))
       refine aops_flm (dg := 122) (by decide) (by decide) (by decide) fo28_8 ti25 rfl (by simp (disch := first | omega | decide) only [go_sem, f1, f3, o1]; rfl) (by simp (disch := first | omega | decide) only [go_sem, f1, f3, o1]; rfl) (by simp (disch := first | omega | decide) only [go_sem, f1, f3, o1]; rfl) (by rfl) ?_
       apply aops_merge' (by decide) (by exact want_of (d := 122) rfl (by simp (disch := first | omega | decide) only [go_sem, f1, f3, o1, opn_cond]; rfl))
       ·intro hc K hK
        simp (disch := first | omega | decide) only [go_sem, f1, f3, o1, opn_cond, hc, if_true, List.map, List.length_map, aops_len u25]
        exact hK _
       apply aops_merge' (by decide) (by exact want_of (d := 122) rfl (by simp (disch := first | omega | decide) only [go_sem, f1, f3, o1, opn_cond]; rfl))
       ·intro hc K hK
        simp (disch := first | omega | decide) only [go_sem, f1, f3, o1, opn_cond, hc, if_true]
        exact hK _
       iterate 2 (apply aops_step (by decide) rfl; · (intro K hK; simp (disch := first | omega | decide) only [go_sem, f1, f3, o1]; exact hK _))
       refine aops_flm (dg := 128) (by decide) (by decide) (by decide) fo28_9 ti26 rfl (by simp (disch := first | omega | decide) only [go_sem, f1, f3, o1]; rfl) (by simp (disch := first | omega | decide) only [go_sem, f1, f3, o1]; rfl) (by simp (disch := first | omega | decide) only [go_sem, f1, f3, o1]; rfl) (by rfl) ?_
       apply aops_merge' (by decide) (by exact want_of (d := 128) rfl (by simp (disch := first | omega | decide) only [go_sem, f1, f3, o1, opn_cond]; rfl))
       ·intro hc K hK
        simp (disch := first | omega | decide) only [go_sem, f1, f3, o1, opn_cond, hc, if_true, List.map, List.length_map, aops_len u26]
        exact hK _
       apply aops_merge' (by decide) (by exact want_of (d := 128) rfl (by simp (disch := first | omega | decide) only [go_sem, f1, f3, o1, opn_cond]; rfl))
       ·intro hc K hK
        simp (disch := first | omega | decide) only [go_sem, f1, f3, o1, opn_cond, hc, if_true]
        exact hK _
       iterate 2 (apply aops_step (by decide) rfl; · (intro K hK; simp (disch := first | omega | decide) only [go_sem, f1, f3, o1]; exact hK _))
       refine aops_nil ?_
       refine ⟨_, _, rfl, ?_, ?_, ?_, (by intro i; simp [Mem.set, hr]), (by exact hG)⟩ <;> try simp (disch := first | omega | decide) only [go_sem, f1, f3, o1]
       all_goals (rw [pl3 hbt113]; done)
      case hf =>
       intro hb
       try simp only [bo1, bo2, bo3, bo4, bo5, bo6] at hb
       have hbt113 := hb
       refine AW.sr (cfg := cfg) ?_
       iterate 2 (apply aops_step (by decide) rfl; · (intro K hK; simp (disch := first | omega | decide) only [go_sem, f1, f3, o1]; exact hK _))
       refine aops_nil ?_
       apply AW.cond
       ·(simp only [go_sem, f1, f3, o1]; rfl)
       case ht =>
        intro hb
        try simp only [bo1, bo2, bo3, bo4, bo5, bo6] at hb
        have hbt134 := hb
        refine AW.region (cfg := cfg) ?_
        iterate 2 (apply aops_step (by decide) rfl; · (intro K hK; simp (disch := first | omega | decide) only [go_sem, f1, f3, o1]; exact hK _))
        refine aops_flm (dg := 137) (by decide) (by decide) (by decide) fo28_7 ti24 rfl (by simp (disch := first | omega | decide) only [go_sem, f1, f3, o1]; rfl) (by simp (disch := first | omega | decide) only [go_sem, f1, f3, o1]; rfl) (by simp (disch := first | omega | decide) only [go_sem, f1, f3, o1]; rfl) (by rfl) ?_
        apply aops_merge' (by decide) (by exact want_of (d := 137) rfl (by simp (disch := first | omega | decide) only [go_sem, f1, f3, o1, opn_cond]; rfl))
        ·intro hc K hK
         simp (disch := first | omega | decide) only [go_sem, f1, f3, o1, opn_cond, hc, if_true, List.map, List.length_map, aops_len u24]
         exact hK _
        apply aops_merge' (by decide) (by exact want_of (d := 137) rfl (by simp (disch := first | omega | decide) only [go_sem, f1, f3, o1, opn_cond]; rfl))
        ·intro hc K hK
         simp (disch := first | omega | decide) only [go_sem, f1, f3, o1, opn_cond, hc, if_true]
         exact hK _
        iterate 2 (apply aops_step (by decide) rfl; · (intro K hK; simp (disch := first | omega | decide) only [go_sem, f1, f3, o1]; exact hK _))
        refine aops_flm (dg := 143) (by decide) (by decide) (by decide) fo28_8 ti25 rfl (by simp (disch := first | omega | decide) only [go_sem, f1, f3, o1]; rfl) (by simp (disch := first | omega | decide) only [go_sem, f1, f3, o1]; rfl) (by simp (disch := first | omega | decide) only [go_sem, f1, f3, o1]; rfl) (by rfl) ?_
        apply aops_merge' (by decide) (by exact want_of (d := 143) rfl (by simp (disch := first | omega | decide) only [go_sem, f1, f3, o1, opn_cond]; rfl))
        ·intro hc K hK
         simp (disch := first | omega | decide) only [go_sem, f1, f3, o1, opn_cond, hc, if_true, List.map, List.length_map, aops_len u25]
         exact hK _
        apply aops_merge' (by decide) (by exact want_of (d := 143) rfl (by simp (disch := first | omega | decide) only [go_sem, f1, f3, o1, opn_cond]; rfl))
        ·intro hc K hK
         simp (disch := first | omega | decide) only [go_sem, f1, f3, o1, opn_cond, hc, if_true]
         exact hK _
        iterate 2 (apply aops_step (by decide) rfl; · (intro K hK; simp (disch := first | omega | decide) only [go_sem, f1, f3, o1]; exact hK _))
        refine aops_flm (dg := 149) (by decide) (by decide) (by decide) fo28_9 ti26 rfl (by simp (disch := first | omega | decide) only [go_sem, f1, f3, o1]; rfl) (by simp (disch := first | omega | decide) only [go_sem, f1, f3, o1]; rfl) (by simp (disch := first | omega | decide) only [go_sem, f1, f3, o1]; rfl) (by rfl) ?_
        apply aops_merge' (by decide) (by exact want_of (d := 149) rfl (by simp (disch := first | omega | decide) only [go_sem, f1, f3, o1, opn_cond]; rfl))
        ·intro hc K hK
         have hc2 := hc
         simp only [beq_iff_eq, decide_eq_true_eq, decide_eq_false_iff_not, Bool.or_eq_true, Bool.and_eq_true, Bool.or_eq_false_iff, Bool.and_eq_false_iff] at hc2
         simp (disch := first | omega | decide) only [go_sem, f1, f3, o1, opn_cond, hc, if_true, act_call, List.map]
         apply mwp_call_s rfl rfl rfl
         ·intro Q hQ
          (simp (disch := first | omega | decide) only [go_sem, f1, f3, o1, opn_cond, hc, if_true, peekL, reifyL_nil, reifyL_cons, reify_v]; (exact hQ))
         ·exact good_lsas _ _ (by omega) (by assumption)
         ·simp [-List.map_take, -List.map_drop, -List.map_append, -List.map_replicate, -List.reduceReplicate, noPtrL, noPtr, noPtrL_bsl, noPtrL_map, sub]
         ·rfl
         ·exact hK _
        iterate 2 (apply aops_step (by decide) rfl; · (intro K hK; simp (disch := first | omega | decide) only [go_sem, f1, f3, o1]; exact hK _))
        refine aops_nil ?_
        refine ⟨_, _, rfl, ?_, ?_, ?_, (by intro i; simp [Mem.set, hr]), (by exact hG)⟩ <;> try simp (disch := first | omega | decide) only [go_sem, f1, f3, o1]
        all_goals (rw [pl4 hbt134]; done)
       case hf =>
        intro hb
        try simp only [bo1, bo2, bo3, bo4, bo5, bo6] at hb
        have hbt134 := hb
        refine AW.region (cfg := cfg) ?_
        iterate 1 (apply aops_step (by decide) rfl; · (intro K hK; simp (disch := first | omega | decide) only [go_sem, f1, f3, o1]; exact hK _))
        refine aops_nil ?_
        refine ⟨_, _, rfl, ?_, ?_, ?_, (by intro i; simp [Mem.set, hr]), (by exact hG)⟩ <;> try simp (disch := first | omega | decide) only [go_sem, f1, f3, o1]
        all_goals (rw [chk0 (by omega)]; done)
  ·clear f1 f3 o1 hr hG
   rintro σ ⟨s, m, rfl, f1, o1, f3, hr, hG⟩
   obtain ⟨g1, o1⟩ : ∃ g, m.objs (.tmp 1 0) = (g, .box [.v (i64 p.kind), .v (i64 p.fr), .v (i64 p.boot), .v (i64 p.to), .v (i64 p.tb), .v (i64 p.ep), .v (i64 p.te), .v (.sl 2 p.hn (p.hs.map linkA)), .v (.sl 2 p.xn (p.xs.map linkA)), .v (.sl 3 p.ln (p.ls.map lsaA))]) := ⟨_, Prod.ext rfl o1⟩
   rw [o1] at f1
   refine AW.seq ?_
   refine AW.sr (cfg := cfg) ?_
   iterate 2 (apply aops_step (by decide) rfl; · (intro K hK; simp (disch := first | omega | decide) only [go_sem, f1, f3, o1]; exact hK _))
   refine aops_nil ?_
   apply AW.cond
   ·(simp only [go_sem, f1, f3, o1]; rfl)
   case ht =>
    intro hb
    try simp only [bo1, bo2, bo3, bo4, bo5, bo6] at hb
    have hbt155 := hb
    refine AW.sr (cfg := cfg) ?_
    iterate 1 (apply aops_step (by decide) rfl; · (intro K hK; simp (disch := first | omega | decide) only [go_sem, f1, f3, o1]; exact hK _))
    refine aops_nil ?_
    refine AW.ret ?_
    refine ⟨.inr rfl, ?_⟩
    refine leaves_tmp1 2 rfl ?_ (by exact hG)
    simp (disch := first | omega | decide) only [go_sem, f1, f3, o1]
    all_goals (rw [er_t hbt155]; done)
   case hf =>
    intro hb
    try simp only [bo1, bo2, bo3, bo4, bo5, bo6] at hb
    have hbt155 := hb
    refine AW.skip ?_
    refine AW.sr (cfg := cfg) ?_
    iterate 1 (apply aops_step (by decide) rfl; · (intro K hK; simp (disch := first | omega | decide) only [go_sem, f1, f3, o1]; exact hK _))
    refine aops_nil ?_
    refine AW.ret ?_
    refine ⟨.inr rfl, ?_⟩
    refine leaves_tmp1 2 rfl ?_ (by exact hG)
    simp (disch := first | omega | decide) only [go_sem, f1, f3, o1]
    all_goals (rw [er_f hbt155]; done)
end Go.Vai.P
