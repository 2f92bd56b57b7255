import Derived.Test.YtblgcekomnnfmaagPkt2
import Derived.Test.YtblgcekomnnfmaaVaiD
namespace Go.Vai.P
open Go.Proofs Go.Vai Go.Vai.G Go.Vai.L Go.Vai.O Go.Vai.U Go.Vai.Z
set_option linter.unusedSimpArgs false
set_option linter.unusedVariables false
set_option maxHeartbeats 4000000
set_option maxRecDepth 100000
theorem good_refAllL (na nb : Bool) (a b : List Lsa) (ha : a.length ≤ 9223372036854775807) (hb : b.length ≤ 9223372036854775807) (pa : ∀ x ∈ a, x.ls.length ≤ 9223372036854775807) (pb : ∀ x ∈ b, x.ls.length ≤ 9223372036854775807) : Good Try.prog 39 [(.sl 3 na (a.map lsaA), false), (.sl 3 nb (b.map lsaA), false)] [] [(.b (eqAll lsaEq a b), false)] [] := by
 refine good_of_body2 27 Try.func39 rfl rfl rfl (by simp) ?_
 intro s m ha hr hv hG
 have f0 : s 0 = .v (.sl 3 na (a.map lsaA)) := ha 0 _ rfl
 have f1 : s 1 = .v (.sl 3 nb (b.map lsaA)) := ha 1 _ rfl
 clear ha
 refine AW.sr (cfg := cfg) ?_
 iterate 1 (apply aops_step (by decide) rfl; · (intro K hK; simp (disch := first | omega | decide) only [go_sem, f0, f1]; exact hK _))
 refine aops_nil ?_
 refine AW.seq ?_
 refine AW.sr (cfg := cfg) ?_
 iterate 5 (apply aops_step (by decide) rfl; · (intro K hK; simp (disch := first | omega | decide) only [go_sem, f0, f1, List.map, List.length_map, aops_len u26]; exact hK _))
 refine aops_nil ?_
 apply AW.cond
 ·(simp only [go_sem, f0, f1]; rfl)
 case ht =>
  intro hb
  try simp only [bo1, bo2, bo3, bo4, bo5, bo6] at hb
  have hbt10 := hb
  refine AW.sr (cfg := cfg) ?_
  iterate 1 (apply aops_step (by decide) rfl; · (intro K hK; simp (disch := first | omega | decide) only [go_sem, f0, f1]; exact hK _))
  refine aops_nil ?_
  refine AW.ret ?_
  refine ⟨.inr rfl, ?_⟩
  refine leaves_tmp1 4 rfl ?_ (by exact hG)
  simp (disch := first | omega | decide) only [go_sem, f0, f1]
  all_goals (rw [eqAll_len (by omega)]; done)
 case hf =>
  intro hb
  try simp only [bo1, bo2, bo3, bo4, bo5, bo6] at hb
  have hbt10 := hb
  refine AW.skip ?_
  refine AW.seq ?_
  refine AW.sr (cfg := cfg) ?_
  iterate 1 (apply aops_step (by decide) rfl; · (intro K hK; simp (disch := first | omega | decide) only [go_sem, f0, f1]; exact hK _))
  refine aops_nil ?_
  refine AW.block ?_
  refine AW.forN (fun k σ => ∃ s m, σ = ⟨27, s, m⟩ ∧ s 0 = .v (.sl 3 na (a.map lsaA)) ∧ s 1 = .v (.sl 3 nb (b.map lsaA)) ∧ s 5 = .v (i64 (k : Int)) ∧ (a.length = b.length) ∧ (((a.zip b).take k).all (fun p => lsaEq p.1 p.2) = true) ∧ m.G = []) (a.length) ?_ ?_ ?_
  ·refine ⟨_, _, rfl, ?_, ?_, ?_, ?_, ?_, (by exact hG)⟩ <;> try simp (disch := first | omega | decide) only [go_sem, f0, f1]
   all_goals first | rfl | omega
  ·clear f0 f1 hG
   rintro k σ hk ⟨s, m, rfl, f0, f1, f5, mo0, mo1, hG⟩
   refine AW.seq ?_
   refine AW.sr (cfg := cfg) ?_
   iterate 4 (apply aops_step (by decide) rfl; · (intro K hK; simp (disch := first | omega | decide) only [go_sem, f0, f1, f5, List.map, List.length_map, aops_len u26]; exact hK _))
   refine aops_nil ?_
   apply AW.cond
   ·(simp only [go_sem, f0, f1, f5]; rfl)
   case hf => intro hb; (simp at hb; omega)
   case ht =>
   intro hb
   have hbt14 := hb
   refine AW.skip ?_
   refine AW.seq ?_
   refine AW.block ?_
   refine AW.seq ?_
   have hka : k < a.length := by assumption
   have hkb : k < b.length := by omega
   have pka := pa a[k] (List.getElem_mem hka)
   have pkb := pb b[k] (List.getElem_mem hkb)
   refine AW.draw (cfg := cfg) (by kernel_rfl) (by kernel_rfl) (by kernel_rfl) ?_
   iterate 2 (apply adraw_step rfl; · (intro K hK; simp (disch := first | omega | decide) only [go_sem, f0, f1, f5]; exact hK))
   apply adraw_step rfl
   ·intro K hK
    simp (disch := first | omega | decide) only [go_sem, f0, f1, f5, act_indexAddr_s u26 ti79, List.map]
    skip
    exact hK
   apply adraw_step rfl
   ·intro K hK
    simp (disch := first | omega | decide) only [go_sem, f0, f1, f5, act_load_t ti79, List.map]
    rw [mwp_load_is (by simp)]
    exact hK
   iterate 2 (apply adraw_step rfl; · (intro K hK; simp (disch := first | omega | decide) only [go_sem, f0, f1, f5]; exact hK))
   apply adraw_step rfl
   ·intro K hK
    simp (disch := first | omega | decide) only [go_sem, f0, f1, f5, act_indexAddr_s u26 ti79, List.map]
    skip
    exact hK
   apply adraw_step rfl
   ·intro K hK
    simp (disch := first | omega | decide) only [go_sem, f0, f1, f5, act_load_t ti79, List.map]
    rw [mwp_load_is (by simp)]
    exact hK
   apply adraw_step rfl
   ·intro K hK
    simp (disch := first | omega | decide) only [go_sem, f0, f1, f5, act_call, List.map]
    apply mwp_call_s rfl rfl rfl
    ·intro Q hQ
     (simp (disch := first | omega | decide) only [go_sem, f0, f1, f5, peekL, reifyL_nil, reifyL_cons, reify_v]; (exact hQ))
    ·exact L.good_refSame a[k] pka b[k] pkb
    ·simp [-List.map_take, -List.map_drop, -List.map_append, -List.map_replicate, -List.reduceReplicate, noPtrL, noPtr, noPtrL_bsl, noPtrL_map, sub]
    ·rfl
    ·exact hK
   iterate 1 (apply adraw_step rfl; · (intro K hK; simp (disch := first | omega | decide) only [go_sem, f0, f1, f5]; exact hK))
   refine adraw_nil (by kernel_rfl) ?_
   apply AW.cond
   ·(simp only [go_sem, f0, f1, f5]; rfl)
   case ht =>
    intro hb
    try simp only [bo1, bo2, bo3, bo4, bo5, bo6] at hb
    have hbt26 := hb
    refine AW.sr (cfg := cfg) ?_
    iterate 1 (apply aops_step (by decide) rfl; · (intro K hK; simp (disch := first | omega | decide) only [go_sem, f0, f1, f5]; exact hK _))
    refine aops_nil ?_
    refine AW.ret ?_
    refine ⟨.inr rfl, ?_⟩
    refine leaves_tmp1 4 rfl ?_ (by exact hG)
    simp (disch := first | omega | decide) only [go_sem, f0, f1, f5]
    all_goals (rw [eqAll_at mo0 hk hb]; done)
   case hf =>
    intro hb
    try simp only [bo1, bo2, bo3, bo4, bo5, bo6] at hb
    have hbt26 := hb
    refine AW.skip ?_
    refine AW.region (cfg := cfg) ?_
    iterate 3 (apply aops_step (by decide) rfl; · (intro K hK; simp (disch := first | omega | decide) only [go_sem, f0, f1, f5]; exact hK _))
    refine aops_nil ?_
    refine ⟨_, _, rfl, ?_, ?_, ?_, ?_, ?_, (by exact hG)⟩ <;> try simp (disch := first | omega | decide) only [go_sem, f0, f1, f5]
    all_goals first | rfl | assumption | exact eqAll_step mo0 hk mo1 hb
  ·clear f0 f1 hG
   rintro σ ⟨s, m, rfl, f0, f1, f5, mo0, mo1, hG⟩
   refine AW.seq ?_
   refine AW.sr (cfg := cfg) ?_
   iterate 4 (apply aops_step (by decide) rfl; · (intro K hK; simp (disch := first | omega | decide) only [go_sem, f0, f1, f5, List.map, List.length_map, aops_len u26]; exact hK _))
   refine aops_nil ?_
   apply AW.cond
   ·(simp only [go_sem, f0, f1, f5]; rfl)
   case ht => intro hb; (simp at hb; done)
   case hf =>
   intro hb
   have hbt14 := hb
   refine AW.exit ?_
   refine AW.sr (cfg := cfg) ?_
   iterate 1 (apply aops_step (by decide) rfl; · (intro K hK; simp (disch := first | omega | decide) only [go_sem, f0, f1, f5]; exact hK _))
   refine aops_nil ?_
   refine AW.ret ?_
   refine ⟨.inr rfl, ?_⟩
   refine leaves_tmp1 4 rfl ?_ (by exact hG)
   simp (disch := first | omega | decide) only [go_sem, f0, f1, f5]
   all_goals (rw [eqAll_end mo0 mo1]; done)
def pkEq7 (p q : Pkt) : Bool := (((((decide (p.kind = q.kind) && decide (p.fr = q.fr)) && decide (p.boot = q.boot)) && decide (p.to = q.to)) && decide (p.tb = q.tb)) && decide (p.ep = q.ep)) && decide (p.te = q.te)
def pkEq (p q : Pkt) : Bool := ((pkEq7 p q && decide (p.hs = q.hs)) && decide (p.xs = q.xs)) && eqAll lsaEq p.ls q.ls
theorem eq7_is {p q : Pkt} : pkEq7 p q = true ↔ p.kind = q.kind ∧ p.fr = q.fr ∧ p.boot = q.boot ∧ p.to = q.to ∧ p.tb = q.tb ∧ p.ep = q.ep ∧ p.te = q.te := by
  simp only [pkEq7, Bool.and_eq_true, decide_eq_true_eq, and_assoc]
theorem eq_no7 {p q : Pkt} (h : ¬ (p.kind = q.kind ∧ p.fr = q.fr ∧ p.boot = q.boot ∧ p.to = q.to ∧ p.tb = q.tb ∧ p.ep = q.ep ∧ p.te = q.te) ∨ ¬ (p.hs.length : Int) = (q.hs.length : Int) ∨ ¬ (p.xs.length : Int) = (q.xs.length : Int)) : pkEq p q = false := by
  cases e : pkEq p q with
  | false => rfl
  | true =>
    simp only [pkEq, Bool.and_eq_true, decide_eq_true_eq] at e
    obtain ⟨⟨⟨e1, e2⟩, e3⟩, _⟩ := e
    rcases h with h | h | h
    · exact absurd (eq7_is.1 e1) h
    · rw [e2] at h; exact absurd rfl h
    · rw [e3] at h; exact absurd rfl h
theorem eq_noh {p q : Pkt} (h : ¬ p.hs = q.hs) : pkEq p q = false := by rw [pkEq, decide_eq_false h]; simp
theorem eq_nox {p q : Pkt} (h : ¬ p.xs = q.xs) : pkEq p q = false := by rw [pkEq, decide_eq_false h]; simp
theorem eq_fin {p q : Pkt} (h7 : p.kind = q.kind ∧ p.fr = q.fr ∧ p.boot = q.boot ∧ p.to = q.to ∧ p.tb = q.tb ∧ p.ep = q.ep ∧ p.te = q.te) (hh : p.hs = q.hs) (hx : p.xs = q.xs) : eqAll lsaEq p.ls q.ls = pkEq p q := by
  rw [pkEq, eq7_is.2 h7, decide_eq_true hh, decide_eq_true hx]; rfl
theorem rows_eq {a b : List LinkS} (h : (a.length : Int) = (b.length : Int)) (h2 : a.take a.length = b.take a.length) : a = b := by
  rw [List.take_length, show a.length = b.length by omega, List.take_length] at h2; exact h2
theorem rows_ne {a b : List LinkS} {k : Nat} (hk : k < a.length) (hk2 : k < b.length) (h : ¬ a[k] = b[k]) : ¬ a = b := fun e => by subst e; exact h rfl
theorem good_refSameK (p : Pkt) (hp1 : p.hs.length ≤ 9223372036854775807) (hp2 : p.xs.length ≤ 9223372036854775807) (hp3 : p.ls.length ≤ 9223372036854775807) (hp4 : ∀ x ∈ p.ls, x.ls.length ≤ 9223372036854775807)(q : Pkt) (hq1 : q.hs.length ≤ 9223372036854775807) (hq2 : q.xs.length ≤ 9223372036854775807) (hq3 : q.ls.length ≤ 9223372036854775807) (hq4 : ∀ x ∈ q.ls, x.ls.length ≤ 9223372036854775807) : Good Try.prog 12 [(pktA p, false), (pktA q, false)] [] [(.b (pkEq p q), false)] [] := by
 refine good_of_body2 113 Try.func12 rfl rfl rfl (by simp) ?_
 intro s m ha hr hv hG
 have f0 : s 0 = .v (.agg [i64 p.kind, i64 p.fr, i64 p.boot, i64 p.to, i64 p.tb, i64 p.ep, i64 p.te, .sl 2 p.hn (p.hs.map linkA), .sl 2 p.xn (p.xs.map linkA), .sl 3 p.ln (p.ls.map lsaA)]) := ha 0 _ rfl
 have f1 : s 1 = .v (.agg [i64 q.kind, i64 q.fr, i64 q.boot, i64 q.to, i64 q.tb, i64 q.ep, i64 q.te, .sl 2 q.hn (q.hs.map linkA), .sl 2 q.xn (q.xs.map linkA), .sl 3 q.ln (q.ls.map lsaA)]) := ha 1 _ rfl
 clear ha
 refine AW.sr (cfg := cfg) ?_
 apply aops_step (by decide) rfl
 ·intro K hK
  simp (disch := first | omega | decide) only [go_sem, f0, f1, act_box_t ti28, List.map]
  rw [settleL_vish _ _ (by rfl)]
  simp (disch := first | omega | decide) only [go_sem, f0, f1, cellsL, List.map, List.length_cons, List.length_nil, Nat.reduceAdd, if_true]
  exact hK _
 apply aops_step (by decide) rfl
 ·intro K hK
  simp (disch := first | omega | decide) only [go_sem, f0, f1, act_box_t ti28, List.map]
  rw [settleL_vish _ _ (by rfl)]
  simp (disch := first | omega | decide) only [go_sem, f0, f1, cellsL, List.map, List.length_cons, List.length_nil, Nat.reduceAdd, if_true]
  exact hK _
 iterate 1 (apply aops_step (by decide) rfl; · (intro K hK; simp (disch := first | omega | decide) only [go_sem, f0, f1]; exact hK _))
 refine aops_nil ?_
 refine AW.seq ?_
 refine AW.sr (cfg := cfg) ?_
 refine aops_fl (by decide) (by decide) fo28_0 ti3 (by simp (disch := first | omega | decide) only [go_sem, f0, f1]; rfl) (by simp (disch := first | omega | decide) only [go_sem, f0, f1]; rfl) (by rfl) ?_
 refine aops_fl (by decide) (by decide) fo28_0 ti3 (by simp only [go_sem, f0, f1]; rfl) (by simp only [go_sem, f0, f1]; rfl) (by rfl) ?_
 iterate 2 (apply aops_step (by decide) rfl; · (intro K hK; simp (disch := first | omega | decide) only [go_sem, f0, f1]; exact hK _))
 refine aops_flm (dg := 12) (by decide) (by decide) (by decide) fo28_1 ti3 rfl (by simp (disch := first | omega | decide) only [go_sem, f0, f1]; rfl) (by simp (disch := first | omega | decide) only [go_sem, f0, f1]; rfl) (by simp (disch := first | omega | decide) only [go_sem, f0, f1]; rfl) (by rfl) ?_
 refine aops_flm (dg := 12) (by decide) (by decide) (by decide) fo28_1 ti3 rfl (by simp (disch := first | omega | decide) only [go_sem, f0, f1]; rfl) (by simp (disch := first | omega | decide) only [go_sem, f0, f1]; rfl) (by simp (disch := first | omega | decide) only [go_sem, f0, f1]; rfl) (by rfl) ?_
 apply aops_merge' (by decide) (by exact want_of (d := 12) rfl (by simp (disch := first | omega | decide) only [go_sem, f0, f1, opn_cond]; rfl))
 ·intro hc K hK
  simp (disch := first | omega | decide) only [go_sem, f0, f1, opn_cond, hc, if_true]
  exact hK _
 iterate 2 (apply aops_step (by decide) rfl; · (intro K hK; simp (disch := first | omega | decide) only [go_sem, f0, f1]; exact hK _))
 refine aops_flm (dg := 19) (by decide) (by decide) (by decide) fo28_2 ti3 rfl (by simp (disch := first | omega | decide) only [go_sem, f0, f1]; rfl) (by simp (disch := first | omega | decide) only [go_sem, f0, f1]; rfl) (by simp (disch := first | omega | decide) only [go_sem, f0, f1]; rfl) (by rfl) ?_
 refine aops_flm (dg := 19) (by decide) (by decide) (by decide) fo28_2 ti3 rfl (by simp (disch := first | omega | decide) only [go_sem, f0, f1]; rfl) (by simp (disch := first | omega | decide) only [go_sem, f0, f1]; rfl) (by simp (disch := first | omega | decide) only [go_sem, f0, f1]; rfl) (by rfl) ?_
 apply aops_merge' (by decide) (by exact want_of (d := 19) rfl (by simp (disch := first | omega | decide) only [go_sem, f0, f1, opn_cond]; rfl))
 ·intro hc K hK
  simp (disch := first | omega | decide) only [go_sem, f0, f1, opn_cond, hc, if_true]
  exact hK _
 iterate 2 (apply aops_step (by decide) rfl; · (intro K hK; simp (disch := first | omega | decide) only [go_sem, f0, f1]; exact hK _))
 refine aops_flm (dg := 26) (by decide) (by decide) (by decide) fo28_3 ti3 rfl (by simp (disch := first | omega | decide) only [go_sem, f0, f1]; rfl) (by simp (disch := first | omega | decide) only [go_sem, f0, f1]; rfl) (by simp (disch := first | omega | decide) only [go_sem, f0, f1]; rfl) (by rfl) ?_
 refine aops_flm (dg := 26) (by decide) (by decide) (by decide) fo28_3 ti3 rfl (by simp (disch := first | omega | decide) only [go_sem, f0, f1]; rfl) (by simp (disch := first | omega | decide) only [go_sem, f0, f1]; rfl) (by simp (disch := first | omega | decide) only [go_sem, f0, f1]; rfl) (by rfl) ?_
 apply aops_merge' (by decide) (by exact want_of (d := 26) rfl (by simp (disch := first | omega | decide) only [go_sem, f0, f1, opn_cond]; rfl))
 ·intro hc K hK
  simp (disch := first | omega | decide) only [go_sem, f0, f1, opn_cond, hc, if_true]
  exact hK _
 iterate 2 (apply aops_step (by decide) rfl; · (intro K hK; simp (disch := first | omega | decide) only [go_sem, f0, f1]; exact hK _))
 refine aops_flm (dg := 33) (by decide) (by decide) (by decide) fo28_4 ti3 rfl (by simp (disch := first | omega | decide) only [go_sem, f0, f1]; rfl) (by simp (disch := first | omega | decide) only [go_sem, f0, f1]; rfl) (by simp (disch := first | omega | decide) only [go_sem, f0, f1]; rfl) (by rfl) ?_
 refine aops_flm (dg := 33) (by decide) (by decide) (by decide) fo28_4 ti3 rfl (by simp (disch := first | omega | decide) only [go_sem, f0, f1]; rfl) (by simp (disch := first | omega | decide) only [go_sem, f0, f1]; rfl) (by simp (disch := first | omega | decide) only [go_sem, f0, f1]; rfl) (by rfl) ?_
 apply aops_merge' (by decide) (by exact want_of (d := 33) rfl (by simp (disch := first | omega | decide) only [go_sem, f0, f1, opn_cond]; rfl))
 ·intro hc K hK
  simp (disch := first | omega | decide) only [go_sem, f0, f1, opn_cond, hc, if_true]
  exact hK _
 iterate 2 (apply aops_step (by decide) rfl; · (intro K hK; simp (disch := first | omega | decide) only [go_sem, f0, f1]; exact hK _))
 refine aops_flm (dg := 40) (by decide) (by decide) (by decide) fo28_5 ti3 rfl (by simp (disch := first | omega | decide) only [go_sem, f0, f1]; rfl) (by simp (disch := first | omega | decide) only [go_sem, f0, f1]; rfl) (by simp (disch := first | omega | decide) only [go_sem, f0, f1]; rfl) (by rfl) ?_
 refine aops_flm (dg := 40) (by decide) (by decide) (by decide) fo28_5 ti3 rfl (by simp (disch := first | omega | decide) only [go_sem, f0, f1]; rfl) (by simp (disch := first | omega | decide) only [go_sem, f0, f1]; rfl) (by simp (disch := first | omega | decide) only [go_sem, f0, f1]; rfl) (by rfl) ?_
 apply aops_merge' (by decide) (by exact want_of (d := 40) rfl (by simp (disch := first | omega | decide) only [go_sem, f0, f1, opn_cond]; rfl))
 ·intro hc K hK
  simp (disch := first | omega | decide) only [go_sem, f0, f1, opn_cond, hc, if_true]
  exact hK _
 iterate 2 (apply aops_step (by decide) rfl; · (intro K hK; simp (disch := first | omega | decide) only [go_sem, f0, f1]; exact hK _))
 refine aops_flm (dg := 47) (by decide) (by decide) (by decide) fo28_6 ti3 rfl (by simp (disch := first | omega | decide) only [go_sem, f0, f1]; rfl) (by simp (disch := first | omega | decide) only [go_sem, f0, f1]; rfl) (by simp (disch := first | omega | decide) only [go_sem, f0, f1]; rfl) (by rfl) ?_
 refine aops_flm (dg := 47) (by decide) (by decide) (by decide) fo28_6 ti3 rfl (by simp (disch := first | omega | decide) only [go_sem, f0, f1]; rfl) (by simp (disch := first | omega | decide) only [go_sem, f0, f1]; rfl) (by simp (disch := first | omega | decide) only [go_sem, f0, f1]; rfl) (by rfl) ?_
 apply aops_merge' (by decide) (by exact want_of (d := 47) rfl (by simp (disch := first | omega | decide) only [go_sem, f0, f1, opn_cond]; rfl))
 ·intro hc K hK
  simp (disch := first | omega | decide) only [go_sem, f0, f1, opn_cond, hc, if_true]
  exact hK _
 iterate 2 (apply aops_step (by decide) rfl; · (intro K hK; simp (disch := first | omega | decide) only [go_sem, f0, f1]; exact hK _))
 refine aops_flm (dg := 54) (by decide) (by decide) (by decide) fo28_7 ti24 rfl (by simp (disch := first | omega | decide) only [go_sem, f0, f1]; rfl) (by simp (disch := first | omega | decide) only [go_sem, f0, f1]; rfl) (by simp (disch := first | omega | decide) only [go_sem, f0, f1]; rfl) (by rfl) ?_
 apply aops_merge' (by decide) (by exact want_of (d := 54) rfl (by simp (disch := first | omega | decide) only [go_sem, f0, f1, opn_cond]; rfl))
 ·intro hc K hK
  simp (disch := first | omega | decide) only [go_sem, f0, f1, opn_cond, hc, if_true, List.map, List.length_map, aops_len u24]
  exact hK _
 refine aops_flm (dg := 54) (by decide) (by decide) (by decide) fo28_7 ti24 rfl (by simp (disch := first | omega | decide) only [go_sem, f0, f1]; rfl) (by simp (disch := first | omega | decide) only [go_sem, f0, f1]; rfl) (by simp (disch := first | omega | decide) only [go_sem, f0, f1]; rfl) (by rfl) ?_
 apply aops_merge' (by decide) (by exact want_of (d := 54) rfl (by simp (disch := first | omega | decide) only [go_sem, f0, f1, opn_cond]; rfl))
 ·intro hc K hK
  simp (disch := first | omega | decide) only [go_sem, f0, f1, opn_cond, hc, if_true, List.map, List.length_map, aops_len u24]
  exact hK _
 apply aops_merge' (by decide) (by exact want_of (d := 54) rfl (by simp (disch := first | omega | decide) only [go_sem, f0, f1, opn_cond]; rfl))
 ·intro hc K hK
  simp (disch := first | omega | decide) only [go_sem, f0, f1, opn_cond, hc, if_true]
  exact hK _
 iterate 2 (apply aops_step (by decide) rfl; · (intro K hK; simp (disch := first | omega | decide) only [go_sem, f0, f1]; exact hK _))
 refine aops_flm (dg := 63) (by decide) (by decide) (by decide) fo28_8 ti25 rfl (by simp (disch := first | omega | decide) only [go_sem, f0, f1]; rfl) (by simp (disch := first | omega | decide) only [go_sem, f0, f1]; rfl) (by simp (disch := first | omega | decide) only [go_sem, f0, f1]; rfl) (by rfl) ?_
 apply aops_merge' (by decide) (by exact want_of (d := 63) rfl (by simp (disch := first | omega | decide) only [go_sem, f0, f1, opn_cond]; rfl))
 ·intro hc K hK
  simp (disch := first | omega | decide) only [go_sem, f0, f1, opn_cond, hc, if_true, List.map, List.length_map, aops_len u25]
  exact hK _
 refine aops_flm (dg := 63) (by decide) (by decide) (by decide) fo28_8 ti25 rfl (by simp (disch := first | omega | decide) only [go_sem, f0, f1]; rfl) (by simp (disch := first | omega | decide) only [go_sem, f0, f1]; rfl) (by simp (disch := first | omega | decide) only [go_sem, f0, f1]; rfl) (by rfl) ?_
 apply aops_merge' (by decide) (by exact want_of (d := 63) rfl (by simp (disch := first | omega | decide) only [go_sem, f0, f1, opn_cond]; rfl))
 ·intro hc K hK
  simp (disch := first | omega | decide) only [go_sem, f0, f1, opn_cond, hc, if_true, List.map, List.length_map, aops_len u25]
  exact hK _
 apply aops_merge' (by decide) (by exact want_of (d := 63) rfl (by simp (disch := first | omega | decide) only [go_sem, f0, f1, opn_cond]; rfl))
 ·intro hc K hK
  simp (disch := first | omega | decide) only [go_sem, f0, f1, opn_cond, hc, if_true]
  exact hK _
 iterate 1 (apply aops_step (by decide) rfl; · (intro K hK; simp (disch := first | omega | decide) only [go_sem, f0, f1]; exact hK _))
 refine aops_nil ?_
 apply AW.cond
 ·(simp only [go_sem, f0, f1]; rfl)
 case ht =>
  intro hb
  try simp only [bo1, bo2, bo3, bo4, bo5, bo6] at hb
  have hbt71 := hb
  refine AW.sr (cfg := cfg) ?_
  iterate 1 (apply aops_step (by decide) rfl; · (intro K hK; simp (disch := first | omega | decide) only [go_sem, f0, f1]; exact hK _))
  refine aops_nil ?_
  refine AW.ret ?_
  refine ⟨.inr rfl, ?_⟩
  refine leaves_tmp1 4 rfl ?_ (by exact hG)
  simp (disch := first | omega | decide) only [go_sem, f0, f1]
  all_goals (rw [eq_no7 (by have := hbt71; omega)]; done)
 case hf =>
  intro hb
  try simp only [bo1, bo2, bo3, bo4, bo5, bo6] at hb
  have hbt71 := hb
  refine AW.skip ?_
  refine AW.seq ?_
  refine AW.seq ?_
  have h7 : (p.kind = q.kind ∧ p.fr = q.fr ∧ p.boot = q.boot ∧ p.to = q.to ∧ p.tb = q.tb ∧ p.ep = q.ep ∧ p.te = q.te) ∧ (p.hs.length : Int) = (q.hs.length : Int) ∧ (p.xs.length : Int) = (q.xs.length : Int) := (by have := hbt71; omega)
  refine AW.region (cfg := cfg) ?_
  iterate 1 (apply aops_step (by decide) rfl; · (intro K hK; simp (disch := first | omega | decide) only [go_sem, f0, f1]; exact hK _))
  refine aops_nil ?_
  refine AW.block ?_
  refine AW.forN (fun k σ => ∃ s m, σ = ⟨113, s, m⟩ ∧ s 2 = .lptr (.tmp 2 0) (m.objs (.tmp 2 0)).1 0 ∧ (m.objs (.tmp 2 0)).2 = .box [.v (i64 p.kind), .v (i64 p.fr), .v (i64 p.boot), .v (i64 p.to), .v (i64 p.tb), .v (i64 p.ep), .v (i64 p.te), .v (.sl 2 p.hn (p.hs.map linkA)), .v (.sl 2 p.xn (p.xs.map linkA)), .v (.sl 3 p.ln (p.ls.map lsaA))] ∧ s 3 = .lptr (.tmp 3 0) (m.objs (.tmp 3 0)).1 0 ∧ (m.objs (.tmp 3 0)).2 = .box [.v (i64 q.kind), .v (i64 q.fr), .v (i64 q.boot), .v (i64 q.to), .v (i64 q.tb), .v (i64 q.ep), .v (i64 q.te), .v (.sl 2 q.hn (q.hs.map linkA)), .v (.sl 2 q.xn (q.xs.map linkA)), .v (.sl 3 q.ln (q.ls.map lsaA))] ∧ s 5 = .v (i64 (k : Int)) ∧ (p.hs.take k = q.hs.take k) ∧ (∀ i, (m.objs (.res i)).2 = .dead) ∧ m.G = []) (p.hs.length) ?_ ?_ ?_
  ·refine ⟨_, _, rfl, ?_, ?_, ?_, ?_, ?_, ?_, (by intro i; simp [Mem.set, hr]), (by exact hG)⟩ <;> try simp (disch := first | omega | decide) only [go_sem, f0, f1]
   all_goals rfl
  ·clear f0 f1 hr hG
   rintro k σ hk ⟨s, m, rfl, f2, o2, f3, o3, f5, mo0, hr, hG⟩
   obtain ⟨g2, o2⟩ : ∃ g, m.objs (.tmp 2 0) = (g, .box [.v (i64 p.kind), .v (i64 p.fr), .v (i64 p.boot), .v (i64 p.to), .v (i64 p.tb), .v (i64 p.ep), .v (i64 p.te), .v (.sl 2 p.hn (p.hs.map linkA)), .v (.sl 2 p.xn (p.xs.map linkA)), .v (.sl 3 p.ln (p.ls.map lsaA))]) := ⟨_, Prod.ext rfl o2⟩
   rw [o2] at f2
   obtain ⟨g3, o3⟩ : ∃ g, m.objs (.tmp 3 0) = (g, .box [.v (i64 q.kind), .v (i64 q.fr), .v (i64 q.boot), .v (i64 q.to), .v (i64 q.tb), .v (i64 q.ep), .v (i64 q.te), .v (.sl 2 q.hn (q.hs.map linkA)), .v (.sl 2 q.xn (q.xs.map linkA)), .v (.sl 3 q.ln (q.ls.map lsaA))]) := ⟨_, Prod.ext rfl o3⟩
   rw [o3] at f3
   refine AW.seq ?_
   refine AW.sr (cfg := cfg) ?_
   iterate 1 (apply aops_step (by decide) rfl; · (intro K hK; simp (disch := first | omega | decide) only [go_sem, f2, f3, f5, o2, o3]; exact hK _))
   refine aops_fl (by decide) (by decide) fo28_7 ti24 (by simp (disch := first | omega | decide) only [go_sem, f2, f3, f5, o2, o3]; rfl) (by simp (disch := first | omega | decide) only [go_sem, f2, f3, f5, o2, o3]; rfl) (by rfl) ?_
   iterate 2 (apply aops_step (by decide) rfl; · (intro K hK; simp (disch := first | omega | decide) only [go_sem, f2, f3, f5, o2, o3, List.map, List.length_map, aops_len u24]; exact hK _))
   refine aops_nil ?_
   apply AW.cond
   ·(simp only [go_sem, f2, f3, f5, o2, o3]; rfl)
   case hf => intro hb; (simp at hb; omega)
   case ht =>
   intro hb
   have hbt76 := hb
   refine AW.skip ?_
   refine AW.seq ?_
   refine AW.block ?_
   refine AW.seq ?_
   have hkh : k < q.hs.length := by omega
   refine AW.draw (cfg := cfg) (by kernel_rfl) (by kernel_rfl) (by kernel_rfl) ?_
   apply adraw_step rfl
   ·intro K hK
    simp (disch := first | omega | decide) only [go_sem, f2, f3, f5, o2, o3, act_fieldAddr_t fo28_7, List.map]
    rw [mwp_fieldAddr_b (by simp only [go_sem, f2, f3, f5, o2, o3]; rfl)]
    exact hK
   apply adraw_step rfl
   ·intro K hK
    simp (disch := first | omega | decide) only [go_sem, f2, f3, f5, o2, o3, act_load_t ti24, List.map]
    rw [mwp_load_b1 (by simp only [go_sem, f2, f3, f5, o2, o3]; rfl) (by rfl)]
    exact hK
   iterate 1 (apply adraw_step rfl; · (intro K hK; simp (disch := first | omega | decide) only [go_sem, f2, f3, f5, o2, o3]; exact hK))
   apply adraw_step rfl
   ·intro K hK
    simp (disch := first | omega | decide) only [go_sem, f2, f3, f5, o2, o3, act_indexAddr_s u24 ti74, List.map]
    skip
    exact hK
   apply adraw_step rfl
   ·intro K hK
    simp (disch := first | omega | decide) only [go_sem, f2, f3, f5, o2, o3, act_load_t ti74, List.map]
    rw [mwp_load_is (by simp)]
    exact hK
   apply adraw_step rfl
   ·intro K hK
    simp (disch := first | omega | decide) only [go_sem, f2, f3, f5, o2, o3, act_fieldAddr_t fo28_7, List.map]
    rw [mwp_fieldAddr_b (by simp only [go_sem, f2, f3, f5, o2, o3]; rfl)]
    exact hK
   apply adraw_step rfl
   ·intro K hK
    simp (disch := first | omega | decide) only [go_sem, f2, f3, f5, o2, o3, act_load_t ti24, List.map]
    rw [mwp_load_b1 (by simp only [go_sem, f2, f3, f5, o2, o3]; rfl) (by rfl)]
    exact hK
   iterate 1 (apply adraw_step rfl; · (intro K hK; simp (disch := first | omega | decide) only [go_sem, f2, f3, f5, o2, o3]; exact hK))
   apply adraw_step rfl
   ·intro K hK
    simp (disch := first | omega | decide) only [go_sem, f2, f3, f5, o2, o3, act_indexAddr_s u24 ti74, List.map]
    skip
    exact hK
   apply adraw_step rfl
   ·intro K hK
    simp (disch := first | omega | decide) only [go_sem, f2, f3, f5, o2, o3, act_load_t ti74, List.map]
    rw [mwp_load_is (by simp)]
    exact hK
   iterate 1 (apply adraw_step rfl; · (intro K hK; simp (disch := first | omega | decide) only [go_sem, f2, f3, f5, o2, o3, bin_neq_s us74 fl74 eg74]; exact hK))
   refine adraw_nil (by kernel_rfl) ?_
   apply AW.cond
   ·(simp only [go_sem, f2, f3, f5, o2, o3]; rfl)
   case ht =>
    intro hb
    try simp only [bo1, bo2, bo3, bo4, bo5, bo6] at hb
    have hbt89 := hb
    refine AW.sr (cfg := cfg) ?_
    iterate 1 (apply aops_step (by decide) rfl; · (intro K hK; simp (disch := first | omega | decide) only [go_sem, f2, f3, f5, o2, o3]; exact hK _))
    refine aops_nil ?_
    refine AW.ret ?_
    refine ⟨.inr rfl, ?_⟩
    refine leaves_tmp1 4 rfl ?_ (by exact hG)
    simp (disch := first | omega | decide) only [go_sem, f2, f3, f5, o2, o3]
    all_goals (rw [eq_noh (rows_ne hk hkh (fun e => link_ne hb e))]; done)
   case hf =>
    intro hb
    try simp only [bo1, bo2, bo3, bo4, bo5, bo6] at hb
    have hbt89 := hb
    refine AW.skip ?_
    refine AW.region (cfg := cfg) ?_
    iterate 3 (apply aops_step (by decide) rfl; · (intro K hK; simp (disch := first | omega | decide) only [go_sem, f2, f3, f5, o2, o3]; exact hK _))
    refine aops_nil ?_
    refine ⟨_, _, rfl, ?_, ?_, ?_, ?_, ?_, ?_, (by intro i; simp [Mem.set, hr]), (by exact hG)⟩ <;> try simp (disch := first | omega | decide) only [go_sem, f2, f3, f5, o2, o3]
    all_goals first | rfl | skip
    all_goals (rw [List.take_succ_eq_append_getElem (by omega), List.take_succ_eq_append_getElem (by omega), mo0]; congr 2; exact link_eq hb)
  ·clear f0 f1 hr hG
   rintro σ ⟨s, m, rfl, f2, o2, f3, o3, f5, mo0, hr, hG⟩
   obtain ⟨g2, o2⟩ : ∃ g, m.objs (.tmp 2 0) = (g, .box [.v (i64 p.kind), .v (i64 p.fr), .v (i64 p.boot), .v (i64 p.to), .v (i64 p.tb), .v (i64 p.ep), .v (i64 p.te), .v (.sl 2 p.hn (p.hs.map linkA)), .v (.sl 2 p.xn (p.xs.map linkA)), .v (.sl 3 p.ln (p.ls.map lsaA))]) := ⟨_, Prod.ext rfl o2⟩
   rw [o2] at f2
   obtain ⟨g3, o3⟩ : ∃ g, m.objs (.tmp 3 0) = (g, .box [.v (i64 q.kind), .v (i64 q.fr), .v (i64 q.boot), .v (i64 q.to), .v (i64 q.tb), .v (i64 q.ep), .v (i64 q.te), .v (.sl 2 q.hn (q.hs.map linkA)), .v (.sl 2 q.xn (q.xs.map linkA)), .v (.sl 3 q.ln (q.ls.map lsaA))]) := ⟨_, Prod.ext rfl o3⟩
   rw [o3] at f3
   refine AW.seq ?_
   refine AW.sr (cfg := cfg) ?_
   iterate 1 (apply aops_step (by decide) rfl; · (intro K hK; simp (disch := first | omega | decide) only [go_sem, f2, f3, f5, o2, o3]; exact hK _))
   refine aops_fl (by decide) (by decide) fo28_7 ti24 (by simp (disch := first | omega | decide) only [go_sem, f2, f3, f5, o2, o3]; rfl) (by simp (disch := first | omega | decide) only [go_sem, f2, f3, f5, o2, o3]; rfl) (by rfl) ?_
   iterate 2 (apply aops_step (by decide) rfl; · (intro K hK; simp (disch := first | omega | decide) only [go_sem, f2, f3, f5, o2, o3, List.map, List.length_map, aops_len u24]; exact hK _))
   refine aops_nil ?_
   apply AW.cond
   ·(simp only [go_sem, f2, f3, f5, o2, o3]; rfl)
   case ht => intro hb; (simp at hb; done)
   case hf =>
   intro hb
   have hbt76 := hb
   refine AW.exit ?_
   refine AW.seq ?_
   refine AW.seq ?_
   have hh0 : p.hs = q.hs := rows_eq h7.2.1 mo0
   refine AW.region (cfg := cfg) ?_
   iterate 1 (apply aops_step (by decide) rfl; · (intro K hK; simp (disch := first | omega | decide) only [go_sem, f2, f3, f5, o2, o3]; exact hK _))
   refine aops_nil ?_
   refine AW.block ?_
   refine AW.forN (fun k σ => ∃ s m, σ = ⟨113, s, m⟩ ∧ s 2 = .lptr (.tmp 2 0) (m.objs (.tmp 2 0)).1 0 ∧ (m.objs (.tmp 2 0)).2 = .box [.v (i64 p.kind), .v (i64 p.fr), .v (i64 p.boot), .v (i64 p.to), .v (i64 p.tb), .v (i64 p.ep), .v (i64 p.te), .v (.sl 2 p.hn (p.hs.map linkA)), .v (.sl 2 p.xn (p.xs.map linkA)), .v (.sl 3 p.ln (p.ls.map lsaA))] ∧ s 3 = .lptr (.tmp 3 0) (m.objs (.tmp 3 0)).1 0 ∧ (m.objs (.tmp 3 0)).2 = .box [.v (i64 q.kind), .v (i64 q.fr), .v (i64 q.boot), .v (i64 q.to), .v (i64 q.tb), .v (i64 q.ep), .v (i64 q.te), .v (.sl 2 q.hn (q.hs.map linkA)), .v (.sl 2 q.xn (q.xs.map linkA)), .v (.sl 3 q.ln (q.ls.map lsaA))] ∧ s 6 = .v (i64 (k : Int)) ∧ (p.xs.take k = q.xs.take k) ∧ (∀ i, (m.objs (.res i)).2 = .dead) ∧ m.G = []) (p.xs.length) ?_ ?_ ?_
   ·refine ⟨_, _, rfl, ?_, ?_, ?_, ?_, ?_, ?_, (by intro i; simp [Mem.set, hr]), (by exact hG)⟩ <;> try simp (disch := first | omega | decide) only [go_sem, f2, f3, f5, o2, o3]
    all_goals rfl
   ·clear f2 f3 f5 o2 o3 hr hG
    rintro k σ hk ⟨s, m, rfl, f2, o2, f3, o3, f6, mo0, hr, hG⟩
    obtain ⟨g2, o2⟩ : ∃ g, m.objs (.tmp 2 0) = (g, .box [.v (i64 p.kind), .v (i64 p.fr), .v (i64 p.boot), .v (i64 p.to), .v (i64 p.tb), .v (i64 p.ep), .v (i64 p.te), .v (.sl 2 p.hn (p.hs.map linkA)), .v (.sl 2 p.xn (p.xs.map linkA)), .v (.sl 3 p.ln (p.ls.map lsaA))]) := ⟨_, Prod.ext rfl o2⟩
    rw [o2] at f2
    obtain ⟨g3, o3⟩ : ∃ g, m.objs (.tmp 3 0) = (g, .box [.v (i64 q.kind), .v (i64 q.fr), .v (i64 q.boot), .v (i64 q.to), .v (i64 q.tb), .v (i64 q.ep), .v (i64 q.te), .v (.sl 2 q.hn (q.hs.map linkA)), .v (.sl 2 q.xn (q.xs.map linkA)), .v (.sl 3 q.ln (q.ls.map lsaA))]) := ⟨_, Prod.ext rfl o3⟩
    rw [o3] at f3
    refine AW.seq ?_
    refine AW.sr (cfg := cfg) ?_
    iterate 1 (apply aops_step (by decide) rfl; · (intro K hK; simp (disch := first | omega | decide) only [go_sem, f2, f3, f6, o2, o3]; exact hK _))
    refine aops_fl (by decide) (by decide) fo28_8 ti25 (by simp (disch := first | omega | decide) only [go_sem, f2, f3, f6, o2, o3]; rfl) (by simp (disch := first | omega | decide) only [go_sem, f2, f3, f6, o2, o3]; rfl) (by rfl) ?_
    iterate 2 (apply aops_step (by decide) rfl; · (intro K hK; simp (disch := first | omega | decide) only [go_sem, f2, f3, f6, o2, o3, List.map, List.length_map, aops_len u25]; exact hK _))
    refine aops_nil ?_
    apply AW.cond
    ·(simp only [go_sem, f2, f3, f6, o2, o3]; rfl)
    case hf => intro hb; (simp at hb; omega)
    case ht =>
    intro hb
    have hbt94 := hb
    refine AW.skip ?_
    refine AW.seq ?_
    refine AW.block ?_
    refine AW.seq ?_
    have hkx : k < q.xs.length := by omega
    refine AW.draw (cfg := cfg) (by kernel_rfl) (by kernel_rfl) (by kernel_rfl) ?_
    apply adraw_step rfl
    ·intro K hK
     simp (disch := first | omega | decide) only [go_sem, f2, f3, f6, o2, o3, act_fieldAddr_t fo28_8, List.map]
     rw [mwp_fieldAddr_b (by simp only [go_sem, f2, f3, f6, o2, o3]; rfl)]
     exact hK
    apply adraw_step rfl
    ·intro K hK
     simp (disch := first | omega | decide) only [go_sem, f2, f3, f6, o2, o3, act_load_t ti25, List.map]
     rw [mwp_load_b1 (by simp only [go_sem, f2, f3, f6, o2, o3]; rfl) (by rfl)]
     exact hK
    iterate 1 (apply adraw_step rfl; · (intro K hK; simp (disch := first | omega | decide) only [go_sem, f2, f3, f6, o2, o3]; exact hK))
    apply adraw_step rfl
    ·intro K hK
     simp (disch := first | omega | decide) only [go_sem, f2, f3, f6, o2, o3, act_indexAddr_s u25 ti76, List.map]
     skip
     exact hK
    apply adraw_step rfl
    ·intro K hK
     simp (disch := first | omega | decide) only [go_sem, f2, f3, f6, o2, o3, act_load_t ti76, List.map]
     rw [mwp_load_is (by simp)]
     exact hK
    apply adraw_step rfl
    ·intro K hK
     simp (disch := first | omega | decide) only [go_sem, f2, f3, f6, o2, o3, act_fieldAddr_t fo28_8, List.map]
     rw [mwp_fieldAddr_b (by simp only [go_sem, f2, f3, f6, o2, o3]; rfl)]
     exact hK
    apply adraw_step rfl
    ·intro K hK
     simp (disch := first | omega | decide) only [go_sem, f2, f3, f6, o2, o3, act_load_t ti25, List.map]
     rw [mwp_load_b1 (by simp only [go_sem, f2, f3, f6, o2, o3]; rfl) (by rfl)]
     exact hK
    iterate 1 (apply adraw_step rfl; · (intro K hK; simp (disch := first | omega | decide) only [go_sem, f2, f3, f6, o2, o3]; exact hK))
    apply adraw_step rfl
    ·intro K hK
     simp (disch := first | omega | decide) only [go_sem, f2, f3, f6, o2, o3, act_indexAddr_s u25 ti76, List.map]
     skip
     exact hK
    apply adraw_step rfl
    ·intro K hK
     simp (disch := first | omega | decide) only [go_sem, f2, f3, f6, o2, o3, act_load_t ti76, List.map]
     rw [mwp_load_is (by simp)]
     exact hK
    iterate 1 (apply adraw_step rfl; · (intro K hK; simp (disch := first | omega | decide) only [go_sem, f2, f3, f6, o2, o3, bin_neq_s us76 fl76 eg76]; exact hK))
    refine adraw_nil (by kernel_rfl) ?_
    apply AW.cond
    ·(simp only [go_sem, f2, f3, f6, o2, o3]; rfl)
    case ht =>
     intro hb
     try simp only [bo1, bo2, bo3, bo4, bo5, bo6] at hb
     have hbt107 := hb
     refine AW.sr (cfg := cfg) ?_
     iterate 1 (apply aops_step (by decide) rfl; · (intro K hK; simp (disch := first | omega | decide) only [go_sem, f2, f3, f6, o2, o3]; exact hK _))
     refine aops_nil ?_
     refine AW.ret ?_
     refine ⟨.inr rfl, ?_⟩
     refine leaves_tmp1 4 rfl ?_ (by exact hG)
     simp (disch := first | omega | decide) only [go_sem, f2, f3, f6, o2, o3]
     all_goals (rw [eq_nox (rows_ne hk hkx (fun e => link_ne hb e))]; done)
    case hf =>
     intro hb
     try simp only [bo1, bo2, bo3, bo4, bo5, bo6] at hb
     have hbt107 := hb
     refine AW.skip ?_
     refine AW.region (cfg := cfg) ?_
     iterate 3 (apply aops_step (by decide) rfl; · (intro K hK; simp (disch := first | omega | decide) only [go_sem, f2, f3, f6, o2, o3]; exact hK _))
     refine aops_nil ?_
     refine ⟨_, _, rfl, ?_, ?_, ?_, ?_, ?_, ?_, (by intro i; simp [Mem.set, hr]), (by exact hG)⟩ <;> try simp (disch := first | omega | decide) only [go_sem, f2, f3, f6, o2, o3]
     all_goals first | rfl | skip
     all_goals (rw [List.take_succ_eq_append_getElem (by omega), List.take_succ_eq_append_getElem (by omega), mo0]; congr 2; exact link_eq hb)
   ·clear f2 f3 f5 o2 o3 hr hG
    rintro σ ⟨s, m, rfl, f2, o2, f3, o3, f6, mo0, hr, hG⟩
    obtain ⟨g2, o2⟩ : ∃ g, m.objs (.tmp 2 0) = (g, .box [.v (i64 p.kind), .v (i64 p.fr), .v (i64 p.boot), .v (i64 p.to), .v (i64 p.tb), .v (i64 p.ep), .v (i64 p.te), .v (.sl 2 p.hn (p.hs.map linkA)), .v (.sl 2 p.xn (p.xs.map linkA)), .v (.sl 3 p.ln (p.ls.map lsaA))]) := ⟨_, Prod.ext rfl o2⟩
    rw [o2] at f2
    obtain ⟨g3, o3⟩ : ∃ g, m.objs (.tmp 3 0) = (g, .box [.v (i64 q.kind), .v (i64 q.fr), .v (i64 q.boot), .v (i64 q.to), .v (i64 q.tb), .v (i64 q.ep), .v (i64 q.te), .v (.sl 2 q.hn (q.hs.map linkA)), .v (.sl 2 q.xn (q.xs.map linkA)), .v (.sl 3 q.ln (q.ls.map lsaA))]) := ⟨_, Prod.ext rfl o3⟩
    rw [o3] at f3
    refine AW.seq ?_
    refine AW.sr (cfg := cfg) ?_
    iterate 1 (apply aops_step (by decide) rfl; · (intro K hK; simp (disch := first | omega | decide) only [go_sem, f2, f3, f6, o2, o3]; exact hK _))
    refine aops_fl (by decide) (by decide) fo28_8 ti25 (by simp (disch := first | omega | decide) only [go_sem, f2, f3, f6, o2, o3]; rfl) (by simp (disch := first | omega | decide) only [go_sem, f2, f3, f6, o2, o3]; rfl) (by rfl) ?_
    iterate 2 (apply aops_step (by decide) rfl; · (intro K hK; simp (disch := first | omega | decide) only [go_sem, f2, f3, f6, o2, o3, List.map, List.length_map, aops_len u25]; exact hK _))
    refine aops_nil ?_
    apply AW.cond
    ·(simp only [go_sem, f2, f3, f6, o2, o3]; rfl)
    case ht => intro hb; (simp at hb; done)
    case hf =>
    intro hb
    have hbt94 := hb
    refine AW.exit ?_
    refine AW.seq ?_
    have hx0 : p.xs = q.xs := rows_eq h7.2.2 mo0
    refine AW.region (cfg := cfg) ?_
    refine aops_fl (by decide) (by decide) fo28_9 ti26 (by simp (disch := first | omega | decide) only [go_sem, f2, f3, f6, o2, o3]; rfl) (by simp (disch := first | omega | decide) only [go_sem, f2, f3, f6, o2, o3]; rfl) (by rfl) ?_
    refine aops_fl (by decide) (by decide) fo28_9 ti26 (by simp (disch := first | omega | decide) only [go_sem, f2, f3, f6, o2, o3]; rfl) (by simp (disch := first | omega | decide) only [go_sem, f2, f3, f6, o2, o3]; rfl) (by rfl) ?_
    apply aops_step (by decide) rfl
    ·intro K hK
     simp (disch := first | omega | decide) only [go_sem, f2, f3, f6, o2, o3, act_call, List.map]
     apply mwp_call_s rfl rfl rfl
     ·intro Q hQ
      (simp (disch := first | omega | decide) only [go_sem, f2, f3, f6, o2, o3, peekL, reifyL_nil, reifyL_cons, reify_v]; (exact hQ))
     ·exact good_refAllL _ _ _ _ (by omega) (by omega) (by assumption) (by assumption)
     ·simp [-List.map_take, -List.map_drop, -List.map_append, -List.map_replicate, -List.reduceReplicate, noPtrL, noPtr, noPtrL_bsl, noPtrL_map, sub]
     ·rfl
     ·exact hK _
    iterate 1 (apply aops_step (by decide) rfl; · (intro K hK; simp (disch := first | omega | decide) only [go_sem, f2, f3, f6, o2, o3]; exact hK _))
    refine aops_nil ?_
    refine AW.ret ?_
    refine ⟨.inr rfl, ?_⟩
    refine leaves_tmp1 4 rfl ?_ (by exact hG)
    simp (disch := first | omega | decide) only [go_sem, f2, f3, f6, o2, o3]
    all_goals (rw [eq_fin h7.1 hh0 hx0]; done)
end Go.Vai.P
