import Derived.Test.YtblgcekomnnfmaagPkt11
import Derived.Test.YtblgcekomnnfmaagTurn
import Derived.Test.YtblgcekomnnfmaaChkT
namespace Go.Vai.P
open Go.Proofs Go.Vai Go.Vai.G Go.Vai.L Go.Vai.O Go.Vai.U Go.Vai.Z
set_option linter.unusedSimpArgs false
set_option linter.unusedVariables false

open Go.Vai.Z (sealS okO okV body seal_open sealS_len ckB ckB_len)
open Go.Vai.U (refS ofS ref_of turnS turnedS turned_told turnS_length)
theorem ckB_inj {x y : BitVec 32} (h : ckB x = ckB y) : x = y := by
  have hx := x.isLt
  have hy := y.isLt
  simp only [ckB, List.cons.injEq, and_true] at h
  obtain ⟨h1, h2, h3, h4⟩ := h
  have e : ∀ {k : Nat}, (x >>> k).setWidth 8 = (y >>> k).setWidth 8 → x.toNat / 2 ^ k % 256 = y.toNat / 2 ^ k % 256 := fun {k} h => by
    have := congrArg BitVec.toNat h
    simpa [Nat.shiftRight_eq_div_pow] using this
  have e1 := e h1
  have e2 := e h2
  have e3 := e h3
  have e4 := congrArg BitVec.toNat h4
  simp at e4
  apply BitVec.eq_of_toNat_eq
  simp only [Nat.reducePow] at e1 e2 e3
  omega
theorem turnS_app (a b : List (BitVec 8)) (s : Nat) (X : BitVec 32) : ∀ m, s + m ≤ 8 * a.length → turnS (a ++ b) s X m = turnS a s X m ++ b
  | 0, _ => rfl
  | m + 1, h => by
    have ih := turnS_app a b s X m (by omega)
    have hl := turnS_length a s X m
    have hi : (s + m) / 8 < (turnS a s X m).length := by omega
    simp only [turnS, ih]
    split
    · rw [List.set_append_left _ _ hi]
      congr 2
      simp [List.getD_eq_getElem?_getD, List.getElem?_append_left hi]
    · rfl
theorem turnS_none (l : List (BitVec 8)) (s : Nat) (X : BitVec 32) : ∀ m, turnedS X m = false → turnS l s X m = l
  | 0, _ => rfl
  | m + 1, h => by
    simp only [turnedS, Bool.or_eq_false_iff] at h
    simp only [turnS, h.2, turnS_none l s X m h.1]; rfl
theorem seal_turn {i : List (BitVec 8)} (s : Nat) (X : BitVec 32) {m : Nat} (hm : m ≤ 32) (hs : s + m ≤ 8 * i.length) : turnedS X m = true → okO (turnS (sealS i) s X m) = false := fun ht => by
  have e : turnS (sealS i) s X m = turnS i s X m ++ ckB (refS i) := turnS_app i _ s X m hs
  have hl := turnS_length i s X m
  rw [e, okO]
  have hb : body (turnS i s X m ++ ckB (refS i)) = turnS i s X m := by
    rw [body, List.length_append, ckB_len, Nat.add_sub_cancel, List.take_left' rfl]
  have hd : (turnS i s X m ++ ckB (refS i)).drop ((turnS i s X m ++ ckB (refS i)).length - 4) = ckB (refS i) := by
    rw [List.length_append, ckB_len, Nat.add_sub_cancel, List.drop_left' rfl]
  rw [hb, hd]
  have ht2 := turned_told false false i s X m hm hs
  rw [ht, decide_eq_true_eq, ← ref_of, ← ref_of] at ht2
  have : decide (ckB (refS (turnS i s X m)) = ckB (refS i)) = false := decide_eq_false fun h => ht2 (ckB_inj h).symm
  rw [this, Bool.and_false]
theorem pkt_turn {p : Pkt} (h : pktOK p = true) (s : Nat) (X : BitVec 32) {m : Nat} (hm : m ≤ 32) (hs : s + m ≤ 8 * (pktB p).length) : decide (pkR (turnS (pktS p) s X m) = 2) = turnedS X m := by
  cases ht : turnedS X m with
  | false =>
    rw [turnS_none _ _ _ _ ht, (pk_get h).2.2]; rfl
  | true =>
    have hg := seal_turn (i := pktB p) s X hm hs ht
    rw [← (ps_ok h).1] at hg
    have : pkOK (turnS (pktS p) s X m) = false := by rw [pkOK, hg, Bool.false_and]
    rw [(pk_not this).2]; rfl
set_option maxHeartbeats 4000000 in
set_option maxRecDepth 100000 in
theorem good_PacketTurns (p : Pkt) (hp1 : p.hs.length ≤ 9223372036854775807) (hp2 : p.xs.length ≤ 9223372036854775807) (hp3 : p.ls.length ≤ 9223372036854775807) (hp4 : ∀ x ∈ p.ls, x.ls.length ≤ 9223372036854775807) (y : Int) (X : BitVec 32) (hy : 0 ≤ y ∧ y ≤ 65535) : Good Try.prog 4 [(pktA p, false), (.i .u16 y, false), (u32 X, false)] [] [(.b true, false)] [] := by
 refine good_of_body4 91 Try.func4 rfl rfl rfl (by simp) (by simp) (by simp [noPtrL, noPtr]) (by rfl) ?_
 intro s m ha hr hv hG
 have f0 : s 0 = .v (.agg [i64 p.kind, i64 p.fr, i64 p.boot, i64 p.to, i64 p.tb, i64 p.ep, i64 p.te, .sl 2 p.hn (p.hs.map linkA), .sl 2 p.xn (p.xs.map linkA), .sl 3 p.ln (p.ls.map lsaA)]) := ha 0 _ rfl
 have f1 : s 1 = .v (.i .u16 y) := ha 1 _ rfl
 have f2 : s 2 = .v (u32 X) := ha 2 _ rfl
 clear ha
 refine AW.sr (cfg := cfg) ?_
 apply aops_step (by decide) rfl
 ·intro K hK
  simp (disch := first | omega | decide) only [go_sem, f0, f1, f2, act_box_t ti28, List.map, U.two32, U.shr_bit, U.told_toNat, Int.reduceToNat]
  rw [settleL_vish _ _ (by rfl)]
  simp (disch := first | omega | decide) only [go_sem, f0, f1, f2, cellsL, List.map, List.length_cons, List.length_nil, Nat.reduceAdd, if_true, U.two32, U.shr_bit, U.told_toNat, Int.reduceToNat]
  exact hK _
 iterate 1 (apply aops_step (by decide) rfl; · (intro K hK; simp (disch := first | omega | decide) only [go_sem, f0, f1, f2, U.two32, U.shr_bit, U.told_toNat, Int.reduceToNat]; exact hK _))
 refine aops_nil ?_
 refine AW.seq ?_
 refine AW.sr (cfg := cfg) ?_
 apply aops_step (by decide) rfl
 ·intro K hK
  simp (disch := first | omega | decide) only [go_sem, f0, f1, f2, act_load_t ti28, List.map, U.two32, U.shr_bit, U.told_toNat, Int.reduceToNat]
  rw [mwp_load_bs (by simp (disch := first | omega | decide) only [go_sem, f0, f1, f2, U.two32, U.shr_bit, U.told_toNat, Int.reduceToNat]; rfl) (by simp [setAt])]
  exact hK _
 apply aops_step (by decide) rfl
 ·intro K hK
  simp (disch := first | omega | decide) only [go_sem, f0, f1, f2, act_call, List.map, U.two32, U.shr_bit, U.told_toNat, Int.reduceToNat]
  apply mwp_call_s rfl rfl rfl
  ·intro Q hQ
   (simp (disch := first | omega | decide) only [go_sem, f0, f1, f2, peekL, reifyL_nil, reifyL_cons, reify_v, U.two32, U.shr_bit, U.told_toNat, Int.reduceToNat]; (exact hQ))
  ·exact good_LightK p (by omega) (by omega) (by omega) (by assumption)
  ·simp [-List.map_take, -List.map_drop, -List.map_append, -List.map_replicate, -List.reduceReplicate, noPtrL, noPtr, noPtrL_bsl, noPtrL_map, sub]
  ·rfl
  ·exact hK _
 iterate 2 (apply aops_step (by decide) rfl; · (intro K hK; simp (disch := first | omega | decide) only [go_sem, f0, f1, f2, U.two32, U.shr_bit, U.told_toNat, Int.reduceToNat]; exact hK _))
 apply aops_merge' (by decide) (by exact want_of (d := 19) rfl (by simp only [go_sem, f0, f1, f2, opn_cond, U.two32, U.shr_bit, U.told_toNat, Int.reduceToNat]; rfl))
 ·intro hc K hK
  simp (disch := first | omega | decide) only [go_sem, f0, f1, f2, opn_cond, hc, if_true, act_load_t ti28, U.two32, U.shr_bit, U.told_toNat, Int.reduceToNat]
  rw [mwp_load_bs (by simp (disch := first | omega | decide) only [go_sem, f0, f1, f2, opn_cond, hc, if_true, U.two32, U.shr_bit, U.told_toNat, Int.reduceToNat]; rfl) (by simp [setAt])]
  exact hK _
 apply aops_merge' (by decide) (by exact want_of (d := 19) rfl (by simp (disch := first | omega | decide) only [go_sem, f0, f1, f2, opn_cond, U.two32, U.shr_bit, U.told_toNat, Int.reduceToNat]; rfl))
 ·intro hc K hK
  have hc2 := hc
  simp only [beq_iff_eq, decide_eq_true_eq, decide_eq_false_iff_not, Bool.or_eq_true, Bool.and_eq_true, Bool.or_eq_false_iff, Bool.and_eq_false_iff] at hc2
  simp (disch := first | omega | decide) only [go_sem, f0, f1, f2, opn_cond, hc, if_true, act_call, List.map, U.two32, U.shr_bit, U.told_toNat, Int.reduceToNat]
  apply mwp_call_s rfl rfl rfl
  ·intro Q hQ
   (simp (disch := first | omega | decide) only [go_sem, f0, f1, f2, opn_cond, hc, if_true, peekL, reifyL_nil, reifyL_cons, reify_v, U.two32, U.shr_bit, U.told_toNat, Int.reduceToNat]; (exact hQ))
  ·exact good_refMay14 p (by omega) (by omega) (by omega) (by assumption)
  ·simp [-List.map_take, -List.map_drop, -List.map_append, -List.map_replicate, -List.reduceReplicate, noPtrL, noPtr, noPtrL_bsl, noPtrL_map, sub]
  ·rfl
  ·exact hK _
 apply aops_merge' (by decide) (by exact want_of (d := 19) rfl (by simp (disch := first | omega | decide) only [go_sem, f0, f1, f2, opn_cond, U.two32, U.shr_bit, U.told_toNat, Int.reduceToNat]; rfl))
 ·intro hc K hK
  simp (disch := first | omega | decide) only [go_sem, f0, f1, f2, opn_cond, hc, if_true, U.two32, U.shr_bit, U.told_toNat, Int.reduceToNat]
  exact hK _
 iterate 1 (apply aops_step (by decide) rfl; · (intro K hK; simp (disch := first | omega | decide) only [go_sem, f0, f1, f2, U.two32, U.shr_bit, U.told_toNat, Int.reduceToNat]; exact hK _))
 refine aops_nil ?_
 apply AW.cond
 ·(simp only [go_sem, f0, f1, f2, U.two32, U.shr_bit, U.told_toNat, Int.reduceToNat]; rfl)
 case ht =>
  intro hb
  try simp only [bo1, bo2, bo3, bo4, bo5, bo6] at hb
  have hbt23 := hb
  refine AW.sr (cfg := cfg) ?_
  apply aops_step (by decide) rfl
  ·intro K hK
   simp (disch := first | omega | decide) only [go_sem, f0, f1, f2, act_call, List.map, U.two32, U.shr_bit, U.told_toNat, Int.reduceToNat]
   apply mwp_call_s rfl rfl rfl
   ·intro Q hQ
    (simp (disch := first | omega | decide) only [go_sem, f0, f1, f2, peekL, reifyL_nil, reifyL_cons, reify_v, U.two32, U.shr_bit, U.told_toNat, Int.reduceToNat]; (exact hQ))
   ·exact good_awake
   ·simp [-List.map_take, -List.map_drop, -List.map_append, -List.map_replicate, -List.reduceReplicate, noPtrL, noPtr, noPtrL_bsl, noPtrL_map, sub]
   ·rfl
   ·exact hK _
  iterate 1 (apply aops_step (by decide) rfl; · (intro K hK; simp (disch := first | omega | decide) only [go_sem, f0, f1, f2, U.two32, U.shr_bit, U.told_toNat, Int.reduceToNat]; exact hK _))
  refine aops_nil ?_
  refine AW.ret ?_
  refine ⟨.inr rfl, ?_⟩
  apply Exists.intro
  refine leaves_tmp1 6 rfl ?_ (by rfl)
  simp (disch := first | omega | decide) only [go_sem, f0, f1, f2, U.two32, U.shr_bit, U.told_toNat, Int.reduceToNat]
  all_goals first | done | rfl | trace_state
 case hf =>
  intro hb
  try simp only [bo1, bo2, bo3, bo4, bo5, bo6] at hb
  have hbt23 := hb
  refine AW.skip ?_
  refine AW.seq ?_
  have hok : pktOK p = true := by simpa using hbt23.2
  obtain ⟨e4, e5⟩ := ps_ok hok
  have pl := ps_len2 hok
  have pl2 : (((pktS p).length : Nat) : Int) = ((pktB p).length : Int) + 4 := by omega
  have pl3 : ((pktB p).length : Int) + 4 - 4 = ((pktB p).length : Int) := by omega
  have pk : (!pktOK p) = false := by rw [hok]; rfl
  have pb := pktB_len hok
  refine AW.region (cfg := cfg) ?_
  apply aops_step (by decide) rfl
  ·intro K hK
   simp (disch := first | omega | decide) only [go_sem, f0, f1, f2, e5, pl2, pl3, pk, act_load_t ti28, List.map, U.two32, U.shr_bit, U.told_toNat, Int.reduceToNat]
   rw [mwp_load_bs (by simp (disch := first | omega | decide) only [go_sem, f0, f1, f2, e5, pl2, pl3, pk, U.two32, U.shr_bit, U.told_toNat, Int.reduceToNat]; rfl) (by simp [setAt])]
   exact hK _
  apply aops_step (by decide) rfl
  ·intro K hK
   simp (disch := first | omega | decide) only [go_sem, f0, f1, f2, e5, pl2, pl3, pk, act_call, List.map, U.two32, U.shr_bit, U.told_toNat, Int.reduceToNat]
   apply mwp_call_r rfl rfl rfl
   ·intro Q hQ
    (simp (disch := first | omega | decide) only [go_sem, f0, f1, f2, e5, pl2, pl3, pk, peekL, reifyL_nil, reifyL_cons, reify_v, U.two32, U.shr_bit, U.told_toNat, Int.reduceToNat]; (exact hQ))
   ·exact good_PutK p (by omega) (by omega) (by omega) (by assumption)
   ·simp [-List.map_take, -List.map_drop, -List.map_append, -List.map_replicate, -List.reduceReplicate, noPtrL, noPtr, noPtrL_bsl, noPtrL_map, sub]
   ·rw [resOf_own2 (by (simp (disch := decide) only [mset_ne, hr]; done))]
    exact hK _
  iterate 3 (apply aops_step (by decide) rfl; · (intro K hK; simp (disch := first | omega | decide) only [go_sem, f0, f1, f2, e5, pl2, pl3, pk, U.two32, U.shr_bit, U.told_toNat, Int.reduceToNat]; exact hK _))
  apply aops_step (by decide) rfl
  ·intro K hK
   simp (disch := first | omega | decide) only [go_sem, f0, f1, f2, e5, pl2, pl3, pk, U.two32, U.shr_bit, U.told_toNat, Int.reduceToNat]
   rw [asg_tmp (by simp (disch := first | omega | decide) only [go_sem, f0, f1, f2, e5, pl2, pl3, pk, U.two32, U.shr_bit, U.told_toNat, Int.reduceToNat]; rfl)]
   exact hK _
  iterate 1 (apply aops_step (by decide) rfl; · (intro K hK; simp (disch := first | omega | decide) only [go_sem, f0, f1, f2, e5, pl2, pl3, pk, U.two32, U.shr_bit, U.told_toNat, Int.reduceToNat]; exact hK _))
  refine aops_nil ?_
  refine AW.seq ?_
  refine AW.sr (cfg := cfg) ?_
  iterate 4 (apply aops_step (by decide) rfl; · (intro K hK; simp (disch := first | omega | decide) only [go_sem, f0, f1, f2, e5, pl2, pl3, pk, U.two32, U.shr_bit, U.told_toNat, Int.reduceToNat]; exact hK _))
  apply aops_step (by decide) rfl
  ·intro K hK
   simp (disch := first | omega | decide) only [go_sem, f0, f1, f2, e5, pl2, pl3, pk, List.map, List.length_map, aops_len u22, U.two32, U.shr_bit, U.told_toNat, Int.reduceToNat]
   ((rw [mwp_len_own u22 (by simp (disch := first | omega | decide) only [go_sem, f0, f1, f2, e5, pl2, pl3, pk, List.map, U.two32, U.shr_bit, U.told_toNat, Int.reduceToNat]; rfl)]); (try rw [sub_full (by (simp only [List.length_map, List.length_replicate]; done))]); (try simp only [List.length_map]); exact hK _)
  iterate 2 (apply aops_step (by decide) rfl; · (intro K hK; simp (disch := first | omega | decide) only [go_sem, f0, f1, f2, e5, pl2, pl3, pk, U.two32, U.shr_bit, U.told_toNat, Int.reduceToNat]; exact hK _))
  refine aops_nil ?_
  apply AW.cond
  ·(simp only [go_sem, f0, f1, f2, e5, pl2, pl3, pk, U.two32, U.shr_bit, U.told_toNat, Int.reduceToNat]; rfl)
  case ht => intro hb; exfalso; simp at hb; omega
  case hf =>
  intro hb
  have hbt36 := hb
  refine AW.skip ?_
  refine AW.sr (cfg := cfg) ?_
  iterate 1 (apply aops_step (by decide) rfl; · (intro K hK; simp (disch := first | omega | decide) only [go_sem, f0, f1, f2, e5, pl2, pl3, pk, U.two32, U.shr_bit, U.told_toNat, Int.reduceToNat]; exact hK _))
  apply aops_step (by decide) rfl
  ·intro K hK
   simp (disch := first | omega | decide) only [go_sem, f0, f1, f2, e5, pl2, pl3, pk, List.map, List.length_map, aops_len u22, U.two32, U.shr_bit, U.told_toNat, Int.reduceToNat]
   ((rw [mwp_len_own u22 (by simp (disch := first | omega | decide) only [go_sem, f0, f1, f2, e5, pl2, pl3, pk, List.map, U.two32, U.shr_bit, U.told_toNat, Int.reduceToNat]; rfl)]); (try rw [sub_full (by (simp only [List.length_map, List.length_replicate]; done))]); (try simp only [List.length_map]); exact hK _)
  iterate 3 (apply aops_step (by decide) rfl; · (intro K hK; simp (disch := first | omega | decide) only [go_sem, f0, f1, f2, e5, pl2, pl3, pk, U.two32, U.shr_bit, U.told_toNat, Int.reduceToNat]; exact hK _))
  refine aops_nil ?_
  refine AW.seq ?_
  obtain ⟨s0, es⟩ : ∃ s : Nat, y % (8 * ((pktB p).length : Int)) = (s : Int) := ⟨(y % (8 * ((pktB p).length : Int))).toNat, by have := Int.emod_nonneg y (show 8 * ((pktB p).length : Int) ≠ 0 by omega); omega⟩
  have hs : (s0 : Int) < 8 * ((pktB p).length : Int) := by (rw [← es]; exact Int.emod_lt_of_pos y (by omega))
  refine AW.region (cfg := cfg) ?_
  iterate 5 (apply aops_step (by decide) rfl; · (intro K hK; simp (disch := first | omega | decide) only [go_sem, f0, f1, f2, e5, pl2, pl3, pk, es, act_convI u39 u3, U.two32, U.shr_bit, U.told_toNat, Int.reduceToNat]; exact hK _))
  refine aops_nil ?_
  refine AW.seq ?_
  have pt := pkt_turn hok s0 X (m := min 32 (8 * (pktB p).length - s0)) (by omega) (by omega)
  refine AW.region (cfg := cfg) ?_
  iterate 1 (apply aops_step (by decide) rfl; · (intro K hK; simp (disch := first | omega | decide) only [go_sem, f0, f1, f2, e5, pl2, pl3, pk, es, pt, U.two32, U.shr_bit, U.told_toNat, Int.reduceToNat]; exact hK _))
  refine aops_nil ?_
  refine AW.seq ?_
  refine AW.sr (cfg := cfg) ?_
  iterate 1 (apply aops_step (by decide) rfl; · (intro K hK; simp (disch := first | omega | decide) only [go_sem, f0, f1, f2, e5, pl2, pl3, pk, es, pt, U.two32, U.shr_bit, U.told_toNat, Int.reduceToNat]; exact hK _))
  refine aops_nil ?_
  refine AW.block ?_
  refine AW.forN (fun k σ => ∃ s m, σ = ⟨91, s, m⟩ ∧ s 2 = .v (u32 X) ∧ s 7 = .own (.var 7) (m.objs (.var 7)).1 0 ((pktB p).length + 4) ∧ (m.objs (.var 7)).2 = .arr false 1 (bsl (turnS (pktS p) s0 X k)) ∧ s 9 = .v (i64 (8 * ((pktB p).length : Int))) ∧ s 10 = .v (i64 (s0 : Int)) ∧ s 11 = .v (.b (turnedS X k)) ∧ s 12 = .v (i64 (k : Int)) ∧ (∀ i, (m.objs (.res i)).2 = .dead) ∧ m.G = []) (min 32 (8 * (pktB p).length - s0)) ?_ ?_ ?_
  ·refine ⟨_, _, rfl, ?_, ?_, ?_, ?_, ?_, ?_, ?_, (by intro i; simp [Mem.set, hr]), (by exact hG)⟩ <;> try simp (disch := first | omega | decide) only [go_sem, f0, f1, f2, e5, pl2, pl3, pk, es, pt, U.two32, U.shr_bit, U.told_toNat, Int.reduceToNat]
   all_goals first | rfl | (simp [pl]; done)
  ·clear f0 f1 f2 hr hG
   rintro k σ hk ⟨s, m, rfl, f2, f7, o7, f9, f10, f11, f12, hr, hG⟩
   obtain ⟨g7, o7⟩ : ∃ g, m.objs (.var 7) = (g, .arr false 1 (bsl (turnS (pktS p) s0 X k))) := ⟨_, Prod.ext rfl o7⟩
   rw [o7] at f7
   refine AW.seq ?_
   refine AW.sr (cfg := cfg) ?_
   iterate 3 (apply aops_step (by decide) rfl; · (intro K hK; simp (disch := first | omega | decide) only [go_sem, f2, f7, f9, f10, f11, f12, o7, e5, pl2, pl3, pk, es, pt, U.two32, U.shr_bit, U.told_toNat, Int.reduceToNat]; exact hK _))
   apply aops_merge' (by decide) (by exact want_of (d := 47) rfl (by simp only [go_sem, f2, f7, f9, f10, f11, f12, o7, e5, pl2, pl3, pk, es, pt, opn_cond, U.two32, U.shr_bit, U.told_toNat, Int.reduceToNat]; rfl))
   ·intro hc K hK
    simp (disch := first | omega | decide) only [go_sem, f2, f7, f9, f10, f11, f12, o7, e5, pl2, pl3, pk, es, pt, opn_cond, hc, if_true, U.two32, U.shr_bit, U.told_toNat, Int.reduceToNat]
    exact hK _
   apply aops_merge' (by decide) (by exact want_of (d := 47) rfl (by simp (disch := first | omega | decide) only [go_sem, f2, f7, f9, f10, f11, f12, o7, e5, pl2, pl3, pk, es, pt, opn_cond, U.two32, U.shr_bit, U.told_toNat, Int.reduceToNat]; rfl))
   ·intro hc K hK
    simp (disch := first | omega | decide) only [go_sem, f2, f7, f9, f10, f11, f12, o7, e5, pl2, pl3, pk, es, pt, opn_cond, hc, if_true, U.two32, U.shr_bit, U.told_toNat, Int.reduceToNat]
    exact hK _
   apply aops_merge' (by decide) (by exact want_of (d := 47) rfl (by simp (disch := first | omega | decide) only [go_sem, f2, f7, f9, f10, f11, f12, o7, e5, pl2, pl3, pk, es, pt, opn_cond, U.two32, U.shr_bit, U.told_toNat, Int.reduceToNat]; rfl))
   ·intro hc K hK
    have hc2 := hc
    simp only [beq_iff_eq, decide_eq_true_eq, decide_eq_false_iff_not, Bool.or_eq_true, Bool.and_eq_true, Bool.or_eq_false_iff, Bool.and_eq_false_iff] at hc2
    simp (disch := first | omega | decide) only [go_sem, f2, f7, f9, f10, f11, f12, o7, e5, pl2, pl3, pk, es, pt, opn_cond, hc, if_true, U.two32, U.shr_bit, U.told_toNat, Int.reduceToNat]
    exact hK _
   apply aops_merge' (by decide) (by exact want_of (d := 47) rfl (by simp (disch := first | omega | decide) only [go_sem, f2, f7, f9, f10, f11, f12, o7, e5, pl2, pl3, pk, es, pt, opn_cond, U.two32, U.shr_bit, U.told_toNat, Int.reduceToNat]; rfl))
   ·intro hc K hK
    simp (disch := first | omega | decide) only [go_sem, f2, f7, f9, f10, f11, f12, o7, e5, pl2, pl3, pk, es, pt, opn_cond, hc, if_true, U.two32, U.shr_bit, U.told_toNat, Int.reduceToNat]
    exact hK _
   apply aops_merge' (by decide) (by exact want_of (d := 47) rfl (by simp (disch := first | omega | decide) only [go_sem, f2, f7, f9, f10, f11, f12, o7, e5, pl2, pl3, pk, es, pt, opn_cond, U.two32, U.shr_bit, U.told_toNat, Int.reduceToNat]; rfl))
   ·intro hc K hK
    simp (disch := first | omega | decide) only [go_sem, f2, f7, f9, f10, f11, f12, o7, e5, pl2, pl3, pk, es, pt, opn_cond, hc, if_true, U.two32, U.shr_bit, U.told_toNat, Int.reduceToNat]
    exact hK _
   iterate 1 (apply aops_step (by decide) rfl; · (intro K hK; simp (disch := first | omega | decide) only [go_sem, f2, f7, f9, f10, f11, f12, o7, e5, pl2, pl3, pk, es, pt, U.two32, U.shr_bit, U.told_toNat, Int.reduceToNat]; exact hK _))
   refine aops_nil ?_
   apply AW.cond
   ·(simp only [go_sem, f2, f7, f9, f10, f11, f12, o7, e5, pl2, pl3, pk, es, pt, U.two32, U.shr_bit, U.told_toNat, Int.reduceToNat]; rfl)
   case hf => intro hb; (simp at hb; omega)
   case ht =>
   intro hb
   have hbt53 := hb
   refine AW.skip ?_
   refine AW.seq ?_
   refine AW.block ?_
   refine AW.sr (cfg := cfg) ?_
   iterate 6 (apply aops_step (by decide) rfl; · (intro K hK; simp (disch := first | omega | decide) only [go_sem, f2, f7, f9, f10, f11, f12, o7, e5, pl2, pl3, pk, es, pt, act_convI u3 u42, U.two32, U.shr_bit, U.told_toNat, Int.reduceToNat]; exact hK _))
   refine aops_nil ?_
   apply AW.cond
   ·(simp only [go_sem, f2, f7, f9, f10, f11, f12, o7, e5, pl2, pl3, pk, es, pt, U.two32, U.shr_bit, U.told_toNat, Int.reduceToNat]; rfl)
   case ht =>
    intro hb
    try simp only [bo1, bo2, bo3, bo4, bo5, bo6] at hb
    have hbt61 := hb
    refine AW.sr (cfg := cfg) ?_
    iterate 4 (apply aops_step (by decide) rfl; · (intro K hK; simp (disch := first | omega | decide) only [go_sem, f2, f7, f9, f10, f11, f12, o7, e5, pl2, pl3, pk, es, pt, U.two32, U.shr_bit, U.told_toNat, Int.reduceToNat]; exact hK _))
    refine aops_nil ?_
    refine AW.sr (cfg := cfg) ?_
    iterate 6 (apply aops_step (by decide) rfl; · (intro K hK; simp (disch := first | omega | decide) only [go_sem, f2, f7, f9, f10, f11, f12, o7, e5, pl2, pl3, pk, es, pt, U.two32, U.shr_bit, U.told_toNat, Int.reduceToNat]; exact hK _))
    apply aops_step (by decide) rfl
    ·intro K hK
     simp (disch := first | omega | decide) only [go_sem, f2, f7, f9, f10, f11, f12, o7, e5, pl2, pl3, pk, es, pt, act_indexAddr_s u22 ti5, List.map, U.two32, U.shr_bit, U.told_toNat, Int.reduceToNat]
     rw [mwp_aIndex_own (by simp (disch := first | omega | decide) only [go_sem, f2, f7, f9, f10, f11, f12, o7, e5, pl2, pl3, pk, es, pt, U.two32, U.shr_bit, U.told_toNat, Int.reduceToNat]; rfl) (by omega) (by omega)]
     exact hK _
    apply aops_step (by decide) rfl
    ·intro K hK
     simp (disch := first | omega | decide) only [go_sem, f2, f7, f9, f10, f11, f12, o7, e5, pl2, pl3, pk, es, pt, act_load_t ti5, List.map, U.two32, U.shr_bit, U.told_toNat, Int.reduceToNat]
     rw [mwp_aLoad_map (by simp (disch := first | omega | decide) only [go_sem, f2, f7, f9, f10, f11, f12, o7, e5, pl2, pl3, pk, es, pt, U.two32, U.shr_bit, U.told_toNat, Int.reduceToNat]; rfl) (by (simp [turnS_length]; omega)) (fun _ => rfl)]
     exact hK _
    iterate 5 (apply aops_step (by decide) rfl; · (intro K hK; simp (disch := first | omega | decide) only [go_sem, f2, f7, f9, f10, f11, f12, o7, e5, pl2, pl3, pk, es, pt, act_convI u3 u42, U.two32, U.shr_bit, U.told_toNat, Int.reduceToNat]; exact hK _))
    apply aops_step (by decide) rfl
    ·intro K hK
     simp (disch := first | omega | decide) only [go_sem, f2, f7, f9, f10, f11, f12, o7, e5, pl2, pl3, pk, es, pt, act_indexAddr_s u22 ti5, List.map, U.two32, U.shr_bit, U.told_toNat, Int.reduceToNat]
     rw [mwp_aIndex_own (by simp (disch := first | omega | decide) only [go_sem, f2, f7, f9, f10, f11, f12, o7, e5, pl2, pl3, pk, es, pt, U.two32, U.shr_bit, U.told_toNat, Int.reduceToNat]; rfl) (by omega) (by omega)]
     exact hK _
    apply aops_step0 rfl
    ·intro K hK
     simp (disch := first | omega | decide) only [go_sem, f2, f7, f9, f10, f11, f12, o7, e5, pl2, pl3, pk, es, pt, act_store_t ti5, List.map, U.two32, U.shr_bit, U.told_toNat, Int.reduceToNat]
     rw [mwp_aStore_map (by simp (disch := first | omega | decide) only [go_sem, f2, f7, f9, f10, f11, f12, o7, e5, pl2, pl3, pk, es, pt, U.two32, U.shr_bit, U.told_toNat, Int.reduceToNat]; rfl) (by (simp [turnS_length]; omega)) (fun _ => rfl) rfl rfl (fun _ => rfl)]
     try simp only [setAt, cellsL, cellsOf_agg, cellsOf_base, List.map_cons, List.map_nil, List.set_cons_zero, List.set_cons_succ, Nat.reduceAdd, Nat.zero_add, hG]
     exact hK _
    refine aops_nil ?_
    refine AW.region (cfg := cfg) ?_
    iterate 1 (apply aops_step (by decide) rfl; · (intro K hK; simp (disch := first | omega | decide) only [go_sem, f2, f7, f9, f10, f11, f12, o7, e5, pl2, pl3, pk, es, pt, U.two32, U.shr_bit, U.told_toNat, Int.reduceToNat]; exact hK _))
    refine aops_nil ?_
    refine AW.region (cfg := cfg) ?_
    iterate 3 (apply aops_step (by decide) rfl; · (intro K hK; simp (disch := first | omega | decide) only [go_sem, f2, f7, f9, f10, f11, f12, o7, e5, pl2, pl3, pk, es, pt, U.two32, U.shr_bit, U.told_toNat, Int.reduceToNat]; exact hK _))
    refine aops_nil ?_
    refine ⟨_, _, rfl, ?_, ?_, ?_, ?_, ?_, ?_, ?_, (by intro i; simp [Mem.set, hr]), (by exact hG)⟩ <;> try simp (disch := first | omega | decide) only [go_sem, f2, f7, f9, f10, f11, f12, o7, e5, pl2, pl3, pk, es, pt, U.two32, U.shr_bit, U.told_toNat, Int.reduceToNat]
    all_goals first | rfl | (simp [turnedS, turnS, hb]; done) | skip
    all_goals (have e1 : (((s0 : Int) + (k : Int)) / 8).toNat = (s0 + k) / 8 := by omega)
    all_goals (have e2 : (((s0 : Int) + (k : Int)) % 8).toNat = (s0 + k) % 8 := by omega)
    all_goals (simp only [turnS, hb, if_true, e1, e2, List.map_set, List.getD_eq_getElem?_getD, List.getElem?_eq_getElem (show (s0 + k) / 8 < (turnS (pktS p) s0 X k).length by rw [turnS_length, pl]; omega), Option.getD_some]; rfl)
   case hf =>
    intro hb
    try simp only [bo1, bo2, bo3, bo4, bo5, bo6] at hb
    have hbt61 := hb
    refine AW.skip ?_
    refine AW.region (cfg := cfg) ?_
    iterate 3 (apply aops_step (by decide) rfl; · (intro K hK; simp (disch := first | omega | decide) only [go_sem, f2, f7, f9, f10, f11, f12, o7, e5, pl2, pl3, pk, es, pt, U.two32, U.shr_bit, U.told_toNat, Int.reduceToNat]; exact hK _))
    refine aops_nil ?_
    refine ⟨_, _, rfl, ?_, ?_, ?_, ?_, ?_, ?_, ?_, (by intro i; simp [Mem.set, hr]), (by exact hG)⟩ <;> try simp (disch := first | omega | decide) only [go_sem, f2, f7, f9, f10, f11, f12, o7, e5, pl2, pl3, pk, es, pt, U.two32, U.shr_bit, U.told_toNat, Int.reduceToNat]
    all_goals first | rfl | (simp [turnedS, turnS, hb]; done)
    all_goals (have e1 : (((s0 : Int) + (k : Int)) / 8).toNat = (s0 + k) / 8 := by omega)
    all_goals (have e2 : (((s0 : Int) + (k : Int)) % 8).toNat = (s0 + k) % 8 := by omega)
    all_goals first | (simp only [turnS, hb, if_true, e1, e2, List.map_set, List.getD_eq_getElem?_getD, List.getElem?_eq_getElem (show (s0 + k) / 8 < (turnS (pktS p) s0 X k).length by rw [turnS_length, pl]; omega), Option.getD_some]; rfl) | trace_state
  ·clear f0 f1 f2 hr hG
   rintro σ ⟨s, m, rfl, f2, f7, o7, f9, f10, f11, f12, hr, hG⟩
   obtain ⟨g7, o7⟩ : ∃ g, m.objs (.var 7) = (g, .arr false 1 (bsl (turnS (pktS p) s0 X (min 32 (8 * (pktB p).length - s0))))) := ⟨_, Prod.ext rfl o7⟩
   rw [o7] at f7
   refine AW.seq ?_
   refine AW.sr (cfg := cfg) ?_
   iterate 3 (apply aops_step (by decide) rfl; · (intro K hK; simp (disch := first | omega | decide) only [go_sem, f2, f7, f9, f10, f11, f12, o7, e5, pl2, pl3, pk, es, pt, U.two32, U.shr_bit, U.told_toNat, Int.reduceToNat]; exact hK _))
   apply aops_merge' (by decide) (by exact want_of (d := 47) rfl (by simp only [go_sem, f2, f7, f9, f10, f11, f12, o7, e5, pl2, pl3, pk, es, pt, opn_cond, U.two32, U.shr_bit, U.told_toNat, Int.reduceToNat]; rfl))
   ·intro hc K hK
    simp (disch := first | omega | decide) only [go_sem, f2, f7, f9, f10, f11, f12, o7, e5, pl2, pl3, pk, es, pt, opn_cond, hc, if_true, U.two32, U.shr_bit, U.told_toNat, Int.reduceToNat]
    exact hK _
   apply aops_merge' (by decide) (by exact want_of (d := 47) rfl (by simp (disch := first | omega | decide) only [go_sem, f2, f7, f9, f10, f11, f12, o7, e5, pl2, pl3, pk, es, pt, opn_cond, U.two32, U.shr_bit, U.told_toNat, Int.reduceToNat]; rfl))
   ·intro hc K hK
    simp (disch := first | omega | decide) only [go_sem, f2, f7, f9, f10, f11, f12, o7, e5, pl2, pl3, pk, es, pt, opn_cond, hc, if_true, U.two32, U.shr_bit, U.told_toNat, Int.reduceToNat]
    exact hK _
   apply aops_merge' (by decide) (by exact want_of (d := 47) rfl (by simp (disch := first | omega | decide) only [go_sem, f2, f7, f9, f10, f11, f12, o7, e5, pl2, pl3, pk, es, pt, opn_cond, U.two32, U.shr_bit, U.told_toNat, Int.reduceToNat]; rfl))
   ·intro hc K hK
    have hc2 := hc
    simp only [beq_iff_eq, decide_eq_true_eq, decide_eq_false_iff_not, Bool.or_eq_true, Bool.and_eq_true, Bool.or_eq_false_iff, Bool.and_eq_false_iff] at hc2
    simp (disch := first | omega | decide) only [go_sem, f2, f7, f9, f10, f11, f12, o7, e5, pl2, pl3, pk, es, pt, opn_cond, hc, if_true, U.two32, U.shr_bit, U.told_toNat, Int.reduceToNat]
    exact hK _
   apply aops_merge' (by decide) (by exact want_of (d := 47) rfl (by simp (disch := first | omega | decide) only [go_sem, f2, f7, f9, f10, f11, f12, o7, e5, pl2, pl3, pk, es, pt, opn_cond, U.two32, U.shr_bit, U.told_toNat, Int.reduceToNat]; rfl))
   ·intro hc K hK
    simp (disch := first | omega | decide) only [go_sem, f2, f7, f9, f10, f11, f12, o7, e5, pl2, pl3, pk, es, pt, opn_cond, hc, if_true, U.two32, U.shr_bit, U.told_toNat, Int.reduceToNat]
    exact hK _
   apply aops_merge' (by decide) (by exact want_of (d := 47) rfl (by simp (disch := first | omega | decide) only [go_sem, f2, f7, f9, f10, f11, f12, o7, e5, pl2, pl3, pk, es, pt, opn_cond, U.two32, U.shr_bit, U.told_toNat, Int.reduceToNat]; rfl))
   ·intro hc K hK
    simp (disch := first | omega | decide) only [go_sem, f2, f7, f9, f10, f11, f12, o7, e5, pl2, pl3, pk, es, pt, opn_cond, hc, if_true, U.two32, U.shr_bit, U.told_toNat, Int.reduceToNat]
    exact hK _
   iterate 1 (apply aops_step (by decide) rfl; · (intro K hK; simp (disch := first | omega | decide) only [go_sem, f2, f7, f9, f10, f11, f12, o7, e5, pl2, pl3, pk, es, pt, U.two32, U.shr_bit, U.told_toNat, Int.reduceToNat]; exact hK _))
   refine aops_nil ?_
   apply AW.cond
   ·(simp only [go_sem, f2, f7, f9, f10, f11, f12, o7, e5, pl2, pl3, pk, es, pt, U.two32, U.shr_bit, U.told_toNat, Int.reduceToNat]; rfl)
   case ht => intro hb; (simp at hb; omega)
   case hf =>
   intro hb
   have hbt53 := hb
   refine AW.exit ?_
   refine AW.sr (cfg := cfg) ?_
   iterate 1 (apply aops_step (by decide) rfl; · (intro K hK; simp (disch := first | omega | decide) only [go_sem, f2, f7, f9, f10, f11, f12, o7, e5, pl2, pl3, pk, es, pt, U.two32, U.shr_bit, U.told_toNat, Int.reduceToNat]; exact hK _))
   apply aops_step (by decide) rfl
   ·intro K hK
    simp (disch := first | omega | decide) only [go_sem, f2, f7, f9, f10, f11, f12, o7, e5, pl2, pl3, pk, es, pt, act_call, List.map, U.two32, U.shr_bit, U.told_toNat, Int.reduceToNat]
    apply mwp_call_r rfl rfl rfl
    ·intro Q hQ
     (simp (disch := first | omega | decide) only [go_sem, f2, f7, f9, f10, f11, f12, o7, e5, pl2, pl3, pk, es, pt, peekL, reifyL_nil, reifyL_cons, reify_v, U.two32, U.shr_bit, U.told_toNat, Int.reduceToNat]; ((((rw [mwp_reify_own (by simp only [go_sem, f2, f7, f9, f10, f11, f12, o7, e5, pl2, pl3, pk, es, pt, peekL, reifyL_nil, reifyL_cons, reify_v, U.two32, U.shr_bit, U.told_toNat, Int.reduceToNat]; rfl)]); (try rw [sub_full (by (simp [turnS_length]; omega))])); exact hQ)))
    ·exact good_GetK false _ (by rw [turnS_length, pl]; omega) (by simp)
    ·simp [-List.map_take, -List.map_drop, -List.map_append, -List.map_replicate, -List.reduceReplicate, noPtrL, noPtr, noPtrL_bsl, noPtrL_map, sub]
    ·simp (disch := first | omega | decide) only [go_sem, f2, f7, f9, f10, f11, f12, o7, e5, pl2, pl3, pk, es, pt, U.two32, U.shr_bit, U.told_toNat, Int.reduceToNat]
     exact hK _
   iterate 3 (apply aops_step (by decide) rfl; · (intro K hK; simp (disch := first | omega | decide) only [go_sem, f2, f7, f9, f10, f11, f12, o7, e5, pl2, pl3, pk, es, pt, U.two32, U.shr_bit, U.told_toNat, Int.reduceToNat]; exact hK _))
   apply aops_step (by decide) rfl
   ·intro K hK
    simp (disch := first | omega | decide) only [go_sem, f2, f7, f9, f10, f11, f12, o7, e5, pl2, pl3, pk, es, pt, act_alloc_t ti28, List.map, U.two32, U.shr_bit, U.told_toNat, Int.reduceToNat]
    exact hK _
   apply aops_step0 rfl
   ·intro K hK
    simp (disch := first | omega | decide) only [go_sem, f2, f7, f9, f10, f11, f12, o7, e5, pl2, pl3, pk, es, pt, act_store_t ti28, List.map, U.two32, U.shr_bit, U.told_toNat, Int.reduceToNat]
    rw [mwp_store_c (by simp (disch := first | omega | decide) only [go_sem, f2, f7, f9, f10, f11, f12, o7, e5, pl2, pl3, pk, es, pt, U.two32, U.shr_bit, U.told_toNat, Int.reduceToNat]; rfl) (by rfl) (by rfl) (by rfl) (by simp)]
    try simp only [setAt, cellsL, cellsOf_agg, cellsOf_base, List.map_cons, List.map_nil, List.set_cons_zero, List.set_cons_succ, Nat.reduceAdd, Nat.zero_add, hG]
    exact hK _
   iterate 1 (apply aops_step (by decide) rfl; · (intro K hK; simp (disch := first | omega | decide) only [go_sem, f2, f7, f9, f10, f11, f12, o7, e5, pl2, pl3, pk, es, pt, U.two32, U.shr_bit, U.told_toNat, Int.reduceToNat]; exact hK _))
   refine aops_nil ?_
   refine AW.sr (cfg := cfg) ?_
   iterate 5 (apply aops_step (by decide) rfl; · (intro K hK; simp (disch := first | omega | decide) only [go_sem, f2, f7, f9, f10, f11, f12, o7, e5, pl2, pl3, pk, es, pt, bin_eql_b u4, U.two32, U.shr_bit, U.told_toNat, Int.reduceToNat]; exact hK _))
   apply aops_merge' (by decide) (by exact want_of (d := 88) rfl (by simp only [go_sem, f2, f7, f9, f10, f11, f12, o7, e5, pl2, pl3, pk, es, pt, opn_cond, U.two32, U.shr_bit, U.told_toNat, Int.reduceToNat]; rfl))
   ·intro hc K hK
    have hc2 := hc
    simp only [beq_iff_eq, decide_eq_true_eq, decide_eq_false_iff_not, Bool.or_eq_true, Bool.and_eq_true, Bool.or_eq_false_iff, Bool.and_eq_false_iff] at hc2
    simp (disch := first | omega | decide) only [go_sem, f2, f7, f9, f10, f11, f12, o7, e5, pl2, pl3, pk, es, pt, opn_cond, hc, if_true, act_call, List.map, U.two32, U.shr_bit, U.told_toNat, Int.reduceToNat]
    apply mwp_call_s rfl rfl rfl
    ·intro Q hQ
     (simp (disch := first | omega | decide) only [go_sem, f2, f7, f9, f10, f11, f12, o7, e5, pl2, pl3, pk, es, pt, opn_cond, hc, if_true, peekL, reifyL_nil, reifyL_cons, reify_v, U.two32, U.shr_bit, U.told_toNat, Int.reduceToNat]; (exact hQ))
    ·exact good_awake
    ·simp [-List.map_take, -List.map_drop, -List.map_append, -List.map_replicate, -List.reduceReplicate, noPtrL, noPtr, noPtrL_bsl, noPtrL_map, sub]
    ·rfl
    ·exact hK _
   iterate 2 (apply aops_step (by decide) rfl; · (intro K hK; simp (disch := first | omega | decide) only [go_sem, f2, f7, f9, f10, f11, f12, o7, e5, pl2, pl3, pk, es, pt, U.two32, U.shr_bit, U.told_toNat, Int.reduceToNat]; exact hK _))
   refine aops_nil ?_
   refine AW.ret ?_
   refine ⟨.inr rfl, ?_⟩
   apply Exists.intro
   refine leaves_tmp1 6 rfl ?_ (by rfl)
   simp (disch := first | omega | decide) only [go_sem, f2, f7, f9, f10, f11, f12, o7, e5, pl2, pl3, pk, es, pt, U.two32, U.shr_bit, U.told_toNat, Int.reduceToNat]
   all_goals rfl

end Go.Vai.P
