import Derived.Test.YtompjoadhhjddaabPage7
import Derived.Test.YtompjoadhhjddaabTurn
import Derived.Test.YtompjoadhhjddaaChkT
namespace Go.Vai.G
open Go.Proofs Go.Vai Go.Vai.L Go.Vai.O Go.Vai.U Go.Vai.Z
set_option linter.unusedSimpArgs false
set_option linter.unusedVariables false

open Go.Vai.Z (sealS okO okV body seal_open sealS_len ckB ckB_len)
open Go.Vai.U (refS ofS ref_of turnS turnedS turned_told turnS_length)
theorem ckB_inj {x y : BitVec 32} (h : ckB x = ckB y) : x = y := by
  have hx := x.isLt
  have hy := y.isLt
  simp only [ckB, List.cons.injEq, and_true] at h
  obtain ⟨h1, h2, h3, h4⟩ := h
  have e : ∀ {k : Nat}, (x >>> k).setWidth 8 = (y >>> k).setWidth 8 → x.toNat / 2 ^ k % 256 = y.toNat / 2 ^ k % 256 := fun {k} h => by
    have := congrArg BitVec.toNat h
    simpa [Nat.shiftRight_eq_div_pow] using this
  have e1 := e h1
  have e2 := e h2
  have e3 := e h3
  have e4 := congrArg BitVec.toNat h4
  simp at e4
  apply BitVec.eq_of_toNat_eq
  simp only [Nat.reducePow] at e1 e2 e3
  omega
theorem turnS_app (a b : List (BitVec 8)) (s : Nat) (X : BitVec 32) : ∀ m, s + m ≤ 8 * a.length → turnS (a ++ b) s X m = turnS a s X m ++ b
  | 0, _ => rfl
  | m + 1, h => by
    have ih := turnS_app a b s X m (by omega)
    have hl := turnS_length a s X m
    have hi : (s + m) / 8 < (turnS a s X m).length := by omega
    simp only [turnS, ih]
    split
    · rw [List.set_append_left _ _ hi]
      congr 2
      simp [List.getD_eq_getElem?_getD, List.getElem?_append_left hi]
    · rfl
theorem turnS_none (l : List (BitVec 8)) (s : Nat) (X : BitVec 32) : ∀ m, turnedS X m = false → turnS l s X m = l
  | 0, _ => rfl
  | m + 1, h => by
    simp only [turnedS, Bool.or_eq_false_iff] at h
    simp only [turnS, h.2, turnS_none l s X m h.1]; rfl
theorem seal_turn {i : List (BitVec 8)} (s : Nat) (X : BitVec 32) {m : Nat} (hm : m ≤ 32) (hs : s + m ≤ 8 * i.length) : turnedS X m = true → okO (turnS (sealS i) s X m) = false := fun ht => by
  have e : turnS (sealS i) s X m = turnS i s X m ++ ckB (refS i) := turnS_app i _ s X m hs
  have hl := turnS_length i s X m
  rw [e, okO]
  have hb : body (turnS i s X m ++ ckB (refS i)) = turnS i s X m := by
    rw [body, List.length_append, ckB_len, Nat.add_sub_cancel, List.take_left' rfl]
  have hd : (turnS i s X m ++ ckB (refS i)).drop ((turnS i s X m ++ ckB (refS i)).length - 4) = ckB (refS i) := by
    rw [List.length_append, ckB_len, Nat.add_sub_cancel, List.drop_left' rfl]
  rw [hb, hd]
  have ht2 := turned_told false false i s X m hm hs
  rw [ht, decide_eq_true_eq, ← ref_of, ← ref_of] at ht2
  have : decide (ckB (refS (turnS i s X m)) = ckB (refS i)) = false := decide_eq_false fun h => ht2 (ckB_inj h).symm
  rw [this, Bool.and_false]
theorem page_turn {p : Page} (h : pageOK p = true) (s : Nat) (X : BitVec 32) {m : Nat} (hm : m ≤ 32) (hs : s + m ≤ 4064) : decide (pgR (turnS (pgPut p) s X m) = 2) = turnedS X m := by
  have hl := pageB_len (page_bd h).2.2.2.2.2.2
  cases ht : turnedS X m with
  | false =>
    rw [turnS_none _ _ _ _ ht, (page_back h).2.2]; rfl
  | true =>
    have hg : pgGood (turnS (pgPut p) s X m) = false := good_f fun h2 => by
      have := seal_turn (i := pageB p) s X hm (by omega) ht
      rw [← (pg_ok h).1] at this
      rw [this] at h2; cases h2.1
    simp [pgR, hg]
set_option maxHeartbeats 4000000 in
set_option maxRecDepth 100000 in
theorem good_PageTurns (p : Page) (hp : p.b.length ≤ 9223372036854775807) (y : Int) (X : BitVec 32) (hy : 0 ≤ y ∧ y ≤ 65535) : Good Try.prog 13 [(pageA p, false), (.i .u16 y, false), (u32 X, false)] [] [(.b true, false)] [] := by
  refine good_of_body4 85 Try.func13 rfl rfl rfl (by simp) (by simp) (by simp [noPtrL, noPtr]) (by rfl) ?_
  intro s m ha hr hv hG
  have f0 : s 0 = .v (.agg [i64 p.kind, i64 p.gen, i64 p.mark, i64 p.idx, i64 p.part, i64 p.parts, .sl 1 p.nil (bsl p.b)]) := ha 0 _ rfl
  have f1 : s 1 = .v (.i .u16 y) := ha 1 _ rfl
  have f2 : s 2 = .v (u32 X) := ha 2 _ rfl
  clear ha
  obtain ⟨s0, es⟩ : ∃ s : Nat, y % 4064 = (s : Int) := ⟨(y % 4064).toNat, by omega⟩
  have hs : (s0 : Int) < 4064 := by omega
  refine AW.seq ?_
  refine AW.region (cfg := cfg) ?_
  apply aops_step (by decide) rfl
  · intro K hK
    simp (disch := first | omega | decide) only [go_sem, f0, f1, f2, act_box_t ti47, List.map, cellsOf_page, es, U.two32, U.shr_bit, U.told_toNat, Int.reduceToNat]
    rw [settleL_vish _ _ (by rfl)]
    simp (disch := first | omega | decide) only [go_sem, f0, f1, f2, cellsL, List.map, List.length_cons, List.length_nil, Nat.reduceAdd, if_true, cellsOf_page, es, U.two32, U.shr_bit, U.told_toNat, Int.reduceToNat]
    exact hK _
  iterate 1 (apply aops_step (by decide) rfl; · (intro K hK; simp (disch := first | omega | decide) only [go_sem, f0, f1, f2, cellsOf_page, es, U.two32, U.shr_bit, U.told_toNat, Int.reduceToNat]; exact hK _))
  refine aops_nil ?_
  refine AW.seq ?_
  refine AW.seq ?_
  refine AW.region (cfg := cfg) ?_
  apply aops_step (by decide) rfl
  · intro K hK
    simp (disch := first | omega | decide) only [go_sem, f0, f1, f2, act_fieldAddr_t fo47_6, List.map, cellsOf_page, es, U.two32, U.shr_bit, U.told_toNat, Int.reduceToNat]
    rw [mwp_fieldAddr_b (by simp (disch := first | omega | decide) only [go_sem, f0, f1, f2, cellsOf_page, es, U.two32, U.shr_bit, U.told_toNat, Int.reduceToNat]; rfl)]
    exact hK _
  apply aops_step (by decide) rfl
  · intro K hK
    simp (disch := first | omega | decide) only [go_sem, f0, f1, f2, act_load_t ti25, List.map, cellsOf_page, es, U.two32, U.shr_bit, U.told_toNat, Int.reduceToNat]
    rw [mwp_load_b1 (by simp (disch := first | omega | decide) only [go_sem, f0, f1, f2, cellsOf_page, es, U.two32, U.shr_bit, U.told_toNat, Int.reduceToNat]; rfl) (by rfl)]
    exact hK _
  iterate 3 (apply aops_step (by decide) rfl; · (intro K hK; simp (disch := first | omega | decide) only [go_sem, f0, f1, f2, List.map, List.length_map, aops_len u25, cellsOf_page, es, U.two32, U.shr_bit, U.told_toNat, Int.reduceToNat]; exact hK _))
  apply aops_merge' (by decide) (by exact want_of (d := 19) rfl (by simp (disch := first | omega | decide) only [go_sem, f0, f1, f2, opn_cond, cellsOf_page, es, U.two32, U.shr_bit, U.told_toNat, Int.reduceToNat]; rfl))
  · intro hc K hK
    have hc2 := hc
    simp only [beq_iff_eq, decide_eq_true_eq, decide_eq_false_iff_not, Bool.or_eq_true, Bool.and_eq_true, Bool.or_eq_false_iff, Bool.and_eq_false_iff] at hc2
    simp (disch := first | omega | decide) only [go_sem, f0, f1, f2, opn_cond, hc, if_true, act_load_t ti47, cellsOf_page, es, U.two32, U.shr_bit, U.told_toNat, Int.reduceToNat]
    rw [mwp_load_bs (by simp (disch := first | omega | decide) only [go_sem, f0, f1, f2, opn_cond, hc, if_true, cellsOf_page, es, U.two32, U.shr_bit, U.told_toNat, Int.reduceToNat]; rfl) (by simp [setAt])]
    exact hK _
  apply aops_merge' (by decide) (by exact want_of (d := 19) rfl (by simp (disch := first | omega | decide) only [go_sem, f0, f1, f2, opn_cond, cellsOf_page, es, U.two32, U.shr_bit, U.told_toNat, Int.reduceToNat]; rfl))
  · intro hc K hK
    have hc2 := hc
    simp only [beq_iff_eq, decide_eq_true_eq, decide_eq_false_iff_not, Bool.or_eq_true, Bool.and_eq_true, Bool.or_eq_false_iff, Bool.and_eq_false_iff] at hc2
    simp (disch := first | omega | decide) only [go_sem, f0, f1, f2, opn_cond, hc, if_true, act_call, List.map, cellsOf_page, es, U.two32, U.shr_bit, U.told_toNat, Int.reduceToNat]
    apply mwp_call_s rfl rfl rfl
    · intro Q hQ
      (simp (disch := first | omega | decide) only [go_sem, f0, f1, f2, opn_cond, hc, if_true, peekL, reifyL_nil, reifyL_cons, reify_v, cellsOf_page, es, U.two32, U.shr_bit, U.told_toNat, Int.reduceToNat]; (exact hQ))
    · exact good_refMayP p (by omega)
    · simp [-List.map_take, -List.map_drop, -List.map_append, -List.map_replicate, -List.reduceReplicate, noPtrL, noPtr, noPtrL_bsl, noPtrL_map, sub]
    · rfl
    · exact hK _
  apply aops_merge' (by decide) (by exact want_of (d := 19) rfl (by simp (disch := first | omega | decide) only [go_sem, f0, f1, f2, opn_cond, cellsOf_page, es, U.two32, U.shr_bit, U.told_toNat, Int.reduceToNat]; rfl))
  · intro hc K hK
    have hc2 := hc
    simp only [beq_iff_eq, decide_eq_true_eq, decide_eq_false_iff_not, Bool.or_eq_true, Bool.and_eq_true, Bool.or_eq_false_iff, Bool.and_eq_false_iff] at hc2
    simp (disch := first | omega | decide) only [go_sem, f0, f1, f2, opn_cond, hc, if_true, cellsOf_page, es, U.two32, U.shr_bit, U.told_toNat, Int.reduceToNat]
    exact hK _
  iterate 1 (apply aops_step (by decide) rfl; · (intro K hK; simp (disch := first | omega | decide) only [go_sem, f0, f1, f2, cellsOf_page, es, U.two32, U.shr_bit, U.told_toNat, Int.reduceToNat]; exact hK _))
  refine aops_nil ?_
  apply AW.cond
  · simp (disch := first | omega | decide) only [go_sem, f0, f1, f2, cellsOf_page, es, U.two32, U.shr_bit, U.told_toNat, Int.reduceToNat]; rfl
  case ht =>
    intro hb
    try simp only [Bool.or_eq_true, Bool.and_eq_true, Bool.or_eq_false_iff, Bool.and_eq_false_iff, decide_eq_true_eq, decide_eq_false_iff_not] at hb
    have hbt23 := hb
    refine AW.seq ?_
    refine AW.region (cfg := cfg) ?_
    apply aops_step (by decide) rfl
    · intro K hK
      simp (disch := first | omega | decide) only [go_sem, f0, f1, f2, act_call, List.map, cellsOf_page, es, U.two32, U.shr_bit, U.told_toNat, Int.reduceToNat]
      apply mwp_call_s rfl rfl rfl
      · intro Q hQ
        (simp (disch := first | omega | decide) only [go_sem, f0, f1, f2, peekL, reifyL_nil, reifyL_cons, reify_v, cellsOf_page, es, U.two32, U.shr_bit, U.told_toNat, Int.reduceToNat]; (exact hQ))
      · exact G.good_awake
      · simp [-List.map_take, -List.map_drop, -List.map_append, -List.map_replicate, -List.reduceReplicate, noPtrL, noPtr, noPtrL_bsl, noPtrL_map, sub]
      · rfl
      · exact hK _
    iterate 1 (apply aops_step (by decide) rfl; · (intro K hK; simp (disch := first | omega | decide) only [go_sem, f0, f1, f2, cellsOf_page, es, U.two32, U.shr_bit, U.told_toNat, Int.reduceToNat]; exact hK _))
    refine aops_nil ?_
    refine AW.ret ?_
    refine ⟨.inr rfl, ?_⟩
    apply Exists.intro
    refine leaves_tmp1 6 rfl ?_ (by rfl)
    simp (disch := first | omega | decide) only [go_sem, f0, f1, f2, cellsOf_page, es, U.two32, U.shr_bit, U.told_toNat, Int.reduceToNat]
    all_goals first | done | rfl | trace_state
  case hf =>
    intro hb
    try simp only [Bool.or_eq_true, Bool.and_eq_true, Bool.or_eq_false_iff, Bool.and_eq_false_iff, decide_eq_true_eq, decide_eq_false_iff_not] at hb
    have hbt23 := hb
    refine AW.skip ?_
    refine AW.seq ?_
    have hok : pageOK p = true := by simpa using hbt23.2
    obtain ⟨e4, e5⟩ := pg_ok hok
    have pl := pgPut_len hok
    have pl2 : (((pgPut p).length : Nat) : Int) = 512 := by omega
    have pk : (!pageOK p) = false := by rw [hok]; rfl
    have pt := page_turn hok s0 X (m := min 32 (4064 - s0)) (by omega) (by omega)
    refine AW.region (cfg := cfg) ?_
    apply aops_step (by decide) rfl
    · intro K hK
      simp (disch := first | omega | decide) only [go_sem, f0, f1, f2, e5, pl2, pk, pt, act_load_t ti47, List.map, cellsOf_page, es, U.two32, U.shr_bit, U.told_toNat, Int.reduceToNat]
      rw [mwp_load_bs (by simp (disch := first | omega | decide) only [go_sem, f0, f1, f2, e5, pl2, pk, pt, cellsOf_page, es, U.two32, U.shr_bit, U.told_toNat, Int.reduceToNat]; rfl) (by simp [setAt])]
      exact hK _
    apply aops_step (by decide) rfl
    · intro K hK
      simp (disch := first | omega | decide) only [go_sem, f0, f1, f2, e5, pl2, pk, pt, act_call, List.map, cellsOf_page, es, U.two32, U.shr_bit, U.told_toNat, Int.reduceToNat]
      apply mwp_call_r rfl rfl rfl
      · intro Q hQ
        (simp (disch := first | omega | decide) only [go_sem, f0, f1, f2, e5, pl2, pk, pt, peekL, reifyL_nil, reifyL_cons, reify_v, cellsOf_page, es, U.two32, U.shr_bit, U.told_toNat, Int.reduceToNat]; (exact hQ))
      · exact good_PutP p (by omega)
      · simp [-List.map_take, -List.map_drop, -List.map_append, -List.map_replicate, -List.reduceReplicate, noPtrL, noPtr, noPtrL_bsl, noPtrL_map, sub]
      · rw [resOf_own2 (by (simp (disch := decide) only [mset_ne, hr]; done))]
        exact hK _
    iterate 3 (apply aops_step (by decide) rfl; · (intro K hK; simp (disch := first | omega | decide) only [go_sem, f0, f1, f2, e5, pl2, pk, pt, cellsOf_page, es, U.two32, U.shr_bit, U.told_toNat, Int.reduceToNat]; exact hK _))
    apply aops_step (by decide) rfl
    · intro K hK
      simp (disch := first | omega | decide) only [go_sem, f0, f1, f2, e5, pl2, pk, pt, cellsOf_page, es, U.two32, U.shr_bit, U.told_toNat, Int.reduceToNat]
      rw [asg_tmp (by simp (disch := first | omega | decide) only [go_sem, f0, f1, f2, e5, pl2, pk, pt, cellsOf_page, es, U.two32, U.shr_bit, U.told_toNat, Int.reduceToNat]; rfl)]
      exact hK _
    iterate 1 (apply aops_step (by decide) rfl; · (intro K hK; simp (disch := first | omega | decide) only [go_sem, f0, f1, f2, e5, pl2, pk, pt, cellsOf_page, es, U.two32, U.shr_bit, U.told_toNat, Int.reduceToNat]; exact hK _))
    refine aops_nil ?_
    refine AW.seq ?_
    refine AW.seq ?_
    refine AW.region (cfg := cfg) ?_
    iterate 4 (apply aops_step (by decide) rfl; · (intro K hK; simp (disch := first | omega | decide) only [go_sem, f0, f1, f2, e5, pl2, pk, pt, cellsOf_page, es, U.two32, U.shr_bit, U.told_toNat, Int.reduceToNat]; exact hK _))
    apply aops_step (by decide) rfl
    · intro K hK
      simp (disch := first | omega | decide) only [go_sem, f0, f1, f2, e5, pl2, pk, pt, List.map, List.length_map, aops_len u25, cellsOf_page, es, U.two32, U.shr_bit, U.told_toNat, Int.reduceToNat]
      ((rw [mwp_len_own u25 (by simp (disch := first | omega | decide) only [go_sem, f0, f1, f2, e5, pl2, pk, pt, List.map, cellsOf_page, es, U.two32, U.shr_bit, U.told_toNat, Int.reduceToNat]; rfl)]); (try rw [sub_full (by (simp only [List.length_map, List.length_replicate]; done))]); (try simp only [List.length_map]); exact hK _)
    iterate 2 (apply aops_step (by decide) rfl; · (intro K hK; simp (disch := first | omega | decide) only [go_sem, f0, f1, f2, e5, pl2, pk, pt, cellsOf_page, es, U.two32, U.shr_bit, U.told_toNat, Int.reduceToNat]; exact hK _))
    refine aops_nil ?_
    apply AW.cond
    · simp (disch := first | omega | decide) only [go_sem, f0, f1, f2, e5, pl2, pk, pt, cellsOf_page, es, U.two32, U.shr_bit, U.told_toNat, Int.reduceToNat]; rfl
    case ht => intro hb; simp at hb
    case hf =>
    intro hb
    have hbt36 := hb
    refine AW.skip ?_
    refine AW.seq ?_
    refine AW.region (cfg := cfg) ?_
    iterate 4 (apply aops_step (by decide) rfl; · (intro K hK; simp (disch := first | omega | decide) only [go_sem, f0, f1, f2, e5, pl2, pk, pt, act_convI u86 u3, cellsOf_page, es, U.two32, U.shr_bit, U.told_toNat, Int.reduceToNat]; exact hK _))
    refine aops_nil ?_
    refine AW.seq ?_
    refine AW.region (cfg := cfg) ?_
    iterate 1 (apply aops_step (by decide) rfl; · (intro K hK; simp (disch := first | omega | decide) only [go_sem, f0, f1, f2, e5, pl2, pk, pt, cellsOf_page, es, U.two32, U.shr_bit, U.told_toNat, Int.reduceToNat]; exact hK _))
    refine aops_nil ?_
    refine AW.seq ?_
    refine AW.seq ?_
    refine AW.region (cfg := cfg) ?_
    iterate 1 (apply aops_step (by decide) rfl; · (intro K hK; simp (disch := first | omega | decide) only [go_sem, f0, f1, f2, e5, pl2, pk, pt, cellsOf_page, es, U.two32, U.shr_bit, U.told_toNat, Int.reduceToNat]; exact hK _))
    refine aops_nil ?_
    refine AW.block ?_
    refine AW.forN (fun k σ => ∃ s m, σ = ⟨85, s, m⟩ ∧ s 2 = .v (u32 X) ∧ s 7 = .own (.var 7) (m.objs (.var 7)).1 0 (512) ∧ (m.objs (.var 7)).2 = .arr false 1 (bsl (turnS (pgPut p) s0 X k)) ∧ s 9 = .v (i64 (s0 : Int)) ∧ s 10 = .v (.b (turnedS X k)) ∧ s 11 = .v (i64 (k : Int)) ∧ (∀ i, (m.objs (.res i)).2 = .dead) ∧ m.G = []) (min 32 (4064 - s0)) ?_ ?_ ?_
    · refine ⟨_, _, rfl, ?_, ?_, ?_, ?_, ?_, ?_, (by intro i; simp [Mem.set, hr]), (by exact hG)⟩ <;> try simp (disch := first | omega | decide) only [go_sem, f0, f1, f2, e5, pl2, pk, pt, cellsOf_page, es, U.two32, U.shr_bit, U.told_toNat, Int.reduceToNat]
      all_goals first | rfl | (simp [pl]; done)
    · clear f0 f1 f2 hr hG
      rintro k σ hk ⟨s, m, rfl, f2, f7, o7, f9, f10, f11, hr, hG⟩
      obtain ⟨g7, o7⟩ : ∃ g, m.objs (.var 7) = (g, .arr false 1 (bsl (turnS (pgPut p) s0 X k))) := ⟨_, Prod.ext rfl o7⟩
      rw [o7] at f7
      refine AW.seq ?_
      refine AW.seq ?_
      refine AW.region (cfg := cfg) ?_
      iterate 3 (apply aops_step (by decide) rfl; · (intro K hK; simp (disch := first | omega | decide) only [go_sem, f2, f7, f9, f10, f11, o7, e5, pl2, pk, pt, cellsOf_page, es, U.two32, U.shr_bit, U.told_toNat, Int.reduceToNat]; exact hK _))
      apply aops_merge' (by decide) (by exact want_of (d := 42) rfl (by simp (disch := first | omega | decide) only [go_sem, f2, f7, f9, f10, f11, o7, e5, pl2, pk, pt, opn_cond, cellsOf_page, es, U.two32, U.shr_bit, U.told_toNat, Int.reduceToNat]; rfl))
      · intro hc K hK
        have hc2 := hc
        simp only [beq_iff_eq, decide_eq_true_eq, decide_eq_false_iff_not, Bool.or_eq_true, Bool.and_eq_true, Bool.or_eq_false_iff, Bool.and_eq_false_iff] at hc2
        simp (disch := first | omega | decide) only [go_sem, f2, f7, f9, f10, f11, o7, e5, pl2, pk, pt, opn_cond, hc, if_true, cellsOf_page, es, U.two32, U.shr_bit, U.told_toNat, Int.reduceToNat]
        exact hK _
      apply aops_merge' (by decide) (by exact want_of (d := 42) rfl (by simp (disch := first | omega | decide) only [go_sem, f2, f7, f9, f10, f11, o7, e5, pl2, pk, pt, opn_cond, cellsOf_page, es, U.two32, U.shr_bit, U.told_toNat, Int.reduceToNat]; rfl))
      · intro hc K hK
        have hc2 := hc
        simp only [beq_iff_eq, decide_eq_true_eq, decide_eq_false_iff_not, Bool.or_eq_true, Bool.and_eq_true, Bool.or_eq_false_iff, Bool.and_eq_false_iff] at hc2
        simp (disch := first | omega | decide) only [go_sem, f2, f7, f9, f10, f11, o7, e5, pl2, pk, pt, opn_cond, hc, if_true, cellsOf_page, es, U.two32, U.shr_bit, U.told_toNat, Int.reduceToNat]
        exact hK _
      apply aops_merge' (by decide) (by exact want_of (d := 42) rfl (by simp (disch := first | omega | decide) only [go_sem, f2, f7, f9, f10, f11, o7, e5, pl2, pk, pt, opn_cond, cellsOf_page, es, U.two32, U.shr_bit, U.told_toNat, Int.reduceToNat]; rfl))
      · intro hc K hK
        have hc2 := hc
        simp only [beq_iff_eq, decide_eq_true_eq, decide_eq_false_iff_not, Bool.or_eq_true, Bool.and_eq_true, Bool.or_eq_false_iff, Bool.and_eq_false_iff] at hc2
        simp (disch := first | omega | decide) only [go_sem, f2, f7, f9, f10, f11, o7, e5, pl2, pk, pt, opn_cond, hc, if_true, cellsOf_page, es, U.two32, U.shr_bit, U.told_toNat, Int.reduceToNat]
        exact hK _
      apply aops_merge' (by decide) (by exact want_of (d := 42) rfl (by simp (disch := first | omega | decide) only [go_sem, f2, f7, f9, f10, f11, o7, e5, pl2, pk, pt, opn_cond, cellsOf_page, es, U.two32, U.shr_bit, U.told_toNat, Int.reduceToNat]; rfl))
      · intro hc K hK
        have hc2 := hc
        simp only [beq_iff_eq, decide_eq_true_eq, decide_eq_false_iff_not, Bool.or_eq_true, Bool.and_eq_true, Bool.or_eq_false_iff, Bool.and_eq_false_iff] at hc2
        simp (disch := first | omega | decide) only [go_sem, f2, f7, f9, f10, f11, o7, e5, pl2, pk, pt, opn_cond, hc, if_true, cellsOf_page, es, U.two32, U.shr_bit, U.told_toNat, Int.reduceToNat]
        exact hK _
      iterate 1 (apply aops_step (by decide) rfl; · (intro K hK; simp (disch := first | omega | decide) only [go_sem, f2, f7, f9, f10, f11, o7, e5, pl2, pk, pt, cellsOf_page, es, U.two32, U.shr_bit, U.told_toNat, Int.reduceToNat]; exact hK _))
      refine aops_nil ?_
      apply AW.cond
      · simp (disch := first | omega | decide) only [go_sem, f2, f7, f9, f10, f11, o7, e5, pl2, pk, pt, cellsOf_page, es, U.two32, U.shr_bit, U.told_toNat, Int.reduceToNat]; rfl
      case hf => intro hb; (simp at hb; omega)
      case ht =>
      intro hb
      have hbt47 := hb
      refine AW.skip ?_
      refine AW.seq ?_
      refine AW.block ?_
      refine AW.seq ?_
      refine AW.region (cfg := cfg) ?_
      iterate 6 (apply aops_step (by decide) rfl; · (intro K hK; simp (disch := first | omega | decide) only [go_sem, f2, f7, f9, f10, f11, o7, e5, pl2, pk, pt, act_convI u3 u90, cellsOf_page, es, U.two32, U.shr_bit, U.told_toNat, Int.reduceToNat]; exact hK _))
      refine aops_nil ?_
      apply AW.cond
      · simp (disch := first | omega | decide) only [go_sem, f2, f7, f9, f10, f11, o7, e5, pl2, pk, pt, cellsOf_page, es, U.two32, U.shr_bit, U.told_toNat, Int.reduceToNat]; rfl
      case ht =>
        intro hb
        try simp only [Bool.or_eq_true, Bool.and_eq_true, Bool.or_eq_false_iff, Bool.and_eq_false_iff, decide_eq_true_eq, decide_eq_false_iff_not] at hb
        have hbt55 := hb
        refine AW.seq ?_
        refine AW.region (cfg := cfg) ?_
        iterate 4 (apply aops_step (by decide) rfl; · (intro K hK; simp (disch := first | omega | decide) only [go_sem, f2, f7, f9, f10, f11, o7, e5, pl2, pk, pt, cellsOf_page, es, U.two32, U.shr_bit, U.told_toNat, Int.reduceToNat]; exact hK _))
        refine aops_nil ?_
        refine AW.seq ?_
        refine AW.region (cfg := cfg) ?_
        iterate 6 (apply aops_step (by decide) rfl; · (intro K hK; simp (disch := first | omega | decide) only [go_sem, f2, f7, f9, f10, f11, o7, e5, pl2, pk, pt, cellsOf_page, es, U.two32, U.shr_bit, U.told_toNat, Int.reduceToNat]; exact hK _))
        apply aops_step (by decide) rfl
        · intro K hK
          simp (disch := first | omega | decide) only [go_sem, f2, f7, f9, f10, f11, o7, e5, pl2, pk, pt, act_indexAddr_s u25 ti5, List.map, cellsOf_page, es, U.two32, U.shr_bit, U.told_toNat, Int.reduceToNat]
          rw [mwp_aIndex_own (by simp (disch := first | omega | decide) only [go_sem, f2, f7, f9, f10, f11, o7, e5, pl2, pk, pt, cellsOf_page, es, U.two32, U.shr_bit, U.told_toNat, Int.reduceToNat]; rfl) (by omega) (by omega)]
          exact hK _
        apply aops_step (by decide) rfl
        · intro K hK
          simp (disch := first | omega | decide) only [go_sem, f2, f7, f9, f10, f11, o7, e5, pl2, pk, pt, act_load_t ti5, List.map, cellsOf_page, es, U.two32, U.shr_bit, U.told_toNat, Int.reduceToNat]
          rw [mwp_aLoad_map (by simp (disch := first | omega | decide) only [go_sem, f2, f7, f9, f10, f11, o7, e5, pl2, pk, pt, cellsOf_page, es, U.two32, U.shr_bit, U.told_toNat, Int.reduceToNat]; rfl) (by (simp [turnS_length]; omega)) (fun _ => rfl)]
          exact hK _
        iterate 5 (apply aops_step (by decide) rfl; · (intro K hK; simp (disch := first | omega | decide) only [go_sem, f2, f7, f9, f10, f11, o7, e5, pl2, pk, pt, act_convI u3 u90, cellsOf_page, es, U.two32, U.shr_bit, U.told_toNat, Int.reduceToNat]; exact hK _))
        apply aops_step (by decide) rfl
        · intro K hK
          simp (disch := first | omega | decide) only [go_sem, f2, f7, f9, f10, f11, o7, e5, pl2, pk, pt, act_indexAddr_s u25 ti5, List.map, cellsOf_page, es, U.two32, U.shr_bit, U.told_toNat, Int.reduceToNat]
          rw [mwp_aIndex_own (by simp (disch := first | omega | decide) only [go_sem, f2, f7, f9, f10, f11, o7, e5, pl2, pk, pt, cellsOf_page, es, U.two32, U.shr_bit, U.told_toNat, Int.reduceToNat]; rfl) (by omega) (by omega)]
          exact hK _
        apply aops_step0 rfl
        · intro K hK
          simp (disch := first | omega | decide) only [go_sem, f2, f7, f9, f10, f11, o7, e5, pl2, pk, pt, act_store_t ti5, List.map, cellsOf_page, es, U.two32, U.shr_bit, U.told_toNat, Int.reduceToNat]
          rw [mwp_aStore_map (by simp (disch := first | omega | decide) only [go_sem, f2, f7, f9, f10, f11, o7, e5, pl2, pk, pt, cellsOf_page, es, U.two32, U.shr_bit, U.told_toNat, Int.reduceToNat]; rfl) (by (simp [turnS_length]; omega)) (fun _ => rfl) rfl rfl (fun _ => rfl)]
          try simp only [setAt, cellsL, cellsOf_agg, cellsOf_base, List.map_cons, List.map_nil, List.set_cons_zero, List.set_cons_succ, Nat.reduceAdd, Nat.zero_add, hG]
          exact hK _
        refine aops_nil ?_
        refine AW.region (cfg := cfg) ?_
        iterate 1 (apply aops_step (by decide) rfl; · (intro K hK; simp (disch := first | omega | decide) only [go_sem, f2, f7, f9, f10, f11, o7, e5, pl2, pk, pt, cellsOf_page, es, U.two32, U.shr_bit, U.told_toNat, Int.reduceToNat]; exact hK _))
        refine aops_nil ?_
        refine AW.region (cfg := cfg) ?_
        iterate 3 (apply aops_step (by decide) rfl; · (intro K hK; simp (disch := first | omega | decide) only [go_sem, f2, f7, f9, f10, f11, o7, e5, pl2, pk, pt, cellsOf_page, es, U.two32, U.shr_bit, U.told_toNat, Int.reduceToNat]; exact hK _))
        refine aops_nil ?_
        refine ⟨_, _, rfl, ?_, ?_, ?_, ?_, ?_, ?_, (by intro i; simp [Mem.set, hr]), (by exact hG)⟩ <;> try simp (disch := first | omega | decide) only [go_sem, f2, f7, f9, f10, f11, o7, e5, pl2, pk, pt, cellsOf_page, es, U.two32, U.shr_bit, U.told_toNat, Int.reduceToNat]
        all_goals first | rfl | (simp [turnedS, turnS, hb]; done) | skip
        all_goals (have e1 : (((s0 : Int) + (k : Int)) / 8).toNat = (s0 + k) / 8 := by omega)
        all_goals (have e2 : (((s0 : Int) + (k : Int)) % 8).toNat = (s0 + k) % 8 := by omega)
        all_goals (simp only [turnS, hb, if_true, e1, e2, List.map_set, List.getD_eq_getElem?_getD, List.getElem?_eq_getElem (show (s0 + k) / 8 < (turnS (pgPut p) s0 X k).length by rw [turnS_length, pl]; omega), Option.getD_some]; rfl)
      case hf =>
        intro hb
        try simp only [Bool.or_eq_true, Bool.and_eq_true, Bool.or_eq_false_iff, Bool.and_eq_false_iff, decide_eq_true_eq, decide_eq_false_iff_not] at hb
        have hbt55 := hb
        refine AW.skip ?_
        refine AW.region (cfg := cfg) ?_
        iterate 3 (apply aops_step (by decide) rfl; · (intro K hK; simp (disch := first | omega | decide) only [go_sem, f2, f7, f9, f10, f11, o7, e5, pl2, pk, pt, cellsOf_page, es, U.two32, U.shr_bit, U.told_toNat, Int.reduceToNat]; exact hK _))
        refine aops_nil ?_
        refine ⟨_, _, rfl, ?_, ?_, ?_, ?_, ?_, ?_, (by intro i; simp [Mem.set, hr]), (by exact hG)⟩ <;> try simp (disch := first | omega | decide) only [go_sem, f2, f7, f9, f10, f11, o7, e5, pl2, pk, pt, cellsOf_page, es, U.two32, U.shr_bit, U.told_toNat, Int.reduceToNat]
        all_goals first | rfl | (simp [turnedS, turnS, hb]; done)
        all_goals (have e1 : (((s0 : Int) + (k : Int)) / 8).toNat = (s0 + k) / 8 := by omega)
        all_goals (have e2 : (((s0 : Int) + (k : Int)) % 8).toNat = (s0 + k) % 8 := by omega)
        all_goals first | (simp only [turnS, hb, if_true, e1, e2, List.map_set, List.getD_eq_getElem?_getD, List.getElem?_eq_getElem (show (s0 + k) / 8 < (turnS (pgPut p) s0 X k).length by rw [turnS_length, pl]; omega), Option.getD_some]; rfl) | trace_state
    · clear f0 f1 f2 hr hG
      rintro σ ⟨s, m, rfl, f2, f7, o7, f9, f10, f11, hr, hG⟩
      obtain ⟨g7, o7⟩ : ∃ g, m.objs (.var 7) = (g, .arr false 1 (bsl (turnS (pgPut p) s0 X (min 32 (4064 - s0))))) := ⟨_, Prod.ext rfl o7⟩
      rw [o7] at f7
      refine AW.seq ?_
      refine AW.seq ?_
      refine AW.region (cfg := cfg) ?_
      iterate 3 (apply aops_step (by decide) rfl; · (intro K hK; simp (disch := first | omega | decide) only [go_sem, f2, f7, f9, f10, f11, o7, e5, pl2, pk, pt, cellsOf_page, es, U.two32, U.shr_bit, U.told_toNat, Int.reduceToNat]; exact hK _))
      apply aops_merge' (by decide) (by exact want_of (d := 42) rfl (by simp (disch := first | omega | decide) only [go_sem, f2, f7, f9, f10, f11, o7, e5, pl2, pk, pt, opn_cond, cellsOf_page, es, U.two32, U.shr_bit, U.told_toNat, Int.reduceToNat]; rfl))
      · intro hc K hK
        have hc2 := hc
        simp only [beq_iff_eq, decide_eq_true_eq, decide_eq_false_iff_not, Bool.or_eq_true, Bool.and_eq_true, Bool.or_eq_false_iff, Bool.and_eq_false_iff] at hc2
        simp (disch := first | omega | decide) only [go_sem, f2, f7, f9, f10, f11, o7, e5, pl2, pk, pt, opn_cond, hc, if_true, cellsOf_page, es, U.two32, U.shr_bit, U.told_toNat, Int.reduceToNat]
        exact hK _
      apply aops_merge' (by decide) (by exact want_of (d := 42) rfl (by simp (disch := first | omega | decide) only [go_sem, f2, f7, f9, f10, f11, o7, e5, pl2, pk, pt, opn_cond, cellsOf_page, es, U.two32, U.shr_bit, U.told_toNat, Int.reduceToNat]; rfl))
      · intro hc K hK
        have hc2 := hc
        simp only [beq_iff_eq, decide_eq_true_eq, decide_eq_false_iff_not, Bool.or_eq_true, Bool.and_eq_true, Bool.or_eq_false_iff, Bool.and_eq_false_iff] at hc2
        simp (disch := first | omega | decide) only [go_sem, f2, f7, f9, f10, f11, o7, e5, pl2, pk, pt, opn_cond, hc, if_true, cellsOf_page, es, U.two32, U.shr_bit, U.told_toNat, Int.reduceToNat]
        exact hK _
      apply aops_merge' (by decide) (by exact want_of (d := 42) rfl (by simp (disch := first | omega | decide) only [go_sem, f2, f7, f9, f10, f11, o7, e5, pl2, pk, pt, opn_cond, cellsOf_page, es, U.two32, U.shr_bit, U.told_toNat, Int.reduceToNat]; rfl))
      · intro hc K hK
        have hc2 := hc
        simp only [beq_iff_eq, decide_eq_true_eq, decide_eq_false_iff_not, Bool.or_eq_true, Bool.and_eq_true, Bool.or_eq_false_iff, Bool.and_eq_false_iff] at hc2
        simp (disch := first | omega | decide) only [go_sem, f2, f7, f9, f10, f11, o7, e5, pl2, pk, pt, opn_cond, hc, if_true, cellsOf_page, es, U.two32, U.shr_bit, U.told_toNat, Int.reduceToNat]
        exact hK _
      apply aops_merge' (by decide) (by exact want_of (d := 42) rfl (by simp (disch := first | omega | decide) only [go_sem, f2, f7, f9, f10, f11, o7, e5, pl2, pk, pt, opn_cond, cellsOf_page, es, U.two32, U.shr_bit, U.told_toNat, Int.reduceToNat]; rfl))
      · intro hc K hK
        have hc2 := hc
        simp only [beq_iff_eq, decide_eq_true_eq, decide_eq_false_iff_not, Bool.or_eq_true, Bool.and_eq_true, Bool.or_eq_false_iff, Bool.and_eq_false_iff] at hc2
        simp (disch := first | omega | decide) only [go_sem, f2, f7, f9, f10, f11, o7, e5, pl2, pk, pt, opn_cond, hc, if_true, cellsOf_page, es, U.two32, U.shr_bit, U.told_toNat, Int.reduceToNat]
        exact hK _
      iterate 1 (apply aops_step (by decide) rfl; · (intro K hK; simp (disch := first | omega | decide) only [go_sem, f2, f7, f9, f10, f11, o7, e5, pl2, pk, pt, cellsOf_page, es, U.two32, U.shr_bit, U.told_toNat, Int.reduceToNat]; exact hK _))
      refine aops_nil ?_
      apply AW.cond
      · simp (disch := first | omega | decide) only [go_sem, f2, f7, f9, f10, f11, o7, e5, pl2, pk, pt, cellsOf_page, es, U.two32, U.shr_bit, U.told_toNat, Int.reduceToNat]; rfl
      case ht => intro hb; (simp at hb; omega)
      case hf =>
      intro hb
      have hbt47 := hb
      refine AW.exit ?_
      refine AW.seq ?_
      refine AW.region (cfg := cfg) ?_
      iterate 1 (apply aops_step (by decide) rfl; · (intro K hK; simp (disch := first | omega | decide) only [go_sem, f2, f7, f9, f10, f11, o7, e5, pl2, pk, pt, cellsOf_page, es, U.two32, U.shr_bit, U.told_toNat, Int.reduceToNat]; exact hK _))
      apply aops_step (by decide) rfl
      · intro K hK
        simp (disch := first | omega | decide) only [go_sem, f2, f7, f9, f10, f11, o7, e5, pl2, pk, pt, act_call, List.map, cellsOf_page, es, U.two32, U.shr_bit, U.told_toNat, Int.reduceToNat]
        apply mwp_call_r rfl rfl rfl
        · intro Q hQ
          (simp (disch := first | omega | decide) only [go_sem, f2, f7, f9, f10, f11, o7, e5, pl2, pk, pt, peekL, reifyL_nil, reifyL_cons, reify_v, cellsOf_page, es, U.two32, U.shr_bit, U.told_toNat, Int.reduceToNat]; ((((rw [mwp_reify_own (by simp (disch := first | omega | decide) only [go_sem, f2, f7, f9, f10, f11, o7, e5, pl2, pk, pt, peekL, reifyL_nil, reifyL_cons, reify_v, cellsOf_page, es, U.two32, U.shr_bit, U.told_toNat, Int.reduceToNat]; rfl)]); (try rw [sub_full (by (simp [turnS_length]; omega))])); exact hQ)))
        · exact good_GetP false _ (by rw [turnS_length, pl]; omega) (by simp)
        · simp [-List.map_take, -List.map_drop, -List.map_append, -List.map_replicate, -List.reduceReplicate, noPtrL, noPtr, noPtrL_bsl, noPtrL_map, sub]
        · simp (disch := first | omega | decide) only [go_sem, f2, f7, f9, f10, f11, o7, e5, pl2, pk, pt, cellsOf_page, es, U.two32, U.shr_bit, U.told_toNat, Int.reduceToNat]
          exact hK _
      iterate 3 (apply aops_step (by decide) rfl; · (intro K hK; simp (disch := first | omega | decide) only [go_sem, f2, f7, f9, f10, f11, o7, e5, pl2, pk, pt, cellsOf_page, es, U.two32, U.shr_bit, U.told_toNat, Int.reduceToNat]; exact hK _))
      apply aops_step (by decide) rfl
      · intro K hK
        simp (disch := first | omega | decide) only [go_sem, f2, f7, f9, f10, f11, o7, e5, pl2, pk, pt, act_alloc_t ti47, List.map, cellsOf_page, es, U.two32, U.shr_bit, U.told_toNat, Int.reduceToNat]
        exact hK _
      apply aops_step0 rfl
      · intro K hK
        simp (disch := first | omega | decide) only [go_sem, f2, f7, f9, f10, f11, o7, e5, pl2, pk, pt, act_store_t ti47, List.map, cellsOf_page, es, U.two32, U.shr_bit, U.told_toNat, Int.reduceToNat]
        rw [mwp_store_c (by simp (disch := first | omega | decide) only [go_sem, f2, f7, f9, f10, f11, o7, e5, pl2, pk, pt, cellsOf_page, es, U.two32, U.shr_bit, U.told_toNat, Int.reduceToNat]; rfl) (by rfl) (by rfl) (by rfl) (by simp)]
        try simp only [setAt, cellsL, cellsOf_agg, cellsOf_base, List.map_cons, List.map_nil, List.set_cons_zero, List.set_cons_succ, Nat.reduceAdd, Nat.zero_add, hG]
        exact hK _
      iterate 1 (apply aops_step (by decide) rfl; · (intro K hK; simp (disch := first | omega | decide) only [go_sem, f2, f7, f9, f10, f11, o7, e5, pl2, pk, pt, cellsOf_page, es, U.two32, U.shr_bit, U.told_toNat, Int.reduceToNat]; exact hK _))
      refine aops_nil ?_
      refine AW.seq ?_
      refine AW.region (cfg := cfg) ?_
      iterate 5 (apply aops_step (by decide) rfl; · (intro K hK; simp (disch := first | omega | decide) only [go_sem, f2, f7, f9, f10, f11, o7, e5, pl2, pk, pt, bin_eql_b u4, cellsOf_page, es, U.two32, U.shr_bit, U.told_toNat, Int.reduceToNat]; exact hK _))
      apply aops_merge' (by decide) (by exact want_of (d := 82) rfl (by simp (disch := first | omega | decide) only [go_sem, f2, f7, f9, f10, f11, o7, e5, pl2, pk, pt, opn_cond, cellsOf_page, es, U.two32, U.shr_bit, U.told_toNat, Int.reduceToNat]; rfl))
      · intro hc K hK
        have hc2 := hc
        simp only [beq_iff_eq, decide_eq_true_eq, decide_eq_false_iff_not, Bool.or_eq_true, Bool.and_eq_true, Bool.or_eq_false_iff, Bool.and_eq_false_iff] at hc2
        simp (disch := first | omega | decide) only [go_sem, f2, f7, f9, f10, f11, o7, e5, pl2, pk, pt, opn_cond, hc, if_true, act_call, List.map, cellsOf_page, es, U.two32, U.shr_bit, U.told_toNat, Int.reduceToNat]
        apply mwp_call_s rfl rfl rfl
        · intro Q hQ
          (simp (disch := first | omega | decide) only [go_sem, f2, f7, f9, f10, f11, o7, e5, pl2, pk, pt, opn_cond, hc, if_true, peekL, reifyL_nil, reifyL_cons, reify_v, cellsOf_page, es, U.two32, U.shr_bit, U.told_toNat, Int.reduceToNat]; (exact hQ))
        · exact G.good_awake
        · simp [-List.map_take, -List.map_drop, -List.map_append, -List.map_replicate, -List.reduceReplicate, noPtrL, noPtr, noPtrL_bsl, noPtrL_map, sub]
        · rfl
        · exact hK _
      iterate 2 (apply aops_step (by decide) rfl; · (intro K hK; simp (disch := first | omega | decide) only [go_sem, f2, f7, f9, f10, f11, o7, e5, pl2, pk, pt, cellsOf_page, es, U.two32, U.shr_bit, U.told_toNat, Int.reduceToNat]; exact hK _))
      refine aops_nil ?_
      refine AW.ret ?_
      refine ⟨.inr rfl, ?_⟩
      apply Exists.intro
      refine leaves_tmp1 6 rfl ?_ (by rfl)
      simp (disch := first | omega | decide) only [go_sem, f2, f7, f9, f10, f11, o7, e5, pl2, pk, pt, cellsOf_page, es, U.two32, U.shr_bit, U.told_toNat, Int.reduceToNat]
      all_goals rfl

end Go.Vai.G
