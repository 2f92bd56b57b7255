import Derived.Test.YtblgcekomnnfmaagPage
namespace Go.Vai.G
open Go.Proofs Go.Vai Go.Vai.L Go.Vai.O Go.Vai.U Go.Vai.Z
set_option linter.unusedSimpArgs false
set_option linter.unusedVariables false

open Go.Vai.Z (sealS okO okV body seal_open)
def magK (p : Page) : List (BitVec 8) := [87#8, 65#8, 89#8] ++ numR p.kind 1
def three (p : Page) : List Int := [p.gen, p.mark, p.idx]
def gmi (p : Page) (k : Nat) : List (BitVec 8) := ((three p).take k).flatMap fun x => numR x 4
theorem gmi_succ {p : Page} {k : Nat} (h : k < 3) : gmi p (k + 1) = gmi p k ++ numR ((three p)[k]'h) 4 := by
  unfold gmi
  rw [List.take_succ_eq_append_getElem h]; simp only [List.flatMap_append, List.flatMap_cons, List.flatMap_nil, List.append_nil]
theorem gmi_len (p : Page) (k : Nat) (h : k ≤ 3) : (gmi p k).length = 4 * k := by
  have : k = 0 ∨ k = 1 ∨ k = 2 ∨ k = 3 := by omega
  rcases this with rfl | rfl | rfl | rfl <;> simp [gmi, three, numR_length]
theorem three_bd {p : Page} (h : pageOK p = true) {k : Nat} (hk : k < 3) : 0 ≤ (three p)[k]'hk ∧ (three p)[k]'hk ≤ 2147483648 := by
  have b := page_bd h
  have : k = 0 ∨ k = 1 ∨ k = 2 := by omega
  rcases this with rfl | rfl | rfl <;> simp [three] <;> omega
theorem three_len (p : Page) : (three p).length = 3 := rfl
def pgPut (p : Page) : List (BitVec 8) := if pageOK p then sealS (pageB p) else []
def pgE (p : Page) : Int := if pageOK p then 0 else 1
theorem pageH_is (p : Page) : pageH p = (((magK p ++ gmi p 3) ++ numR p.part 1) ++ numR p.parts 1) ++ (numR (p.b.length : Int) 2 ++ p.b) := by
  simp [pageH, magK, gmi, three]
theorem pg_ok {p : Page} (h : pageOK p = true) : pgPut p = sealS (pageB p) ∧ pgE p = 0 := by simp [pgPut, pgE, h]
theorem pg_no {p : Page} (h : pageOK p = false) : pgPut p = [] ∧ pgE p = 1 := by simp [pgPut, pgE, h]
theorem pgE_ok (p : Page) : decide (pgE p = 0) = pageOK p := by cases h : pageOK p <;> simp [pgE, h]
theorem magK_len (p : Page) : (magK p).length = 4 := by simp [magK, numR_length]
set_option maxHeartbeats 4000000 in
set_option maxRecDepth 100000 in
theorem good_PutP (p : Page) (hp : p.b.length ≤ 9223372036854775807) : Good Try.prog 48 [(pageA p, false)] [] [(.sl 1 (!pageOK p) (bsl (pgPut p)), true), (i64 (pgE p), false)] [] := by
  refine good_of_body3 55 Try.func48 rfl rfl rfl (by simp) ?_
  intro s m ha hr hv hG
  have f0 : s 0 = .v (.agg [i64 p.kind, i64 p.gen, i64 p.mark, i64 p.idx, i64 p.part, i64 p.parts, .sl 1 p.nil (bsl p.b)]) := ha 0 _ rfl
  clear ha
  refine AW.seq ?_
  refine AW.region (cfg := cfg4) ?_
  apply aops_step (by decide) rfl
  · intro K hK
    simp (disch := first | omega | decide) only [go_sem, f0, act_box_t ti58, List.map, cellsOf_page, numS1, numS4, nm1, nm4, Bool.false_and, List.append_assoc, Nat.zero_add, Int.toNat_natCast]
    rw [settleL_vish _ _ (by rfl)]
    simp (disch := first | omega | decide) only [go_sem, f0, cellsL, List.map, List.length_cons, List.length_nil, Nat.reduceAdd, if_true, cellsOf_page, numS1, numS4, nm1, nm4, Bool.false_and, List.append_assoc, Nat.zero_add, Int.toNat_natCast]
    exact hK _
  iterate 2 (apply aops_step (by decide) rfl; · (intro K hK; simp (disch := first | omega | decide) only [go_sem, f0, sz22, cellsOf_page, numS1, numS4, nm1, nm4, Bool.false_and, List.append_assoc, Nat.zero_add, Int.toNat_natCast]; exact hK _))
  refine aops_nil ?_
  refine AW.seq ?_
  refine AW.seq ?_
  refine AW.region (cfg := cfg4) ?_
  apply aops_step (by decide) rfl
  · intro K hK
    simp (disch := first | omega | decide) only [go_sem, f0, act_load_t ti58, List.map, cellsOf_page, numS1, numS4, nm1, nm4, Bool.false_and, List.append_assoc, Nat.zero_add, Int.toNat_natCast]
    rw [mwp_load_bs (by simp (disch := first | omega | decide) only [go_sem, f0, cellsOf_page, numS1, numS4, nm1, nm4, Bool.false_and, List.append_assoc, Nat.zero_add, Int.toNat_natCast]; rfl) (by simp [setAt])]
    exact hK _
  apply aops_step (by decide) rfl
  · intro K hK
    simp (disch := first | omega | decide) only [go_sem, f0, act_call, List.map, cellsOf_page, numS1, numS4, nm1, nm4, Bool.false_and, List.append_assoc, Nat.zero_add, Int.toNat_natCast]
    apply mwp_call_s rfl rfl rfl
    · intro Q hQ
      (simp (disch := first | omega | decide) only [go_sem, f0, peekL, reifyL_nil, reifyL_cons, reify_v, cellsOf_page, numS1, numS4, nm1, nm4, Bool.false_and, List.append_assoc, Nat.zero_add, Int.toNat_natCast]; (exact hQ))
    · exact good_mayP _ (by omega)
    · simp [-List.map_take, -List.map_drop, -List.map_append, -List.map_replicate, -List.reduceReplicate, noPtrL, noPtr, noPtrL_bsl, noPtrL_map, sub]
    · rfl
    · exact hK _
  iterate 1 (apply aops_step (by decide) rfl; · (intro K hK; simp (disch := first | omega | decide) only [go_sem, f0, cellsOf_page, numS1, numS4, nm1, nm4, Bool.false_and, List.append_assoc, Nat.zero_add, Int.toNat_natCast]; exact hK _))
  refine aops_nil ?_
  apply AW.cond
  · simp (disch := first | omega | decide) only [go_sem, f0, cellsOf_page, numS1, numS4, nm1, nm4, Bool.false_and, List.append_assoc, Nat.zero_add, Int.toNat_natCast]; rfl
  case ht =>
    intro hb
    try simp only [Bool.or_eq_true, Bool.and_eq_true, Bool.or_eq_false_iff, Bool.and_eq_false_iff, decide_eq_true_eq, decide_eq_false_iff_not] at hb
    have hbt9 := hb
    refine AW.seq ?_
    refine AW.region (cfg := cfg4) ?_
    iterate 2 (apply aops_step (by decide) rfl; · (intro K hK; simp (disch := first | omega | decide) only [go_sem, f0, sz22, cellsOf_page, numS1, numS4, nm1, nm4, Bool.false_and, List.append_assoc, Nat.zero_add, Int.toNat_natCast]; exact hK _))
    refine aops_nil ?_
    refine AW.ret ?_
    refine ⟨.inr rfl, ?_⟩
    all_goals (have z : pageOK p = false := (by simpa using hbt9); obtain ⟨e1, e2⟩ := pg_no z; rw [z, e1, e2]; refine leavesN (leaves_own2 2 3 rfl (by simp (disch := first | omega | decide) only [go_sem, f0, cellsOf_page, numS1, numS4, nm1, nm4, Bool.false_and, List.append_assoc, Nat.zero_add, Int.toNat_natCast] <;> rfl) (by simp (disch := first | omega | decide) only [go_sem, f0, cellsOf_page, numS1, numS4, nm1, nm4, Bool.false_and, List.append_assoc, Nat.zero_add, Int.toNat_natCast] <;> rfl) (by simp (disch := first | omega | decide) only [go_sem, f0, cellsOf_page, numS1, numS4, nm1, nm4, Bool.false_and, List.append_assoc, Nat.zero_add, Int.toNat_natCast] <;> rfl) (by decide) (by simp [sub]) (by exact hG)))
  case hf =>
    intro hb
    try simp only [Bool.or_eq_true, Bool.and_eq_true, Bool.or_eq_false_iff, Bool.and_eq_false_iff, decide_eq_true_eq, decide_eq_false_iff_not] at hb
    have hbt9 := hb
    refine AW.skip ?_
    refine AW.seq ?_
    have hok : pageOK p = true := by simpa using hbt9
    obtain ⟨c1, c2, c3, c4, c5, c6, c7⟩ := page_bd hok
    have e1 : [87#8, 65#8, 89#8] ++ numR p.kind 1 = magK p := rfl
    refine AW.region (cfg := cfg4) ?_
    apply aops_step (by decide) rfl
    · intro K hK
      rw [act_bs el22 ti5]
      (simp [-List.map_take, -List.map_drop, -BitVec.toNat_ofInt, -BitVec.ofInt_natCast, -BitVec.toNat_setWidth, -BitVec.toNat_ushiftRight, -BitVec.toNat_umod, -BitVec.toNat_udiv, go_sem, elems_v, cellishAV, Value.oneCell', isAggAV, partsOf, TI.z, TI.mk1, f0, e1]; exact hK _)
    apply aops_step (by decide) rfl
    · intro K hK
      rw [act_convB u22 u5]
      simp (disch := first | omega | decide) only [go_sem, f0, e1, cellsOf_page, numS1, numS4, nm1, nm4, Bool.false_and, List.append_assoc, Nat.zero_add, Int.toNat_natCast]
      rw [convN_eq (by simp (disch := first | omega | decide) only [go_sem, f0, e1, cellsOf_page, numS1, numS4, nm1, nm4, Bool.false_and, List.append_assoc, Nat.zero_add, Int.toNat_natCast]; rfl)]
      exact hK _
    apply aops_step (by decide) rfl
    · intro K hK
      simp (disch := first | omega | decide) only [go_sem, f0, e1, act_fieldAddr_t fo58_0, List.map, cellsOf_page, numS1, numS4, nm1, nm4, Bool.false_and, List.append_assoc, Nat.zero_add, Int.toNat_natCast]
      rw [mwp_fieldAddr_b (by simp (disch := first | omega | decide) only [go_sem, f0, e1, cellsOf_page, numS1, numS4, nm1, nm4, Bool.false_and, List.append_assoc, Nat.zero_add, Int.toNat_natCast]; rfl)]
      exact hK _
    apply aops_step (by decide) rfl
    · intro K hK
      simp (disch := first | omega | decide) only [go_sem, f0, e1, act_load_t ti3, List.map, cellsOf_page, numS1, numS4, nm1, nm4, Bool.false_and, List.append_assoc, Nat.zero_add, Int.toNat_natCast]
      rw [mwp_load_b1 (by simp (disch := first | omega | decide) only [go_sem, f0, e1, cellsOf_page, numS1, numS4, nm1, nm4, Bool.false_and, List.append_assoc, Nat.zero_add, Int.toNat_natCast]; rfl) (by rfl)]
      exact hK _
    iterate 1 (apply aops_step (by decide) rfl; · (intro K hK; simp (disch := first | omega | decide) only [go_sem, f0, e1, act_convI u3 u71, cellsOf_page, numS1, numS4, nm1, nm4, Bool.false_and, List.append_assoc, Nat.zero_add, Int.toNat_natCast]; exact hK _))
    apply aops_step (by decide) rfl
    · intro K hK
      simp (disch := first | omega | decide) only [go_sem, f0, e1, act_call, List.map, cellsOf_page, numS1, numS4, nm1, nm4, Bool.false_and, List.append_assoc, Nat.zero_add, Int.toNat_natCast]
      apply mwp_call_r rfl rfl rfl
      · intro Q hQ
        (simp (disch := first | omega | decide) only [go_sem, f0, e1, peekL, reifyL_nil, reifyL_cons, reify_v, cellsOf_page, numS1, numS4, nm1, nm4, Bool.false_and, List.append_assoc, Nat.zero_add, Int.toNat_natCast]; (exact hQ))
      · exact good_Num false [87#8, 65#8, 89#8] (by simp) (by simp) 1 p.kind (by omega)
      · simp [-List.map_take, -List.map_drop, -List.map_append, -List.map_replicate, -List.reduceReplicate, noPtrL, noPtr, noPtrL_bsl, noPtrL_map, sub]
      · rw [resOf_own1 (by (simp (disch := decide) only [mset_ne, hr]; done))]
        exact hK _
    apply aops_step (by decide) rfl
    · intro K hK
      simp (disch := first | omega | decide) only [go_sem, f0, e1, cellsOf_page, numS1, numS4, nm1, nm4, Bool.false_and, List.append_assoc, Nat.zero_add, Int.toNat_natCast]
      rw [asg_tmp (by simp (disch := first | omega | decide) only [go_sem, f0, e1, cellsOf_page, numS1, numS4, nm1, nm4, Bool.false_and, List.append_assoc, Nat.zero_add, Int.toNat_natCast]; rfl)]
      exact hK _
    refine aops_nil ?_
    refine AW.seq ?_
    refine AW.seq ?_
    refine AW.region (cfg := cfg4) ?_
    apply aops_step (by decide) rfl
    · intro K hK
      simp (disch := first | omega | decide) only [go_sem, f0, e1, act_fieldAddr_t fo58_1, List.map, cellsOf_page, numS1, numS4, nm1, nm4, Bool.false_and, List.append_assoc, Nat.zero_add, Int.toNat_natCast]
      rw [mwp_fieldAddr_b (by simp (disch := first | omega | decide) only [go_sem, f0, e1, cellsOf_page, numS1, numS4, nm1, nm4, Bool.false_and, List.append_assoc, Nat.zero_add, Int.toNat_natCast]; rfl)]
      exact hK _
    apply aops_step (by decide) rfl
    · intro K hK
      simp (disch := first | omega | decide) only [go_sem, f0, e1, act_load_t ti3, List.map, cellsOf_page, numS1, numS4, nm1, nm4, Bool.false_and, List.append_assoc, Nat.zero_add, Int.toNat_natCast]
      rw [mwp_load_b1 (by simp (disch := first | omega | decide) only [go_sem, f0, e1, cellsOf_page, numS1, numS4, nm1, nm4, Bool.false_and, List.append_assoc, Nat.zero_add, Int.toNat_natCast]; rfl) (by rfl)]
      exact hK _
    apply aops_step (by decide) rfl
    · intro K hK
      simp (disch := first | omega | decide) only [go_sem, f0, e1, act_fieldAddr_t fo58_2, List.map, cellsOf_page, numS1, numS4, nm1, nm4, Bool.false_and, List.append_assoc, Nat.zero_add, Int.toNat_natCast]
      rw [mwp_fieldAddr_b (by simp (disch := first | omega | decide) only [go_sem, f0, e1, cellsOf_page, numS1, numS4, nm1, nm4, Bool.false_and, List.append_assoc, Nat.zero_add, Int.toNat_natCast]; rfl)]
      exact hK _
    apply aops_step (by decide) rfl
    · intro K hK
      simp (disch := first | omega | decide) only [go_sem, f0, e1, act_load_t ti3, List.map, cellsOf_page, numS1, numS4, nm1, nm4, Bool.false_and, List.append_assoc, Nat.zero_add, Int.toNat_natCast]
      rw [mwp_load_b1 (by simp (disch := first | omega | decide) only [go_sem, f0, e1, cellsOf_page, numS1, numS4, nm1, nm4, Bool.false_and, List.append_assoc, Nat.zero_add, Int.toNat_natCast]; rfl) (by rfl)]
      exact hK _
    apply aops_step (by decide) rfl
    · intro K hK
      simp (disch := first | omega | decide) only [go_sem, f0, e1, act_fieldAddr_t fo58_3, List.map, cellsOf_page, numS1, numS4, nm1, nm4, Bool.false_and, List.append_assoc, Nat.zero_add, Int.toNat_natCast]
      rw [mwp_fieldAddr_b (by simp (disch := first | omega | decide) only [go_sem, f0, e1, cellsOf_page, numS1, numS4, nm1, nm4, Bool.false_and, List.append_assoc, Nat.zero_add, Int.toNat_natCast]; rfl)]
      exact hK _
    apply aops_step (by decide) rfl
    · intro K hK
      simp (disch := first | omega | decide) only [go_sem, f0, e1, act_load_t ti3, List.map, cellsOf_page, numS1, numS4, nm1, nm4, Bool.false_and, List.append_assoc, Nat.zero_add, Int.toNat_natCast]
      rw [mwp_load_b1 (by simp (disch := first | omega | decide) only [go_sem, f0, e1, cellsOf_page, numS1, numS4, nm1, nm4, Bool.false_and, List.append_assoc, Nat.zero_add, Int.toNat_natCast]; rfl) (by rfl)]
      exact hK _
    apply aops_step (by decide) rfl
    · intro K hK
      rw [act_bs el131 ti3]
      (simp [-List.map_take, -List.map_drop, -BitVec.toNat_ofInt, -BitVec.ofInt_natCast, -BitVec.toNat_setWidth, -BitVec.toNat_ushiftRight, -BitVec.toNat_umod, -BitVec.toNat_udiv, go_sem, elems_v, cellishAV, Value.oneCell', isAggAV, partsOf, TI.z, TI.mk1, f0, e1]; exact hK _)
    apply aops_step (by decide) rfl
    · intro K hK
      simp (disch := first | omega | decide) only [go_sem, f0, e1, List.map, List.length_map, aops_len u131, cellsOf_page, numS1, numS4, nm1, nm4, Bool.false_and, List.append_assoc, Nat.zero_add, Int.toNat_natCast]
      ((rw [mwp_len_own u131 (by simp (disch := first | omega | decide) only [go_sem, f0, e1, List.map, cellsOf_page, numS1, numS4, nm1, nm4, Bool.false_and, List.append_assoc, Nat.zero_add, Int.toNat_natCast]; rfl)]); (try rw [sub_full (by rfl)]); (try simp only [List.length_map]); exact hK _)
    iterate 1 (apply aops_step (by decide) rfl; · (intro K hK; simp (disch := first | omega | decide) only [go_sem, f0, e1, cellsOf_page, numS1, numS4, nm1, nm4, Bool.false_and, List.append_assoc, Nat.zero_add, Int.toNat_natCast]; exact hK _))
    refine aops_nil ?_
    refine AW.block ?_
    refine AW.forN (fun k σ => ∃ s m, σ = ⟨55, s, m⟩ ∧ s 1 = .lptr (.tmp 1 0) (m.objs (.tmp 1 0)).1 0 ∧ (m.objs (.tmp 1 0)).2 = .box [.v (i64 p.kind), .v (i64 p.gen), .v (i64 p.mark), .v (i64 p.idx), .v (i64 p.part), .v (i64 p.parts), .v (.sl 1 p.nil (bsl p.b))] ∧ s 4 = .own (.var 4) (m.objs (.var 4)).1 0 (4 + 4 * k) ∧ (m.objs (.var 4)).2 = .arr false 1 (bsl (magK p ++ gmi p k)) ∧ s 22 = .own (.tmp 22 0) (m.objs (.tmp 22 0)).1 0 (3) ∧ (m.objs (.tmp 22 0)).2 = .arr false 1 ((three p).map i64) ∧ s 23 = .v (i64 3) ∧ s 24 = .v (i64 (k : Int)) ∧ (pageOK p = true) ∧ (∀ i, (m.objs (.res i)).2 = .dead) ∧ m.G = []) (3) ?_ ?_ ?_
    · refine ⟨_, _, rfl, ?_, ?_, ?_, ?_, ?_, ?_, ?_, ?_, ?_, (by intro i; simp [Mem.set, hr]), (by exact hG)⟩ <;> try simp (disch := first | omega | decide) only [go_sem, f0, e1, cellsOf_page, numS1, numS4, nm1, nm4, Bool.false_and, List.append_assoc, Nat.zero_add, Int.toNat_natCast]
      all_goals first | rfl | assumption
    · clear f0 hr hG
      rintro k σ hk ⟨s, m, rfl, f1, o1, f4, o4, f22, o22, f23, f24, mo0, hr, hG⟩
      obtain ⟨g1, o1⟩ : ∃ g, m.objs (.tmp 1 0) = (g, .box [.v (i64 p.kind), .v (i64 p.gen), .v (i64 p.mark), .v (i64 p.idx), .v (i64 p.part), .v (i64 p.parts), .v (.sl 1 p.nil (bsl p.b))]) := ⟨_, Prod.ext rfl o1⟩
      rw [o1] at f1
      obtain ⟨g4, o4⟩ : ∃ g, m.objs (.var 4) = (g, .arr false 1 (bsl (magK p ++ gmi p k))) := ⟨_, Prod.ext rfl o4⟩
      rw [o4] at f4
      obtain ⟨g22, o22⟩ : ∃ g, m.objs (.tmp 22 0) = (g, .arr false 1 ((three p).map i64)) := ⟨_, Prod.ext rfl o22⟩
      rw [o22] at f22
      refine AW.seq ?_
      refine AW.region (cfg := cfg4) ?_
      iterate 1 (apply aops_step (by decide) rfl; · (intro K hK; simp (disch := first | omega | decide) only [go_sem, f1, f4, f22, f23, f24, o1, o4, o22, e1, cellsOf_page, numS1, numS4, nm1, nm4, Bool.false_and, List.append_assoc, Nat.zero_add, Int.toNat_natCast]; exact hK _))
      refine aops_nil ?_
      refine AW.seq ?_
      apply AW.cond
      · simp (disch := first | omega | decide) only [go_sem, f1, f4, f22, f23, f24, o1, o4, o22, e1, cellsOf_page, numS1, numS4, nm1, nm4, Bool.false_and, List.append_assoc, Nat.zero_add, Int.toNat_natCast]; rfl
      case hf => intro hb; (simp at hb; omega)
      case ht =>
      intro hb
      have hbt25 := hb
      refine AW.skip ?_
      refine AW.seq ?_
      refine AW.block ?_
      refine AW.seq ?_
      refine AW.region (cfg := cfg4) ?_
      apply aops_step (by decide) rfl
      · intro K hK
        simp (disch := first | omega | decide) only [go_sem, f1, f4, f22, f23, f24, o1, o4, o22, e1, act_indexAddr_s u131 ti3, List.map, cellsOf_page, numS1, numS4, nm1, nm4, Bool.false_and, List.append_assoc, Nat.zero_add, Int.toNat_natCast]
        rw [mwp_aIndex_own (by simp (disch := first | omega | decide) only [go_sem, f1, f4, f22, f23, f24, o1, o4, o22, e1, cellsOf_page, numS1, numS4, nm1, nm4, Bool.false_and, List.append_assoc, Nat.zero_add, Int.toNat_natCast]; rfl) (by omega) (by omega)]
        exact hK _
      apply aops_step (by decide) rfl
      · intro K hK
        simp (disch := first | omega | decide) only [go_sem, f1, f4, f22, f23, f24, o1, o4, o22, e1, act_load_t ti3, List.map, cellsOf_page, numS1, numS4, nm1, nm4, Bool.false_and, List.append_assoc, Nat.zero_add, Int.toNat_natCast]
        rw [mwp_aLoad_map (by simp (disch := first | omega | decide) only [go_sem, f1, f4, f22, f23, f24, o1, o4, o22, e1, cellsOf_page, numS1, numS4, nm1, nm4, Bool.false_and, List.append_assoc, Nat.zero_add, Int.toNat_natCast]; rfl) (by (simp [three_len, numR_length, gmi_len, magK_len, pageH_len, List.length_append]; omega)) (fun _ => rfl)]
        exact hK _
      iterate 1 (apply aops_step (by decide) rfl; · (intro K hK; simp (disch := first | omega | decide) only [go_sem, f1, f4, f22, f23, f24, o1, o4, o22, e1, cellsOf_page, numS1, numS4, nm1, nm4, Bool.false_and, List.append_assoc, Nat.zero_add, Int.toNat_natCast]; exact hK _))
      refine aops_nil ?_
      have c8 := three_bd hok hk
      have c9 := gmi_len p k (by omega)
      refine AW.region (cfg := cfg4) ?_
      iterate 3 (apply aops_step (by decide) rfl; · (intro K hK; simp (disch := first | omega | decide) only [go_sem, f1, f4, f22, f23, f24, o1, o4, o22, e1, act_convI u3 u71, cellsOf_page, numS1, numS4, nm1, nm4, Bool.false_and, List.append_assoc, Nat.zero_add, Int.toNat_natCast]; exact hK _))
      apply aops_step (by decide) rfl
      · intro K hK
        simp (disch := first | omega | decide) only [go_sem, f1, f4, f22, f23, f24, o1, o4, o22, e1, act_call, List.map, cellsOf_page, numS1, numS4, nm1, nm4, Bool.false_and, List.append_assoc, Nat.zero_add, Int.toNat_natCast]
        apply mwp_call_r rfl rfl rfl
        · intro Q hQ
          (simp (disch := first | omega | decide) only [go_sem, f1, f4, f22, f23, f24, o1, o4, o22, e1, peekL, reifyL_nil, reifyL_cons, reify_v, cellsOf_page, numS1, numS4, nm1, nm4, Bool.false_and, List.append_assoc, Nat.zero_add, Int.toNat_natCast]; ((((rw [mwp_reify_own (by simp (disch := first | omega | decide) only [go_sem, f1, f4, f22, f23, f24, o1, o4, o22, e1, peekL, reifyL_nil, reifyL_cons, reify_v, cellsOf_page, numS1, numS4, nm1, nm4, Bool.false_and, List.append_assoc, Nat.zero_add, Int.toNat_natCast]; rfl)]); (try rw [sub_full (by (simp [three_len, numR_length, gmi_len, magK_len, pageH_len, List.length_append]; omega))])); exact hQ)))
        · exact good_Num false (magK p ++ gmi p k) (by simp [magK_len, c9]; omega) (by simp [magK]) 4 _ (by omega)
        · simp [-List.map_take, -List.map_drop, -List.map_append, -List.map_replicate, -List.reduceReplicate, noPtrL, noPtr, noPtrL_bsl, noPtrL_map, sub]
        · rw [resOf_own1 (by (simp (disch := decide) only [mset_ne, hr]; done))]
          exact hK _
      apply aops_step (by decide) rfl
      · intro K hK
        simp (disch := first | omega | decide) only [go_sem, f1, f4, f22, f23, f24, o1, o4, o22, e1, cellsOf_page, numS1, numS4, nm1, nm4, Bool.false_and, List.append_assoc, Nat.zero_add, Int.toNat_natCast]
        rw [asg_tmp (by simp (disch := first | omega | decide) only [go_sem, f1, f4, f22, f23, f24, o1, o4, o22, e1, cellsOf_page, numS1, numS4, nm1, nm4, Bool.false_and, List.append_assoc, Nat.zero_add, Int.toNat_natCast]; rfl)]
        exact hK _
      refine aops_nil ?_
      refine AW.region (cfg := cfg4) ?_
      iterate 2 (apply aops_step (by decide) rfl; · (intro K hK; simp (disch := first | omega | decide) only [go_sem, f1, f4, f22, f23, f24, o1, o4, o22, e1, cellsOf_page, numS1, numS4, nm1, nm4, Bool.false_and, List.append_assoc, Nat.zero_add, Int.toNat_natCast]; exact hK _))
      refine aops_nil ?_
      refine ⟨_, _, rfl, ?_, ?_, ?_, ?_, ?_, ?_, ?_, ?_, ?_, (by intro i; simp [Mem.set, hr]), (by exact hG)⟩ <;> try simp (disch := first | omega | decide) only [go_sem, f1, f4, f22, f23, f24, o1, o4, o22, e1, cellsOf_page, numS1, numS4, nm1, nm4, Bool.false_and, List.append_assoc, Nat.zero_add, Int.toNat_natCast]
      all_goals first | rfl | assumption | (rw [gmi_succ hk]; rfl) | (simp [magK_len, numR_length, c9]; omega)
    · clear f0 hr hG
      rintro σ ⟨s, m, rfl, f1, o1, f4, o4, f22, o22, f23, f24, mo0, hr, hG⟩
      obtain ⟨g1, o1⟩ : ∃ g, m.objs (.tmp 1 0) = (g, .box [.v (i64 p.kind), .v (i64 p.gen), .v (i64 p.mark), .v (i64 p.idx), .v (i64 p.part), .v (i64 p.parts), .v (.sl 1 p.nil (bsl p.b))]) := ⟨_, Prod.ext rfl o1⟩
      rw [o1] at f1
      obtain ⟨g4, o4⟩ : ∃ g, m.objs (.var 4) = (g, .arr false 1 (bsl (magK p ++ gmi p 3))) := ⟨_, Prod.ext rfl o4⟩
      rw [o4] at f4
      obtain ⟨g22, o22⟩ : ∃ g, m.objs (.tmp 22 0) = (g, .arr false 1 ((three p).map i64)) := ⟨_, Prod.ext rfl o22⟩
      rw [o22] at f22
      refine AW.seq ?_
      refine AW.region (cfg := cfg4) ?_
      iterate 1 (apply aops_step (by decide) rfl; · (intro K hK; simp (disch := first | omega | decide) only [go_sem, f1, f4, f22, f23, f24, o1, o4, o22, e1, cellsOf_page, numS1, numS4, nm1, nm4, Bool.false_and, List.append_assoc, Nat.zero_add, Int.toNat_natCast]; exact hK _))
      refine aops_nil ?_
      refine AW.seq ?_
      apply AW.cond
      · simp (disch := first | omega | decide) only [go_sem, f1, f4, f22, f23, f24, o1, o4, o22, e1, cellsOf_page, numS1, numS4, nm1, nm4, Bool.false_and, List.append_assoc, Nat.zero_add, Int.toNat_natCast]; rfl
      case ht => intro hb; (simp at hb; done)
      case hf =>
      intro hb
      have hbt25 := hb
      refine AW.exit ?_
      refine AW.seq ?_
      have c9 := gmi_len p 3 (by omega)
      refine AW.draw (cfg := cfg4) (by kernel_rfl) (by kernel_rfl) (by kernel_rfl) ?_
      iterate 1 (apply adraw_step rfl; · (intro K hK; simp (disch := first | omega | decide) only [go_sem, f1, f4, f22, f23, f24, o1, o4, o22, e1, cellsOf_page, numS1, numS4, nm1, nm4, Bool.false_and, List.append_assoc, Nat.zero_add, Int.toNat_natCast]; exact hK))
      apply adraw_step rfl
      · intro K hK
        simp (disch := first | omega | decide) only [go_sem, f1, f4, f22, f23, f24, o1, o4, o22, e1, act_fieldAddr_t fo58_4, List.map, cellsOf_page, numS1, numS4, nm1, nm4, Bool.false_and, List.append_assoc, Nat.zero_add, Int.toNat_natCast]
        rw [mwp_fieldAddr_b (by simp (disch := first | omega | decide) only [go_sem, f1, f4, f22, f23, f24, o1, o4, o22, e1, cellsOf_page, numS1, numS4, nm1, nm4, Bool.false_and, List.append_assoc, Nat.zero_add, Int.toNat_natCast]; rfl)]
        exact hK
      apply adraw_step rfl
      · intro K hK
        simp (disch := first | omega | decide) only [go_sem, f1, f4, f22, f23, f24, o1, o4, o22, e1, act_load_t ti3, List.map, cellsOf_page, numS1, numS4, nm1, nm4, Bool.false_and, List.append_assoc, Nat.zero_add, Int.toNat_natCast]
        rw [mwp_load_b1 (by simp (disch := first | omega | decide) only [go_sem, f1, f4, f22, f23, f24, o1, o4, o22, e1, cellsOf_page, numS1, numS4, nm1, nm4, Bool.false_and, List.append_assoc, Nat.zero_add, Int.toNat_natCast]; rfl) (by rfl)]
        exact hK
      iterate 1 (apply adraw_step rfl; · (intro K hK; simp (disch := first | omega | decide) only [go_sem, f1, f4, f22, f23, f24, o1, o4, o22, e1, act_convI u3 u71, cellsOf_page, numS1, numS4, nm1, nm4, Bool.false_and, List.append_assoc, Nat.zero_add, Int.toNat_natCast]; exact hK))
      apply adraw_step rfl
      · intro K hK
        simp (disch := first | omega | decide) only [go_sem, f1, f4, f22, f23, f24, o1, o4, o22, e1, act_call, List.map, cellsOf_page, numS1, numS4, nm1, nm4, Bool.false_and, List.append_assoc, Nat.zero_add, Int.toNat_natCast]
        apply mwp_call_r rfl rfl rfl
        · intro Q hQ
          (simp (disch := first | omega | decide) only [go_sem, f1, f4, f22, f23, f24, o1, o4, o22, e1, peekL, reifyL_nil, reifyL_cons, reify_v, cellsOf_page, numS1, numS4, nm1, nm4, Bool.false_and, List.append_assoc, Nat.zero_add, Int.toNat_natCast]; ((((rw [mwp_reify_own (by simp (disch := first | omega | decide) only [go_sem, f1, f4, f22, f23, f24, o1, o4, o22, e1, peekL, reifyL_nil, reifyL_cons, reify_v, cellsOf_page, numS1, numS4, nm1, nm4, Bool.false_and, List.append_assoc, Nat.zero_add, Int.toNat_natCast]; rfl)]); (try rw [sub_full (by rfl)])); exact hQ)))
        · exact good_Num false (magK p ++ gmi p 3) (by simp [magK_len, c9]) (by simp [magK]) 1 p.part (by omega)
        · simp [-List.map_take, -List.map_drop, -List.map_append, -List.map_replicate, -List.reduceReplicate, noPtrL, noPtr, noPtrL_bsl, noPtrL_map, sub]
        · rw [resOf_own1 (by (simp (disch := decide) only [mset_ne, hr]; done))]
          exact hK
      apply adraw_step rfl
      · intro K hK
        simp (disch := first | omega | decide) only [go_sem, f1, f4, f22, f23, f24, o1, o4, o22, e1, act_fieldAddr_t fo58_5, List.map, cellsOf_page, numS1, numS4, nm1, nm4, Bool.false_and, List.append_assoc, Nat.zero_add, Int.toNat_natCast]
        rw [mwp_fieldAddr_b (by simp (disch := first | omega | decide) only [go_sem, f1, f4, f22, f23, f24, o1, o4, o22, e1, cellsOf_page, numS1, numS4, nm1, nm4, Bool.false_and, List.append_assoc, Nat.zero_add, Int.toNat_natCast]; rfl)]
        exact hK
      apply adraw_step rfl
      · intro K hK
        simp (disch := first | omega | decide) only [go_sem, f1, f4, f22, f23, f24, o1, o4, o22, e1, act_load_t ti3, List.map, cellsOf_page, numS1, numS4, nm1, nm4, Bool.false_and, List.append_assoc, Nat.zero_add, Int.toNat_natCast]
        rw [mwp_load_b1 (by simp (disch := first | omega | decide) only [go_sem, f1, f4, f22, f23, f24, o1, o4, o22, e1, cellsOf_page, numS1, numS4, nm1, nm4, Bool.false_and, List.append_assoc, Nat.zero_add, Int.toNat_natCast]; rfl) (by rfl)]
        exact hK
      iterate 1 (apply adraw_step rfl; · (intro K hK; simp (disch := first | omega | decide) only [go_sem, f1, f4, f22, f23, f24, o1, o4, o22, e1, act_convI u3 u71, cellsOf_page, numS1, numS4, nm1, nm4, Bool.false_and, List.append_assoc, Nat.zero_add, Int.toNat_natCast]; exact hK))
      apply adraw_step rfl
      · intro K hK
        simp (disch := first | omega | decide) only [go_sem, f1, f4, f22, f23, f24, o1, o4, o22, e1, act_call, List.map, cellsOf_page, numS1, numS4, nm1, nm4, Bool.false_and, List.append_assoc, Nat.zero_add, Int.toNat_natCast]
        apply mwp_call_r rfl rfl rfl
        · intro Q hQ
          (simp (disch := first | omega | decide) only [go_sem, f1, f4, f22, f23, f24, o1, o4, o22, e1, peekL, reifyL_nil, reifyL_cons, reify_v, cellsOf_page, numS1, numS4, nm1, nm4, Bool.false_and, List.append_assoc, Nat.zero_add, Int.toNat_natCast]; ((((rw [mwp_reify_own (by simp (disch := first | omega | decide) only [go_sem, f1, f4, f22, f23, f24, o1, o4, o22, e1, peekL, reifyL_nil, reifyL_cons, reify_v, cellsOf_page, numS1, numS4, nm1, nm4, Bool.false_and, List.append_assoc, Nat.zero_add, Int.toNat_natCast]; rfl)]); (try rw [sub_full (by rfl)])); exact hQ)))
        · exact good_Num false ((magK p ++ gmi p 3) ++ numR p.part 1) (by simp [magK_len, c9, numR_length]) (by simp [magK]) 1 p.parts (by omega)
        · simp [-List.map_take, -List.map_drop, -List.map_append, -List.map_replicate, -List.reduceReplicate, noPtrL, noPtr, noPtrL_bsl, noPtrL_map, sub]
        · rw [resOf_own1 (by (simp (disch := decide) only [mset_ne, hr]; done))]
          exact hK
      apply adraw_step rfl
      · intro K hK
        simp (disch := first | omega | decide) only [go_sem, f1, f4, f22, f23, f24, o1, o4, o22, e1, cellsOf_page, numS1, numS4, nm1, nm4, Bool.false_and, List.append_assoc, Nat.zero_add, Int.toNat_natCast]
        rw [asg_tmp (by simp (disch := first | omega | decide) only [go_sem, f1, f4, f22, f23, f24, o1, o4, o22, e1, cellsOf_page, numS1, numS4, nm1, nm4, Bool.false_and, List.append_assoc, Nat.zero_add, Int.toNat_natCast]; rfl)]
        exact hK
      refine adraw_nil (by kernel_rfl) ?_
      refine AW.seq ?_
      have tr := txR_ok (l := magK p ++ (gmi p 3 ++ (numR p.part 1 ++ numR p.parts 1))) (t := p.b) (by omega)
      have to := txO_ok (t := p.b) (by omega)
      have e2 : (((magK p ++ (gmi p 3 ++ (numR p.part 1 ++ (numR p.parts 1 ++ (numR (p.b.length : Int) 2 ++ p.b))))).length : Nat) : Int) = 20 + (p.b.length : Int) := by (simp [magK_len, c9, numR_length]; omega)
      have e3 : magK p ++ (gmi p 3 ++ (numR p.part 1 ++ (numR p.parts 1 ++ (numR (p.b.length : Int) 2 ++ p.b)))) ++ List.replicate (508 - (20 + (p.b.length : Int))).toNat 0#8 = pageB p := by (rw [pageB, pageH_is, show (508 - (20 + (p.b.length : Int))).toNat = 488 - p.b.length by omega]; simp only [List.append_assoc])
      have e6 := pageB_len (p := p) (by omega)
      refine AW.region (cfg := cfg4) ?_
      iterate 1 (apply aops_step (by decide) rfl; · (intro K hK; simp (disch := first | omega | decide) only [go_sem, f1, f4, f22, f23, f24, o1, o4, o22, e1, tr, to, e2, cellsOf_page, numS1, numS4, nm1, nm4, Bool.false_and, List.append_assoc, Nat.zero_add, Int.toNat_natCast]; exact hK _))
      apply aops_step (by decide) rfl
      · intro K hK
        simp (disch := first | omega | decide) only [go_sem, f1, f4, f22, f23, f24, o1, o4, o22, e1, tr, to, e2, act_fieldAddr_t fo58_6, List.map, cellsOf_page, numS1, numS4, nm1, nm4, Bool.false_and, List.append_assoc, Nat.zero_add, Int.toNat_natCast]
        rw [mwp_fieldAddr_b (by simp (disch := first | omega | decide) only [go_sem, f1, f4, f22, f23, f24, o1, o4, o22, e1, tr, to, e2, cellsOf_page, numS1, numS4, nm1, nm4, Bool.false_and, List.append_assoc, Nat.zero_add, Int.toNat_natCast]; rfl)]
        exact hK _
      apply aops_step (by decide) rfl
      · intro K hK
        simp (disch := first | omega | decide) only [go_sem, f1, f4, f22, f23, f24, o1, o4, o22, e1, tr, to, e2, act_load_t ti22, List.map, cellsOf_page, numS1, numS4, nm1, nm4, Bool.false_and, List.append_assoc, Nat.zero_add, Int.toNat_natCast]
        rw [mwp_load_b1 (by simp (disch := first | omega | decide) only [go_sem, f1, f4, f22, f23, f24, o1, o4, o22, e1, tr, to, e2, cellsOf_page, numS1, numS4, nm1, nm4, Bool.false_and, List.append_assoc, Nat.zero_add, Int.toNat_natCast]; rfl) (by rfl)]
        exact hK _
      apply aops_step (by decide) rfl
      · intro K hK
        simp (disch := first | omega | decide) only [go_sem, f1, f4, f22, f23, f24, o1, o4, o22, e1, tr, to, e2, act_call, List.map, cellsOf_page, numS1, numS4, nm1, nm4, Bool.false_and, List.append_assoc, Nat.zero_add, Int.toNat_natCast]
        apply mwp_call_r rfl rfl rfl
        · intro Q hQ
          (simp (disch := first | omega | decide) only [go_sem, f1, f4, f22, f23, f24, o1, o4, o22, e1, tr, to, e2, peekL, reifyL_nil, reifyL_cons, reify_v, cellsOf_page, numS1, numS4, nm1, nm4, Bool.false_and, List.append_assoc, Nat.zero_add, Int.toNat_natCast]; ((((rw [mwp_reify_own (by simp (disch := first | omega | decide) only [go_sem, f1, f4, f22, f23, f24, o1, o4, o22, e1, tr, to, e2, peekL, reifyL_nil, reifyL_cons, reify_v, cellsOf_page, numS1, numS4, nm1, nm4, Bool.false_and, List.append_assoc, Nat.zero_add, Int.toNat_natCast]; rfl)]); (try rw [sub_full (by rfl)])); exact hQ)))
        · exact O.good_Text false (magK p ++ (gmi p 3 ++ (numR p.part 1 ++ numR p.parts 1))) p.nil p.b (by simp [magK_len, c9, numR_length]) (by simp [magK]) (by simp [magK_len, c9, numR_length]; omega)
        · simp [-List.map_take, -List.map_drop, -List.map_append, -List.map_replicate, -List.reduceReplicate, noPtrL, noPtr, noPtrL_bsl, noPtrL_map, sub]
        · rw [resOf_own2 (by (simp (disch := decide) only [mset_ne, hr]; done))]
          exact hK _
      iterate 3 (apply aops_step (by decide) rfl; · (intro K hK; simp (disch := first | omega | decide) only [go_sem, f1, f4, f22, f23, f24, o1, o4, o22, e1, tr, to, e2, cellsOf_page, numS1, numS4, nm1, nm4, Bool.false_and, List.append_assoc, Nat.zero_add, Int.toNat_natCast]; exact hK _))
      apply aops_step (by decide) rfl
      · intro K hK
        simp (disch := first | omega | decide) only [go_sem, f1, f4, f22, f23, f24, o1, o4, o22, e1, tr, to, e2, cellsOf_page, numS1, numS4, nm1, nm4, Bool.false_and, List.append_assoc, Nat.zero_add, Int.toNat_natCast]
        rw [asg_tmp (by simp (disch := first | omega | decide) only [go_sem, f1, f4, f22, f23, f24, o1, o4, o22, e1, tr, to, e2, cellsOf_page, numS1, numS4, nm1, nm4, Bool.false_and, List.append_assoc, Nat.zero_add, Int.toNat_natCast]; rfl)]
        exact hK _
      refine aops_nil ?_
      refine AW.seq ?_
      refine AW.region (cfg := cfg4) ?_
      iterate 2 (apply aops_step (by decide) rfl; · (intro K hK; simp (disch := first | omega | decide) only [go_sem, f1, f4, f22, f23, f24, o1, o4, o22, e1, tr, to, e2, cellsOf_page, numS1, numS4, nm1, nm4, Bool.false_and, List.append_assoc, Nat.zero_add, Int.toNat_natCast]; exact hK _))
      apply aops_step (by decide) rfl
      · intro K hK
        simp (disch := first | omega | decide) only [go_sem, f1, f4, f22, f23, f24, o1, o4, o22, e1, tr, to, e2, List.map, List.length_map, aops_len u22, cellsOf_page, numS1, numS4, nm1, nm4, Bool.false_and, List.append_assoc, Nat.zero_add, Int.toNat_natCast]
        ((rw [mwp_len_own u22 (by simp (disch := first | omega | decide) only [go_sem, f1, f4, f22, f23, f24, o1, o4, o22, e1, tr, to, e2, List.map, cellsOf_page, numS1, numS4, nm1, nm4, Bool.false_and, List.append_assoc, Nat.zero_add, Int.toNat_natCast]; rfl)]); (try rw [sub_full (by (simp only [List.length_map, List.length_replicate]; done))]); (try simp only [List.length_map]); exact hK _)
      iterate 1 (apply aops_step (by decide) rfl; · (intro K hK; simp (disch := first | omega | decide) only [go_sem, f1, f4, f22, f23, f24, o1, o4, o22, e1, tr, to, e2, cellsOf_page, numS1, numS4, nm1, nm4, Bool.false_and, List.append_assoc, Nat.zero_add, Int.toNat_natCast]; exact hK _))
      apply aops_step (by decide) rfl
      · intro K hK
        simp (disch := first | omega | decide) only [go_sem, f1, f4, f22, f23, f24, o1, o4, o22, e1, tr, to, e2, List.map, cellsOf_page, numS1, numS4, nm1, nm4, Bool.false_and, List.append_assoc, Nat.zero_add, Int.toNat_natCast]
        (refine mwp_append0B el22 ti5 u3 (by omega) (by simp (disch := first | omega | decide) only [go_sem, f1, f4, f22, f23, f24, o1, o4, o22, e1, tr, to, e2, cellsOf_page, numS1, numS4, nm1, nm4, Bool.false_and, List.append_assoc, Nat.zero_add, Int.toNat_natCast]; rfl) (by (simp [three_len, numR_length, gmi_len, magK_len, pageH_len, List.length_append]; done)) (by omega) ?_; (try simp only [Bool.false_and]))
        exact hK _
      apply aops_step (by decide) rfl
      · intro K hK
        simp (disch := first | omega | decide) only [go_sem, f1, f4, f22, f23, f24, o1, o4, o22, e1, tr, to, e2, act_call, List.map, cellsOf_page, numS1, numS4, nm1, nm4, Bool.false_and, List.append_assoc, Nat.zero_add, Int.toNat_natCast]
        apply mwp_call_r rfl rfl rfl
        · intro Q hQ
          (simp (disch := first | omega | decide) only [go_sem, f1, f4, f22, f23, f24, o1, o4, o22, e1, tr, to, e2, peekL, reifyL_nil, reifyL_cons, reify_v, cellsOf_page, numS1, numS4, nm1, nm4, Bool.false_and, List.append_assoc, Nat.zero_add, Int.toNat_natCast]; ((((rw [mwp_reify_own (by simp (disch := first | omega | decide) only [go_sem, f1, f4, f22, f23, f24, o1, o4, o22, e1, tr, to, e2, peekL, reifyL_nil, reifyL_cons, reify_v, cellsOf_page, numS1, numS4, nm1, nm4, Bool.false_and, List.append_assoc, Nat.zero_add, Int.toNat_natCast]; rfl)]); (try rw [sub_full (by (simp only [List.length_map, List.length_replicate]; done))])); exact hQ)))
        · exact Z.good_Seal false _ ((show ∀ x : List (BitVec 8), x = pageB p → x.length ≤ 140737488355000 from fun x h => by rw [h]; omega) _ (by simpa only [List.append_assoc] using e3))
        · simp [-List.map_take, -List.map_drop, -List.map_append, -List.map_replicate, -List.reduceReplicate, noPtrL, noPtr, noPtrL_bsl, noPtrL_map, sub]
        · rw [resOf_own1 (by (simp (disch := decide) only [mset_ne, hr]; done))]
          exact hK _
      apply aops_step (by decide) rfl
      · intro K hK
        simp (disch := first | omega | decide) only [go_sem, f1, f4, f22, f23, f24, o1, o4, o22, e1, tr, to, e2, cellsOf_page, numS1, numS4, nm1, nm4, Bool.false_and, List.append_assoc, Nat.zero_add, Int.toNat_natCast]
        rw [asg_tmp (by simp (disch := first | omega | decide) only [go_sem, f1, f4, f22, f23, f24, o1, o4, o22, e1, tr, to, e2, cellsOf_page, numS1, numS4, nm1, nm4, Bool.false_and, List.append_assoc, Nat.zero_add, Int.toNat_natCast]; rfl)]
        exact hK _
      iterate 1 (apply aops_step (by decide) rfl; · (intro K hK; simp (disch := first | omega | decide) only [go_sem, f1, f4, f22, f23, f24, o1, o4, o22, e1, tr, to, e2, cellsOf_page, numS1, numS4, nm1, nm4, Bool.false_and, List.append_assoc, Nat.zero_add, Int.toNat_natCast]; exact hK _))
      refine aops_nil ?_
      refine AW.ret ?_
      refine ⟨.inr rfl, ?_⟩
      all_goals (obtain ⟨e4, e5⟩ := pg_ok hok; rw [hok, e4, e5, ← e3]; refine leavesN (leaves_own2 2 3 rfl (by simp (disch := first | omega | decide) only [go_sem, f1, f4, f22, f23, f24, o1, o4, o22, e1, tr, to, e2, cellsOf_page, numS1, numS4, nm1, nm4, Bool.false_and, List.append_assoc, Nat.zero_add, Int.toNat_natCast] <;> rfl) (by simp (disch := first | omega | decide) only [go_sem, f1, f4, f22, f23, f24, o1, o4, o22, e1, tr, to, e2, cellsOf_page, numS1, numS4, nm1, nm4, Bool.false_and, List.append_assoc, Nat.zero_add, Int.toNat_natCast] <;> rfl) (by simp (disch := first | omega | decide) only [go_sem, f1, f4, f22, f23, f24, o1, o4, o22, e1, tr, to, e2, cellsOf_page, numS1, numS4, nm1, nm4, Bool.false_and, List.append_assoc, Nat.zero_add, Int.toNat_natCast] <;> rfl) (by decide) (by simp [sub, List.take_of_length_le]) (by exact hG)))

end Go.Vai.G
