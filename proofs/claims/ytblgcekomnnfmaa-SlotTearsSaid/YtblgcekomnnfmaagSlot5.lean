import Derived.Test.YtblgcekomnnfmaagSlot4
namespace Go.Vai.S7
open Go.Proofs Go.Vai Go.Vai.G Go.Vai.L Go.Vai.O Go.Vai.R Go.Vai.U Go.Vai.Z
set_option linter.unusedSimpArgs false
set_option linter.unusedVariables false

def secP (g mark : Int) : Page := ⟨1, g, mark, 0, 0, 0, true, []⟩
def secOf (q : Page) : PS := (false, pgPut q)
def secN (b : List (BitVec 8)) : Nat := (parts (b.length : Int)).toNat
def secL (g mark : Int) (b : List (BitVec 8)) (k : Nat) : List PS := (splitP (secP g mark) false b k).map secOf
def secOK (g mark most : Int) (b : List (BitVec 8)) : Bool := decide (parts (b.length : Int) ≤ most) && splitOK (secP g mark) b
def secE (g mark most : Int) (b : List (BitVec 8)) : Int := if parts (b.length : Int) > most ∨ parts (b.length : Int) = 0 then 5 else splitE (secP g mark) b
def secR (g mark most : Int) (b : List (BitVec 8)) : List PS := if secOK g mark most b then secL g mark b (secN b) else []
theorem sec_big {g mark most : Int} {b : List (BitVec 8)} (h : parts (b.length : Int) > most) : secOK g mark most b = false ∧ secR g mark most b = [] ∧ secE g mark most b = 5 := by
  have e : secOK g mark most b = false := by rw [secOK, decide_eq_false (by omega), Bool.false_and]
  exact ⟨e, by rw [secR, e]; rfl, if_pos (.inl h)⟩
theorem split0E {p : Page} {b : List (BitVec 8)} : (splitE p b = 0 ∧ splitOK p b = true ∧ parts (b.length : Int) ≠ 0) ∨ (splitE p b ≠ 0 ∧ splitOK p b = false) := by
  by_cases h0 : parts (b.length : Int) = 0
  · obtain ⟨e1, _, e3⟩ := split_no0 (p := p) (nil := false) (b := b) h0
    right; rw [e1, e3]; decide
  · cases e : splitOK p b with
    | true => left; rw [splitE, if_neg h0, e]; exact ⟨rfl, rfl, h0⟩
    | false => right; rw [splitE, if_neg h0, e]; decide
theorem sec_no {g mark most : Int} {b : List (BitVec 8)} (h : ¬ parts (b.length : Int) > most) (h2 : splitE (secP g mark) b ≠ 0) : secOK g mark most b = false ∧ secR g mark most b = [] ∧ secE g mark most b = splitE (secP g mark) b := by
  have e : secOK g mark most b = false := by
    rcases split0E (p := secP g mark) (b := b) with ⟨h3, _⟩ | ⟨_, h3⟩
    · exact absurd h3 h2
    · rw [secOK, h3, Bool.and_false]
  refine ⟨e, by rw [secR, e]; rfl, ?_⟩
  unfold secE
  split
  · rename_i h4
    rcases h4 with h4 | h4
    · exact absurd h4 h
    · exact (split_no0 (p := secP g mark) (nil := false) (b := b) h4).2.2.symm
  · rfl
theorem sec_yes {g mark most : Int} {b : List (BitVec 8)} (h : ¬ parts (b.length : Int) > most) (h2 : splitE (secP g mark) b = 0) : secOK g mark most b = true ∧ secR g mark most b = secL g mark b (secN b) ∧ secE g mark most b = 0 := by
  rcases split0E (p := secP g mark) (b := b) with ⟨_, h3, h4⟩ | ⟨h3, _⟩
  · have e : secOK g mark most b = true := by rw [secOK, h3, decide_eq_true (by omega)]; rfl
    exact ⟨e, by rw [secR, e]; rfl, by rw [secE, if_neg (by omega), h2]⟩
  · exact absurd h2 h3
theorem secL_len (g mark : Int) (b : List (BitVec 8)) (k : Nat) : (secL g mark b k).length = k := by rw [secL, List.length_map, splitP_len]
theorem at_nil (p : Page) (n1 n2 : Bool) (b : List (BitVec 8)) (i : Nat) : pgPut (pageAt p n1 b (parts (b.length : Int)) i) = pgPut (pageAt p n2 b (parts (b.length : Int)) i) := rfl
theorem secL_succ {g mark : Int} {b : List (BitVec 8)} {k : Nat} : secL g mark b (k + 1) = secL g mark b k ++ [secOf (pageAt (secP g mark) false b (parts (b.length : Int)) k)] := by
  rw [secL, splitP_succ, List.map_append]; rfl
theorem splitOK_at {p : Page} {nil : Bool} {b : List (BitVec 8)} (h : splitOK p b = true) {k : Nat} (hk : k < (parts (b.length : Int)).toNat) : pageOK (pageAt p nil b (parts (b.length : Int)) k) = true := by
  refine all_split (p := p) (b := b) ?_ hk nil
  simp only [splitOK, Bool.and_eq_true] at h
  exact h.2
set_option maxHeartbeats 4000000 in
set_option maxRecDepth 100000 in
theorem good_Sectors (ge mark most : Int) (nil : Bool) (b : List (BitVec 8)) (hb0 : b.length ≤ 140737488350000) (hz : nil = true → b = []) : Good Try.prog 19 [(baseA ge nil b, false), (i64 mark, false), (i64 most, false)] [] [(.sl 1 (!secOK ge mark most b) ((secR ge mark most b).map pslice), false), (i64 (secE ge mark most b), false)] [] := by
  refine good_of_body5 53 Try.func19 rfl rfl rfl (by simp) (by simp) (by simp [noPtrL, noPtr]) (by simp [noPtrL, noPtr]) ?_
  intro s m ha hr hv hG
  have f0 : s 0 = .v (baseA ge nil b) := ha 0 _ rfl
  have f1 : s 1 = .v (i64 mark) := ha 1 _ rfl
  have f2 : s 2 = .v (i64 most) := ha 2 _ rfl
  clear ha
  refine AW.seq ?_
  refine AW.region (cfg := cfg) ?_
  apply aops_step (by decide) rfl
  · intro K hK
    simp (disch := first | omega | decide) only [go_sem, f0, f1, f2, act_box_t ti45, List.map, cellsOf_page, cellsOf_base]
    rw [settleL_vish _ _ (by rfl)]
    simp (disch := first | omega | decide) only [go_sem, f0, f1, f2, cellsL, List.map, List.length_cons, List.length_nil, Nat.reduceAdd, if_true, cellsOf_page, cellsOf_base]
    exact hK _
  iterate 2 (apply aops_step (by decide) rfl; · (intro K hK; simp (disch := first | omega | decide) only [go_sem, f0, f1, f2, sz47, cellsOf_page, cellsOf_base]; exact hK _))
  refine aops_nil ?_
  refine AW.seq ?_
  have hsn : (secP ge mark).b.length ≤ 9223372036854775807 := by simp [secP]
  refine AW.region (cfg := cfg) ?_
  apply aops_step (by decide) rfl
  · intro K hK
    simp (disch := first | omega | decide) only [go_sem, f0, f1, f2, act_fieldAddr_t fo45_0, List.map, cellsOf_page, cellsOf_base]
    rw [mwp_fieldAddr_b (by simp (disch := first | omega | decide) only [go_sem, f0, f1, f2, cellsOf_page, cellsOf_base]; rfl)]
    exact hK _
  apply aops_step (by decide) rfl
  · intro K hK
    simp (disch := first | omega | decide) only [go_sem, f0, f1, f2, act_load_t ti3, List.map, cellsOf_page, cellsOf_base]
    rw [mwp_load_b1 (by simp (disch := first | omega | decide) only [go_sem, f0, f1, f2, cellsOf_page, cellsOf_base]; rfl) (by rfl)]
    exact hK _
  iterate 1 (apply aops_step (by decide) rfl; · (intro K hK; simp (disch := first | omega | decide) only [go_sem, f0, f1, f2, cellsOf_page, cellsOf_base]; exact hK _))
  apply aops_step (by decide) rfl
  · intro K hK
    simp (disch := first | omega | decide) only [go_sem, f0, f1, f2, act_build_t ti58 pl58, List.map, cellsOf_page, cellsOf_base]
    simp [-List.map_take, -List.map_drop, fillL, okOne, cellishAV, Value.oneCell', cellsL, cellsOf, setAt, M.bind, Mwp, mset_same, Obj.isArr]
    exact hK _
  apply aops_step (by decide) rfl
  · intro K hK
    simp (disch := first | omega | decide) only [go_sem, f0, f1, f2, act_fieldAddr_t fo45_1, List.map, cellsOf_page, cellsOf_base]
    rw [mwp_fieldAddr_b (by simp (disch := first | omega | decide) only [go_sem, f0, f1, f2, cellsOf_page, cellsOf_base]; rfl)]
    exact hK _
  apply aops_step (by decide) rfl
  · intro K hK
    simp (disch := first | omega | decide) only [go_sem, f0, f1, f2, act_load_t ti22, List.map, cellsOf_page, cellsOf_base]
    rw [mwp_load_b1 (by simp (disch := first | omega | decide) only [go_sem, f0, f1, f2, cellsOf_page, cellsOf_base]; rfl) (by rfl)]
    exact hK _
  apply aops_step (by decide) rfl
  · intro K hK
    simp (disch := first | omega | decide) only [go_sem, f0, f1, f2, act_call, List.map, cellsOf_page, cellsOf_base]
    apply mwp_call_r rfl rfl rfl
    · intro Q hQ
      (simp (disch := first | omega | decide) only [go_sem, f0, f1, f2, peekL, reifyL_nil, reifyL_cons, reify_v, cellsOf_page, cellsOf_base]; (exact hQ))
    · exact (good_Split (secP ge mark) hsn nil b (by omega) hz).lend2
    · simp [-List.map_take, -List.map_drop, -List.map_append, -List.map_replicate, -List.reduceReplicate, noPtrL, noPtr, noPtrL_bsl, noPtrL_map, sub]
    · simp (disch := first | omega | decide) only [go_sem, f0, f1, f2, cellsOf_page, cellsOf_base]
      exact hK _
  iterate 5 (apply aops_step (by decide) rfl; · (intro K hK; simp (disch := first | omega | decide) only [go_sem, f0, f1, f2, cellsOf_page, cellsOf_base]; exact hK _))
  refine aops_nil ?_
  refine AW.seq ?_
  refine AW.block ?_
  refine AW.seq ?_
  refine AW.region (cfg := cfg) ?_
  apply aops_step (by decide) rfl
  · intro K hK
    simp (disch := first | omega | decide) only [go_sem, f0, f1, f2, act_fieldAddr_t fo45_1, List.map, cellsOf_page, cellsOf_base]
    rw [mwp_fieldAddr_b (by simp (disch := first | omega | decide) only [go_sem, f0, f1, f2, cellsOf_page, cellsOf_base]; rfl)]
    exact hK _
  apply aops_step (by decide) rfl
  · intro K hK
    simp (disch := first | omega | decide) only [go_sem, f0, f1, f2, act_load_t ti22, List.map, cellsOf_page, cellsOf_base]
    rw [mwp_load_b1 (by simp (disch := first | omega | decide) only [go_sem, f0, f1, f2, cellsOf_page, cellsOf_base]; rfl) (by rfl)]
    exact hK _
  iterate 1 (apply aops_step (by decide) rfl; · (intro K hK; simp (disch := first | omega | decide) only [go_sem, f0, f1, f2, List.map, List.length_map, aops_len u22, cellsOf_page, cellsOf_base]; exact hK _))
  apply aops_step (by decide) rfl
  · intro K hK
    simp (disch := first | omega | decide) only [go_sem, f0, f1, f2, act_call, List.map, cellsOf_page, cellsOf_base]
    apply mwp_call_s rfl rfl rfl
    · intro Q hQ
      (simp (disch := first | omega | decide) only [go_sem, f0, f1, f2, peekL, reifyL_nil, reifyL_cons, reify_v, cellsOf_page, cellsOf_base]; (exact hQ))
    · exact good_Parts _ (by omega)
    · simp [-List.map_take, -List.map_drop, -List.map_append, -List.map_replicate, -List.reduceReplicate, noPtrL, noPtr, noPtrL_bsl, noPtrL_map, sub]
    · rfl
    · exact hK _
  iterate 3 (apply aops_step (by decide) rfl; · (intro K hK; simp (disch := first | omega | decide) only [go_sem, f0, f1, f2, cellsOf_page, cellsOf_base]; exact hK _))
  refine aops_nil ?_
  apply AW.cond
  · simp (disch := first | omega | decide) only [go_sem, f0, f1, f2, cellsOf_page, cellsOf_base]; rfl
  case ht =>
    intro hb
    try simp only [Bool.or_eq_true, Bool.and_eq_true, Bool.or_eq_false_iff, Bool.and_eq_false_iff, decide_eq_true_eq, decide_eq_false_iff_not] at hb
    have hbt25 := hb
    refine AW.seq ?_
    refine AW.region (cfg := cfg) ?_
    iterate 2 (apply aops_step (by decide) rfl; · (intro K hK; simp (disch := first | omega | decide) only [go_sem, f0, f1, f2, sz47, cellsOf_page, cellsOf_base]; exact hK _))
    refine aops_nil ?_
    refine AW.ret ?_
    refine ⟨.inr rfl, ?_⟩
    apply Exists.intro
    (have zz := sec_big (g := ge) (mark := mark) hbt25)
    obtain ⟨e1, e2, e3⟩ := zz
    rw [e1, e2, e3]
    refine leavesN ?_
    refine leaves_mwp2 (rs := [.tmp 6, .tmp 7]) rfl ?_; simp (config := {failIfUnchanged := false}) [giveL, srcOne, rehome, freezeN, sub, upd, opn, aLoad, loadL, giveOne, reify, reifyL, readL, readOne, Mwp, M.bind, Mem.set, setAt, cellsL, hG, f0, f1, f2]
    exact rfl
  case hf =>
    intro hb
    try simp only [Bool.or_eq_true, Bool.and_eq_true, Bool.or_eq_false_iff, Bool.and_eq_false_iff, decide_eq_true_eq, decide_eq_false_iff_not] at hb
    have hbt25 := hb
    refine AW.seq ?_
    refine AW.region (cfg := cfg) ?_
    iterate 3 (apply aops_step (by decide) rfl; · (intro K hK; simp (disch := first | omega | decide) only [go_sem, f0, f1, f2, cellsOf_page, cellsOf_base]; exact hK _))
    refine aops_nil ?_
    apply AW.cond
    · simp (disch := first | omega | decide) only [go_sem, f0, f1, f2, cellsOf_page, cellsOf_base]; rfl
    case ht =>
      intro hb
      try simp only [Bool.or_eq_true, Bool.and_eq_true, Bool.or_eq_false_iff, Bool.and_eq_false_iff, decide_eq_true_eq, decide_eq_false_iff_not] at hb
      have hbt32 := hb
      refine AW.seq ?_
      refine AW.region (cfg := cfg) ?_
      iterate 3 (apply aops_step (by decide) rfl; · (intro K hK; simp (disch := first | omega | decide) only [go_sem, f0, f1, f2, sz47, cellsOf_page, cellsOf_base]; exact hK _))
      refine aops_nil ?_
      refine AW.ret ?_
      refine ⟨.inr rfl, ?_⟩
      apply Exists.intro
      (have zz := sec_no hbt25 hbt32)
      obtain ⟨e1, e2, e3⟩ := zz
      rw [e1, e2, e3]
      refine leavesN ?_
      refine leaves_mwp2 (rs := [.tmp 6, .tmp 7]) rfl ?_; simp (config := {failIfUnchanged := false}) [giveL, srcOne, rehome, freezeN, sub, upd, opn, aLoad, loadL, giveOne, reify, reifyL, readL, readOne, Mwp, M.bind, Mem.set, setAt, cellsL, hG, f0, f1, f2]
      exact rfl
    case hf =>
      intro hb
      try simp only [Bool.or_eq_true, Bool.and_eq_true, Bool.or_eq_false_iff, Bool.and_eq_false_iff, decide_eq_true_eq, decide_eq_false_iff_not] at hb
      have hbt32 := hb
      refine AW.skip ?_
      refine AW.seq ?_
      obtain ⟨hsE, hsO, hsP⟩ := split0E.resolve_right (fun f => f.1 (by exact Decidable.not_not.1 hbt32))
      have hs3 : splitL (secP ge mark) nil b = splitP (secP ge mark) nil b (parts (b.length : Int)).toNat := by rw [splitL, hsO]; rfl
      obtain ⟨hp1, hp2, hp3⟩ := sp_pos hsP
      have hpz : decide ((parts (b.length : Int)).toNat = 0) = false := decide_eq_false (by omega)
      have hlz := splitP_len (secP ge mark) nil b (parts (b.length : Int)).toNat
      refine AW.region (cfg := cfg) ?_
      iterate 1 (apply aops_step (by decide) rfl; · (intro K hK; simp (disch := first | omega | decide) only [go_sem, f0, f1, f2, hs3, sz47, cellsOf_page, cellsOf_base]; exact hK _))
      refine aops_nil ?_
      refine AW.seq ?_
      refine AW.seq ?_
      refine AW.region (cfg := cfg) ?_
      iterate 3 (apply aops_step (by decide) rfl; · (intro K hK; simp (disch := first | omega | decide) only [go_sem, f0, f1, f2, hs3, List.map, List.length_map, aops_len u91, cellsOf_page, cellsOf_base]; exact hK _))
      refine aops_nil ?_
      refine AW.block ?_
      refine AW.forN (fun k σ => ∃ s m, σ = ⟨53, s, m⟩ ∧ s 10 = .own (.var 10) (m.objs (.var 10)).1 0 (k) ∧ (m.objs (.var 10)).2 = .arr (decide (k = 0)) 1 ((secL ge mark b k).map pslice) ∧ s 36 = .v (.sl 7 (!splitOK (secP ge mark) b) ((splitP (secP ge mark) nil b (parts (b.length : Int)).toNat).map pageA)) ∧ s 37 = .v (i64 (((splitP (secP ge mark) nil b (parts (b.length : Int)).toNat).length : Nat) : Int)) ∧ s 38 = .v (i64 (k : Int)) ∧ (∀ i, (m.objs (.res i)).2 = .dead) ∧ m.G = []) ((parts (b.length : Int)).toNat) ?_ ?_ ?_
      · refine ⟨_, _, rfl, ?_, ?_, ?_, ?_, ?_, (by intro i; simp [Mem.set, hr]), (by exact hG)⟩ <;> try simp (disch := first | omega | decide) only [go_sem, f0, f1, f2, hs3, cellsOf_page, cellsOf_base]
        all_goals rfl
      · clear f0 f1 f2 hr hG
        rintro k σ hk ⟨s, m, rfl, f10, o10, f36, f37, f38, hr, hG⟩
        obtain ⟨g10, o10⟩ : ∃ g, m.objs (.var 10) = (g, .arr (decide (k = 0)) 1 ((secL ge mark b k).map pslice)) := ⟨_, Prod.ext rfl o10⟩
        rw [o10] at f10
        refine AW.seq ?_
        refine AW.region (cfg := cfg) ?_
        iterate 1 (apply aops_step (by decide) rfl; · (intro K hK; simp (disch := first | omega | decide) only [go_sem, f10, f36, f37, f38, o10, hs3, cellsOf_page, cellsOf_base]; exact hK _))
        refine aops_nil ?_
        refine AW.seq ?_
        apply AW.cond
        · simp (disch := first | omega | decide) only [go_sem, f10, f36, f37, f38, o10, hs3, cellsOf_page, cellsOf_base]; rfl
        case hf => intro hb; (simp at hb; omega)
        case ht =>
        intro hb
        have hbt39 := hb
        refine AW.skip ?_
        refine AW.seq ?_
        refine AW.block ?_
        refine AW.seq ?_
        have hks : k < (splitP (secP ge mark) nil b (parts (b.length : Int)).toNat).length := by (rw [splitP_len]; exact hk)
        have sg := splitP_get (p := secP ge mark) (nil := nil) (b := b) hk
        have hok := splitOK_at (nil := nil) hsO hk
        have hpc := chunk_len b k
        refine AW.region (cfg := cfg) ?_
        apply aops_step (by decide) rfl
        · intro K hK
          simp (disch := first | omega | decide) only [go_sem, f10, f36, f37, f38, o10, hs3, sg, hok, act_indexAddr_s u91 ti58, List.map, cellsOf_page, cellsOf_base]
          skip
          exact hK _
        apply aops_step (by decide) rfl
        · intro K hK
          simp (disch := first | omega | decide) only [go_sem, f10, f36, f37, f38, o10, hs3, sg, hok, act_load_t ti58, List.map, cellsOf_page, cellsOf_base]
          rw [mwp_load_is (by simp)]
          exact hK _
        apply aops_step (by decide) rfl
        · intro K hK
          simp (disch := first | omega | decide) only [go_sem, f10, f36, f37, f38, o10, hs3, sg, hok, act_alloc_t ti58, List.map, cellsOf_page, cellsOf_base]
          exact hK _
        apply aops_step0 rfl
        · intro K hK
          simp (disch := first | omega | decide) only [go_sem, f10, f36, f37, f38, o10, hs3, sg, hok, act_store_t ti58, List.map, cellsOf_page, cellsOf_base]
          rw [mwp_store_c (by simp (disch := first | omega | decide) only [go_sem, f10, f36, f37, f38, o10, hs3, sg, hok, cellsOf_page, cellsOf_base]; rfl) (by rfl) (by rfl) (by rfl) (by simp)]
          try simp only [setAt, cellsL, cellsOf_agg, cellsOf_base, List.map_cons, List.map_nil, List.set_cons_zero, List.set_cons_succ, Nat.reduceAdd, Nat.zero_add, hG]
          exact hK _
        refine aops_nil ?_
        refine AW.seq ?_
        refine AW.region (cfg := cfg) ?_
        apply aops_step (by decide) rfl
        · intro K hK
          simp (disch := first | omega | decide) only [go_sem, f10, f36, f37, f38, o10, hs3, sg, hok, act_load_t ti58, List.map, cellsOf_page, cellsOf_base]
          rw [mwp_load_bs (by simp (disch := first | omega | decide) only [go_sem, f10, f36, f37, f38, o10, hs3, sg, hok, cellsOf_page, cellsOf_base]; rfl) (by simp [setAt])]
          exact hK _
        apply aops_step (by decide) rfl
        · intro K hK
          simp (disch := first | omega | decide) only [go_sem, f10, f36, f37, f38, o10, hs3, sg, hok, act_call, List.map, cellsOf_page, cellsOf_base]
          apply mwp_call_r rfl rfl rfl
          · intro Q hQ
            (simp (disch := first | omega | decide) only [go_sem, f10, f36, f37, f38, o10, hs3, sg, hok, peekL, reifyL_nil, reifyL_cons, reify_v, cellsOf_page, cellsOf_base]; (exact hQ))
          · exact (good_PutP (pageAt (secP ge mark) nil b (parts (b.length : Int)) k) (by (show (chunk _ _).length ≤ _; omega))).lend2
          · simp [-List.map_take, -List.map_drop, -List.map_append, -List.map_replicate, -List.reduceReplicate, noPtrL, noPtr, noPtrL_bsl, noPtrL_map, sub]
          · simp (disch := first | omega | decide) only [go_sem, f10, f36, f37, f38, o10, hs3, sg, hok, cellsOf_page, cellsOf_base]
            exact hK _
        iterate 5 (apply aops_step (by decide) rfl; · (intro K hK; simp (disch := first | omega | decide) only [go_sem, f10, f36, f37, f38, o10, hs3, sg, hok, cellsOf_page, cellsOf_base]; exact hK _))
        refine aops_nil ?_
        refine AW.region (cfg := cfg) ?_
        iterate 2 (apply aops_step (by decide) rfl; · (intro K hK; simp (disch := first | omega | decide) only [go_sem, f10, f36, f37, f38, o10, hs3, sg, hok, cellsOf_page, cellsOf_base]; exact hK _))
        apply aops_step (by decide) rfl
        · intro K hK
          rw [act_bs el47 ti22]
          (simp [-List.map_take, -List.map_drop, -BitVec.toNat_ofInt, -BitVec.ofInt_natCast, -BitVec.toNat_setWidth, -BitVec.toNat_ushiftRight, -BitVec.toNat_umod, -BitVec.toNat_udiv, go_sem, elems_v, cellishAV, Value.oneCell', isAggAV, partsOf, TI.z, TI.mk1, f10, f36, f37, f38, o10, hs3, sg, hok]; exact hK _)
        apply aops_step (by decide) rfl
        · intro K hK
          simp (disch := first | omega | decide) only [go_sem, f10, f36, f37, f38, o10, hs3, sg, hok, List.map, cellsOf_page, cellsOf_base]
          apply mwp_append2 el47 ti22 u47
          case hpk => intro Q hQ; (rw [peek_own (by simp (disch := first | omega | decide) only [go_sem, f10, f36, f37, f38, o10, hs3, sg, hok, cellsOf_page, cellsOf_base]; rfl)]; (try rw [sub_full (by rfl)]); exact hQ)
          case hs' => rfl
          case ho => simp (disch := first | omega | decide) only [go_sem, f10, f36, f37, f38, o10, hs3, sg, hok, cellsOf_page, cellsOf_base]; rfl
          case hsz => rfl
          case hhi => (simp [secL_len]; done)
          case hb => (simp only [List.length_cons, List.length_nil, List.length_map, Nat.zero_add, Nat.reduceAdd, roomB]; omega)
          case hy => exact all_cells rfl
          case k => (try simp only [List.nil_append, ← List.map_append, Bool.false_and]); exact hK _
        apply aops_step (by decide) rfl
        · intro K hK
          simp (disch := first | omega | decide) only [go_sem, f10, f36, f37, f38, o10, hs3, sg, hok, cellsOf_page, cellsOf_base]
          rw [asg_tmp (by simp (disch := first | omega | decide) only [go_sem, f10, f36, f37, f38, o10, hs3, sg, hok, cellsOf_page, cellsOf_base]; rfl)]
          exact hK _
        refine aops_nil ?_
        refine AW.region (cfg := cfg) ?_
        iterate 2 (apply aops_step (by decide) rfl; · (intro K hK; simp (disch := first | omega | decide) only [go_sem, f10, f36, f37, f38, o10, hs3, sg, hok, cellsOf_page, cellsOf_base]; exact hK _))
        refine aops_nil ?_
        refine ⟨_, _, rfl, ?_, ?_, ?_, ?_, ?_, (by intro i; simp [Mem.set, hr]), (by exact hG)⟩ <;> try simp (disch := first | omega | decide) only [go_sem, f10, f36, f37, f38, o10, hs3, sg, hok, cellsOf_page, cellsOf_base]
        all_goals first | rfl | (rw [secL_succ, at_nil _ nil false]; simp [pslice, secOf]; done)
      · clear f0 f1 f2 hr hG
        rintro σ ⟨s, m, rfl, f10, o10, f36, f37, f38, hr, hG⟩
        obtain ⟨g10, o10⟩ : ∃ g, m.objs (.var 10) = (g, .arr (decide ((parts (b.length : Int)).toNat = 0)) 1 ((secL ge mark b (parts (b.length : Int)).toNat).map pslice)) := ⟨_, Prod.ext rfl o10⟩
        rw [o10] at f10
        refine AW.seq ?_
        refine AW.region (cfg := cfg) ?_
        iterate 1 (apply aops_step (by decide) rfl; · (intro K hK; simp (disch := first | omega | decide) only [go_sem, f10, f36, f37, f38, o10, hs3, cellsOf_page, cellsOf_base]; exact hK _))
        refine aops_nil ?_
        refine AW.seq ?_
        apply AW.cond
        · simp (disch := first | omega | decide) only [go_sem, f10, f36, f37, f38, o10, hs3, cellsOf_page, cellsOf_base]; rfl
        case ht => intro hb; (simp at hb; omega)
        case hf =>
        intro hb
        have hbt39 := hb
        refine AW.exit ?_
        refine AW.seq ?_
        refine AW.region (cfg := cfg) ?_
        iterate 1 (apply aops_step (by decide) rfl; · (intro K hK; simp (disch := first | omega | decide) only [go_sem, f10, f36, f37, f38, o10, hs3, cellsOf_page, cellsOf_base]; exact hK _))
        apply aops_step (by decide) rfl
        · intro K hK
          simp (disch := first | omega | decide) only [go_sem, f10, f36, f37, f38, o10, hs3, cellsOf_page, cellsOf_base]
          rw [asg_fz (by rfl) (by decide) (by simp (disch := first | omega | decide) only [go_sem, f10, f36, f37, f38, o10, hs3, cellsOf_page, cellsOf_base] <;> rfl)]
          exact hK _
        iterate 1 (apply aops_step (by decide) rfl; · (intro K hK; simp (disch := first | omega | decide) only [go_sem, f10, f36, f37, f38, o10, hs3, cellsOf_page, cellsOf_base]; exact hK _))
        refine aops_nil ?_
        refine AW.ret ?_
        refine ⟨.inr rfl, ?_⟩
        apply Exists.intro
        (have zz := sec_yes hbt25 (Decidable.not_not.1 hbt32))
        obtain ⟨e1, e2, e3⟩ := zz
        rw [e1, e2, e3]
        refine leavesN ?_
        refine leaves_mwp2 (rs := [.tmp 6, .tmp 7]) rfl ?_; simp (config := {failIfUnchanged := false}) [giveL, srcOne, rehome, freezeN, sub, upd, opn, aLoad, loadL, giveOne, reify, reifyL, readL, readOne, Mwp, M.bind, Mem.set, setAt, cellsL, hG, f10, f36, f37, f38, o10, hs3]
        exact ⟨⟨by omega, List.take_of_length_le (by simp [secL_len])⟩, rfl⟩

end Go.Vai.S7
