import Derived.Test.YtompjoadhhjddaabRec5
import Derived.Test.YtompjoadhhjddaaRecLaw
namespace Go.Vai.R
open Go.Proofs Go.Vai Go.Vai.G Go.Vai.L Go.Vai.O Go.Vai.U Go.Vai.Z
set_option linter.unusedSimpArgs false
set_option linter.unusedVariables false

def rq : Page := ⟨1, 0, 0, 3, 0, 0, true, []⟩
def rz : List (BitVec 8) := List.replicate 489 0#8
def rq0 : Page := pageAt rq false rz 2 0
def rq1 : Page := pageAt rq false rz 2 1
theorem rz_len : rz.length = 489 := List.length_replicate
theorem rz_parts : parts (rz.length : Int) = 2 := by rw [rz_len]; decide
theorem rz_sp : splitP rq false rz (parts (rz.length : Int)).toNat = [rq0, rq1] := by rw [rz_parts]; show (List.range 2).map (pageAt rq false rz (parts (rz.length : Int))) = _; rw [rz_parts]; rfl
theorem rz_all : allPages (splitP rq false rz (parts (rz.length : Int)).toNat) = true := by rw [rz_sp]; decide +kernel
theorem rz_split : splitOK rq rz = true ∧ splitL rq false rz = [rq0, rq1] ∧ splitE rq rz = 0 := by
  have := split_yes (p := rq) (nil := false) (b := rz) (by rw [rz_parts]; decide) rz_all
  rw [rz_sp] at this; exact this
theorem rz_join : joinOK [rq0, rq1] = true ∧ joinB [rq0, rq1] = rz ∧ joinN [rq0, rq1] = 2 := by
  have := split_join (p := rq) (nil := false) (b := rz) (more := []) (by rw [rz_parts]; decide) rz_all
  rw [List.append_nil, rz_sp, rz_parts] at this; exact this
theorem rz_row : List.replicate 489 (AV.base (Value.int IntKind.u8 0)) = bsl rz := by rw [rz, bsl, List.map_replicate]; rfl
theorem rz_idx : rq1.idx = 4 := rfl
theorem rz_p489 : parts 489 = 2 := by decide
set_option maxHeartbeats 4000000 in
set_option maxRecDepth 100000 in
theorem good_awake  : Good Try.prog 33 [] [] [(.b true, false)] [] := by
  refine good_of_body4 48 Try.func33 rfl rfl rfl (by simp) (by simp) (by simp [noPtrL, noPtr]) (by rfl) ?_
  intro s m ha hr hv hG
  clear ha
  refine AW.seq ?_
  refine AW.region (cfg := cfg) ?_
  iterate 1 (apply aops_step (by decide) rfl; · (intro K hK; simp (disch := first | omega | decide) only [go_sem, cellsOf_page, rz_idx, rz_p489, rz_row, rz_len]; exact hK _))
  refine aops_nil ?_
  refine AW.seq ?_
  obtain ⟨w1, w2, w3⟩ := rz_split
  obtain ⟨w4, w5, w6⟩ := rz_join
  have w7 : ((rz.length : Nat) : Int) = 489 := by rw [rz_len]; rfl
  refine AW.region (cfg := cfg) ?_
  apply aops_step (by decide) rfl
  · intro K hK
    simp (disch := first | omega | decide) only [go_sem, w1, w2, w3, w4, w5, w6, w7, act_build_t ti47 pl47, List.map, cellsOf_page, rz_idx, rz_p489, rz_row, rz_len]
    simp [-List.map_take, -List.map_drop, fillL, okOne, cellishAV, Value.oneCell', cellsL, cellsOf, setAt, M.bind, Mwp, mset_same, Obj.isArr]
    exact hK _
  apply aops_step (by decide) rfl
  · intro K hK
    rw [act_make el25 ti5]
    simp (disch := first | omega | decide) only [go_sem, w1, w2, w3, w4, w5, w6, w7, cellsOf_page, rz_idx, rz_p489, rz_row, rz_len]
    rw [mwp_make (by (simp [roomB]; done))]
    exact hK _
  apply aops_step (by decide) rfl
  · intro K hK
    simp (disch := first | omega | decide) only [go_sem, w1, w2, w3, w4, w5, w6, w7, act_call, List.map, cellsOf_page, rz_idx, rz_p489, rz_row, rz_len]
    apply mwp_call_r rfl rfl rfl
    · intro Q hQ
      ((try simp only [opn_agg, opn_own, opn_v]); (try simp only [List.drop_zero, List.drop_succ_cons, List.take_succ_cons, List.take_zero]); (repeat (first | rw [mwp_reifyL_agg] | rw [mwp_reifyL_v] | rw [mwp_reifyL_arr (by simp (disch := first | omega | decide) only [go_sem, w1, w2, w3, w4, w5, w6, w7, cellsOf_page, rz_idx, rz_p489, rz_row, rz_len]; rfl)] | rw [mwp_reifyL_nil])); (repeat (rw [sub_full (by rfl)])); exact hQ)
    · exact (good_Split rq (by simp [rq]) false rz (by rw [rz_len]; omega) (by simp)).lend2
    · simp [-List.map_take, -List.map_drop, -List.map_append, -List.map_replicate, -List.reduceReplicate, noPtrL, noPtr, noPtrL_bsl, noPtrL_map, rz_row, sub]
    · simp (disch := first | omega | decide) only [go_sem, w1, w2, w3, w4, w5, w6, w7, cellsOf_page, rz_idx, rz_p489, rz_row, rz_len]
      exact hK _
  iterate 5 (apply aops_step (by decide) rfl; · (intro K hK; simp (disch := first | omega | decide) only [go_sem, w1, w2, w3, w4, w5, w6, w7, cellsOf_page, rz_idx, rz_p489, rz_row, rz_len]; exact hK _))
  refine aops_nil ?_
  refine AW.seq ?_
  refine AW.region (cfg := cfg) ?_
  iterate 1 (apply aops_step (by decide) rfl; · (intro K hK; simp (disch := first | omega | decide) only [go_sem, w1, w2, w3, w4, w5, w6, w7, cellsOf_page, rz_idx, rz_p489, rz_row, rz_len]; exact hK _))
  apply aops_step (by decide) rfl
  · intro K hK
    simp (disch := first | omega | decide) only [go_sem, w1, w2, w3, w4, w5, w6, w7, act_call, List.map, cellsOf_page, rz_idx, rz_p489, rz_row, rz_len]
    apply mwp_call_r rfl rfl rfl
    · intro Q hQ
      (simp (disch := first | omega | decide) only [go_sem, w1, w2, w3, w4, w5, w6, w7, peekL, reifyL_nil, reifyL_cons, reify_v, cellsOf_page, rz_idx, rz_p489, rz_row, rz_len]; (exact hQ))
    · exact good_Join false [rq0, rq1] (by simp) (by intro x hx; rcases List.mem_cons.1 hx with rfl | hx; decide; rcases List.mem_cons.1 hx with rfl | hx; decide; cases hx)
    · simp [-List.map_take, -List.map_drop, -List.map_append, -List.map_replicate, -List.reduceReplicate, noPtrL, noPtr, noPtrL_bsl, noPtrL_map, rz_row, sub]
    · simp (disch := first | omega | decide) only [go_sem, w1, w2, w3, w4, w5, w6, w7, cellsOf_page, rz_idx, rz_p489, rz_row, rz_len]
      exact hK _
  iterate 7 (apply aops_step (by decide) rfl; · (intro K hK; simp (disch := first | omega | decide) only [go_sem, w1, w2, w3, w4, w5, w6, w7, cellsOf_page, rz_idx, rz_p489, rz_row, rz_len]; exact hK _))
  refine aops_nil ?_
  refine AW.seq ?_
  refine AW.region (cfg := cfg) ?_
  iterate 9 (apply aops_step (by decide) rfl; · (intro K hK; simp (disch := first | omega | decide) only [go_sem, w1, w2, w3, w4, w5, w6, w7, List.map, List.length_map, aops_len u48, cellsOf_page, rz_idx, rz_p489, rz_row, rz_len]; exact hK _))
  apply aops_step (by decide) rfl
  · intro K hK
    simp (disch := first | omega | decide) only [go_sem, w1, w2, w3, w4, w5, w6, w7, act_indexAddr_s u48 ti47, List.map, cellsOf_page, rz_idx, rz_p489, rz_row, rz_len]
    skip
    exact hK _
  apply aops_step (by decide) rfl
  · intro K hK
    simp (disch := first | omega | decide) only [go_sem, w1, w2, w3, w4, w5, w6, w7, act_fieldAddr_t fo47_3, List.map, cellsOf_page, rz_idx, rz_p489, rz_row, rz_len]
    skip
    exact hK _
  apply aops_step (by decide) rfl
  · intro K hK
    simp (disch := first | omega | decide) only [go_sem, w1, w2, w3, w4, w5, w6, w7, act_load_t ti3, List.map, cellsOf_page, rz_idx, rz_p489, rz_row, rz_len]
    rw [mwp_load_i1 (by rfl)]
    exact hK _
  iterate 15 (apply aops_step (by decide) rfl; · (intro K hK; simp (disch := first | omega | decide) only [go_sem, w1, w2, w3, w4, w5, w6, w7, List.map, List.length_map, aops_len u25, cellsOf_page, rz_idx, rz_p489, rz_row, rz_len]; exact hK _))
  apply aops_step (by decide) rfl
  · intro K hK
    simp (disch := first | omega | decide) only [go_sem, w1, w2, w3, w4, w5, w6, w7, act_call, List.map, cellsOf_page, rz_idx, rz_p489, rz_row, rz_len]
    apply mwp_call_s rfl rfl rfl
    · intro Q hQ
      (simp (disch := first | omega | decide) only [go_sem, w1, w2, w3, w4, w5, w6, w7, peekL, reifyL_nil, reifyL_cons, reify_v, cellsOf_page, rz_idx, rz_p489, rz_row, rz_len]; (exact hQ))
    · exact good_Parts 489 (by omega)
    · simp [-List.map_take, -List.map_drop, -List.map_append, -List.map_replicate, -List.reduceReplicate, noPtrL, noPtr, noPtrL_bsl, noPtrL_map, rz_row, sub]
    · rfl
    · exact hK _
  iterate 3 (apply aops_step (by decide) rfl; · (intro K hK; simp (disch := first | omega | decide) only [go_sem, w1, w2, w3, w4, w5, w6, w7, cellsOf_page, rz_idx, rz_p489, rz_row, rz_len]; exact hK _))
  refine aops_nil ?_
  refine AW.ret ?_
  refine ⟨.inr rfl, ?_⟩
  apply Exists.intro
  refine leaves_tmp1 0 rfl ?_ (by rfl)
  simp (disch := first | omega | decide) only [go_sem, w1, w2, w3, w4, w5, w6, w7, cellsOf_page, rz_idx, rz_p489, rz_row, rz_len]
  all_goals rfl

theorem sp_way (p : Page) (b : List (BitVec 8)) : p.idx < 0 ∨ (¬ p.idx < 0 ∧ p.idx > 2147483648) ∨ (¬ p.idx < 0 ∧ ¬ p.idx > 2147483648 ∧ (splitP p false b (parts (b.length : Int)).toNat).all pageOK = false) ∨ (¬ p.idx < 0 ∧ ¬ p.idx > 2147483648 ∧ (splitP p false b (parts (b.length : Int)).toNat).all pageOK = true) := by
  cases (splitP p false b (parts (b.length : Int)).toNat).all pageOK <;> (by_cases h : p.idx < 0 <;> by_cases h2 : p.idx > 2147483648 <;> simp [h, h2])
theorem sp_pos {b : List (BitVec 8)} (h : ¬ parts (b.length : Int) = 0) : (((parts (b.length : Int)).toNat : Nat) : Int) = parts (b.length : Int) ∧ 0 < (parts (b.length : Int)).toNat ∧ (parts (b.length : Int)).toNat ≤ 16 := by
  have := parts_is (n := (b.length : Int)) (fun hc => h (parts_no hc))
  omega
theorem split_out {p : Page} {nil : Bool} {b : List (BitVec 8)} (h : ¬ parts (b.length : Int) = 0) (hi : p.idx < 0 ∨ p.idx > 2147483648) : splitOK p b = false ∧ splitL p nil b = [] ∧ splitE p b = 1 :=
  split_no1 h (sp_pos h).2.1 (idx_out hi)
theorem split_bad {p : Page} {nil : Bool} {b : List (BitVec 8)} (h : ¬ parts (b.length : Int) = 0) (ha : (splitP p false b (parts (b.length : Int)).toNat).all pageOK = false) : splitOK p b = false ∧ splitL p nil b = [] ∧ splitE p b = 1 := by
  have h2 : splitOK p b = false := by rw [splitOK, allPages, ha, Bool.and_false]
  exact ⟨h2, by rw [splitL, h2]; rfl, by rw [splitE, if_neg h, h2]; rfl⟩
theorem splitP_small {p : Page} {nil : Bool} {b : List (BitVec 8)} {k : Nat} : ∀ x ∈ splitP p nil b k, x.b.length ≤ 488 := fun x hx => by
  obtain ⟨i, hi, rfl⟩ := List.mem_iff_getElem.1 hx
  rw [splitP_get (by simpa [splitP_len] using hi)]
  exact chunk_len b i
end Go.Vai.R
