import Derived.Test.YtompjoadhhjddaabLsa5
import Derived.Test.YtompjoadhhjddaaLsaBk
namespace Go.Vai.L
open Go.Proofs Go.Vai Go.Vai.O
set_option linter.unusedSimpArgs false
set_option linter.unusedVariables false


theorem noPtr_lsa (x : Lsa) : noPtr (lsaA x) = true := by simp [lsaA, noPtr, noPtrL, noPtrL_links]
theorem noPtrL_lsas (l : List Lsa) : noPtrL (l.map lsaA) = true := noPtrL_map noPtr_lsa _
theorem cellsOf_lsa (x : Lsa) : cellsOf (lsaA x) = [.i .i64 x.o, .i .i64 x.s, .sl 2 x.nil (x.ls.map linkA)] := rfl
def awL : Lsa := ⟨3, 7, true, []⟩
theorem aw1 : lsaOK ⟨3, 7, true, []⟩ = true := by decide
theorem aw2 : ([] ++ lsaS ⟨3, 7, true, []⟩ : List (BitVec 8)) = lsaB awL := by rw [lsaS, aw1, if_pos rfl]; rfl
theorem aw3 : (true && !lsaOK ⟨3, 7, true, []⟩) = false := by decide
theorem aw4 : (((lsaB awL).length : Nat) : Int) = 10 := by decide
theorem aw5 : rdL (lsaB awL) false = ⟨3, 7, true, []⟩ ∧ rdOK (lsaB awL) false = true := by
  have h := rd_backs (l := awL) (by decide) []
  rw [List.append_nil] at h
  exact ⟨h.1, h.2.1⟩
theorem d33 : decide ((3 : Int) = 3) = true := rfl
theorem d77 : decide ((7 : Int) = 7) = true := rfl
theorem d10 : decide ((10 : Int) = 10) = true := rfl
theorem d01 : decide ((0 : Int) = 1) = false := rfl
theorem d10' : decide ((1 : Int) = 0) = false := rfl
theorem d00 : decide ((0 : Int) = 0) = true := rfl
theorem d11 : decide ((1 : Int) = 1) = true := rfl
theorem dtt : decide (true = true) = true := rfl
theorem dff : decide (false = false) = true := rfl
theorem dtf : decide (true = false) = false := rfl
theorem dft : decide (false = true) = false := rfl
theorem dnt : decide (true ≠ true) = false := rfl
theorem dnf : decide (false ≠ false) = false := rfl
theorem deq {α : Type} [DecidableEq α] (x : α) : decide (x = x) = true := decide_eq_true rfl
theorem lsaEq_nil (x : Lsa) (n : Bool) : lsaEq ⟨x.o, x.s, n, x.ls⟩ x = true := by simp [lsaEq]
theorem lsaEq_refl (x : Lsa) : lsaEq x x = true := by simp [lsaEq]
theorem ok_is0 {x : Lsa} (h : lsaOK x = true) : lsaE x = 0 ∧ lsaS x = lsaB x ∧ ∀ n : Bool, (n && !lsaOK x) = false := ⟨by simp [lsaE, h], by simp [lsaS, h], fun n => by simp [h]⟩
theorem ok_no0 {x : Lsa} (h : lsaOK x = false) : lsaE x = 1 ∧ lsaS x = [] ∧ ∀ n : Bool, (n && !lsaOK x) = n := ⟨by simp [lsaE, h], by simp [lsaS, h], fun n => by simp [h]⟩
set_option maxHeartbeats 4000000 in
set_option maxRecDepth 100000 in
theorem good_awake  : Good Try.prog 16 [] [] [(.b true, false)] [] := by
  refine good_of_body4 28 Try.func16 rfl rfl rfl (by simp) (by simp) (by simp [noPtrL, noPtr]) rfl ?_
  intro s m ha hr hv hG
  clear ha
  refine AW.seq ?_
  refine AW.region (cfg := cfg) ?_
  iterate 1 (apply aops_step (by decide) rfl; · (intro K hK; simp (disch := first | omega | decide) only [go_sem, aw2, aw3, aw4, aw5.1, aw5.2, cellsOf_lsa, d33, d77, d10, d01, d10', d00, d11, dtt, dff, dtf, dft, dnt, dnf, deq, Bool.not_true, Bool.not_false, Bool.true_and, Bool.and_true, beq_self_eq_true, bne_self_eq_false]; exact hK _))
  refine aops_nil ?_
  refine AW.seq ?_
  refine AW.region (cfg := cfg) ?_
  apply aops_step (by decide) rfl
  · intro K hK
    simp (disch := first | omega | decide) only [go_sem, act_build_t ti24 pl24, List.map, aw2, aw3, aw4, aw5.1, aw5.2, cellsOf_lsa, d33, d77, d10, d01, d10', d00, d11, dtt, dff, dtf, dft, dnt, dnf, deq, Bool.not_true, Bool.not_false, Bool.true_and, Bool.and_true, beq_self_eq_true, bne_self_eq_false]
    simp [-List.map_take, -List.map_drop, fillL, okOne, cellishAV, Value.oneCell', cellsL, cellsOf, setAt, M.bind, Mwp, mset_same, Obj.isArr]
    exact hK _
  apply aops_step (by decide) rfl
  · intro K hK
    simp (disch := first | omega | decide) only [go_sem, act_call, List.map, aw2, aw3, aw4, aw5.1, aw5.2, cellsOf_lsa, d33, d77, d10, d01, d10', d00, d11, dtt, dff, dtf, dft, dnt, dnf, deq, Bool.not_true, Bool.not_false, Bool.true_and, Bool.and_true, beq_self_eq_true, bne_self_eq_false]
    apply mwp_call_r rfl rfl rfl
    · intro Q hQ
      simp (disch := first | omega | decide) only [go_sem, peekL, reifyL_nil, reifyL_cons, reify_v, aw2, aw3, aw4, aw5.1, aw5.2, cellsOf_lsa, d33, d77, d10, d01, d10', d00, d11, dtt, dff, dtf, dft, dnt, dnf, deq, Bool.not_true, Bool.not_false, Bool.true_and, Bool.and_true, beq_self_eq_true, bne_self_eq_false]
      exact hQ
    · exact (good_Put true [] 3 7 true [] (by simp) (by simp) (by simp)).nil0
    · simp [-List.map_take, -List.map_drop, -List.map_append, -List.map_replicate, -List.reduceReplicate, noPtrL, noPtr, noPtrL_bsl, noPtrL_map, noPtrL_links, noPtr_lsa, noPtrL_lsas, sub]
    · rw [resOf_own1 (by (simp (disch := decide) only [mset_ne, hr]; done))]
      exact hK _
  apply aops_step (by decide) rfl
  · intro K hK
    simp (disch := first | omega | decide) only [go_sem, aw2, aw3, aw4, aw5.1, aw5.2, cellsOf_lsa, d33, d77, d10, d01, d10', d00, d11, dtt, dff, dtf, dft, dnt, dnf, deq, Bool.not_true, Bool.not_false, Bool.true_and, Bool.and_true, beq_self_eq_true, bne_self_eq_false]
    rw [asg_tmp (by simp (disch := first | omega | decide) only [go_sem, aw2, aw3, aw4, aw5.1, aw5.2, cellsOf_lsa, d33, d77, d10, d01, d10', d00, d11, dtt, dff, dtf, dft, dnt, dnf, deq, Bool.not_true, Bool.not_false, Bool.true_and, Bool.and_true, beq_self_eq_true, bne_self_eq_false]; rfl)]
    exact hK _
  refine aops_nil ?_
  refine AW.seq ?_
  refine AW.region (cfg := cfg) ?_
  iterate 1 (apply aops_step (by decide) rfl; · (intro K hK; simp (disch := first | omega | decide) only [go_sem, aw2, aw3, aw4, aw5.1, aw5.2, cellsOf_lsa, d33, d77, d10, d01, d10', d00, d11, dtt, dff, dtf, dft, dnt, dnf, deq, Bool.not_true, Bool.not_false, Bool.true_and, Bool.and_true, beq_self_eq_true, bne_self_eq_false]; exact hK _))
  apply aops_step (by decide) rfl
  · intro K hK
    simp (disch := first | omega | decide) only [go_sem, act_call, List.map, aw2, aw3, aw4, aw5.1, aw5.2, cellsOf_lsa, d33, d77, d10, d01, d10', d00, d11, dtt, dff, dtf, dft, dnt, dnf, deq, Bool.not_true, Bool.not_false, Bool.true_and, Bool.and_true, beq_self_eq_true, bne_self_eq_false]
    apply mwp_call_g rfl rfl rfl
    · intro Q hQ
      simp (disch := first | omega | decide) only [go_sem, peekL, reifyL_nil, reifyL_cons, reify_v, aw2, aw3, aw4, aw5.1, aw5.2, cellsOf_lsa, d33, d77, d10, d01, d10', d00, d11, dtt, dff, dtf, dft, dnt, dnf, deq, Bool.not_true, Bool.not_false, Bool.true_and, Bool.and_true, beq_self_eq_true, bne_self_eq_false]
      (((rw [mwp_reify_own (by simp (disch := first | omega | decide) only [go_sem, peekL, reifyL_nil, reifyL_cons, reify_v, aw2, aw3, aw4, aw5.1, aw5.2, cellsOf_lsa, d33, d77, d10, d01, d10', d00, d11, dtt, dff, dtf, dft, dnt, dnf, deq, Bool.not_true, Bool.not_false, Bool.true_and, Bool.and_true, beq_self_eq_true, bne_self_eq_false]; rfl)]); (try rw [sub_full (by rfl)])); exact hQ)
    · exact hG
    · exact O.good_Read false (lsaB awL) (by have := aw4; omega) (by simp)
    · simp (disch := first | omega | decide) only [go_sem, aw2, aw3, aw4, aw5.1, aw5.2, cellsOf_lsa, d33, d77, d10, d01, d10', d00, d11, dtt, dff, dtf, dft, dnt, dnf, deq, Bool.not_true, Bool.not_false, Bool.true_and, Bool.and_true, beq_self_eq_true, bne_self_eq_false]
      exact hK _
  apply aops_step (by decide) rfl
  · intro K hK
    simp (disch := first | omega | decide) only [go_sem, act_call, List.map, aw2, aw3, aw4, aw5.1, aw5.2, cellsOf_lsa, d33, d77, d10, d01, d10', d00, d11, dtt, dff, dtf, dft, dnt, dnf, deq, Bool.not_true, Bool.not_false, Bool.true_and, Bool.and_true, beq_self_eq_true, bne_self_eq_false]
    apply mwp_call_g rfl rfl rfl
    · intro Q hQ
      simp (disch := first | omega | decide) only [go_sem, peekL, reifyL_nil, reifyL_cons, reify_v, aw2, aw3, aw4, aw5.1, aw5.2, cellsOf_lsa, d33, d77, d10, d01, d10', d00, d11, dtt, dff, dtf, dft, dnt, dnf, deq, Bool.not_true, Bool.not_false, Bool.true_and, Bool.and_true, beq_self_eq_true, bne_self_eq_false]
      exact hQ
    · rfl
    · exact good_Read false (lsaB awL) false (by have := aw4; omega) (by simp)
    · simp (disch := first | omega | decide) only [go_sem, aw2, aw3, aw4, aw5.1, aw5.2, cellsOf_lsa, d33, d77, d10, d01, d10', d00, d11, dtt, dff, dtf, dft, dnt, dnf, deq, Bool.not_true, Bool.not_false, Bool.true_and, Bool.and_true, beq_self_eq_true, bne_self_eq_false]
      exact hK _
  iterate 3 (apply aops_step (by decide) rfl; · (intro K hK; simp (disch := first | omega | decide) only [go_sem, aw2, aw3, aw4, aw5.1, aw5.2, cellsOf_lsa, d33, d77, d10, d01, d10', d00, d11, dtt, dff, dtf, dft, dnt, dnf, deq, Bool.not_true, Bool.not_false, Bool.true_and, Bool.and_true, beq_self_eq_true, bne_self_eq_false]; exact hK _))
  apply aops_step (by decide) rfl
  · intro K hK
    simp (disch := first | omega | decide) only [go_sem, act_alloc_t ti24, List.map, aw2, aw3, aw4, aw5.1, aw5.2, cellsOf_lsa, d33, d77, d10, d01, d10', d00, d11, dtt, dff, dtf, dft, dnt, dnf, deq, Bool.not_true, Bool.not_false, Bool.true_and, Bool.and_true, beq_self_eq_true, bne_self_eq_false]
    exact hK _
  apply aops_step0 rfl
  · intro K hK
    simp (disch := first | omega | decide) only [go_sem, act_store_t ti24, List.map, aw2, aw3, aw4, aw5.1, aw5.2, cellsOf_lsa, d33, d77, d10, d01, d10', d00, d11, dtt, dff, dtf, dft, dnt, dnf, deq, Bool.not_true, Bool.not_false, Bool.true_and, Bool.and_true, beq_self_eq_true, bne_self_eq_false]
    rw [mwp_store_c (by simp (disch := first | omega | decide) only [go_sem, aw2, aw3, aw4, aw5.1, aw5.2, cellsOf_lsa, d33, d77, d10, d01, d10', d00, d11, dtt, dff, dtf, dft, dnt, dnf, deq, Bool.not_true, Bool.not_false, Bool.true_and, Bool.and_true, beq_self_eq_true, bne_self_eq_false]; rfl) (by rfl) (by rfl) (by rfl) (by simp)]
    try simp only [setAt, cellsL, cellsOf_agg, cellsOf_base, List.map_cons, List.map_nil, List.set_cons_zero, List.set_cons_succ, Nat.reduceAdd, Nat.zero_add, hG]
    exact hK _
  iterate 1 (apply aops_step (by decide) rfl; · (intro K hK; simp (disch := first | omega | decide) only [go_sem, aw2, aw3, aw4, aw5.1, aw5.2, cellsOf_lsa, d33, d77, d10, d01, d10', d00, d11, dtt, dff, dtf, dft, dnt, dnf, deq, Bool.not_true, Bool.not_false, Bool.true_and, Bool.and_true, beq_self_eq_true, bne_self_eq_false]; exact hK _))
  refine aops_nil ?_
  refine AW.seq ?_
  refine AW.region (cfg := cfg) ?_
  iterate 1 (apply aops_step (by decide) rfl; · (intro K hK; simp (disch := first | omega | decide) only [go_sem, aw2, aw3, aw4, aw5.1, aw5.2, cellsOf_lsa, d33, d77, d10, d01, d10', d00, d11, dtt, dff, dtf, dft, dnt, dnf, deq, Bool.not_true, Bool.not_false, Bool.true_and, Bool.and_true, beq_self_eq_true, bne_self_eq_false]; exact hK _))
  apply aops_step (by decide) rfl
  · intro K hK
    simp (disch := first | omega | decide) only [go_sem, List.map, List.length_map, aops_len u25, aw2, aw3, aw4, aw5.1, aw5.2, cellsOf_lsa, d33, d77, d10, d01, d10', d00, d11, dtt, dff, dtf, dft, dnt, dnf, deq, Bool.not_true, Bool.not_false, Bool.true_and, Bool.and_true, beq_self_eq_true, bne_self_eq_false]
    ((rw [mwp_len_frz u25 (by simp (disch := first | omega | decide) only [go_sem, List.map, aw2, aw3, aw4, aw5.1, aw5.2, cellsOf_lsa, d33, d77, d10, d01, d10', d00, d11, dtt, dff, dtf, dft, dnt, dnf, deq, Bool.not_true, Bool.not_false, Bool.true_and, Bool.and_true, beq_self_eq_true, bne_self_eq_false]; rfl)]); (try rw [sub_full (by rfl)]); (try simp only [List.length_map]); exact hK _)
  iterate 5 (apply aops_step (by decide) rfl; · (intro K hK; simp (disch := first | omega | decide) only [go_sem, aw2, aw3, aw4, aw5.1, aw5.2, cellsOf_lsa, d33, d77, d10, d01, d10', d00, d11, dtt, dff, dtf, dft, dnt, dnf, deq, Bool.not_true, Bool.not_false, Bool.true_and, Bool.and_true, beq_self_eq_true, bne_self_eq_false]; exact hK _))
  apply aops_step (by decide) rfl
  · intro K hK
    simp (disch := first | omega | decide) only [go_sem, act_fieldAddr_t fo24_0, List.map, aw2, aw3, aw4, aw5.1, aw5.2, cellsOf_lsa, d33, d77, d10, d01, d10', d00, d11, dtt, dff, dtf, dft, dnt, dnf, deq, Bool.not_true, Bool.not_false, Bool.true_and, Bool.and_true, beq_self_eq_true, bne_self_eq_false]
    rw [mwp_fieldAddr_b (by simp (disch := first | omega | decide) only [go_sem, aw2, aw3, aw4, aw5.1, aw5.2, cellsOf_lsa, d33, d77, d10, d01, d10', d00, d11, dtt, dff, dtf, dft, dnt, dnf, deq, Bool.not_true, Bool.not_false, Bool.true_and, Bool.and_true, beq_self_eq_true, bne_self_eq_false]; rfl)]
    exact hK _
  apply aops_step (by decide) rfl
  · intro K hK
    simp (disch := first | omega | decide) only [go_sem, act_load_t ti3, List.map, aw2, aw3, aw4, aw5.1, aw5.2, cellsOf_lsa, d33, d77, d10, d01, d10', d00, d11, dtt, dff, dtf, dft, dnt, dnf, deq, Bool.not_true, Bool.not_false, Bool.true_and, Bool.and_true, beq_self_eq_true, bne_self_eq_false]
    rw [mwp_load_b1 (by simp (disch := first | omega | decide) only [go_sem, aw2, aw3, aw4, aw5.1, aw5.2, cellsOf_lsa, d33, d77, d10, d01, d10', d00, d11, dtt, dff, dtf, dft, dnt, dnf, deq, Bool.not_true, Bool.not_false, Bool.true_and, Bool.and_true, beq_self_eq_true, bne_self_eq_false]; rfl) (by rfl)]
    exact hK _
  iterate 3 (apply aops_step (by decide) rfl; · (intro K hK; simp (disch := first | omega | decide) only [go_sem, aw2, aw3, aw4, aw5.1, aw5.2, cellsOf_lsa, d33, d77, d10, d01, d10', d00, d11, dtt, dff, dtf, dft, dnt, dnf, deq, Bool.not_true, Bool.not_false, Bool.true_and, Bool.and_true, beq_self_eq_true, bne_self_eq_false]; exact hK _))
  apply aops_step (by decide) rfl
  · intro K hK
    simp (disch := first | omega | decide) only [go_sem, act_fieldAddr_t fo24_1, List.map, aw2, aw3, aw4, aw5.1, aw5.2, cellsOf_lsa, d33, d77, d10, d01, d10', d00, d11, dtt, dff, dtf, dft, dnt, dnf, deq, Bool.not_true, Bool.not_false, Bool.true_and, Bool.and_true, beq_self_eq_true, bne_self_eq_false]
    rw [mwp_fieldAddr_b (by simp (disch := first | omega | decide) only [go_sem, aw2, aw3, aw4, aw5.1, aw5.2, cellsOf_lsa, d33, d77, d10, d01, d10', d00, d11, dtt, dff, dtf, dft, dnt, dnf, deq, Bool.not_true, Bool.not_false, Bool.true_and, Bool.and_true, beq_self_eq_true, bne_self_eq_false]; rfl)]
    exact hK _
  apply aops_step (by decide) rfl
  · intro K hK
    simp (disch := first | omega | decide) only [go_sem, act_load_t ti3, List.map, aw2, aw3, aw4, aw5.1, aw5.2, cellsOf_lsa, d33, d77, d10, d01, d10', d00, d11, dtt, dff, dtf, dft, dnt, dnf, deq, Bool.not_true, Bool.not_false, Bool.true_and, Bool.and_true, beq_self_eq_true, bne_self_eq_false]
    rw [mwp_load_b1 (by simp (disch := first | omega | decide) only [go_sem, aw2, aw3, aw4, aw5.1, aw5.2, cellsOf_lsa, d33, d77, d10, d01, d10', d00, d11, dtt, dff, dtf, dft, dnt, dnf, deq, Bool.not_true, Bool.not_false, Bool.true_and, Bool.and_true, beq_self_eq_true, bne_self_eq_false]; rfl) (by rfl)]
    exact hK _
  iterate 3 (apply aops_step (by decide) rfl; · (intro K hK; simp (disch := first | omega | decide) only [go_sem, aw2, aw3, aw4, aw5.1, aw5.2, cellsOf_lsa, d33, d77, d10, d01, d10', d00, d11, dtt, dff, dtf, dft, dnt, dnf, deq, Bool.not_true, Bool.not_false, Bool.true_and, Bool.and_true, beq_self_eq_true, bne_self_eq_false]; exact hK _))
  refine aops_nil ?_
  refine AW.ret ?_
  refine ⟨.inr rfl, ?_⟩
  apply Exists.intro
  refine leaves_tmp1 0 rfl ?_ (by rfl)
  simp (disch := first | omega | decide) only [go_sem, aw2, aw3, aw4, aw5.1, aw5.2, cellsOf_lsa, d33, d77, d10, d01, d10', d00, d11, dtt, dff, dtf, dft, dnt, dnf, deq, Bool.not_true, Bool.not_false, Bool.true_and, Bool.and_true, beq_self_eq_true, bne_self_eq_false]
  all_goals rfl

end Go.Vai.L
