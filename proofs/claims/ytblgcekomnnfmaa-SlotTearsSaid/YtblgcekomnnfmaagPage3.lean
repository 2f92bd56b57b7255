import Derived.Test.YtblgcekomnnfmaagPage2
namespace Go.Vai.G
open Go.Proofs Go.Vai Go.Vai.L Go.Vai.O Go.Vai.U Go.Vai.Z
set_option linter.unusedSimpArgs false
set_option linter.unusedVariables false

open Go.Vai.Z (sealS okO okV body seal_open sealS_len ckB)
theorem mag4 (k : Int) : ([.base (.int .u8 87), .base (.int .u8 65), .base (.int .u8 89), .base (.int .u8 ((BitVec.ofInt 8 k).toNat : Int))] : List AV) = ([87#8, 65#8, 89#8] ++ numR k 1).map u8 := by rw [numR_one]; rfl
theorem two1 (a b : Int) : ([.base (.int .u8 ((BitVec.ofInt 8 a).toNat : Int)), .base (.int .u8 ((BitVec.ofInt 8 b).toNat : Int))] : List AV) = (numR a 1 ++ numR b 1).map u8 := by rw [numR_one, numR_one]; rfl
theorem zer1 : ([.base (.int .u8 0)] : List AV) = [0#8].map u8 := rfl
theorem rep_succ0 (k : Nat) (l : List (BitVec 8)) : l ++ List.replicate (k + 1) 0#8 = (l ++ List.replicate k 0#8) ++ [0#8] := by
  rw [List.replicate_succ', List.append_assoc]
theorem num4 {l : List (BitVec 8)} (h : 4 ≤ l.length) : numV (l.take 4) = ((l.getD 0 default).toNat : Int) * 16777216 + ((l.getD 1 default).toNat : Int) * 65536 + ((l.getD 2 default).toNat : Int) * 256 + ((l.getD 3 default).toNat : Int) := by
  match l, h with
  | a :: b :: c :: d :: r, _ => simp [numV]; omega
theorem num2 {l : List (BitVec 8)} (h : 2 ≤ l.length) : numV (l.take 2) = ((l.getD 0 default).toNat : Int) * 256 + ((l.getD 1 default).toNat : Int) := by
  match l, h with
  | a :: b :: r, _ => simp [numV]
def pgGood (b : List (BitVec 8)) : Bool := decide (b.length = 512) && (decide (pgN b ≤ 488) && (pageOK (pgP b) && decide (pgPut (pgP b) = b)))
def pgV (b : List (BitVec 8)) : Page := if pgGood b then pgP b else page0
def pgR (b : List (BitVec 8)) : Int := if pgGood b then 0 else 2
set_option maxHeartbeats 4000000 in
set_option maxRecDepth 100000 in
theorem good_number (nil : Bool) (l : List (BitVec 8)) (hl : l.length ≤ 9223372036854775807) (h4 : 4 ≤ l.length) : Good Try.prog 55 [(.sl 1 nil (bsl l), false)] [] [(i64 (numV (l.take 4)), false)] [] := by
  refine good_of_body2 25 Try.func55 rfl rfl rfl (by simp) ?_
  intro s m ha hr hv hG
  have f0 : s 0 = .v (.sl 1 nil (bsl l)) := ha 0 _ rfl
  clear ha
  have b0 := (l.getD 0 default).isLt
  have b1 := (l.getD 1 default).isLt
  have b2 := (l.getD 2 default).isLt
  have b3 := (l.getD 3 default).isLt
  refine AW.seq ?_
  refine AW.region (cfg := cfg) ?_
  iterate 1 (apply aops_step (by decide) rfl; · (intro K hK; simp (disch := first | omega | decide) only [go_sem, f0, getD_get, Int.reduceToNat, Int.toNat_zero, Int.toNat_one]; exact hK _))
  refine aops_nil ?_
  refine AW.seq ?_
  refine AW.draw (cfg := cfg) (by kernel_rfl) (by kernel_rfl) (by kernel_rfl) ?_
  iterate 1 (apply adraw_step rfl; · (intro K hK; simp (disch := first | omega | decide) only [go_sem, f0, getD_get, Int.reduceToNat, Int.toNat_zero, Int.toNat_one]; exact hK))
  apply adraw_step rfl
  · intro K hK
    simp (disch := first | omega | decide) only [go_sem, f0, act_indexAddr_s u22 ti5, List.map, getD_get, Int.reduceToNat, Int.toNat_zero, Int.toNat_one]
    skip
    exact hK
  apply adraw_step rfl
  · intro K hK
    simp (disch := first | omega | decide) only [go_sem, f0, act_load_t ti5, List.map, getD_get, Int.reduceToNat, Int.toNat_zero, Int.toNat_one]
    skip
    exact hK
  iterate 3 (apply adraw_step rfl; · (intro K hK; simp (disch := first | omega | decide) only [go_sem, f0, act_convI u5 u3, getD_get, Int.reduceToNat, Int.toNat_zero, Int.toNat_one]; exact hK))
  apply adraw_step rfl
  · intro K hK
    simp (disch := first | omega | decide) only [go_sem, f0, act_indexAddr_s u22 ti5, List.map, getD_get, Int.reduceToNat, Int.toNat_zero, Int.toNat_one]
    skip
    exact hK
  apply adraw_step rfl
  · intro K hK
    simp (disch := first | omega | decide) only [go_sem, f0, act_load_t ti5, List.map, getD_get, Int.reduceToNat, Int.toNat_zero, Int.toNat_one]
    skip
    exact hK
  iterate 4 (apply adraw_step rfl; · (intro K hK; simp (disch := first | omega | decide) only [go_sem, f0, act_convI u5 u3, getD_get, Int.reduceToNat, Int.toNat_zero, Int.toNat_one]; exact hK))
  apply adraw_step rfl
  · intro K hK
    simp (disch := first | omega | decide) only [go_sem, f0, act_indexAddr_s u22 ti5, List.map, getD_get, Int.reduceToNat, Int.toNat_zero, Int.toNat_one]
    skip
    exact hK
  apply adraw_step rfl
  · intro K hK
    simp (disch := first | omega | decide) only [go_sem, f0, act_load_t ti5, List.map, getD_get, Int.reduceToNat, Int.toNat_zero, Int.toNat_one]
    skip
    exact hK
  iterate 4 (apply adraw_step rfl; · (intro K hK; simp (disch := first | omega | decide) only [go_sem, f0, act_convI u5 u3, getD_get, Int.reduceToNat, Int.toNat_zero, Int.toNat_one]; exact hK))
  apply adraw_step rfl
  · intro K hK
    simp (disch := first | omega | decide) only [go_sem, f0, act_indexAddr_s u22 ti5, List.map, getD_get, Int.reduceToNat, Int.toNat_zero, Int.toNat_one]
    skip
    exact hK
  apply adraw_step rfl
  · intro K hK
    simp (disch := first | omega | decide) only [go_sem, f0, act_load_t ti5, List.map, getD_get, Int.reduceToNat, Int.toNat_zero, Int.toNat_one]
    skip
    exact hK
  iterate 3 (apply adraw_step rfl; · (intro K hK; simp (disch := first | omega | decide) only [go_sem, f0, act_convI u5 u3, getD_get, Int.reduceToNat, Int.toNat_zero, Int.toNat_one]; exact hK))
  refine adraw_nil (by kernel_rfl) ?_
  refine AW.ret ?_
  refine ⟨.inr rfl, ?_⟩
  refine leaves_tmp1 2 rfl ?_ (by exact hG)
  simp (disch := first | omega | decide) only [go_sem, f0, getD_get, Int.reduceToNat, Int.toNat_zero, Int.toNat_one]
  all_goals (rw [num4 h4]; done)

set_option maxHeartbeats 4000000 in
set_option maxRecDepth 100000 in
theorem good_refPutP (p : Page) (hp : p.b.length ≤ 9223372036854775807) (hok : pageOK p = true) : Good Try.prog 52 [(pageA p, false)] [] [(.sl 1 false (bsl (pgPut p)), false)] [] := by
  refine good_of_body2 48 Try.func52 rfl rfl rfl (by simp) ?_
  intro s m ha hr hv hG
  have f0 : s 0 = .v (.agg [i64 p.kind, i64 p.gen, i64 p.mark, i64 p.idx, i64 p.part, i64 p.parts, .sl 1 p.nil (bsl p.b)]) := ha 0 _ rfl
  clear ha
  obtain ⟨c1, c2, c3, c4, c5, c6, c7⟩ := page_bd hok
  refine AW.seq ?_
  refine AW.region (cfg := cfg3) ?_
  apply aops_step (by decide) rfl
  · intro K hK
    simp (disch := first | omega | decide) only [go_sem, f0, act_box_t ti58, List.map, cellsOf_page, List.append_assoc, byte_wrap, mag4, two1, zer1]
    rw [settleL_vish _ _ (by rfl)]
    simp (disch := first | omega | decide) only [go_sem, f0, cellsL, List.map, List.length_cons, List.length_nil, Nat.reduceAdd, if_true, cellsOf_page, List.append_assoc, byte_wrap, mag4, two1, zer1]
    exact hK _
  iterate 1 (apply aops_step (by decide) rfl; · (intro K hK; simp (disch := first | omega | decide) only [go_sem, f0, sz22, cellsOf_page, List.append_assoc, byte_wrap, mag4, two1, zer1]; exact hK _))
  refine aops_nil ?_
  refine AW.seq ?_
  refine AW.region (cfg := cfg3) ?_
  apply aops_step (by decide) rfl
  · intro K hK
    simp (disch := first | omega | decide) only [go_sem, f0, act_fieldAddr_t fo58_0, List.map, cellsOf_page, List.append_assoc, byte_wrap, mag4, two1, zer1]
    rw [mwp_fieldAddr_b (by simp (disch := first | omega | decide) only [go_sem, f0, cellsOf_page, List.append_assoc, byte_wrap, mag4, two1, zer1]; rfl)]
    exact hK _
  apply aops_step (by decide) rfl
  · intro K hK
    simp (disch := first | omega | decide) only [go_sem, f0, act_load_t ti3, List.map, cellsOf_page, List.append_assoc, byte_wrap, mag4, two1, zer1]
    rw [mwp_load_b1 (by simp (disch := first | omega | decide) only [go_sem, f0, cellsOf_page, List.append_assoc, byte_wrap, mag4, two1, zer1]; rfl) (by rfl)]
    exact hK _
  iterate 1 (apply aops_step (by decide) rfl; · (intro K hK; simp (disch := first | omega | decide) only [go_sem, f0, act_convI u3 u5, cellsOf_page, List.append_assoc, byte_wrap, mag4, two1, zer1]; exact hK _))
  apply aops_step (by decide) rfl
  · intro K hK
    rw [act_bs el22 ti5]
    (simp [-List.map_take, -List.map_drop, -BitVec.toNat_ofInt, -BitVec.ofInt_natCast, -BitVec.toNat_setWidth, -BitVec.toNat_ushiftRight, -BitVec.toNat_umod, -BitVec.toNat_udiv, go_sem, elems_v, cellishAV, Value.oneCell', isAggAV, partsOf, TI.z, TI.mk1, f0]; exact hK _)
  apply aops_step (by decide) rfl
  · intro K hK
    simp (disch := first | omega | decide) only [go_sem, f0, cellsOf_page, List.append_assoc, byte_wrap, mag4, two1, zer1]
    rw [asg_tmp (by simp (disch := first | omega | decide) only [go_sem, f0, cellsOf_page, List.append_assoc, byte_wrap, mag4, two1, zer1]; rfl)]
    exact hK _
  refine aops_nil ?_
  refine AW.seq ?_
  refine AW.region (cfg := cfg3) ?_
  iterate 1 (apply aops_step (by decide) rfl; · (intro K hK; simp (disch := first | omega | decide) only [go_sem, f0, cellsOf_page, List.append_assoc, byte_wrap, mag4, two1, zer1]; exact hK _))
  apply aops_step (by decide) rfl
  · intro K hK
    simp (disch := first | omega | decide) only [go_sem, f0, act_fieldAddr_t fo58_1, List.map, cellsOf_page, List.append_assoc, byte_wrap, mag4, two1, zer1]
    rw [mwp_fieldAddr_b (by simp (disch := first | omega | decide) only [go_sem, f0, cellsOf_page, List.append_assoc, byte_wrap, mag4, two1, zer1]; rfl)]
    exact hK _
  apply aops_step (by decide) rfl
  · intro K hK
    simp (disch := first | omega | decide) only [go_sem, f0, act_load_t ti3, List.map, cellsOf_page, List.append_assoc, byte_wrap, mag4, two1, zer1]
    rw [mwp_load_b1 (by simp (disch := first | omega | decide) only [go_sem, f0, cellsOf_page, List.append_assoc, byte_wrap, mag4, two1, zer1]; rfl) (by rfl)]
    exact hK _
  iterate 1 (apply aops_step (by decide) rfl; · (intro K hK; simp (disch := first | omega | decide) only [go_sem, f0, act_convI u3 u71, cellsOf_page, List.append_assoc, byte_wrap, mag4, two1, zer1]; exact hK _))
  apply aops_step (by decide) rfl
  · intro K hK
    simp (disch := first | omega | decide) only [go_sem, f0, act_call, List.map, cellsOf_page, List.append_assoc, byte_wrap, mag4, two1, zer1]
    apply mwp_call_r rfl rfl rfl
    · intro Q hQ
      (simp (disch := first | omega | decide) only [go_sem, f0, peekL, reifyL_nil, reifyL_cons, reify_v, cellsOf_page, List.append_assoc, byte_wrap, mag4, two1, zer1]; (exact hQ))
    · exact O.good_refNum 4 _ (by omega) (by omega)
    · simp [-List.map_take, -List.map_drop, -List.map_append, -List.map_replicate, -List.reduceReplicate, noPtrL, noPtr, noPtrL_bsl, noPtrL_map, sub]
    · rw [resOf_own1 (by (simp (disch := decide) only [mset_ne, hr]; done))]
      exact hK _
  apply aops_step (by decide) rfl
  · intro K hK
    simp (disch := first | omega | decide) only [go_sem, f0, List.map, cellsOf_page, List.append_assoc, byte_wrap, mag4, two1, zer1]
    apply mwp_append2 el22 ti5 u22
    case hpk => intro Q hQ; (rw [peek_own (by simp (disch := first | omega | decide) only [go_sem, f0, cellsOf_page, List.append_assoc, byte_wrap, mag4, two1, zer1]; rfl)]; (try rw [sub_full (by rfl)]); exact hQ)
    case hs' => rfl
    case ho => simp (disch := first | omega | decide) only [go_sem, f0, cellsOf_page, List.append_assoc, byte_wrap, mag4, two1, zer1]; rfl
    case hsz => rfl
    case hhi => (simp [three_len, numR_length, gmi_len, magK_len, pageH_len, List.length_append]; done)
    case hb => (simp [sub, roomB, three_len, numR_length, gmi_len, magK_len, pageH_len, List.length_append]; done)
    case hy => exact all_cells rfl
    case k => (try simp only [List.nil_append, ← List.map_append, Bool.false_and]); exact hK _
  apply aops_step (by decide) rfl
  · intro K hK
    simp (disch := first | omega | decide) only [go_sem, f0, cellsOf_page, List.append_assoc, byte_wrap, mag4, two1, zer1]
    rw [asg_tmp (by simp (disch := first | omega | decide) only [go_sem, f0, cellsOf_page, List.append_assoc, byte_wrap, mag4, two1, zer1]; rfl)]
    exact hK _
  refine aops_nil ?_
  refine AW.seq ?_
  refine AW.region (cfg := cfg3) ?_
  iterate 1 (apply aops_step (by decide) rfl; · (intro K hK; simp (disch := first | omega | decide) only [go_sem, f0, cellsOf_page, List.append_assoc, byte_wrap, mag4, two1, zer1]; exact hK _))
  apply aops_step (by decide) rfl
  · intro K hK
    simp (disch := first | omega | decide) only [go_sem, f0, act_fieldAddr_t fo58_2, List.map, cellsOf_page, List.append_assoc, byte_wrap, mag4, two1, zer1]
    rw [mwp_fieldAddr_b (by simp (disch := first | omega | decide) only [go_sem, f0, cellsOf_page, List.append_assoc, byte_wrap, mag4, two1, zer1]; rfl)]
    exact hK _
  apply aops_step (by decide) rfl
  · intro K hK
    simp (disch := first | omega | decide) only [go_sem, f0, act_load_t ti3, List.map, cellsOf_page, List.append_assoc, byte_wrap, mag4, two1, zer1]
    rw [mwp_load_b1 (by simp (disch := first | omega | decide) only [go_sem, f0, cellsOf_page, List.append_assoc, byte_wrap, mag4, two1, zer1]; rfl) (by rfl)]
    exact hK _
  iterate 1 (apply aops_step (by decide) rfl; · (intro K hK; simp (disch := first | omega | decide) only [go_sem, f0, act_convI u3 u71, cellsOf_page, List.append_assoc, byte_wrap, mag4, two1, zer1]; exact hK _))
  apply aops_step (by decide) rfl
  · intro K hK
    simp (disch := first | omega | decide) only [go_sem, f0, act_call, List.map, cellsOf_page, List.append_assoc, byte_wrap, mag4, two1, zer1]
    apply mwp_call_r rfl rfl rfl
    · intro Q hQ
      (simp (disch := first | omega | decide) only [go_sem, f0, peekL, reifyL_nil, reifyL_cons, reify_v, cellsOf_page, List.append_assoc, byte_wrap, mag4, two1, zer1]; (exact hQ))
    · exact O.good_refNum 4 _ (by omega) (by omega)
    · simp [-List.map_take, -List.map_drop, -List.map_append, -List.map_replicate, -List.reduceReplicate, noPtrL, noPtr, noPtrL_bsl, noPtrL_map, sub]
    · rw [resOf_own1 (by (simp (disch := decide) only [mset_ne, hr]; done))]
      exact hK _
  apply aops_step (by decide) rfl
  · intro K hK
    simp (disch := first | omega | decide) only [go_sem, f0, List.map, cellsOf_page, List.append_assoc, byte_wrap, mag4, two1, zer1]
    apply mwp_append2 el22 ti5 u22
    case hpk => intro Q hQ; (rw [peek_own (by simp (disch := first | omega | decide) only [go_sem, f0, cellsOf_page, List.append_assoc, byte_wrap, mag4, two1, zer1]; rfl)]; (try rw [sub_full (by rfl)]); exact hQ)
    case hs' => rfl
    case ho => simp (disch := first | omega | decide) only [go_sem, f0, cellsOf_page, List.append_assoc, byte_wrap, mag4, two1, zer1]; rfl
    case hsz => rfl
    case hhi => (simp [three_len, numR_length, gmi_len, magK_len, pageH_len, List.length_append]; done)
    case hb => (simp [sub, roomB, three_len, numR_length, gmi_len, magK_len, pageH_len, List.length_append]; done)
    case hy => exact all_cells rfl
    case k => (try simp only [List.nil_append, ← List.map_append, Bool.false_and]); exact hK _
  apply aops_step (by decide) rfl
  · intro K hK
    simp (disch := first | omega | decide) only [go_sem, f0, cellsOf_page, List.append_assoc, byte_wrap, mag4, two1, zer1]
    rw [asg_tmp (by simp (disch := first | omega | decide) only [go_sem, f0, cellsOf_page, List.append_assoc, byte_wrap, mag4, two1, zer1]; rfl)]
    exact hK _
  refine aops_nil ?_
  refine AW.seq ?_
  refine AW.region (cfg := cfg3) ?_
  iterate 1 (apply aops_step (by decide) rfl; · (intro K hK; simp (disch := first | omega | decide) only [go_sem, f0, cellsOf_page, List.append_assoc, byte_wrap, mag4, two1, zer1]; exact hK _))
  apply aops_step (by decide) rfl
  · intro K hK
    simp (disch := first | omega | decide) only [go_sem, f0, act_fieldAddr_t fo58_3, List.map, cellsOf_page, List.append_assoc, byte_wrap, mag4, two1, zer1]
    rw [mwp_fieldAddr_b (by simp (disch := first | omega | decide) only [go_sem, f0, cellsOf_page, List.append_assoc, byte_wrap, mag4, two1, zer1]; rfl)]
    exact hK _
  apply aops_step (by decide) rfl
  · intro K hK
    simp (disch := first | omega | decide) only [go_sem, f0, act_load_t ti3, List.map, cellsOf_page, List.append_assoc, byte_wrap, mag4, two1, zer1]
    rw [mwp_load_b1 (by simp (disch := first | omega | decide) only [go_sem, f0, cellsOf_page, List.append_assoc, byte_wrap, mag4, two1, zer1]; rfl) (by rfl)]
    exact hK _
  iterate 1 (apply aops_step (by decide) rfl; · (intro K hK; simp (disch := first | omega | decide) only [go_sem, f0, act_convI u3 u71, cellsOf_page, List.append_assoc, byte_wrap, mag4, two1, zer1]; exact hK _))
  apply aops_step (by decide) rfl
  · intro K hK
    simp (disch := first | omega | decide) only [go_sem, f0, act_call, List.map, cellsOf_page, List.append_assoc, byte_wrap, mag4, two1, zer1]
    apply mwp_call_r rfl rfl rfl
    · intro Q hQ
      (simp (disch := first | omega | decide) only [go_sem, f0, peekL, reifyL_nil, reifyL_cons, reify_v, cellsOf_page, List.append_assoc, byte_wrap, mag4, two1, zer1]; (exact hQ))
    · exact O.good_refNum 4 _ (by omega) (by omega)
    · simp [-List.map_take, -List.map_drop, -List.map_append, -List.map_replicate, -List.reduceReplicate, noPtrL, noPtr, noPtrL_bsl, noPtrL_map, sub]
    · rw [resOf_own1 (by (simp (disch := decide) only [mset_ne, hr]; done))]
      exact hK _
  apply aops_step (by decide) rfl
  · intro K hK
    simp (disch := first | omega | decide) only [go_sem, f0, List.map, cellsOf_page, List.append_assoc, byte_wrap, mag4, two1, zer1]
    apply mwp_append2 el22 ti5 u22
    case hpk => intro Q hQ; (rw [peek_own (by simp (disch := first | omega | decide) only [go_sem, f0, cellsOf_page, List.append_assoc, byte_wrap, mag4, two1, zer1]; rfl)]; (try rw [sub_full (by rfl)]); exact hQ)
    case hs' => rfl
    case ho => simp (disch := first | omega | decide) only [go_sem, f0, cellsOf_page, List.append_assoc, byte_wrap, mag4, two1, zer1]; rfl
    case hsz => rfl
    case hhi => (simp [three_len, numR_length, gmi_len, magK_len, pageH_len, List.length_append]; done)
    case hb => (simp [sub, roomB, three_len, numR_length, gmi_len, magK_len, pageH_len, List.length_append]; done)
    case hy => exact all_cells rfl
    case k => (try simp only [List.nil_append, ← List.map_append, Bool.false_and]); exact hK _
  apply aops_step (by decide) rfl
  · intro K hK
    simp (disch := first | omega | decide) only [go_sem, f0, cellsOf_page, List.append_assoc, byte_wrap, mag4, two1, zer1]
    rw [asg_tmp (by simp (disch := first | omega | decide) only [go_sem, f0, cellsOf_page, List.append_assoc, byte_wrap, mag4, two1, zer1]; rfl)]
    exact hK _
  refine aops_nil ?_
  refine AW.seq ?_
  refine AW.region (cfg := cfg3) ?_
  iterate 1 (apply aops_step (by decide) rfl; · (intro K hK; simp (disch := first | omega | decide) only [go_sem, f0, cellsOf_page, List.append_assoc, byte_wrap, mag4, two1, zer1]; exact hK _))
  apply aops_step (by decide) rfl
  · intro K hK
    simp (disch := first | omega | decide) only [go_sem, f0, act_fieldAddr_t fo58_4, List.map, cellsOf_page, List.append_assoc, byte_wrap, mag4, two1, zer1]
    rw [mwp_fieldAddr_b (by simp (disch := first | omega | decide) only [go_sem, f0, cellsOf_page, List.append_assoc, byte_wrap, mag4, two1, zer1]; rfl)]
    exact hK _
  apply aops_step (by decide) rfl
  · intro K hK
    simp (disch := first | omega | decide) only [go_sem, f0, act_load_t ti3, List.map, cellsOf_page, List.append_assoc, byte_wrap, mag4, two1, zer1]
    rw [mwp_load_b1 (by simp (disch := first | omega | decide) only [go_sem, f0, cellsOf_page, List.append_assoc, byte_wrap, mag4, two1, zer1]; rfl) (by rfl)]
    exact hK _
  iterate 1 (apply aops_step (by decide) rfl; · (intro K hK; simp (disch := first | omega | decide) only [go_sem, f0, act_convI u3 u5, cellsOf_page, List.append_assoc, byte_wrap, mag4, two1, zer1]; exact hK _))
  apply aops_step (by decide) rfl
  · intro K hK
    simp (disch := first | omega | decide) only [go_sem, f0, act_fieldAddr_t fo58_5, List.map, cellsOf_page, List.append_assoc, byte_wrap, mag4, two1, zer1]
    rw [mwp_fieldAddr_b (by simp (disch := first | omega | decide) only [go_sem, f0, cellsOf_page, List.append_assoc, byte_wrap, mag4, two1, zer1]; rfl)]
    exact hK _
  apply aops_step (by decide) rfl
  · intro K hK
    simp (disch := first | omega | decide) only [go_sem, f0, act_load_t ti3, List.map, cellsOf_page, List.append_assoc, byte_wrap, mag4, two1, zer1]
    rw [mwp_load_b1 (by simp (disch := first | omega | decide) only [go_sem, f0, cellsOf_page, List.append_assoc, byte_wrap, mag4, two1, zer1]; rfl) (by rfl)]
    exact hK _
  iterate 1 (apply aops_step (by decide) rfl; · (intro K hK; simp (disch := first | omega | decide) only [go_sem, f0, act_convI u3 u5, cellsOf_page, List.append_assoc, byte_wrap, mag4, two1, zer1]; exact hK _))
  apply aops_step (by decide) rfl
  · intro K hK
    rw [act_bs el22 ti5]
    (simp [-List.map_take, -List.map_drop, -BitVec.toNat_ofInt, -BitVec.ofInt_natCast, -BitVec.toNat_setWidth, -BitVec.toNat_ushiftRight, -BitVec.toNat_umod, -BitVec.toNat_udiv, go_sem, elems_v, cellishAV, Value.oneCell', isAggAV, partsOf, TI.z, TI.mk1, f0]; exact hK _)
  apply aops_step (by decide) rfl
  · intro K hK
    simp (disch := first | omega | decide) only [go_sem, f0, List.map, cellsOf_page, List.append_assoc, byte_wrap, mag4, two1, zer1]
    apply mwp_append2 el22 ti5 u22
    case hpk => intro Q hQ; (rw [peek_own (by simp (disch := first | omega | decide) only [go_sem, f0, cellsOf_page, List.append_assoc, byte_wrap, mag4, two1, zer1]; rfl)]; (try rw [sub_full (by rfl)]); exact hQ)
    case hs' => rfl
    case ho => simp (disch := first | omega | decide) only [go_sem, f0, cellsOf_page, List.append_assoc, byte_wrap, mag4, two1, zer1]; rfl
    case hsz => rfl
    case hhi => (simp [three_len, numR_length, gmi_len, magK_len, pageH_len, List.length_append]; done)
    case hb => (simp [sub, roomB, three_len, numR_length, gmi_len, magK_len, pageH_len, List.length_append]; done)
    case hy => exact all_cells rfl
    case k => (try simp only [List.nil_append, ← List.map_append, Bool.false_and]); exact hK _
  apply aops_step (by decide) rfl
  · intro K hK
    simp (disch := first | omega | decide) only [go_sem, f0, cellsOf_page, List.append_assoc, byte_wrap, mag4, two1, zer1]
    rw [asg_tmp (by simp (disch := first | omega | decide) only [go_sem, f0, cellsOf_page, List.append_assoc, byte_wrap, mag4, two1, zer1]; rfl)]
    exact hK _
  refine aops_nil ?_
  refine AW.seq ?_
  refine AW.region (cfg := cfg3) ?_
  iterate 1 (apply aops_step (by decide) rfl; · (intro K hK; simp (disch := first | omega | decide) only [go_sem, f0, cellsOf_page, List.append_assoc, byte_wrap, mag4, two1, zer1]; exact hK _))
  apply aops_step (by decide) rfl
  · intro K hK
    simp (disch := first | omega | decide) only [go_sem, f0, act_fieldAddr_t fo58_6, List.map, cellsOf_page, List.append_assoc, byte_wrap, mag4, two1, zer1]
    rw [mwp_fieldAddr_b (by simp (disch := first | omega | decide) only [go_sem, f0, cellsOf_page, List.append_assoc, byte_wrap, mag4, two1, zer1]; rfl)]
    exact hK _
  apply aops_step (by decide) rfl
  · intro K hK
    simp (disch := first | omega | decide) only [go_sem, f0, act_load_t ti22, List.map, cellsOf_page, List.append_assoc, byte_wrap, mag4, two1, zer1]
    rw [mwp_load_b1 (by simp (disch := first | omega | decide) only [go_sem, f0, cellsOf_page, List.append_assoc, byte_wrap, mag4, two1, zer1]; rfl) (by rfl)]
    exact hK _
  apply aops_step (by decide) rfl
  · intro K hK
    simp (disch := first | omega | decide) only [go_sem, f0, act_call, List.map, cellsOf_page, List.append_assoc, byte_wrap, mag4, two1, zer1]
    apply mwp_call_r rfl rfl rfl
    · intro Q hQ
      (simp (disch := first | omega | decide) only [go_sem, f0, peekL, reifyL_nil, reifyL_cons, reify_v, cellsOf_page, List.append_assoc, byte_wrap, mag4, two1, zer1]; (exact hQ))
    · exact O.good_refText p.nil p.b (by omega)
    · simp [-List.map_take, -List.map_drop, -List.map_append, -List.map_replicate, -List.reduceReplicate, noPtrL, noPtr, noPtrL_bsl, noPtrL_map, sub]
    · rw [resOf_own1 (by (simp (disch := decide) only [mset_ne, hr]; done))]
      exact hK _
  apply aops_step (by decide) rfl
  · intro K hK
    simp (disch := first | omega | decide) only [go_sem, f0, List.map, cellsOf_page, List.append_assoc, byte_wrap, mag4, two1, zer1]
    apply mwp_append2 el22 ti5 u22
    case hpk => intro Q hQ; (rw [peek_own (by simp (disch := first | omega | decide) only [go_sem, f0, cellsOf_page, List.append_assoc, byte_wrap, mag4, two1, zer1]; rfl)]; (try rw [sub_full (by rfl)]); exact hQ)
    case hs' => rfl
    case ho => simp (disch := first | omega | decide) only [go_sem, f0, cellsOf_page, List.append_assoc, byte_wrap, mag4, two1, zer1]; rfl
    case hsz => rfl
    case hhi => (simp [three_len, numR_length, gmi_len, magK_len, pageH_len, List.length_append]; done)
    case hb => (simp [sub, roomB, three_len, numR_length, gmi_len, magK_len, pageH_len, List.length_append]; omega)
    case hy => (intro y hy; exact cells_map (k := 1) (fun _ => rfl) y hy)
    case k => (try simp only [List.nil_append, ← List.map_append, Bool.false_and]); exact hK _
  apply aops_step (by decide) rfl
  · intro K hK
    simp (disch := first | omega | decide) only [go_sem, f0, cellsOf_page, List.append_assoc, byte_wrap, mag4, two1, zer1]
    rw [asg_tmp (by simp (disch := first | omega | decide) only [go_sem, f0, cellsOf_page, List.append_assoc, byte_wrap, mag4, two1, zer1]; rfl)]
    exact hK _
  refine aops_nil ?_
  refine AW.seq ?_
  refine AW.block ?_
  refine AW.forN (fun k σ => ∃ s m, σ = ⟨48, s, m⟩ ∧ s 1 = .lptr (.tmp 1 0) (m.objs (.tmp 1 0)).1 0 ∧ (m.objs (.tmp 1 0)).2 = .box [.v (i64 p.kind), .v (i64 p.gen), .v (i64 p.mark), .v (i64 p.idx), .v (i64 p.part), .v (i64 p.parts), .v (.sl 1 p.nil (bsl p.b))] ∧ s 3 = .own (.var 3) (m.objs (.var 3)).1 0 (20 + p.b.length + k) ∧ (m.objs (.var 3)).2 = .arr false 1 (bsl (pageH p ++ List.replicate k 0#8)) ∧ (∀ i, (m.objs (.res i)).2 = .dead) ∧ m.G = []) (488 - p.b.length) ?_ ?_ ?_
  · refine ⟨_, _, rfl, ?_, ?_, ?_, ?_, (by intro i; simp [Mem.set, hr]), (by exact hG)⟩ <;> try simp (disch := first | omega | decide) only [go_sem, f0, cellsOf_page, List.append_assoc, byte_wrap, mag4, two1, zer1]
    all_goals first | (simp [pageH]; done) | (simp [pageH, numR_length]; omega)
  · clear f0 hr hG
    rintro k σ hk ⟨s, m, rfl, f1, o1, f3, o3, hr, hG⟩
    obtain ⟨g1, o1⟩ : ∃ g, m.objs (.tmp 1 0) = (g, .box [.v (i64 p.kind), .v (i64 p.gen), .v (i64 p.mark), .v (i64 p.idx), .v (i64 p.part), .v (i64 p.parts), .v (.sl 1 p.nil (bsl p.b))]) := ⟨_, Prod.ext rfl o1⟩
    rw [o1] at f1
    obtain ⟨g3, o3⟩ : ∃ g, m.objs (.var 3) = (g, .arr false 1 (bsl (pageH p ++ List.replicate k 0#8))) := ⟨_, Prod.ext rfl o3⟩
    rw [o3] at f3
    refine AW.seq ?_
    refine AW.seq ?_
    refine AW.region (cfg := cfg3) ?_
    iterate 1 (apply aops_step (by decide) rfl; · (intro K hK; simp (disch := first | omega | decide) only [go_sem, f1, f3, o1, o3, cellsOf_page, List.append_assoc, byte_wrap, mag4, two1, zer1]; exact hK _))
    apply aops_step (by decide) rfl
    · intro K hK
      simp (disch := first | omega | decide) only [go_sem, f1, f3, o1, o3, List.map, List.length_map, aops_len u22, cellsOf_page, List.append_assoc, byte_wrap, mag4, two1, zer1]
      ((rw [mwp_len_own u22 (by simp (disch := first | omega | decide) only [go_sem, f1, f3, o1, o3, List.map, cellsOf_page, List.append_assoc, byte_wrap, mag4, two1, zer1]; rfl)]); (try rw [sub_full (by simp [three_len, numR_length, gmi_len, magK_len, pageH_len, List.length_append])]); (try simp only [List.length_map]); exact hK _)
    iterate 1 (apply aops_step (by decide) rfl; · (intro K hK; simp (disch := first | omega | decide) only [go_sem, f1, f3, o1, o3, cellsOf_page, List.append_assoc, byte_wrap, mag4, two1, zer1]; exact hK _))
    refine aops_nil ?_
    apply AW.cond
    · simp (disch := first | omega | decide) only [go_sem, f1, f3, o1, o3, cellsOf_page, List.append_assoc, byte_wrap, mag4, two1, zer1]; rfl
    case hf => intro hb; exfalso; (have h9 := of_decide_eq_false hb; simp [pageH_len] at h9; omega)
    case ht =>
    intro hb
    have hbt42 := hb
    refine AW.skip ?_
    refine AW.block ?_
    refine AW.region (cfg := cfg3) ?_
    iterate 1 (apply aops_step (by decide) rfl; · (intro K hK; simp (disch := first | omega | decide) only [go_sem, f1, f3, o1, o3, cellsOf_page, List.append_assoc, byte_wrap, mag4, two1, zer1]; exact hK _))
    apply aops_step (by decide) rfl
    · intro K hK
      rw [act_bs el22 ti5]
      (simp [-List.map_take, -List.map_drop, -BitVec.toNat_ofInt, -BitVec.ofInt_natCast, -BitVec.toNat_setWidth, -BitVec.toNat_ushiftRight, -BitVec.toNat_umod, -BitVec.toNat_udiv, go_sem, elems_v, cellishAV, Value.oneCell', isAggAV, partsOf, TI.z, TI.mk1, f1, f3, o1, o3]; exact hK _)
    apply aops_step (by decide) rfl
    · intro K hK
      simp (disch := first | omega | decide) only [go_sem, f1, f3, o1, o3, List.map, cellsOf_page, List.append_assoc, byte_wrap, mag4, two1, zer1]
      apply mwp_append2 el22 ti5 u22
      case hpk => intro Q hQ; (rw [peek_own (by simp (disch := first | omega | decide) only [go_sem, f1, f3, o1, o3, cellsOf_page, List.append_assoc, byte_wrap, mag4, two1, zer1]; rfl)]; (try rw [sub_full (by rfl)]); exact hQ)
      case hs' => rfl
      case ho => simp (disch := first | omega | decide) only [go_sem, f1, f3, o1, o3, cellsOf_page, List.append_assoc, byte_wrap, mag4, two1, zer1]; rfl
      case hsz => rfl
      case hhi => (simp [three_len, numR_length, gmi_len, magK_len, pageH_len, List.length_append]; done)
      case hb => (simp only [List.length_cons, List.length_nil, List.length_map, Nat.zero_add, Nat.reduceAdd, roomB]; omega)
      case hy => exact all_cells rfl
      case k => (try simp only [List.nil_append, ← List.map_append, Bool.false_and]); exact hK _
    apply aops_step (by decide) rfl
    · intro K hK
      simp (disch := first | omega | decide) only [go_sem, f1, f3, o1, o3, cellsOf_page, List.append_assoc, byte_wrap, mag4, two1, zer1]
      rw [asg_tmp (by simp (disch := first | omega | decide) only [go_sem, f1, f3, o1, o3, cellsOf_page, List.append_assoc, byte_wrap, mag4, two1, zer1]; rfl)]
      exact hK _
    refine aops_nil ?_
    refine ⟨_, _, rfl, ?_, ?_, ?_, ?_, (by intro i; simp [Mem.set, hr]), (by exact hG)⟩ <;> try simp (disch := first | omega | decide) only [go_sem, f1, f3, o1, o3, cellsOf_page, List.append_assoc, byte_wrap, mag4, two1, zer1]
    all_goals first | rfl | (rw [rep_succ0]; simp; done)
  · clear f0 hr hG
    rintro σ ⟨s, m, rfl, f1, o1, f3, o3, hr, hG⟩
    obtain ⟨g1, o1⟩ : ∃ g, m.objs (.tmp 1 0) = (g, .box [.v (i64 p.kind), .v (i64 p.gen), .v (i64 p.mark), .v (i64 p.idx), .v (i64 p.part), .v (i64 p.parts), .v (.sl 1 p.nil (bsl p.b))]) := ⟨_, Prod.ext rfl o1⟩
    rw [o1] at f1
    obtain ⟨g3, o3⟩ : ∃ g, m.objs (.var 3) = (g, .arr false 1 (bsl (pageH p ++ List.replicate (488 - p.b.length) 0#8))) := ⟨_, Prod.ext rfl o3⟩
    rw [o3] at f3
    refine AW.seq ?_
    refine AW.seq ?_
    refine AW.region (cfg := cfg3) ?_
    iterate 1 (apply aops_step (by decide) rfl; · (intro K hK; simp (disch := first | omega | decide) only [go_sem, f1, f3, o1, o3, cellsOf_page, List.append_assoc, byte_wrap, mag4, two1, zer1]; exact hK _))
    apply aops_step (by decide) rfl
    · intro K hK
      simp (disch := first | omega | decide) only [go_sem, f1, f3, o1, o3, List.map, List.length_map, aops_len u22, cellsOf_page, List.append_assoc, byte_wrap, mag4, two1, zer1]
      ((rw [mwp_len_own u22 (by simp (disch := first | omega | decide) only [go_sem, f1, f3, o1, o3, List.map, cellsOf_page, List.append_assoc, byte_wrap, mag4, two1, zer1]; rfl)]); (try rw [sub_full (by simp [three_len, numR_length, gmi_len, magK_len, pageH_len, List.length_append])]); (try simp only [List.length_map]); exact hK _)
    iterate 1 (apply aops_step (by decide) rfl; · (intro K hK; simp (disch := first | omega | decide) only [go_sem, f1, f3, o1, o3, cellsOf_page, List.append_assoc, byte_wrap, mag4, two1, zer1]; exact hK _))
    refine aops_nil ?_
    apply AW.cond
    · simp (disch := first | omega | decide) only [go_sem, f1, f3, o1, o3, cellsOf_page, List.append_assoc, byte_wrap, mag4, two1, zer1]; rfl
    case ht => intro hb; exfalso; (have h9 := of_decide_eq_true hb; simp [pageH_len] at h9; omega)
    case hf =>
    intro hb
    have hbt42 := hb
    refine AW.exit ?_
    refine AW.seq ?_
    refine AW.region (cfg := cfg3) ?_
    iterate 1 (apply aops_step (by decide) rfl; · (intro K hK; simp (disch := first | omega | decide) only [go_sem, f1, f3, o1, o3, cellsOf_page, List.append_assoc, byte_wrap, mag4, two1, zer1]; exact hK _))
    apply aops_step (by decide) rfl
    · intro K hK
      simp (disch := first | omega | decide) only [go_sem, f1, f3, o1, o3, act_call, List.map, cellsOf_page, List.append_assoc, byte_wrap, mag4, two1, zer1]
      apply mwp_call_r rfl rfl rfl
      · intro Q hQ
        (simp (disch := first | omega | decide) only [go_sem, f1, f3, o1, o3, peekL, reifyL_nil, reifyL_cons, reify_v, cellsOf_page, List.append_assoc, byte_wrap, mag4, two1, zer1]; ((((rw [mwp_reify_own (by simp (disch := first | omega | decide) only [go_sem, f1, f3, o1, o3, peekL, reifyL_nil, reifyL_cons, reify_v, cellsOf_page, List.append_assoc, byte_wrap, mag4, two1, zer1]; rfl)]); (try rw [sub_full (by (simp [three_len, numR_length, gmi_len, magK_len, pageH_len, List.length_append]; done))])); exact hQ)))
      · exact Z.good_refSeal false _ (by simp [pageH_len]; omega)
      · simp [-List.map_take, -List.map_drop, -List.map_append, -List.map_replicate, -List.reduceReplicate, noPtrL, noPtr, noPtrL_bsl, noPtrL_map, sub]
      · simp (disch := first | omega | decide) only [go_sem, f1, f3, o1, o3, cellsOf_page, List.append_assoc, byte_wrap, mag4, two1, zer1]
        exact hK _
    iterate 1 (apply aops_step (by decide) rfl; · (intro K hK; simp (disch := first | omega | decide) only [go_sem, f1, f3, o1, o3, cellsOf_page, List.append_assoc, byte_wrap, mag4, two1, zer1]; exact hK _))
    refine aops_nil ?_
    refine AW.ret ?_
    refine ⟨.inr rfl, ?_⟩
    refine leaves_tmp1 2 rfl ?_ (by exact hG)
    simp (disch := first | omega | decide) only [go_sem, f1, f3, o1, o3, cellsOf_page, List.append_assoc, byte_wrap, mag4, two1, zer1]
    all_goals (obtain ⟨e4, e5⟩ := pg_ok hok; rw [e4]; rfl)

end Go.Vai.G
