import Derived.Test.YtbnpnljlfnaheaapTabS2
namespace Go.Vai.T
open Go.Proofs Go.Vai Go.Vai.N
set_option linter.unusedSimpArgs false
set_option linter.unusedVariables false
set_option maxHeartbeats 4000000
set_option maxRecDepth 100000
def x0 : Nr := ⟨3, 7, 1, 0, true, true, 0, false⟩
theorem aw1 : thR fuP lkT [x0] = [⟨3, 7⟩] := by rw [thR_yes (by decide)]; rfl
theorem aw2 : thR heP hdT [x0] = [⟨3, 1⟩] := by rw [thR_yes (by decide)]; rfl
theorem aw3 : thR fuP ofP [x0] = [3] := by rw [thR_yes (by decide)]; rfl
theorem aw0 : setR [] x0 = (false, [x0], 0) := by decide
theorem good_SetX0 : Good Try.prog 14 [(.sl 0 true [], false), (nrA x0, false)] [] [(.sl 8 false ([x0].map nrA), false), (i64 0, false)] [] := by
  have c := good_SetT true [] (by simp) (by simp) x0
  rw [aw0] at c
  exact c.nil0
theorem tab_dec (l : List Nr) : decide (tabE l = 0) = tabOK l := by
  rw [tabE]; cases tabOK l <;> rfl
theorem tab_mem {l : List Nr} (h : tabOK l = true) : ∀ x ∈ l, bad x = false ∧ 0 < x.of := by
  simp only [tabOK, Bool.and_eq_true] at h
  have h1 := h.1
  rw [chN_chn] at h1
  exact fun x hx => ⟨by simpa using (chn_ok h1 x hx).1, (chn_ok h1 x hx).2⟩
theorem find_pos {l : List Nr} {t : Int} (h : tabOK l = true) : isK Nr.of l t = decide (((gK Nr.of l t).getD default).of > 0) := by
  rw [isK_gK]
  cases e : gK Nr.of l t with
  | none => rfl
  | some x =>
    have := (tab_mem h x (gK_mem e).1).2
    simp [this]
theorem insP_len {l : List Nr} (h : Srt Nr.of l) (x : Nr) : (insP Nr.of l x).length = if isK Nr.of l x.of then l.length else l.length + 1 := by
  cases e : isK Nr.of l x.of with
  | true => rw [← ins_old h e]; simp
  | false =>
    rw [← ins_new h e]
    have := pos_le Nr.of l x.of
    simp; omega
theorem set_full {l : List Nr} {x : Nr} (h : tabOK l = true) (h2 : bad x = false) (h3 : ((refPut Nr.of l x).length : Int) > 16) : setR l x = (true, [], 4) := by
  rw [refPut_eq (tab_srt h), insP_len (tab_srt h)] at h3
  have hl := bounds_le h
  cases e : isK Nr.of l x.of with
  | true => rw [e] at h3; simp at h3; omega
  | false => rw [e] at h3; simp at h3; exact setR_full h h2 e (by omega)
theorem set_ins {l : List Nr} {x : Nr} (h : tabOK l = true) (h2 : bad x = false) (h3 : ¬ ((refPut Nr.of l x).length : Int) > 16) : setR l x = (false, refPut Nr.of l x, 0) ∧ tabOK (refPut Nr.of l x) = true ∧ findR (refPut Nr.of l x) x.of = (x, true) := by
  have hs := tab_srt h
  have hp := refPut_eq hs x
  have h3' := h3
  rw [hp, insP_len hs] at h3
  have hl := bounds_le h
  have h0 : tabOK (refPut Nr.of l x) = true := by
    have h1 := h
    simp only [tabOK, Bool.and_eq_true, decide_eq_true_eq] at h1 ⊢
    refine ⟨?_, by omega⟩
    rw [chN_chn, hp]
    rw [chN_chn] at h1
    exact insP_chn h1.1 (by simp [h2]) (bad_of h2).1
  refine ⟨?_, h0, ?_⟩
  · cases e : isK Nr.of l x.of with
    | true => rw [setR_old h h2 e, ins_old hs e, hp]
    | false => rw [e] at h3; simp at h3; rw [setR_new h h2 e (by omega), ins_new hs e, hp]
  · rw [findR, h0, isK_gK, hp, insP_gK]; simp
theorem mb_no {x : Nr} (h : (!(!bad x)) = true) : chk x ≠ 0 := by
  rw [Bool.not_not] at h
  rw [chk, h]; simp
theorem cells_eqN (x y : Nr) : (decide (x.of = y.of) && (decide (x.co = y.co) && (decide (x.bo = y.bo) && (decide (x.ep = y.ep) && ((x.he == y.he) && ((x.fu == y.fu) && (decide (x.ag = y.ag) && (x.go == y.go)))))))) = decide (x = y) := by
  obtain ⟨_, _, _, _, _, _, _, _⟩ := x
  obtain ⟨_, _, _, _, _, _, _, _⟩ := y
  rw [Bool.eq_iff_iff]; simp
attribute [go_sem] List.isEmpty_cons beq_self_eq_true Bool.and_self List.length_cons List.length_nil
theorem good_awakeT  : Good Try.prog 12 [] [] [(.b true, false)] [] := by
  refine good_of_body4 37 Try.func12 rfl rfl rfl (by simp) (by simp) (by simp [noPtrL, noPtr]) (by rfl) ?_
  intro s m ha hr hv hG
  clear ha
  have hc : True := trivial
  have F := hG
  refine AW.seq ?_
  refine AW.region (cfg := cfg) ?_
  refine stp (fun _ h => s0 h) ?_
  refine aops_nil ?_
  refine AW.seq ?_
  have w1 := aw1
  have w2 := aw2
  have w3 := aw3
  have F := And.intro w1 F
  have F := And.intro w2 F
  have F := And.intro w3 F
  refine AW.region (cfg := cfg) ?_
  refine stp (fun _ h => su h) ?_
  refine stp (fun _ h => cr (w := good_SetX0) (x := h)) ?_
  iterate 5 refine stp (fun _ h => s0 h) ?_
  refine aops_nil ?_
  refine AW.seq ?_
  refine AW.region (cfg := cfg) ?_
  refine stp (fun _ h => s0 h) ?_
  refine stp (fun _ h => cr (w := good_LinksT false [x0] (by simp)) (x := h)) ?_
  refine stp (fun _ h => s0 h) ?_
  refine aops_nil ?_
  refine AW.seq ?_
  refine AW.region (cfg := cfg) ?_
  iterate 4 refine stp (fun _ h => s0 h) ?_
  refine stp (fun _ h => sd h) ?_
  iterate 4 refine stp (fun _ h => s0 h) ?_
  refine stp (fun _ h => si h) ?_
  refine stp (fun _ h => sl h) ?_
  refine stp (fun _ h => su h) ?_
  iterate 4 refine stp (fun _ h => s0 h) ?_
  refine stp (fun _ h => cr (w := good_HeardT false [x0] (by simp)) (x := h)) ?_
  refine stp (fun _ h => sd h) ?_
  iterate 4 refine stp (fun _ h => s0 h) ?_
  refine stp (fun _ h => cr (w := good_FullT false [x0] (by simp)) (x := h)) ?_
  refine stp (fun _ h => sd h) ?_
  iterate 3 refine stp (fun _ h => s0 h) ?_
  refine aops_nil ?_
  refine AW.ret ?_
  refine ⟨.inr rfl, ?_⟩
  apply Exists.intro
  refine leaves_tmp1 0 rfl ?_ (by rfl)
  simp (disch := first | omega | decide) only [go_sem, F, aIndex_map]
  all_goals rfl
end Go.Vai.T
