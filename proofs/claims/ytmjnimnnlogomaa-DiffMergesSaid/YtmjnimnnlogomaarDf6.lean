import Derived.Test.YtmjnimnnlogomaarDf5
namespace Go.Vai.DB
open Go.Proofs Go.Vai Go.Vai.D Go.Vai.I Go.Vai.L Go.Vai.N Go.Vai.O
set_option linter.unusedSimpArgs false
set_option linter.unusedVariables false
set_option maxHeartbeats 4000000
set_option maxRecDepth 100000
theorem of_0 {a b : List Lsa} (h : ¬ (ofR a b).2 ≠ 0) : dbOK a = true ∧ dbOK b = true := by
  rw [ofR] at h
  cases ha : dbOK a with
  | false => rw [ha] at h; exact absurd (by decide : (1 : Int) ≠ 0) h
  | true =>
    cases hb : dbOK b with
    | false => rw [ha, hb] at h; exact absurd (by decide : (1 : Int) ≠ 0) h
    | true => exact ⟨rfl, rfl⟩
theorem of_1 {a b : List Lsa} (h : (ofR a b).2 ≠ 0) : mergeR a b = (true, [], 1) ∧ (ofR a b).2 = 1 := by
  rw [ofR] at h ⊢
  rw [mergeR]
  split
  · rename_i h2; rw [if_pos h2] at h; exact absurd rfl h
  · exact ⟨rfl, rfl⟩
theorem merge_ap {a b : List Lsa} (ha : dbOK a = true) (hb : dbOK b = true) : mergeR a b = applyR a (mD a b) := by rw [mergeR, ha, hb]; rfl
theorem nw_len (a b : List Lsa) : (nwL a b).length ≤ b.length := List.length_filter_le _ _
theorem nw_fit {a b : List Lsa} (pb : ∀ x ∈ b, fit x) : ∀ x ∈ nwL a b, fit x := fun x hx => pb x (List.mem_filter.1 hx).1
theorem good_MergeDf (na : Bool) (a : List Lsa) (ha : a.length ≤ 1000000) (pa : ∀ x ∈ a, fit x) (nb : Bool) (b : List Lsa) (hb0 : b.length ≤ 1000000) (pb : ∀ x ∈ b, fit x) : Good Try.prog 17 [(.sl 3 na (a.map lsaA), false), (.sl 3 nb (b.map lsaA), false)] [] [(.sl 3 (mergeR a b).1 ((mergeR a b).2.1.map lsaA), false), (i64 (mergeR a b).2.2, false)] [] := by
  refine good_of_body2 24 Try.func17 rfl rfl rfl (by simp) ?_
  intro s m ha hr hv hG
  have f0 : s 0 = .v (.sl 3 na (a.map lsaA)) := ha 0 _ rfl
  have f1 : s 1 = .v (.sl 3 nb (b.map lsaA)) := ha 1 _ rfl
  clear ha
  have hc : True := trivial
  have F := (And.intro f0 (And.intro f1 hG))
  refine AW.seq ?_
  refine AW.region (cfg := cfg) ?_
  iterate 2 refine stp (fun _ h => s0 h) ?_
  refine aops_nil ?_
  refine AW.seq ?_
  refine AW.region (cfg := cfg) ?_
  iterate 2 refine stp (fun _ h => s0 h) ?_
  refine stp (fun _ h => cr (w := good_OfDf na a (by omega) pa nb b (by omega) pb) (x := h)) ?_
  iterate 3 refine stp (fun _ h => s0 h) ?_
  refine stp (fun _ h => sd h) ?_
  refine stp0 (fun _ h => ss h) ?_
  refine stp (fun _ h => s0 h) ?_
  refine aops_nil ?_
  refine AW.seq ?_
  refine AW.seq ?_
  refine AW.region (cfg := cfg) ?_
  iterate 2 refine stp (fun _ h => s0 h) ?_
  refine aops_nil ?_
  refine cnd (fun hb => ?ht1) (fun hb => ?hf1)
  case ht1 =>
    have hw15 := hb
    try simp only [bo1, bo2, bo3, bo4, bo5, bo6] at hb
    have hbt15 := hb
    refine AW.seq ?_
    obtain ⟨e1, e2⟩ := of_1 hbt15
    have F := And.intro e1 F
    have F := And.intro e2 F
    refine AW.region (cfg := cfg) ?_
    iterate 3 refine stp (fun _ h => s0 h) ?_
    refine aops_nil ?_
    refine AW.ret ?_
    refine ⟨.inr rfl, ?_⟩
    refine leaves_mwp2 (rs := [.tmp 4, .tmp 5]) rfl ?_
    simp (config := {failIfUnchanged := false}) [giveL, srcOne, rehome, freezeN, sub, upd, opn, aLoad, loadL, giveOne, reify, reifyL, readL, readOne, Mwp, M.bind, Mem.set, setAt, cellsL, hG, f0, f1, e1, e2]
    all_goals first | done | rfl | exact ⟨rfl, rfl⟩ | trace_state
  case hf1 =>
    have hw15 := hb
    try simp only [bo1, bo2, bo3, bo4, bo5, bo6] at hb
    have hbt15 := hb
    refine AW.skip ?_
    refine AW.seq ?_
    obtain ⟨h0a, h0b⟩ := of_0 hbt15
    have hlb := db_len h0b
    have wn := nw_len a b
    have pn := nw_fit (a := a) pb
    have e1 := ofR_yes h0a h0b
    have e2 := merge_ap h0a h0b
    have F := And.intro e1 F
    have F := And.intro e2 F
    refine AW.region (cfg := cfg) ?_
    refine stp (fun _ h => s0 h) ?_
    refine stp (fun _ h => sx h) ?_
    refine stp (fun _ h => sl h) ?_
    refine stp (fun _ h => su h) ?_
    refine stp (fun _ h => cr (w := good_ApplyDf na a (by omega) pa (mD a b) (show (nwL a b).length ≤ 400000 by omega) (show 0 ≤ 1000000 by omega) (show 0 ≤ 400000 by omega) pn (fun x hx => absurd hx (by simp [mD]))) (x := h)) ?_
    iterate 4 refine stp (fun _ h => s0 h) ?_
    refine aops_nil ?_
    refine AW.ret ?_
    refine ⟨.inr rfl, ?_⟩
    refine leaves_mwp2 (rs := [.tmp 4, .tmp 5]) rfl ?_
    simp (config := {failIfUnchanged := false}) [giveL, srcOne, rehome, freezeN, sub, upd, opn, aLoad, loadL, giveOne, reify, reifyL, readL, readOne, Mwp, M.bind, Mem.set, setAt, cellsL, hG, f0, f1, e1, e2]
    all_goals first | done | rfl | exact ⟨rfl, rfl⟩ | trace_state
end Go.Vai.DB
