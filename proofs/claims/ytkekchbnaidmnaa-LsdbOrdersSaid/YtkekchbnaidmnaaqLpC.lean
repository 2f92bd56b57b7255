import Derived.Test.YtkekchbnaidmnaaqLpB
namespace Go.Vai.L
open Go.Proofs Go.Vai Go.Vai.O
set_option linter.unusedSimpArgs false
set_option linter.unusedVariables false
set_option maxHeartbeats 4000000
set_option maxRecDepth 100000
theorem good_Light (x : Lsa) (hx : x.ls.length ≤ 9223372036854775807) : Good Try.prog 12 [(lsaA x, false)] [] [(.b (decide ((x.ls.length : Int) ≤ 40)), false)] [] := by
  refine good_of_body2 7 Try.func12 rfl rfl rfl (by simp) ?_
  intro s m ha hr hv hG
  have f0 : s 0 = .v (.agg [i64 x.o, i64 x.s, .sl 2 x.nil (x.ls.map linkA)]) := ha 0 _ rfl
  clear ha
  have hc : True := trivial
  have F := (And.intro f0 hG)
  refine AW.seq ?_
  refine AW.region (cfg := cfg) ?_
  refine stp (fun _ h => sb h) ?_
  refine stp (fun _ h => s0 h) ?_
  refine aops_nil ?_
  refine AW.seq ?_
  refine AW.region (cfg := cfg) ?_
  refine stp (fun _ h => sx h) ?_
  refine stp (fun _ h => sl h) ?_
  refine stp (fun _ h => sd h) ?_
  iterate 2 refine stp (fun _ h => s0 h) ?_
  refine aops_nil ?_
  refine AW.ret ?_
  refine ⟨.inr rfl, ?_⟩
  refine leaves_tmp1 2 rfl ?_ (by exact hG)
  simp (disch := first | omega | decide) only [go_sem, F, aIndex_map]
  all_goals first | done | rfl | trace_state
theorem good_Newer (x : Lsa) (hx : x.ls.length ≤ 9223372036854775807)(y : Lsa) (hy : y.ls.length ≤ 9223372036854775807) : Good Try.prog 31 [(lsaA x, false), (lsaA y, false)] [] [(.b (newer x y), false)] [] := by
  refine good_of_body2 17 Try.func31 rfl rfl rfl (by simp) ?_
  intro s m ha hr hv hG
  have f0 : s 0 = .v (.agg [i64 x.o, i64 x.s, .sl 2 x.nil (x.ls.map linkA)]) := ha 0 _ rfl
  have f1 : s 1 = .v (.agg [i64 y.o, i64 y.s, .sl 2 y.nil (y.ls.map linkA)]) := ha 1 _ rfl
  clear ha
  have hc : True := trivial
  have F := (And.intro f0 (And.intro f1 hG))
  refine AW.seq ?_
  refine AW.region (cfg := cfg) ?_
  iterate 2 refine stp (fun _ h => sb h) ?_
  refine stp (fun _ h => s0 h) ?_
  refine aops_nil ?_
  refine AW.seq ?_
  refine AW.region (cfg := cfg) ?_
  refine stp (fun _ h => sx h) ?_
  refine stp (fun _ h => sl h) ?_
  refine stp (fun _ h => sx h) ?_
  refine stp (fun _ h => sl h) ?_
  iterate 2 refine stp (fun _ h => s0 h) ?_
  refine mrg wa (fun hc _ h => sx h) ?_
  refine mrg wa (fun hc _ h => sl h) ?_
  refine mrg wa (fun hc _ h => sx h) ?_
  refine mrg wa (fun hc _ h => sl h) ?_
  refine mrg wa (fun hc _ h => s0 h) ?_
  iterate 2 refine stp (fun _ h => s0 h) ?_
  refine aops_nil ?_
  refine AW.ret ?_
  refine ⟨.inr rfl, ?_⟩
  refine leaves_tmp1 4 rfl ?_ (by exact hG)
  simp (disch := first | omega | decide) only [go_sem, F, aIndex_map]
  all_goals rfl
theorem good_Copy (x : Lsa) (hx : x.ls.length ≤ 9223372036854775807) (hx2 : x.ls.length ≤ 8796093022208) (hz : x.nil = true → x.ls = []) : Good Try.prog 32 [(lsaA x, false)] [] [(lsaA x, false)] [] := by
  refine good_of_body2 8 Try.func32 rfl rfl rfl (by simp) ?_
  intro s m ha hr hv hG
  have f0 : s 0 = .v (.agg [i64 x.o, i64 x.s, .sl 2 x.nil (x.ls.map linkA)]) := ha 0 _ rfl
  clear ha
  have hc : True := trivial
  have F := (And.intro f0 hG)
  refine AW.seq ?_
  refine AW.region (cfg := cfg) ?_
  refine stp (fun _ h => sb h) ?_
  refine stp (fun _ h => sd h) ?_
  refine aops_nil ?_
  refine AW.seq ?_
  refine AW.region (cfg := cfg) ?_
  refine stp (fun _ h => sx h) ?_
  refine stp (fun _ h => sl h) ?_
  refine stp (fun _ h => co1 (w := good_CloneLink _ _ (by omega) hz) (x := h)) ?_
  refine stp (fun _ h => sx h) ?_
  refine stp0 (fun _ h => ss h) ?_
  refine aops_nil ?_
  refine AW.seq ?_
  refine AW.region (cfg := cfg) ?_
  refine stp (fun _ h => sl h) ?_
  refine stp0 (fun _ h => ss h) ?_
  refine aops_nil ?_
  refine AW.ret ?_
  refine ⟨.inr rfl, ?_⟩
  refine leaves_mwp2 (rs := [.cell 2 31]) rfl ?_
  simp (config := {failIfUnchanged := false}) [giveL, srcOne, rehome, freezeN, sub, ti31, upd, opn, aLoad, loadL, giveOne, reify, reifyL, readL, readOne, Mwp, M.bind, Mem.set, setAt, cellsL, hG, f0, lsaA]
  all_goals exact List.take_of_length_le (by simp)
@[simp] theorem noPtr_lsa (x : Lsa) : noPtr (lsaA x) = true := by simp [lsaA, noPtr, noPtrL, noPtrL_links]
@[simp] theorem noPtrL_lsas (l : List Lsa) : noPtrL (l.map lsaA) = true := noPtrL_map noPtr_lsa _
theorem cellsOf_lsa (x : Lsa) : cellsOf (lsaA x) = [.i .i64 x.o, .i .i64 x.s, .sl 2 x.nil (x.ls.map linkA)] := rfl
attribute [go_sem] cellsOf_lsa
end Go.Vai.L
