import Derived.Test.YtbnpnljlfnaheaapIt2
namespace Go.Vai.IT
open Go.Proofs Go.Vai Go.Vai.I Go.Vai.N
set_option linter.unusedSimpArgs false
set_option linter.unusedVariables false
set_option maxHeartbeats 4000000
set_option maxRecDepth 100000
theorem good_Del1It (l : List It) (i : Nat) (hi : i < l.length) (hl : l.length ≤ 1000000) : Good Try.prog 34 [(.sl 2 false (l.map itA), true), (i64 (i : Int), false), (i64 ((i : Int) + 1), false)] [] [(.sl 2 false ((l.take i ++ l.drop (i + 1)).map itA), true)] [] := by
  refine good_of_body2 33 Try.func34 rfl rfl rfl (by simp) ?_
  intro s m ha hr hv hG
  have f0 : s 0 = .own (.var 0) 1 0 ((l.map itA).length) := ha 0 _ rfl
  have o0 : m.objs (.var 0) = (1, .arr false 2 (l.map itA)) := hv 0 _ rfl
  have f1 : s 1 = .v (i64 (i : Int)) := ha 1 _ rfl
  have f2 : s 2 = .v (i64 ((i : Int) + 1)) := ha 2 _ rfl
  clear ha
  have hc : True := trivial
  have F := (And.intro f0 (And.intro f1 (And.intro f2 (And.intro o0 hG))))
  refine AW.seq ?_
  refine AW.region (cfg := cfg6) ?_
  refine stp (fun _ h => s0 h) ?_
  refine aops_nil ?_
  refine AW.seq ?_
  refine AW.region (cfg := cfg6) ?_
  iterate 4 refine stp (fun _ h => s0 h) ?_
  refine stp (fun _ h => sn h) ?_
  refine stp (fun _ h => ku3 h) ?_
  refine aops_nil ?_
  refine AW.seq ?_
  refine AW.seq ?_
  refine AW.region (cfg := cfg6) ?_
  iterate 3 refine stp (fun _ h => s0 h) ?_
  refine aops_nil ?_
  refine cnd (fun hb => ?ht1) (fun hb => ?hf1)
  case ht1 => (simp at hb; omega)
  case hf1 =>
  have hbt16 := hb
  refine AW.skip ?_
  refine AW.seq ?_
  refine AW.region (cfg := cfg6) ?_
  refine stp (fun _ h => s0 h) ?_
  refine stp (fun _ h => sn h) ?_
  refine stp (fun _ h => s0 h) ?_
  refine aops_nil ?_
  refine AW.seq ?_
  have hsb : sub (l.map itA) ((i : Int) + 1).toNat l.length = (l.drop (i + 1)).map itA := by (rw [show ((i : Int) + 1).toNat = i + 1 by omega, sub, List.take_of_length_le (by simp), List.map_drop])
  have F := And.intro hsb F
  refine AW.draw (cfg := cfg6) (by kernel_rfl) (by kernel_rfl) (by kernel_rfl) ?_
  iterate 2 refine dstp (fun _ h => s0 h) ?_
  refine dstp (fun _ h => kus h) ?_
  iterate 2 refine dstp (fun _ h => s0 h) ?_
  refine dstp (fun _ h => kus h) ?_
  refine dstp (fun _ h => kap h) ?_
  refine dstp (fun _ h => st h) ?_
  refine adraw_nil (by kernel_rfl) ?_
  refine AW.seq ?_
  refine AW.region (cfg := cfg6) ?_
  iterate 2 refine stp (fun _ h => s0 h) ?_
  refine stp (fun _ h => kln h) ?_
  refine stp (fun _ h => s0 h) ?_
  refine stp (fun _ h => kus h) ?_
  refine stp0 (fun _ h => kcl h) ?_
  refine aops_nil ?_
  refine AW.seq ?_
  refine AW.region (cfg := cfg6) ?_
  refine stp (fun _ h => s0 h) ?_
  refine stp (fun _ h => sm h) ?_
  refine aops_nil ?_
  refine AW.ret ?_
  refine ⟨.inr rfl, ?_⟩
  refine leaves_own1 6 rfl (by simp (disch := first | omega | decide) only [go_sem, F, aIndex_map] <;> rfl) (by simp (disch := first | omega | decide) only [go_sem, F, aIndex_map] <;> rfl) (by decide) ?_ (by exact hG)
  have e : i + (List.drop (i + 1) l).length = l.length - 1 := by (rw [List.length_drop]; omega)
  rw [e, sub, List.drop_zero]
  exact del_sub hi rfl rfl _ (by rw [List.map_drop])
end Go.Vai.IT
