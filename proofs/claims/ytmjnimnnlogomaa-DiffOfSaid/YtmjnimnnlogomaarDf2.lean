import Derived.Test.YtmjnimnnlogomaarDf
namespace Go.Vai.DB
open Go.Proofs Go.Vai Go.Vai.D Go.Vai.I Go.Vai.L Go.Vai.N Go.Vai.O
set_option linter.unusedSimpArgs false
set_option linter.unusedVariables false
set_option maxHeartbeats 4000000
set_option maxRecDepth 100000
theorem good_putDf (nil : Bool) (l : List Lsa) (hl : l.length ≤ 1000000) (hz : nil = true → l = []) (hs : Srt Lsa.o l) (x : Lsa) : Good Try.prog 33 [(.sl 3 nil (l.map lsaA), true), (lsaA x, false)] [] [(.sl 3 false ((insP Lsa.o l x).map lsaA), true)] [] := by
  refine good_of_body2 25 Try.func33 rfl rfl rfl (by simp) ?_
  intro s m ha hr hv hG
  have f0 : s 0 = .own (.var 0) 1 0 ((l.map lsaA).length) := ha 0 _ rfl
  have o0 : m.objs (.var 0) = (1, .arr nil 3 (l.map lsaA)) := hv 0 _ rfl
  have f1 : s 1 = .v (.agg [i64 x.o, i64 x.s, .sl 2 x.nil (x.ls.map linkA)]) := ha 1 _ rfl
  clear ha
  have hc : True := trivial
  have F := (And.intro f0 (And.intro f1 (And.intro o0 hG)))
  refine AW.seq ?_
  refine AW.region (cfg := cfg4) ?_
  refine stp (fun _ h => sb h) ?_
  refine stp (fun _ h => s0 h) ?_
  refine aops_nil ?_
  refine AW.seq ?_
  refine AW.region (cfg := cfg4) ?_
  refine stp (fun _ h => s0 h) ?_
  refine stp (fun _ h => sx h) ?_
  refine stp (fun _ h => sl h) ?_
  refine stp (fun _ h => ct (w := good_BSearchLsa nil l x.o 47 hl (rise_iff.2 hs) rfl rfl rfl (fun y => good_cmpPut y x.o)) (x := h)) ?_
  iterate 5 refine stp (fun _ h => s0 h) ?_
  refine aops_nil ?_
  refine AW.seq ?_
  refine AW.seq ?_
  refine AW.region (cfg := cfg4) ?_
  refine stp (fun _ h => s0 h) ?_
  refine aops_nil ?_
  refine cnd (fun hb => ?ht1) (fun hb => ?hf1)
  case ht1 =>
    have hw14 := hb
    try simp only [bo1, bo2, bo3, bo4, bo5, bo6] at hb
    have hbt14 := hb
    refine AW.seq ?_
    have h3 : isK Lsa.o l x.o = true := hbt14
    have hp := pos_lt hs h3
    obtain rfl : nil = false := by (cases nil; rfl; rw [hz rfl] at hp; cases hp)
    refine AW.region (cfg := cfg4) ?_
    iterate 2 refine stp (fun _ h => s0 h) ?_
    refine stp (fun _ h => sl h) ?_
    refine stp (fun _ h => si h) ?_
    refine stp0 (fun _ h => se2 (w := lsaA_eq x) (x := h)) ?_
    refine aops_nil ?_
    refine AW.seq ?_
    refine AW.region (cfg := cfg4) ?_
    refine stp (fun _ h => s0 h) ?_
    refine stp (fun _ h => sm h) ?_
    refine aops_nil ?_
    refine AW.ret ?_
    refine ⟨.inr rfl, ?_⟩
    (rw [← ins_old hs h3])
    refine leaves_own1 4 rfl (by simp (disch := first | omega | decide) only [go_sem, F, aIndex_map] <;> rfl) (by simp (disch := first | omega | decide) only [go_sem, F, aIndex_map] <;> rfl) (by decide) (by simp [sub, List.take_of_length_le]) (by exact hG)
  case hf1 =>
    have hw14 := hb
    try simp only [bo1, bo2, bo3, bo4, bo5, bo6] at hb
    have hbt14 := hb
    refine AW.skip ?_
    refine AW.seq ?_
    have h3 : isK Lsa.o l x.o = false := hbt14
    have hq := pos_le Lsa.o l x.o
    refine AW.region (cfg := cfg4) ?_
    iterate 2 refine stp (fun _ h => s0 h) ?_
    refine stp (fun _ h => sl h) ?_
    refine stp (fun _ h => sq h) ?_
    refine stp (fun _ h => cx1 (w := good_InsLsa nil l x (posK Lsa.o l x.o) hq (by omega)) (x := h)) ?_
    refine stp (fun _ h => st h) ?_
    refine aops_nil ?_
    refine AW.ret ?_
    refine ⟨.inr rfl, ?_⟩
    (rw [← ins_new hs h3])
    refine leaves_own1 4 rfl (by simp (disch := first | omega | decide) only [go_sem, F, aIndex_map] <;> rfl) (by simp (disch := first | omega | decide) only [go_sem, F, aIndex_map] <;> rfl) (by decide) (by simp [sub, List.take_of_length_le]) (by exact hG)
end Go.Vai.DB
