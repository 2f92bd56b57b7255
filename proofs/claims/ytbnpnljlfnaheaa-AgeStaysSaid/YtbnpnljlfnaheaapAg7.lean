import Derived.Test.YtbnpnljlfnaheaapAg3
import Derived.Test.YtbnpnljlfnaheaapAg4
import Derived.Test.YtbnpnljlfnaheaapAg5
import Derived.Test.YtbnpnljlfnaheaapAg6
namespace Go.Vai.AG
open Go.Proofs Go.Vai Go.Vai.I Go.Vai.N Go.Vai.Y
set_option linter.unusedSimpArgs false
set_option linter.unusedVariables false
set_option maxHeartbeats 4000000
set_option maxRecDepth 100000
theorem com_no {l : List Ag} {x : It} (h : agE l ≠ 0 ∨ (!agok (fresh x)) = true) : comR l x = (true, [], 1) := by
  rw [comR]
  rcases h with h | h
  · rw [agE_1 h]; rfl
  · rw [bnot_t h, Bool.and_false]; rfl
theorem com_ok {l : List Ag} {x : It} (h : ¬ agE l ≠ 0) (h2 : (!agok (fresh x)) = false) : comR l x = (false, comF l x, 0) := by
  rw [comR, agE_0 h, bnot_f h2]; rfl
theorem ag_nil {nil : Bool} {l : List Ag} {t : Int} (hz : nil = true → l = []) (h : isK Ag.o l t = true) : nil = false := by
  cases nil with
  | false => rfl
  | true => rw [hz rfl] at h; simp [isK] at h
theorem good_Come (nil : Bool) (l : List Ag) (hl : l.length ≤ 1000000) (hz : nil = true → l = []) (x : It) : Good Try.prog 27 [(.sl 4 nil (l.map agA), false), (.agg [i64 x.o, i64 x.s], false)] [] [(.sl 4 (comR l x).1 ((comR l x).2.1.map agA), false), (i64 (comR l x).2.2, false)] [] := by
  refine good_of_body2 74 Try.func27 rfl rfl rfl (by simp) ?_
  intro s m ha hr hv hG
  have f0 : s 0 = .v (.sl 4 nil (l.map agA)) := ha 0 _ rfl
  have f1 : s 1 = .v (.agg [i64 x.o, i64 x.s]) := ha 1 _ rfl
  clear ha
  have hc : True := trivial
  have F := (And.intro f0 (And.intro f1 hG))
  refine AW.seq ?_
  refine AW.region (cfg := cfg) ?_
  refine stp (fun _ h => sb h) ?_
  iterate 2 refine stp (fun _ h => s0 h) ?_
  refine aops_nil ?_
  refine AW.seq ?_
  refine AW.seq ?_
  refine AW.region (cfg := cfg) ?_
  refine stp (fun _ h => s0 h) ?_
  refine stp (fun _ h => cs (w := good_AgCheck nil l (by omega)) (x := h)) ?_
  iterate 2 refine stp (fun _ h => s0 h) ?_
  refine mrg wa (fun hc _ h => sl h) ?_
  refine mrg wa (fun hc _ h => su h) ?_
  refine mrg wa (fun hc _ h => cs (w := good_right (fresh x)) (x := h)) ?_
  refine mrg wa (fun hc _ h => s0 h) ?_
  refine stp (fun _ h => s0 h) ?_
  refine aops_nil ?_
  refine cnd (fun hb => ?ht1) (fun hb => ?hf1)
  case ht1 =>
    have hw17 := hb
    try simp only [bo1, bo2, bo3, bo4, bo5, bo6] at hb
    have hbt17 := hb
    refine AW.seq ?_
    refine AW.region (cfg := cfg) ?_
    iterate 2 refine stp (fun _ h => s0 h) ?_
    refine aops_nil ?_
    refine AW.ret ?_
    refine ⟨.inr rfl, ?_⟩
    refine leaves_mwp2 (rs := [.tmp 4, .tmp 5]) rfl ?_
    simp (config := {failIfUnchanged := false}) [giveL, srcOne, rehome, freezeN, sub, upd, opn, aLoad, loadL, giveOne, reify, reifyL, readL, readOne, Mwp, M.bind, Mem.set, setAt, cellsL, hG, f0, f1]
    all_goals (rw [com_no hbt17]; simp; done)
  case hf1 =>
    have hw17 := hb
    try simp only [bo1, bo2, bo3, bo4, bo5, bo6] at hb
    have hbt17 := hb
    refine AW.skip ?_
    refine AW.seq ?_
    have h0 := agE_0 hbt17.1
    have hs := ag_srt h0
    refine AW.region (cfg := cfg) ?_
    refine stp (fun _ h => s0 h) ?_
    refine stp (fun _ h => co1 (w := good_CloneAg nil l (by omega) hz) (x := h)) ?_
    refine stp (fun _ h => st h) ?_
    refine aops_nil ?_
    refine AW.seq ?_
    refine AW.region (cfg := cfg) ?_
    refine stp (fun _ h => s0 h) ?_
    refine stp (fun _ h => sx h) ?_
    refine stp (fun _ h => sl h) ?_
    refine stp (fun _ h => ct (w := good_BSearchAg nil l x.o 49 (by omega) (rise_iff.2 hs) rfl rfl rfl (fun y => good_cmpAg y x.o)) (x := h)) ?_
    iterate 5 refine stp (fun _ h => s0 h) ?_
    refine aops_nil ?_
    refine AW.seq ?_
    refine AW.block ?_
    refine AW.seq ?_
    refine AW.region (cfg := cfg) ?_
    iterate 3 refine stp (fun _ h => s0 h) ?_
    refine aops_nil ?_
    refine cnd (fun hb => ?ht2) (fun hb => ?hf2)
    case ht2 =>
      have hw27 := hb
      try simp only [bo1, bo2, bo3, bo4, bo5, bo6] at hb
      have hbt27 := hb
      have hn : isK Ag.o l x.o = false := by simpa using hbt27
      have hp := pos_le Ag.o l x.o
      refine AW.region (cfg := cfg) ?_
      iterate 2 refine stp (fun _ h => s0 h) ?_
      refine stp (fun _ h => sl h) ?_
      refine stp (fun _ h => su h) ?_
      refine stp (fun _ h => sq h) ?_
      refine stp (fun _ h => cx1 (w := good_InsAg nil l (fresh x) (posK Ag.o l x.o) hp (by omega)) (x := h)) ?_
      refine stp (fun _ h => st h) ?_
      refine aops_nil ?_
      refine AW.seq ?_
      refine AW.region (cfg := cfg) ?_
      refine stp (fun _ h => s0 h) ?_
      refine stp (fun _ h => sm h) ?_
      refine stp (fun _ h => s0 h) ?_
      refine aops_nil ?_
      refine AW.ret ?_
      refine ⟨.inr rfl, ?_⟩
      refine leaves_mwp2 (rs := [.tmp 4, .tmp 5]) rfl ?_
      simp (config := {failIfUnchanged := false}) [giveL, srcOne, rehome, freezeN, sub, upd, opn, aLoad, loadL, giveOne, reify, reifyL, readL, readOne, Mwp, M.bind, Mem.set, setAt, cellsL, hG, f0, f1]
      all_goals (rw [com_ok hbt17.1 hbt17.2, comF_new h0 hn]; simp [List.take_of_length_le]; done)
    case hf2 =>
      have hw27 := hb
      try simp only [bo1, bo2, bo3, bo4, bo5, bo6] at hb
      have hbt27 := hb
      refine AW.seq ?_
      have hn : isK Ag.o l x.o = true := by simpa using hbt27
      have hp := pos_lt hs hn
      obtain rfl := ag_nil hz hn
      have hfr : agA (fresh x) = .agg [i64 x.o, i64 x.s, i64 0, .b false] := rfl
      refine AW.draw (cfg := cfg) (by kernel_rfl) (by kernel_rfl) (by kernel_rfl) ?_
      refine dstp (fun _ h => sx h) ?_
      refine dstp (fun _ h => sl h) ?_
      iterate 2 refine dstp (fun _ h => s0 h) ?_
      refine dstp (fun _ h => si h) ?_
      refine dstp (fun _ h => sxe h) ?_
      refine dstp (fun _ h => sxe h) ?_
      refine dstp (fun _ h => sle h) ?_
      iterate 2 refine dstp (fun _ h => s0 h) ?_
      refine adraw_nil (by kernel_rfl) ?_
      refine cnd (fun hb => ?ht3) (fun hb => ?hf3)
      case ht3 =>
        have hw36 := hb
        try simp only [bo1, bo2, bo3, bo4, bo5, bo6] at hb
        have hbt36 := hb
        refine AW.region (cfg := cfg) ?_
        iterate 2 refine stp (fun _ h => s0 h) ?_
        refine stp (fun _ h => sl h) ?_
        refine stp (fun _ h => su h) ?_
        refine stp (fun _ h => si h) ?_
        refine stp0 (fun _ h => se2 (w := hfr) (x := h)) ?_
        refine aops_nil ?_
        refine AW.seq ?_
        refine AW.region (cfg := cfg) ?_
        refine stp (fun _ h => s0 h) ?_
        refine stp (fun _ h => sm h) ?_
        refine stp (fun _ h => s0 h) ?_
        refine aops_nil ?_
        refine AW.ret ?_
        refine ⟨.inr rfl, ?_⟩
        refine leaves_mwp2 (rs := [.tmp 4, .tmp 5]) rfl ?_
        simp (config := {failIfUnchanged := false}) [giveL, srcOne, rehome, freezeN, sub, upd, opn, aLoad, loadL, giveOne, reify, reifyL, readL, readOne, Mwp, M.bind, Mem.set, setAt, cellsL, hG, f0, f1]
        all_goals (rw [com_ok hbt17.1 hbt17.2, comF_set h0 hn hbt36]; simp [List.take_of_length_le]; done)
      case hf3 =>
        have hw36 := hb
        try simp only [bo1, bo2, bo3, bo4, bo5, bo6] at hb
        have hbt36 := hb
        refine AW.seq ?_
        refine AW.draw (cfg := cfg) (by kernel_rfl) (by kernel_rfl) (by kernel_rfl) ?_
        refine dstp (fun _ h => sx h) ?_
        refine dstp (fun _ h => sl h) ?_
        iterate 2 refine dstp (fun _ h => s0 h) ?_
        refine dstp (fun _ h => si h) ?_
        refine dstp (fun _ h => sxe h) ?_
        refine dstp (fun _ h => sxe h) ?_
        refine dstp (fun _ h => sle h) ?_
        iterate 2 refine dstp (fun _ h => s0 h) ?_
        iterate 2 refine dmrg wa (fun hc _ h => s0 h) ?_
        refine dmrg wa (fun hc _ h => si h) ?_
        refine dmrg wa (fun hc _ h => sxe h) ?_
        refine dmrg wa (fun hc _ h => sle h) ?_
        refine dmrg wa (fun hc _ h => s0 h) ?_
        iterate 2 refine dstp (fun _ h => s0 h) ?_
        refine adraw_nil (by kernel_rfl) ?_
        refine cnd (fun hb => ?ht4) (fun hb => ?hf4)
        case ht4 =>
          have hw51 := hb
          try simp only [bo1, bo2, bo3, bo4, bo5, bo6] at hb
          have hbt51 := hb
          obtain ⟨y, hy⟩ : ∃ y : Ag, y = ⟨(l[posK Ag.o l x.o]).o, (l[posK Ag.o l x.o]).s, 0, (l[posK Ag.o l x.o]).go⟩ := ⟨_, rfl⟩
          have hst : setCells (agA (l[posK Ag.o l x.o])) 2 [i64 0] = agA y := by (rw [hy]; rfl)
          refine AW.region (cfg := cfg) ?_
          iterate 2 refine stp (fun _ h => s0 h) ?_
          refine stp (fun _ h => si h) ?_
          refine stp (fun _ h => sxe h) ?_
          refine stp0 (fun _ h => sf2 (w := hst) (x := h)) ?_
          refine aops_nil ?_
          refine AW.seq ?_
          refine AW.region (cfg := cfg) ?_
          refine stp (fun _ h => s0 h) ?_
          refine stp (fun _ h => sm h) ?_
          refine stp (fun _ h => s0 h) ?_
          refine aops_nil ?_
          refine AW.ret ?_
          refine ⟨.inr rfl, ?_⟩
          refine leaves_mwp2 (rs := [.tmp 4, .tmp 5]) rfl ?_
          simp (config := {failIfUnchanged := false}) [giveL, srcOne, rehome, freezeN, sub, upd, opn, aLoad, loadL, giveOne, reify, reifyL, readL, readOne, Mwp, M.bind, Mem.set, setAt, cellsL, hG, f0, f1]
          all_goals (rw [com_ok hbt17.1 hbt17.2, comF_zero h0 hn hbt36 hw51, ← hy]; simp [List.take_of_length_le]; done)
        case hf4 =>
          have hw51 := hb
          try simp only [bo1, bo2, bo3, bo4, bo5, bo6] at hb
          have hbt51 := hb
          refine AW.skip ?_
          refine AW.seq ?_
          refine AW.region (cfg := cfg) ?_
          refine stp (fun _ h => s0 h) ?_
          refine stp (fun _ h => sm h) ?_
          refine stp (fun _ h => s0 h) ?_
          refine aops_nil ?_
          refine AW.ret ?_
          refine ⟨.inr rfl, ?_⟩
          refine leaves_mwp2 (rs := [.tmp 4, .tmp 5]) rfl ?_
          simp (config := {failIfUnchanged := false}) [giveL, srcOne, rehome, freezeN, sub, upd, opn, aLoad, loadL, giveOne, reify, reifyL, readL, readOne, Mwp, M.bind, Mem.set, setAt, cellsL, hG, f0, f1]
          all_goals (rw [com_ok hbt17.1 hbt17.2, comF_same h0 hn hbt36 hw51]; simp [List.take_of_length_le]; done)
theorem good_Due (nil : Bool) (l : List Ag) (hl : l.length ≤ 1000000) : Good Try.prog 29 [(.sl 4 nil (l.map agA), false)] [] [(.sl 1 (thR isDue l).isEmpty ((thR isDue l).map i64), false)] [] := by
  refine good_of_body2 5 Try.func29 rfl rfl rfl (by simp) ?_
  intro s m ha hr hv hG
  have f0 : s 0 = .v (.sl 4 nil (l.map agA)) := ha 0 _ rfl
  clear ha
  have hc : True := trivial
  have F := (And.intro f0 hG)
  refine AW.seq ?_
  refine AW.region (cfg := cfg) ?_
  refine stp (fun _ h => s0 h) ?_
  refine aops_nil ?_
  refine AW.seq ?_
  refine AW.region (cfg := cfg) ?_
  refine stp (fun _ h => s0 h) ?_
  refine stp (fun _ h => cr (w := good_thoseA nil l (by omega) 53 isDue rfl rfl rfl good_dueF) (x := h)) ?_
  refine stp (fun _ h => s0 h) ?_
  refine aops_nil ?_
  refine AW.ret ?_
  refine ⟨.inr rfl, ?_⟩
  refine leaves_mwp2 (rs := [.tmp 2]) rfl ?_
  simp (config := {failIfUnchanged := false}) [giveL, srcOne, rehome, freezeN, sub, upd, opn, aLoad, loadL, giveOne, reify, reifyL, readL, readOne, Mwp, M.bind, Mem.set, setAt, cellsL, hG, f0]
  all_goals first | done | exact rfl | exact ⟨rfl, rfl⟩ | trace_state
def swR (nil : Bool) (l : List Ag) : Bool × List Ag := if agOK l then (nil, l.filter fun x => !isGo x) else (true, [])
theorem sw_no {nil : Bool} {l : List Ag} (h : agE l ≠ 0) : swR nil l = (true, []) ∧ thR isGo l = [] := by
  have := agE_1 h
  exact ⟨by rw [swR, this]; rfl, by rw [thR, this]; rfl⟩
theorem sw_ok {nil : Bool} {l : List Ag} (h : ¬ agE l ≠ 0) : swR nil l = (nil, l.filter fun x => !isGo x) := by rw [swR, agE_0 h]; rfl
theorem good_Sweep (nil : Bool) (l : List Ag) (hl : l.length ≤ 1000000) (hz : nil = true → l = []) : Good Try.prog 44 [(.sl 4 nil (l.map agA), false)] [] [(.sl 4 (swR nil l).1 ((swR nil l).2.map agA), false), (.sl 1 (thR isGo l).isEmpty ((thR isGo l).map i64), false)] [] := by
  refine good_of_body2 12 Try.func44 rfl rfl rfl (by simp) ?_
  intro s m ha hr hv hG
  have f0 : s 0 = .v (.sl 4 nil (l.map agA)) := ha 0 _ rfl
  clear ha
  have hc : True := trivial
  have F := (And.intro f0 hG)
  refine AW.seq ?_
  refine AW.region (cfg := cfg) ?_
  iterate 2 refine stp (fun _ h => s0 h) ?_
  refine aops_nil ?_
  refine AW.seq ?_
  refine AW.seq ?_
  refine AW.region (cfg := cfg) ?_
  refine stp (fun _ h => s0 h) ?_
  refine stp (fun _ h => cs (w := good_AgCheck nil l (by omega)) (x := h)) ?_
  refine stp (fun _ h => s0 h) ?_
  refine aops_nil ?_
  refine cnd (fun hb => ?ht1) (fun hb => ?hf1)
  case ht1 =>
    have hw6 := hb
    try simp only [bo1, bo2, bo3, bo4, bo5, bo6] at hb
    have hbt6 := hb
    refine AW.seq ?_
    refine AW.region (cfg := cfg) ?_
    iterate 2 refine stp (fun _ h => s0 h) ?_
    refine aops_nil ?_
    refine AW.ret ?_
    refine ⟨.inr rfl, ?_⟩
    refine leaves_mwp2 (rs := [.tmp 2, .tmp 3]) rfl ?_
    simp (config := {failIfUnchanged := false}) [giveL, srcOne, rehome, freezeN, sub, upd, opn, aLoad, loadL, giveOne, reify, reifyL, readL, readOne, Mwp, M.bind, Mem.set, setAt, cellsL, hG, f0]
    all_goals (rw [(sw_no (nil := nil) hbt6).1, (sw_no (nil := nil) hbt6).2]; simp; done)
  case hf1 =>
    have hw6 := hb
    try simp only [bo1, bo2, bo3, bo4, bo5, bo6] at hb
    have hbt6 := hb
    refine AW.skip ?_
    refine AW.seq ?_
    refine AW.region (cfg := cfg) ?_
    refine stp (fun _ h => s0 h) ?_
    refine stp (fun _ h => co1 (w := good_CloneAg nil l (by omega) hz) (x := h)) ?_
    refine stp (fun _ h => cx (w := good_DeleteFuncAg nil l (by omega) hz 74 [] isGo rfl rfl rfl rfl (fun x _ => good_goneF x)) (x := h)) ?_
    refine stp (fun _ h => s0 h) ?_
    refine stp (fun _ h => cr (w := good_thoseA nil l (by omega) 74 isGo rfl rfl rfl good_goneF) (x := h)) ?_
    iterate 2 refine stp (fun _ h => s0 h) ?_
    refine aops_nil ?_
    refine AW.ret ?_
    refine ⟨.inr rfl, ?_⟩
    refine leaves_mwp2 (rs := [.tmp 2, .tmp 3]) rfl ?_
    simp (config := {failIfUnchanged := false}) [giveL, srcOne, rehome, freezeN, sub, upd, opn, aLoad, loadL, giveOne, reify, reifyL, readL, readOne, Mwp, M.bind, Mem.set, setAt, cellsL, hG, f0]
    all_goals (rw [sw_ok hbt6]; simp; done)
end Go.Vai.AG
