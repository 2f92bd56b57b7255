import Derived.Test.YtdoomgohnocecaaM2
import Derived.Test.YtdoomgohnocecaaM1
import Derived.Test.YtdoomgohnocecaaVaiD
namespace Go.Vai.L
open Go.Proofs Go.Vai Go.Vai.O
set_option linter.unusedSimpArgs false
set_option linter.unusedVariables false
set_option maxHeartbeats 4000000
set_option maxRecDepth 100000
attribute [simp] linksB_len rfLinks_length
theorem oneB_num (n : Int) : [BitVec.ofInt 8 n] = numR n 1 := (numR_one n).symm
attribute [go_sem] numS1 numS4 numS8 nm1 nm4 nm8 Bool.false_and List.append_assoc
theorem good_Put (nil : Bool) (l : List (BitVec 8)) (o q : Int) (nl : Bool) (ls : List LinkS) (hl : l.length ≤ 140737488350000) (hz : nil = true → l = []) (hls : ls.length ≤ 9223372036854775807) : Good Try.prog 43 [(.sl 1 nil (bsl l), false), (.agg [i64 o, i64 q, .sl 2 nl (ls.map linkA)], false)] [] [(.sl 1 (nil && !lsaOK ⟨o, q, nl, ls⟩) (bsl (l ++ lsaS ⟨o, q, nl, ls⟩)), true)] [] := by
  refine good_of_body3 47 Try.func43 rfl rfl rfl (by simp) ?_
  intro s m ha hr hv hG
  have f0 : s 0 = .v (.sl 1 nil (bsl l)) := ha 0 _ rfl
  have f1 : s 1 = .v (.agg [i64 o, i64 q, .sl 2 nl (ls.map linkA)]) := ha 1 _ rfl
  clear ha
  have hc : True := trivial
  have F := (And.intro f0 (And.intro f1 hG))
  refine AW.seq ?_
  refine AW.region (cfg := cfg4) ?_
  refine stp (fun _ h => sb h) ?_
  refine stp (fun _ h => s0 h) ?_
  refine aops_nil ?_
  refine AW.seq ?_
  refine AW.seq ?_
  refine AW.region (cfg := cfg4) ?_
  refine stp (fun _ h => sl h) ?_
  refine stp (fun _ h => cs (w := good_Check _ _ _ _ (by omega)) (x := h)) ?_
  refine stp (fun _ h => s0 h) ?_
  refine aops_nil ?_
  refine cnd (fun hb => ?ht1) (fun hb => ?hf1)
  case ht1 =>
    have hw9 := hb
    try simp only [bo1, bo2, bo3, bo4, bo5, bo6] at hb
    have hbt9 := hb
    refine AW.seq ?_
    refine AW.region (cfg := cfg4) ?_
    refine stp (fun _ h => s0 h) ?_
    refine stp (fun _ h => co1 (w := good_Clone _ _ (by omega) hz) (x := h)) ?_
    refine stp (fun _ h => st h) ?_
    refine aops_nil ?_
    refine AW.ret ?_
    refine ⟨.inr rfl, ?_⟩
    all_goals (have z : lsaOK ⟨o, q, nl, ls⟩ = false := (lsaE_ne (by simpa using hbt9)); rw [z, lsaS, z, Bool.not_false, Bool.and_true, if_neg (by decide), List.append_nil]; refine leavesN (leaves_own1 4 rfl (by simp (disch := first | omega | decide) only [go_sem, F, aIndex_map] <;> rfl) (by simp (disch := first | omega | decide) only [go_sem, F, aIndex_map] <;> rfl) (by decide) (by simp [sub, List.take_of_length_le]) (by exact hG)))
  case hf1 =>
    have hw9 := hb
    try simp only [bo1, bo2, bo3, bo4, bo5, bo6] at hb
    have hbt9 := hb
    refine AW.skip ?_
    refine AW.seq ?_
    have hok : lsaOK ⟨o, q, nl, ls⟩ = true := lsaE_eq (by simpa using hbt9)
    obtain ⟨b1, b2, b3, b4⟩ := lsa_bd hok
    dsimp only at b1 b2 b3 b4
    refine AW.region (cfg := cfg4) ?_
    refine stp (fun _ h => s0 h) ?_
    refine stp (fun _ h => sx h) ?_
    refine stp (fun _ h => sl h) ?_
    refine stp (fun _ h => sd h) ?_
    refine stp (fun _ h => co1 (w := good_Num _ _ (by omega) (by exact hz) _ _ (by omega)) (x := h)) ?_
    refine stp (fun _ h => st h) ?_
    refine aops_nil ?_
    refine AW.seq ?_
    refine AW.region (cfg := cfg4) ?_
    refine stp (fun _ h => s0 h) ?_
    refine stp (fun _ h => sx h) ?_
    refine stp (fun _ h => sl h) ?_
    refine stp (fun _ h => sd h) ?_
    refine stp (fun _ h => co1 (w := good_Num _ _ (by (simp [numR_length, linksB_len]; omega)) (by simp) _ _ (by omega)) (x := h)) ?_
    refine stp (fun _ h => st h) ?_
    refine aops_nil ?_
    refine AW.seq ?_
    refine AW.region (cfg := cfg4) ?_
    refine stp (fun _ h => s0 h) ?_
    refine stp (fun _ h => sx h) ?_
    refine stp (fun _ h => sl h) ?_
    iterate 2 refine stp (fun _ h => sd h) ?_
    refine stp (fun _ h => co1 (w := good_Num _ _ (by (simp [numR_length, linksB_len]; omega)) (by simp) _ _ (by omega)) (x := h)) ?_
    refine stp (fun _ h => st h) ?_
    refine aops_nil ?_
    refine AW.seq ?_
    refine AW.seq ?_
    refine AW.region (cfg := cfg4) ?_
    refine stp (fun _ h => sx h) ?_
    refine stp (fun _ h => sl h) ?_
    refine stp (fun _ h => sd h) ?_
    refine stp (fun _ h => s0 h) ?_
    refine aops_nil ?_
    refine AW.block ?_
    refine AW.forN (fun k σ => ∃ s m, σ = ⟨47, s, m⟩ ∧ s 0 = .own (.var 0) (m.objs (.var 0)).1 0 (l.length + 10 + 5 * k) ∧ (m.objs (.var 0)).2 = .arr false 1 (bsl (l ++ (numR o 1 ++ (numR q 8 ++ (numR (ls.length : Int) 1 ++ linksB (ls.take k)))))) ∧ s 29 = .v (.sl 2 nl (ls.map linkA)) ∧ s 30 = .v (i64 (ls.length : Int)) ∧ s 31 = .v (i64 (k : Int)) ∧ (∀ i, (m.objs (.res i)).2 = .dead) ∧ m.G = []) (ls.length) ?_ ?_ ?_
    · refine ⟨_, _, rfl, ?_, ?_, ?_, ?_, ?_, (by intro i; simp [Mem.set, hr]), (by exact hG)⟩ <;> try simp (disch := first | omega | decide) only [go_sem, F, aIndex_map]
      all_goals first | rfl | (simp [linksB]; done)
    · clear F f0 f1 hr hG
      rintro k σ hk ⟨s, m, rfl, f0, o0, f29, f30, f31, hr, hG⟩
      obtain ⟨g0, o0⟩ : ∃ g, m.objs (.var 0) = (g, .arr false 1 (bsl (l ++ (numR o 1 ++ (numR q 8 ++ (numR (ls.length : Int) 1 ++ linksB (ls.take k))))))) := ⟨_, Prod.ext rfl o0⟩
      rw [o0] at f0
      have F := (And.intro f0 (And.intro f29 (And.intro f30 (And.intro f31 (And.intro o0 hG)))))
      refine AW.seq ?_
      refine AW.region (cfg := cfg4) ?_
      refine stp (fun _ h => s0 h) ?_
      refine aops_nil ?_
      refine AW.seq ?_
      refine cnd (fun hb => ?ht2) (fun hb => ?hf2)
      case hf2 => (simp at hb; omega)
      case ht2 =>
      have hbt32 := hb
      refine AW.skip ?_
      refine AW.seq ?_
      refine AW.block ?_
      refine AW.seq ?_
      obtain ⟨c1, c2⟩ := link_bd b4 hk
      refine AW.region (cfg := cfg4) ?_
      refine stp (fun _ h => si h) ?_
      refine stp (fun _ h => sl h) ?_
      refine stp (fun _ h => sd h) ?_
      refine stp0 (fun _ h => ss h) ?_
      refine aops_nil ?_
      refine AW.seq ?_
      obtain ⟨c1, c2⟩ := link_bd b4 hk
      refine AW.region (cfg := cfg4) ?_
      refine stp (fun _ h => s0 h) ?_
      refine stp (fun _ h => sx h) ?_
      refine stp (fun _ h => sl h) ?_
      refine stp (fun _ h => sd h) ?_
      refine stp (fun _ h => co1 (w := good_Num _ _ (by (simp [numR_length, linksB_len]; omega)) (by simp) _ _ (by omega)) (x := h)) ?_
      refine stp (fun _ h => st h) ?_
      refine aops_nil ?_
      refine AW.region (cfg := cfg4) ?_
      refine stp (fun _ h => s0 h) ?_
      refine stp (fun _ h => sx h) ?_
      refine stp (fun _ h => sl h) ?_
      refine stp (fun _ h => sd h) ?_
      refine stp (fun _ h => co1 (w := good_Num _ _ (by (simp [numR_length, linksB_len]; omega)) (by simp) _ _ (by omega)) (x := h)) ?_
      refine stp (fun _ h => st h) ?_
      refine aops_nil ?_
      refine AW.region (cfg := cfg4) ?_
      refine stp (fun _ h => sd h) ?_
      refine stp (fun _ h => s0 h) ?_
      refine aops_nil ?_
      refine ⟨_, _, rfl, ?_, ?_, ?_, ?_, ?_, (by intro i; simp [Mem.set, hr]), (by exact hG)⟩ <;> try simp (disch := first | omega | decide) only [go_sem, F, aIndex_map]
      all_goals first | rfl | (simp [linksB_len, numR_length]; omega) | (rw [linksB_take hk]; simp [linkB]; done)
    · clear F f0 f1 hr hG
      rintro σ ⟨s, m, rfl, f0, o0, f29, f30, f31, hr, hG⟩
      obtain ⟨g0, o0⟩ : ∃ g, m.objs (.var 0) = (g, .arr false 1 (bsl (l ++ (numR o 1 ++ (numR q 8 ++ (numR (ls.length : Int) 1 ++ linksB (ls.take ls.length))))))) := ⟨_, Prod.ext rfl o0⟩
      rw [o0] at f0
      have F := (And.intro f0 (And.intro f29 (And.intro f30 (And.intro f31 (And.intro o0 hG)))))
      refine AW.seq ?_
      refine AW.region (cfg := cfg4) ?_
      refine stp (fun _ h => s0 h) ?_
      refine aops_nil ?_
      refine AW.seq ?_
      refine cnd (fun hb => ?ht3) (fun hb => ?hf3)
      case ht3 => (simp at hb; done)
      case hf3 =>
      have hbt32 := hb
      refine AW.exit ?_
      refine AW.seq ?_
      refine AW.region (cfg := cfg4) ?_
      refine stp (fun _ h => s0 h) ?_
      refine stp (fun _ h => sm h) ?_
      refine aops_nil ?_
      refine AW.ret ?_
      refine ⟨.inr rfl, ?_⟩
      all_goals (rw [hok, lsaS, hok, Bool.not_true, Bool.and_false, if_pos rfl]; refine leavesN (leaves_own1 4 rfl (by simp (disch := first | omega | decide) only [go_sem, F, aIndex_map] <;> rfl) (by simp (disch := first | omega | decide) only [go_sem, F, aIndex_map] <;> rfl) (by decide) (by rw [sub_full (by simp [numR_length, linksB_len]; omega)]; simp only [List.take_length, lsaB]) (by exact hG)))
attribute [go_sem] oneB_num
theorem good_refPut (o q : Int) (nl : Bool) (ls : List LinkS) (hok : lsaOK ⟨o, q, nl, ls⟩ = true) : Good Try.prog 51 [(.agg [i64 o, i64 q, .sl 2 nl (ls.map linkA)], false)] [] [(.sl 1 false (bsl (lsaB ⟨o, q, nl, ls⟩)), true)] [] := by
  refine good_of_body3 48 Try.func51 rfl rfl rfl (by simp) ?_
  intro s m ha hr hv hG
  have f0 : s 0 = .v (.agg [i64 o, i64 q, .sl 2 nl (ls.map linkA)]) := ha 0 _ rfl
  clear ha
  have hc : True := trivial
  have F := (And.intro f0 hG)
  obtain ⟨b1, b2, b3, b4⟩ := lsa_bd hok
  dsimp only at b1 b2 b3 b4
  refine AW.seq ?_
  refine AW.region (cfg := cfg2) ?_
  refine stp (fun _ h => sb h) ?_
  refine stp (fun _ h => s0 h) ?_
  refine aops_nil ?_
  refine AW.seq ?_
  refine AW.draw (cfg := cfg2) (by kernel_rfl) (by kernel_rfl) (by kernel_rfl) ?_
  refine dstp (fun _ h => sx h) ?_
  refine dstp (fun _ h => sl h) ?_
  refine dstp (fun _ h => sd h) ?_
  refine dstp (fun _ h => sq h) ?_
  refine dstp (fun _ h => sx h) ?_
  refine dstp (fun _ h => sl h) ?_
  refine dstp (fun _ h => sd h) ?_
  refine dstp (fun _ h => co1 (w := good_refNum 8 _ (by omega) (by omega)) (x := h)) ?_
  refine dstp (fun _ h => sp h) ?_
  refine dstp (fun _ h => st h) ?_
  refine adraw_nil (by kernel_rfl) ?_
  refine AW.seq ?_
  refine AW.region (cfg := cfg2) ?_
  refine stp (fun _ h => s0 h) ?_
  refine stp (fun _ h => sx h) ?_
  refine stp (fun _ h => sl h) ?_
  iterate 2 refine stp (fun _ h => sd h) ?_
  refine stp (fun _ h => sq h) ?_
  refine stp (fun _ h => sp h) ?_
  refine stp (fun _ h => st h) ?_
  refine aops_nil ?_
  refine AW.seq ?_
  refine AW.seq ?_
  refine AW.region (cfg := cfg2) ?_
  refine stp (fun _ h => s0 h) ?_
  refine aops_nil ?_
  refine AW.block ?_
  refine AW.forN (fun k σ => ∃ s m, σ = ⟨48, s, m⟩ ∧ s 1 = .lptr (.tmp 1 0) (m.objs (.tmp 1 0)).1 0 ∧ (m.objs (.tmp 1 0)).2 = .box [.v (i64 o), .v (i64 q), .v (.sl 2 nl (ls.map linkA))] ∧ s 3 = .own (.var 3) (m.objs (.var 3)).1 0 (10 + 5 * k) ∧ (m.objs (.var 3)).2 = .arr false 1 (bsl (numR o 1 ++ (numR q 8 ++ (numR (ls.length : Int) 1 ++ linksB (ls.take k))))) ∧ s 4 = .v (i64 (k : Int)) ∧ (∀ i, (m.objs (.res i)).2 = .dead) ∧ m.G = []) (ls.length) ?_ ?_ ?_
  · refine ⟨_, _, rfl, ?_, ?_, ?_, ?_, ?_, (by intro i; simp [Mem.set, hr]), (by exact hG)⟩ <;> try simp (disch := first | omega | decide) only [go_sem, F, aIndex_map]
    all_goals first | rfl | (simp [linksB, numR_one]; done)
  · clear F f0 hr hG
    rintro k σ hk ⟨s, m, rfl, f1, o1, f3, o3, f4, hr, hG⟩
    obtain ⟨g1, o1⟩ : ∃ g, m.objs (.tmp 1 0) = (g, .box [.v (i64 o), .v (i64 q), .v (.sl 2 nl (ls.map linkA))]) := ⟨_, Prod.ext rfl o1⟩
    rw [o1] at f1
    obtain ⟨g3, o3⟩ : ∃ g, m.objs (.var 3) = (g, .arr false 1 (bsl (numR o 1 ++ (numR q 8 ++ (numR (ls.length : Int) 1 ++ linksB (ls.take k)))))) := ⟨_, Prod.ext rfl o3⟩
    rw [o3] at f3
    have F := (And.intro f1 (And.intro f3 (And.intro f4 (And.intro o1 (And.intro o3 hG)))))
    refine AW.seq ?_
    refine AW.seq ?_
    refine AW.region (cfg := cfg2) ?_
    refine stp (fun _ h => s0 h) ?_
    refine stp (fun _ h => sx h) ?_
    refine stp (fun _ h => sl h) ?_
    refine stp (fun _ h => sd h) ?_
    refine stp (fun _ h => s0 h) ?_
    refine aops_nil ?_
    refine cnd (fun hb => ?ht1) (fun hb => ?hf1)
    case hf1 => (simp at hb; omega)
    case ht1 =>
    have hbt25 := hb
    refine AW.skip ?_
    refine AW.seq ?_
    refine AW.block ?_
    obtain ⟨c1, c2⟩ := link_bd b4 hk
    refine AW.draw (cfg := cfg2) (by kernel_rfl) (by kernel_rfl) (by kernel_rfl) ?_
    refine dstp (fun _ h => s0 h) ?_
    refine dstp (fun _ h => sx h) ?_
    refine dstp (fun _ h => sl h) ?_
    refine dstp (fun _ h => s0 h) ?_
    refine dstp (fun _ h => si h) ?_
    refine dstp (fun _ h => sx h) ?_
    refine dstp (fun _ h => sl h) ?_
    refine dstp (fun _ h => sd h) ?_
    refine dstp (fun _ h => sq h) ?_
    refine dstp (fun _ h => sp h) ?_
    refine dstp (fun _ h => sx h) ?_
    refine dstp (fun _ h => sl h) ?_
    refine dstp (fun _ h => s0 h) ?_
    refine dstp (fun _ h => si h) ?_
    refine dstp (fun _ h => sx h) ?_
    refine dstp (fun _ h => sl h) ?_
    refine dstp (fun _ h => sd h) ?_
    refine dstp (fun _ h => co1 (w := good_refNum 4 _ (by omega) (by omega)) (x := h)) ?_
    refine dstp (fun _ h => sp h) ?_
    refine dstp (fun _ h => st h) ?_
    refine adraw_nil (by kernel_rfl) ?_
    refine AW.region (cfg := cfg2) ?_
    refine stp (fun _ h => s0 h) ?_
    refine stp (fun _ h => sd h) ?_
    refine stp (fun _ h => s0 h) ?_
    refine aops_nil ?_
    refine ⟨_, _, rfl, ?_, ?_, ?_, ?_, ?_, (by intro i; simp [Mem.set, hr]), (by exact hG)⟩ <;> try simp (disch := first | omega | decide) only [go_sem, F, aIndex_map]
    all_goals first | rfl | (rw [linksB_take hk]; simp [linkB, numR_one]; done)
  · clear F f0 hr hG
    rintro σ ⟨s, m, rfl, f1, o1, f3, o3, f4, hr, hG⟩
    obtain ⟨g1, o1⟩ : ∃ g, m.objs (.tmp 1 0) = (g, .box [.v (i64 o), .v (i64 q), .v (.sl 2 nl (ls.map linkA))]) := ⟨_, Prod.ext rfl o1⟩
    rw [o1] at f1
    obtain ⟨g3, o3⟩ : ∃ g, m.objs (.var 3) = (g, .arr false 1 (bsl (numR o 1 ++ (numR q 8 ++ (numR (ls.length : Int) 1 ++ linksB (ls.take ls.length)))))) := ⟨_, Prod.ext rfl o3⟩
    rw [o3] at f3
    have F := (And.intro f1 (And.intro f3 (And.intro f4 (And.intro o1 (And.intro o3 hG)))))
    refine AW.seq ?_
    refine AW.seq ?_
    refine AW.region (cfg := cfg2) ?_
    refine stp (fun _ h => s0 h) ?_
    refine stp (fun _ h => sx h) ?_
    refine stp (fun _ h => sl h) ?_
    refine stp (fun _ h => sd h) ?_
    refine stp (fun _ h => s0 h) ?_
    refine aops_nil ?_
    refine cnd (fun hb => ?ht2) (fun hb => ?hf2)
    case ht2 => (simp at hb; done)
    case hf2 =>
    have hbt25 := hb
    refine AW.exit ?_
    refine AW.seq ?_
    refine AW.region (cfg := cfg2) ?_
    refine stp (fun _ h => s0 h) ?_
    refine stp (fun _ h => sm h) ?_
    refine aops_nil ?_
    refine AW.ret ?_
    refine ⟨.inr rfl, ?_⟩
    refine leavesN (leaves_own1 2 rfl (by simp (disch := first | omega | decide) only [go_sem, F, aIndex_map] <;> rfl) (by simp (disch := first | omega | decide) only [go_sem, F, aIndex_map] <;> rfl) (by decide) (by rw [sub_full (by simp [numR_length, linksB_len]; omega)]; simp only [List.take_length, lsaB]) (by exact hG))
end Go.Vai.L
namespace Go.Vai.L
open Go.Proofs Go.Vai Go.Vai.O
set_option linter.unusedSimpArgs false
set_option linter.unusedVariables false
set_option maxHeartbeats 4000000
set_option maxRecDepth 100000
theorem good_Read (nil : Bool) (l : List (BitVec 8)) (w : Bool) (hl : l.length ≤ 140737488355000) (hz : nil = true → l = []) : Good Try.prog 38 [(.gp 0 0, false)] [[.sl 1 (nil) (bsl (l)), .b (w)]] [(lsaA (rdL l w), false), (.b (rdOK l w), false)] [[.sl 1 (nil) (bsl (rdR l w)), .b (rdW l w)]] := by
  refine good_of_body2 48 Try.func38 rfl rfl rfl (by simp) ?_
  intro s m ha hr hv hG
  have f0 : s 0 = .v (.gp 0 0) := ha 0 _ rfl
  clear ha
  have hc : True := trivial
  have F := (And.intro f0 hG)
  have v0 := rnV_range1 l w
  have v2 := rnV_range1 (rnL (rnL l w 1) (rnW l w 1) 8) (rnW (rnL l w 1) (rnW l w 1) 8)
  have ll1 := rnL_len l w 1
  have ll2 := rnL_len (rnL l w 1) (rnW l w 1) 8
  have ll3 := rnL_len (rnL (rnL l w 1) (rnW l w 1) 8) (rnW (rnL l w 1) (rnW l w 1) 8) 1
  have lz1 : nil = true → (rnL l w 1) = [] := fun h => rnL_nil (hz h) _ _
  have lz2 : nil = true → (rnL (rnL l w 1) (rnW l w 1) 8) = [] := fun h => rnL_nil (lz1 h) _ _
  have lz3 : nil = true → (rnL (rnL (rnL l w 1) (rnW l w 1) 8) (rnW (rnL l w 1) (rnW l w 1) 8) 1) = [] := fun h => rnL_nil (lz2 h) _ _
  refine AW.seq ?_
  refine AW.region (cfg := cfg) ?_
  refine stp (fun _ h => sd h) ?_
  refine stp (fun _ h => s0 h) ?_
  refine aops_nil ?_
  refine AW.seq ?_
  refine AW.region (cfg := cfg) ?_
  refine stp (fun _ h => s0 h) ?_
  refine stp (fun _ h => cg (w := O.good_NumR nil l w (by omega) hz 1) (x := h)) ?_
  refine stp (fun _ h => sd h) ?_
  refine stp (fun _ h => s0 h) ?_
  refine stp (fun _ h => cg (w := O.good_NumR nil (rnL l w 1) (rnW l w 1) (by omega) lz1 8) (x := h)) ?_
  refine stp (fun _ h => sd h) ?_
  refine stp (fun _ h => su h) ?_
  refine stp (fun _ h => sd h) ?_
  refine stp0 (fun _ h => ss h) ?_
  refine aops_nil ?_
  refine AW.seq ?_
  refine AW.region (cfg := cfg) ?_
  refine stp (fun _ h => s0 h) ?_
  refine stp (fun _ h => cg (w := O.good_NumR nil (rnL (rnL l w 1) (rnW l w 1) 8) (rnW (rnL l w 1) (rnW l w 1) 8) (by omega) lz2 1) (x := h)) ?_
  refine stp (fun _ h => sd h) ?_
  refine stp (fun _ h => s0 h) ?_
  refine aops_nil ?_
  refine AW.seq ?_
  refine AW.seq ?_
  refine AW.cellNil 4 2 2 (by simp (disch := first | omega | decide) only [go_sem, F, aIndex_map]; rfl) (by rfl) ?_
  refine AW.region (cfg := cfg) ?_
  refine stp (fun _ h => s0 h) ?_
  refine aops_nil ?_
  refine AW.block ?_
  refine AW.forN (fun k σ => ∃ (s : Nat → LV) (m : Mem) (xs : List LinkS) (lk : List (BitVec 8)) (wk : Bool), σ = ⟨48, s, m⟩ ∧ s 0 = .v (.gp 0 0) ∧ s 2 = .lptr (.tmp 2 0) (m.objs (.tmp 2 0)).1 0 ∧ (m.objs (.tmp 2 0)).2 = .box [.v (i64 0), .v (i64 0), .v (.sl 2 true [])] ∧ s 4 = .lptr (.tmp 4 0) (m.objs (.tmp 4 0)).1 0 ∧ (m.objs (.tmp 4 0)).2 = .box [.v (i64 (rnV l w 1)), .v (i64 (IntKind.i64.wrap (rnV (rnL l w 1) (rnW l w 1) 8))), .own (.cell 4 2) (m.objs (.cell 4 2)).1 0 xs.length] ∧ (m.objs (.cell 4 2)).2 = .arr xs.isEmpty 2 (xs.map linkA) ∧ s 5 = .v (i64 (rnV (rnL (rnL l w 1) (rnW l w 1) 8) (rnW (rnL l w 1) (rnW l w 1) 8) 1)) ∧ s 6 = .v (i64 (k : Int)) ∧ (rdLinks (rnL (rnL (rnL l w 1) (rnW l w 1) 8) (rnW (rnL l w 1) (rnW l w 1) 8) 1) (rnW (rnL (rnL l w 1) (rnW l w 1) 8) (rnW (rnL l w 1) (rnW l w 1) 8) 1) k = (xs, lk, wk)) ∧ (lk.length ≤ l.length) ∧ (nil = true → lk = []) ∧ (xs.length ≤ k) ∧ m.G = [[.sl 1 (nil) (bsl (lk)), .b (wk)]]) ((rnV (rnL (rnL l w 1) (rnW l w 1) 8) (rnW (rnL l w 1) (rnW l w 1) 8) 1).toNat) ?_ ?_ ?_
  · refine ⟨_, _, [], (rnL (rnL (rnL l w 1) (rnW l w 1) 8) (rnW (rnL l w 1) (rnW l w 1) 8) 1), (rnW (rnL (rnL l w 1) (rnW l w 1) 8) (rnW (rnL l w 1) (rnW l w 1) 8) 1), rfl, ?_, ?_, ?_, ?_, ?_, ?_, ?_, ?_, ?_, ?_, ?_, ?_, (by rfl)⟩ <;> try simp (disch := first | omega | decide) only [go_sem, F, aIndex_map]
    all_goals first | rfl | omega | (simp; done)
  · clear F f0 hG
    rintro k σ hk ⟨s, m, xs, lk, wk, rfl, f0, f2, o2, f4, o4, o4c2, f5, f6, mo0, mo1, mo2, mo3, hG⟩
    obtain ⟨g2, o2⟩ : ∃ g, m.objs (.tmp 2 0) = (g, .box [.v (i64 0), .v (i64 0), .v (.sl 2 true [])]) := ⟨_, Prod.ext rfl o2⟩
    rw [o2] at f2
    obtain ⟨g4c2, o4c2⟩ : ∃ g, m.objs (.cell 4 2) = (g, .arr xs.isEmpty 2 (xs.map linkA)) := ⟨_, Prod.ext rfl o4c2⟩
    rw [o4c2] at o4
    simp only at o4
    obtain ⟨g4, o4⟩ : ∃ g, m.objs (.tmp 4 0) = (g, .box [.v (i64 (rnV l w 1)), .v (i64 (IntKind.i64.wrap (rnV (rnL l w 1) (rnW l w 1) 8))), .own (.cell 4 2) g4c2 0 xs.length]) := ⟨_, Prod.ext rfl o4⟩
    rw [o4] at f4
    have F := (And.intro f0 (And.intro f2 (And.intro f4 (And.intro f5 (And.intro f6 (And.intro o2 (And.intro o4 (And.intro o4c2 hG))))))))
    refine AW.seq ?_
    refine AW.seq ?_
    refine AW.region (cfg := cfg) ?_
    iterate 4 refine stp (fun _ h => s0 h) ?_
    refine mrg wa (fun hc _ h => s0 h) ?_
    refine mrg wa (fun hc _ h => cgm (w := O.good_Wrong nil lk wk (by omega) mo2) (x := h)) ?_
    refine mrg wa (fun hc _ h => s0 h) ?_
    refine stp (fun _ h => s0 h) ?_
    refine aops_nil ?_
    refine cnd (fun hb => ?ht1) (fun hb => ?hf1)
    case ht1 =>
      have hw24 := hb
      try simp only [bo1, bo2, bo3, bo4, bo5, bo6] at hb
      have hbt24 := hb
      refine AW.skip ?_
      refine AW.seq ?_
      refine AW.block ?_
      obtain rfl : wk = false := by simpa using hb.2
      have v4 := rnV_range1 lk false
      have v5 := rnV_range4 (rnL lk false 1) (rnW lk false 1)
      have ll4 := rnL_len lk false 1
      have lz4 : nil = true → rnL lk false 1 = [] := fun h => rnL_nil (mo2 h) _ _
      have ll5 := rnL_len (rnL lk false 1) (rnW lk false 1) 4
      have lz5 : nil = true → rnL (rnL lk false 1) (rnW lk false 1) 4 = [] := fun h => rnL_nil (lz4 h) _ _
      refine AW.draw (cfg := cfg) (by kernel_rfl) (by kernel_rfl) (by kernel_rfl) ?_
      refine dstp (fun _ h => sx h) ?_
      refine dstp (fun _ h => sl h) ?_
      refine dstp (fun _ h => s0 h) ?_
      refine dstp (fun _ h => cg (w := O.good_NumR nil lk false (by omega) mo2 1) (x := h)) ?_
      refine dstp (fun _ h => sd h) ?_
      refine dstp (fun _ h => s0 h) ?_
      refine dstp (fun _ h => cg (w := O.good_NumR nil (rnL lk false 1) (rnW lk false 1) (by omega) lz4 4) (x := h)) ?_
      refine dstp (fun _ h => sd h) ?_
      refine dstp (fun _ h => su h) ?_
      refine dstp (fun _ h => sq h) ?_
      refine dstp (fun _ h => sp h) ?_
      refine dstp (fun _ h => sx h) ?_
      refine dstp0 (fun _ h => ss h) ?_
      refine adraw_nil (by kernel_rfl) ?_
      refine AW.region (cfg := cfg) ?_
      refine stp (fun _ h => s0 h) ?_
      refine stp (fun _ h => sd h) ?_
      refine stp (fun _ h => s0 h) ?_
      refine aops_nil ?_
      refine ⟨_, _, xs ++ [⟨rnV lk false 1, rnV (rnL lk false 1) (rnW lk false 1) 4⟩], rnL (rnL lk false 1) (rnW lk false 1) 4, rnW (rnL lk false 1) (rnW lk false 1) 4, rfl, ?_, ?_, ?_, ?_, ?_, ?_, ?_, ?_, ?_, ?_, ?_, ?_, (by rfl)⟩ <;> try simp (disch := first | omega | decide) only [go_sem, F, aIndex_map]
      all_goals first | rfl | exact rd_next mo0 | omega | (simp [linkA]; done) | (simp; omega)
    case hf1 =>
      have hw24 := hb
      try simp only [bo1, bo2, bo3, bo4, bo5, bo6] at hb
      have hbt24 := hb
      refine AW.exit ?_
      refine AW.seq ?_
      refine AW.seq ?_
      have z : rdP l w = (xs, lk, wk) := (by exact rd_stop mo0 (by simp at hb; rcases hb with h | h <;> omega) (by unfold hdN; omega))
      have zr : rdRaw l w = ⟨rnV l w 1, IntKind.i64.wrap (rnV (rnL l w 1) (rnW l w 1) 8), xs.isEmpty, xs⟩ := by simp [rdRaw, z]
      have zw : rdW l w = wk := by simp [rdW, z]
      have zl : rdR l w = lk := by simp [rdR, z]
      refine AW.region (cfg := cfg) ?_
      refine stp (fun _ h => s0 h) ?_
      refine stp (fun _ h => cg (w := O.good_Wrong nil lk wk (by omega) mo2) (x := h)) ?_
      refine stp (fun _ h => s0 h) ?_
      refine mrg wa (fun hc _ h => sl h) ?_
      refine mrg wa (fun hc _ h => cs (w := good_Check _ _ _ _ (by omega)) (x := h)) ?_
      refine mrg wa (fun hc _ h => s0 h) ?_
      refine stp (fun _ h => s0 h) ?_
      refine aops_nil ?_
      refine cnd (fun hb => ?ht2) (fun hb => ?hf2)
      case ht2 =>
        have hw45 := hb
        try simp only [bo1, bo2, bo3, bo4, bo5, bo6] at hb
        have hbt45 := hb
        refine AW.seq ?_
        have zo : rdOK l w = false := (by rw [rdOK, zw, zr]; exact rd_no hb)
        refine AW.region (cfg := cfg) ?_
        refine stp (fun _ h => su h) ?_
        refine stp0 (fun _ h => ss h) ?_
        refine stp (fun _ h => s0 h) ?_
        refine aops_nil ?_
        refine AW.ret ?_
        refine ⟨.inr rfl, ?_⟩
        refine leaves_mwp2 (rs := [.cell 2 50, .tmp 3]) rfl ?_
        simp (config := {failIfUnchanged := false}) [giveL, srcOne, rehome, freezeN, sub, ti50, upd, opn, aLoad, loadL, giveOne, reify, reifyL, readL, readOne, Mwp, M.bind, Mem.set, setAt, cellsL, hG, f0, f2, f4, f5, f6, o2, o4, o4c2]
        all_goals (rw [rdL, zo, zl, zw]; exact ⟨⟨rfl, rfl⟩, rfl, rfl⟩)
      case hf2 =>
        have hw45 := hb
        try simp only [bo1, bo2, bo3, bo4, bo5, bo6] at hb
        have hbt45 := hb
        refine AW.skip ?_
        refine AW.seq ?_
        have zo : rdOK l w = true := (by rw [rdOK, zw, zr]; exact rd_yes hb)
        refine AW.region (cfg := cfg) ?_
        refine stp (fun _ h => sl h) ?_
        refine stp0 (fun _ h => ss h) ?_
        refine stp (fun _ h => s0 h) ?_
        refine aops_nil ?_
        refine AW.ret ?_
        refine ⟨.inr rfl, ?_⟩
        refine leaves_mwp2 (rs := [.cell 2 50, .tmp 3]) rfl ?_
        simp (config := {failIfUnchanged := false}) [giveL, srcOne, rehome, freezeN, sub, ti50, upd, opn, aLoad, loadL, giveOne, reify, reifyL, readL, readOne, Mwp, M.bind, Mem.set, setAt, cellsL, hG, f0, f2, f4, f5, f6, o2, o4, o4c2]
        all_goals (rw [rdL, zo, zl, zw, if_pos rfl, zr, List.take_of_length_le (by simp)]; exact ⟨⟨rfl, rfl⟩, rfl, rfl⟩)
  · clear F f0 hG
    rintro σ ⟨s, m, xs, lk, wk, rfl, f0, f2, o2, f4, o4, o4c2, f5, f6, mo0, mo1, mo2, mo3, hG⟩
    obtain ⟨g2, o2⟩ : ∃ g, m.objs (.tmp 2 0) = (g, .box [.v (i64 0), .v (i64 0), .v (.sl 2 true [])]) := ⟨_, Prod.ext rfl o2⟩
    rw [o2] at f2
    obtain ⟨g4c2, o4c2⟩ : ∃ g, m.objs (.cell 4 2) = (g, .arr xs.isEmpty 2 (xs.map linkA)) := ⟨_, Prod.ext rfl o4c2⟩
    rw [o4c2] at o4
    simp only at o4
    obtain ⟨g4, o4⟩ : ∃ g, m.objs (.tmp 4 0) = (g, .box [.v (i64 (rnV l w 1)), .v (i64 (IntKind.i64.wrap (rnV (rnL l w 1) (rnW l w 1) 8))), .own (.cell 4 2) g4c2 0 xs.length]) := ⟨_, Prod.ext rfl o4⟩
    rw [o4] at f4
    have F := (And.intro f0 (And.intro f2 (And.intro f4 (And.intro f5 (And.intro f6 (And.intro o2 (And.intro o4 (And.intro o4c2 hG))))))))
    refine AW.seq ?_
    refine AW.seq ?_
    refine AW.region (cfg := cfg) ?_
    iterate 4 refine stp (fun _ h => s0 h) ?_
    refine mrg wa (fun hc _ h => s0 h) ?_
    refine mrg wa (fun hc _ h => cgm (w := O.good_Wrong nil lk wk (by omega) mo2) (x := h)) ?_
    refine mrg wa (fun hc _ h => s0 h) ?_
    refine stp (fun _ h => s0 h) ?_
    refine aops_nil ?_
    refine cnd (fun hb => ?ht3) (fun hb => ?hf3)
    case ht3 => (simp at hb; omega)
    case hf3 =>
    have hbt24 := hb
    refine AW.exit ?_
    refine AW.seq ?_
    refine AW.seq ?_
    have z : rdP l w = (xs, lk, wk) := (by exact mo0)
    have zr : rdRaw l w = ⟨rnV l w 1, IntKind.i64.wrap (rnV (rnL l w 1) (rnW l w 1) 8), xs.isEmpty, xs⟩ := by simp [rdRaw, z]
    have zw : rdW l w = wk := by simp [rdW, z]
    have zl : rdR l w = lk := by simp [rdR, z]
    refine AW.region (cfg := cfg) ?_
    refine stp (fun _ h => s0 h) ?_
    refine stp (fun _ h => cg (w := O.good_Wrong nil lk wk (by omega) mo2) (x := h)) ?_
    refine stp (fun _ h => s0 h) ?_
    refine mrg wa (fun hc _ h => sl h) ?_
    refine mrg wa (fun hc _ h => cs (w := good_Check _ _ _ _ (by omega)) (x := h)) ?_
    refine mrg wa (fun hc _ h => s0 h) ?_
    refine stp (fun _ h => s0 h) ?_
    refine aops_nil ?_
    refine cnd (fun hb => ?ht4) (fun hb => ?hf4)
    case ht4 =>
      have hw45 := hb
      try simp only [bo1, bo2, bo3, bo4, bo5, bo6] at hb
      have hbt45 := hb
      refine AW.seq ?_
      have zo : rdOK l w = false := (by rw [rdOK, zw, zr]; exact rd_no hb)
      refine AW.region (cfg := cfg) ?_
      refine stp (fun _ h => su h) ?_
      refine stp0 (fun _ h => ss h) ?_
      refine stp (fun _ h => s0 h) ?_
      refine aops_nil ?_
      refine AW.ret ?_
      refine ⟨.inr rfl, ?_⟩
      refine leaves_mwp2 (rs := [.cell 2 50, .tmp 3]) rfl ?_
      simp (config := {failIfUnchanged := false}) [giveL, srcOne, rehome, freezeN, sub, ti50, upd, opn, aLoad, loadL, giveOne, reify, reifyL, readL, readOne, Mwp, M.bind, Mem.set, setAt, cellsL, hG, f0, f2, f4, f5, f6, o2, o4, o4c2]
      all_goals (rw [rdL, zo, zl, zw]; exact ⟨⟨rfl, rfl⟩, rfl, rfl⟩)
    case hf4 =>
      have hw45 := hb
      try simp only [bo1, bo2, bo3, bo4, bo5, bo6] at hb
      have hbt45 := hb
      refine AW.skip ?_
      refine AW.seq ?_
      have zo : rdOK l w = true := (by rw [rdOK, zw, zr]; exact rd_yes hb)
      refine AW.region (cfg := cfg) ?_
      refine stp (fun _ h => sl h) ?_
      refine stp0 (fun _ h => ss h) ?_
      refine stp (fun _ h => s0 h) ?_
      refine aops_nil ?_
      refine AW.ret ?_
      refine ⟨.inr rfl, ?_⟩
      refine leaves_mwp2 (rs := [.cell 2 50, .tmp 3]) rfl ?_
      simp (config := {failIfUnchanged := false}) [giveL, srcOne, rehome, freezeN, sub, ti50, upd, opn, aLoad, loadL, giveOne, reify, reifyL, readL, readOne, Mwp, M.bind, Mem.set, setAt, cellsL, hG, f0, f2, f4, f5, f6, o2, o4, o4c2]
      all_goals (rw [rdL, zo, zl, zw, if_pos rfl, zr, List.take_of_length_le (by simp)]; exact ⟨⟨rfl, rfl⟩, rfl, rfl⟩)
end Go.Vai.L
namespace Go.Vai.L
open Go.Proofs Go.Vai Go.Vai.O
set_option linter.unusedSimpArgs false
set_option linter.unusedVariables false
set_option maxHeartbeats 4000000
set_option maxRecDepth 100000
attribute [go_sem] getD_get Int.reduceToNat
theorem good_refRead (nil : Bool) (l : List (BitVec 8)) (hl : l.length ≤ 140737488355000) : Good Try.prog 41 [(.sl 1 nil (bsl l), false)] [] [(lsaA (rfL l), false), (i64 (rfN l), false)] [] := by
  refine good_of_body2 81 Try.func41 rfl rfl rfl (by simp) ?_
  intro s m ha hr hv hG
  have f0 : s 0 = .v (.sl 1 nil (bsl l)) := ha 0 _ rfl
  clear ha
  have hc : True := trivial
  have F := (And.intro f0 hG)
  have hb8 := (l.getD 9 default).isLt
  refine AW.seq ?_
  refine AW.region (cfg := cfg) ?_
  refine stp (fun _ h => sd h) ?_
  refine stp (fun _ h => s0 h) ?_
  refine aops_nil ?_
  refine AW.seq ?_
  refine AW.seq ?_
  refine AW.region (cfg := cfg) ?_
  refine stp (fun _ h => s0 h) ?_
  refine stp (fun _ h => sd h) ?_
  iterate 2 refine stp (fun _ h => s0 h) ?_
  refine mrg wa (fun hc _ h => s0 h) ?_
  refine mrg wa (fun hc _ h => sd h) ?_
  refine mrg wa (fun hc _ h => s0 h) ?_
  refine mrg wa (fun hc _ h => sg h) ?_
  refine mrg wa (fun hc _ h => sl h) ?_
  iterate 3 refine mrg wa (fun hc _ h => sd h) ?_
  refine mrg wa (fun hc _ h => s0 h) ?_
  refine stp (fun _ h => s0 h) ?_
  refine aops_nil ?_
  refine cnd (fun hb => ?ht1) (fun hb => ?hf1)
  case ht1 =>
    have hw23 := hb
    try simp only [bo1, bo2, bo3, bo4, bo5, bo6] at hb
    have hbt23 := hb
    refine AW.seq ?_
    refine AW.region (cfg := cfg) ?_
    refine stp (fun _ h => su h) ?_
    refine stp0 (fun _ h => ss h) ?_
    refine stp (fun _ h => s0 h) ?_
    refine aops_nil ?_
    refine AW.ret ?_
    refine ⟨.inr rfl, ?_⟩
    refine leaves_mwp2 (rs := [.cell 2 50, .tmp 3]) rfl ?_
    simp (config := {failIfUnchanged := false}) [giveL, srcOne, rehome, freezeN, sub, ti50, upd, opn, aLoad, loadL, giveOne, reify, reifyL, readL, readOne, Mwp, M.bind, Mem.set, setAt, cellsL, hG, f0]
    all_goals (have z : rfOK l = false := rf_short hbt23; simp [rfL, rfN, z, lsa0, lsaA]; done)
  case hf1 =>
    have hw23 := hb
    try simp only [bo1, bo2, bo3, bo4, bo5, bo6] at hb
    have hbt23 := hb
    refine AW.skip ?_
    refine AW.seq ?_
    have hlen : 10 + 5 * (l.getD 9 default).toNat ≤ l.length := (by omega)
    refine AW.region (cfg := cfg) ?_
    refine stp (fun _ h => s0 h) ?_
    refine stp (fun _ h => su h) ?_
    refine stp (fun _ h => cr (w := O.good_refReadNum nil l 1 false (by omega) (by omega) 8) (x := h)) ?_
    iterate 3 refine stp (fun _ h => s0 h) ?_
    refine stp (fun _ h => sd h) ?_
    refine stp0 (fun _ h => ss h) ?_
    refine stp (fun _ h => s0 h) ?_
    refine aops_nil ?_
    refine AW.seq ?_
    refine AW.region (cfg := cfg) ?_
    refine stp (fun _ h => s0 h) ?_
    refine stp (fun _ h => si h) ?_
    refine stp (fun _ h => sl h) ?_
    refine stp (fun _ h => sd h) ?_
    refine stp (fun _ h => s0 h) ?_
    refine stp (fun _ h => sd h) ?_
    refine stp (fun _ h => su h) ?_
    refine stp (fun _ h => sd h) ?_
    refine stp0 (fun _ h => ss h) ?_
    refine aops_nil ?_
    refine AW.seq ?_
    refine AW.seq ?_
    refine AW.cellNil 6 2 2 (by simp (disch := first | omega | decide) only [go_sem, F, aIndex_map]; rfl) (by rfl) ?_
    refine AW.region (cfg := cfg) ?_
    refine stp (fun _ h => s0 h) ?_
    refine aops_nil ?_
    refine AW.block ?_
    refine AW.forN (fun k σ => ∃ s m, σ = ⟨81, s, m⟩ ∧ s 0 = .v (.sl 1 nil (bsl l)) ∧ s 2 = .lptr (.tmp 2 0) (m.objs (.tmp 2 0)).1 0 ∧ (m.objs (.tmp 2 0)).2 = .box [.v (i64 0), .v (i64 0), .v (.sl 2 true [])] ∧ s 6 = .lptr (.tmp 6 0) (m.objs (.tmp 6 0)).1 0 ∧ (m.objs (.tmp 6 0)).2 = .box [.v (i64 ((l.getD 0 default).toNat : Int)), .v (i64 (IntKind.i64.wrap (rV l 1 false 8))), .own (.cell 6 2) (m.objs (.cell 6 2)).1 0 k] ∧ (m.objs (.cell 6 2)).2 = .arr (rfLinks l k).isEmpty 2 ((rfLinks l k).map linkA) ∧ s 7 = .v (i64 (k : Int)) ∧ m.G = []) ((l.getD 9 default).toNat) ?_ ?_ ?_
    · refine ⟨_, _, rfl, ?_, ?_, ?_, ?_, ?_, ?_, ?_, (by exact hG)⟩ <;> try simp (disch := first | omega | decide) only [go_sem, F, aIndex_map]
      all_goals rfl
    · clear F f0 hG
      rintro k σ hk ⟨s, m, rfl, f0, f2, o2, f6, o6, o6c2, f7, hG⟩
      obtain ⟨g2, o2⟩ : ∃ g, m.objs (.tmp 2 0) = (g, .box [.v (i64 0), .v (i64 0), .v (.sl 2 true [])]) := ⟨_, Prod.ext rfl o2⟩
      rw [o2] at f2
      obtain ⟨g6c2, o6c2⟩ : ∃ g, m.objs (.cell 6 2) = (g, .arr (rfLinks l k).isEmpty 2 ((rfLinks l k).map linkA)) := ⟨_, Prod.ext rfl o6c2⟩
      rw [o6c2] at o6
      simp only at o6
      obtain ⟨g6, o6⟩ : ∃ g, m.objs (.tmp 6 0) = (g, .box [.v (i64 ((l.getD 0 default).toNat : Int)), .v (i64 (IntKind.i64.wrap (rV l 1 false 8))), .own (.cell 6 2) g6c2 0 k]) := ⟨_, Prod.ext rfl o6⟩
      rw [o6] at f6
      have F := (And.intro f0 (And.intro f2 (And.intro f6 (And.intro f7 (And.intro o2 (And.intro o6 (And.intro o6c2 hG)))))))
      refine AW.seq ?_
      refine AW.seq ?_
      refine AW.region (cfg := cfg) ?_
      iterate 2 refine stp (fun _ h => s0 h) ?_
      refine stp (fun _ h => si h) ?_
      refine stp (fun _ h => sl h) ?_
      refine stp (fun _ h => sd h) ?_
      refine stp (fun _ h => s0 h) ?_
      refine aops_nil ?_
      refine cnd (fun hb => ?ht2) (fun hb => ?hf2)
      case hf2 => (have hb1 := of_decide_eq_false hb; omega)
      case ht2 =>
      have hbt43 := hb
      refine AW.skip ?_
      refine AW.seq ?_
      refine AW.block ?_
      refine AW.seq ?_
      have gr := O.good_refReadNum nil l (11 + 5 * k) false (by omega) (by omega) 4
      rw [show ((11 + 5 * k : Nat) : Int) = 11 + 5 * (k : Int) by omega] at gr
      have rr := rV_range4 l (11 + 5 * k) false
      refine AW.region (cfg := cfg) ?_
      iterate 2 refine stp (fun _ h => s0 h) ?_
      iterate 2 refine stp (fun _ h => sd h) ?_
      refine stp (fun _ h => su h) ?_
      refine stp (fun _ h => cr (w := gr) (x := h)) ?_
      iterate 3 refine stp (fun _ h => s0 h) ?_
      refine stp (fun _ h => sd h) ?_
      refine stp0 (fun _ h => ss h) ?_
      refine stp (fun _ h => s0 h) ?_
      refine aops_nil ?_
      have tk : (10 + 5 * (k : Int)).toNat = 10 + 5 * k := by omega
      have F := And.intro tk F
      refine AW.draw (cfg := cfg) (by kernel_rfl) (by kernel_rfl) (by kernel_rfl) ?_
      refine dstp (fun _ h => sx h) ?_
      refine dstp (fun _ h => sl h) ?_
      iterate 2 refine dstp (fun _ h => s0 h) ?_
      iterate 2 refine dstp (fun _ h => sd h) ?_
      refine dstp (fun _ h => si h) ?_
      refine dstp (fun _ h => sl h) ?_
      refine dstp (fun _ h => sd h) ?_
      refine dstp (fun _ h => s0 h) ?_
      refine dstp (fun _ h => sd h) ?_
      refine dstp (fun _ h => su h) ?_
      refine dstp (fun _ h => sq h) ?_
      refine dstp (fun _ h => sp h) ?_
      refine dstp (fun _ h => sx h) ?_
      refine dstp0 (fun _ h => ss h) ?_
      refine adraw_nil (by kernel_rfl) ?_
      refine AW.region (cfg := cfg) ?_
      refine stp (fun _ h => s0 h) ?_
      refine stp (fun _ h => sd h) ?_
      refine stp (fun _ h => s0 h) ?_
      refine aops_nil ?_
      refine ⟨_, _, rfl, ?_, ?_, ?_, ?_, ?_, ?_, ?_, (by exact hG)⟩ <;> try simp (disch := first | omega | decide) only [go_sem, F, aIndex_map]
      all_goals first | rfl | (rw [rfLinks_succ]; simp [linkA, rfLink]; done)
    · clear F f0 hG
      rintro σ ⟨s, m, rfl, f0, f2, o2, f6, o6, o6c2, f7, hG⟩
      obtain ⟨g2, o2⟩ : ∃ g, m.objs (.tmp 2 0) = (g, .box [.v (i64 0), .v (i64 0), .v (.sl 2 true [])]) := ⟨_, Prod.ext rfl o2⟩
      rw [o2] at f2
      obtain ⟨g6c2, o6c2⟩ : ∃ g, m.objs (.cell 6 2) = (g, .arr (rfLinks l ((l.getD 9 default).toNat)).isEmpty 2 ((rfLinks l ((l.getD 9 default).toNat)).map linkA)) := ⟨_, Prod.ext rfl o6c2⟩
      rw [o6c2] at o6
      simp only at o6
      obtain ⟨g6, o6⟩ : ∃ g, m.objs (.tmp 6 0) = (g, .box [.v (i64 ((l.getD 0 default).toNat : Int)), .v (i64 (IntKind.i64.wrap (rV l 1 false 8))), .own (.cell 6 2) g6c2 0 ((l.getD 9 default).toNat)]) := ⟨_, Prod.ext rfl o6⟩
      rw [o6] at f6
      have F := (And.intro f0 (And.intro f2 (And.intro f6 (And.intro f7 (And.intro o2 (And.intro o6 (And.intro o6c2 hG)))))))
      refine AW.seq ?_
      refine AW.seq ?_
      refine AW.region (cfg := cfg) ?_
      iterate 2 refine stp (fun _ h => s0 h) ?_
      refine stp (fun _ h => si h) ?_
      refine stp (fun _ h => sl h) ?_
      refine stp (fun _ h => sd h) ?_
      refine stp (fun _ h => s0 h) ?_
      refine aops_nil ?_
      refine cnd (fun hb => ?ht3) (fun hb => ?hf3)
      case ht3 => (simp at hb; done)
      case hf3 =>
      have hbt43 := hb
      refine AW.exit ?_
      refine AW.seq ?_
      refine AW.seq ?_
      refine AW.region (cfg := cfg) ?_
      refine stp (fun _ h => sl h) ?_
      refine stp (fun _ h => cs (w := good_refMay _ _ _ _ (by rw [rfLinks_length]; omega)) (x := h)) ?_
      refine stp (fun _ h => s0 h) ?_
      refine aops_nil ?_
      refine cnd (fun hb => ?ht4) (fun hb => ?hf4)
      case ht4 =>
        have hw72 := hb
        try simp only [bo1, bo2, bo3, bo4, bo5, bo6] at hb
        have hbt72 := hb
        refine AW.seq ?_
        refine AW.region (cfg := cfg) ?_
        refine stp (fun _ h => su h) ?_
        refine stp0 (fun _ h => ss h) ?_
        refine stp (fun _ h => s0 h) ?_
        refine aops_nil ?_
        refine AW.ret ?_
        refine ⟨.inr rfl, ?_⟩
        refine leaves_mwp2 (rs := [.cell 2 50, .tmp 3]) rfl ?_
        simp (config := {failIfUnchanged := false}) [giveL, srcOne, rehome, freezeN, sub, ti50, upd, opn, aLoad, loadL, giveOne, reify, reifyL, readL, readOne, Mwp, M.bind, Mem.set, setAt, cellsL, hG, f0, f2, f6, f7, o2, o6, o6c2]
        all_goals (have z : rfOK l = false := ((rf_long hbt23).trans (bnot_t hbt72)); simp [rfL, rfN, z, lsa0, lsaA]; done)
      case hf4 =>
        have hw72 := hb
        try simp only [bo1, bo2, bo3, bo4, bo5, bo6] at hb
        have hbt72 := hb
        refine AW.skip ?_
        refine AW.seq ?_
        refine AW.draw (cfg := cfg) (by kernel_rfl) (by kernel_rfl) (by kernel_rfl) ?_
        refine dstp (fun _ h => sl h) ?_
        refine dstp (fun _ h => s0 h) ?_
        refine dstp (fun _ h => si h) ?_
        refine dstp (fun _ h => sl h) ?_
        iterate 3 refine dstp (fun _ h => sd h) ?_
        refine dstp0 (fun _ h => ss h) ?_
        refine dstp (fun _ h => s0 h) ?_
        refine adraw_nil (by kernel_rfl) ?_
        refine AW.ret ?_
        refine ⟨.inr rfl, ?_⟩
        refine leaves_mwp2 (rs := [.cell 2 50, .tmp 3]) rfl ?_
        simp (config := {failIfUnchanged := false}) [giveL, srcOne, rehome, freezeN, sub, ti50, upd, opn, aLoad, loadL, giveOne, reify, reifyL, readL, readOne, Mwp, M.bind, Mem.set, setAt, cellsL, hG, f0, f2, f6, f7, o2, o6, o6c2]
        all_goals (have z : rfOK l = true := ((rf_long hbt23).trans (bnot_f hbt72)); simp [rfL, rfN, z, rfRaw, lsaA, rfB, List.take_of_length_le, rfLinks_length]; done)
end Go.Vai.L
set_option linter.unusedSimpArgs false
set_option linter.unusedVariables false
namespace Go.Vai.D
open Go.Vai.I Go.Vai.L
def fA (a b : List Lsa) : List Lsa := b.filter fun y => !hasI (a.map itm) (itm y)
def xS (a F : List Lsa) (k : Nat) : List Lsa := (F.take k).foldl (insP Lsa.o) a
theorem xS_succ {a F : List Lsa} {k : Nat} (hk : k < F.length) : xS a F (k + 1) = insP Lsa.o (xS a F k) F[k] := by
 rw [xS, List.take_succ_eq_append_getElem hk, List.foldl_append]; rfl
theorem xS_end {a F : List Lsa} {k : Nat} (hk : ¬ k < F.length) : xS a F (k + 1) = xS a F k := by
 rw [xS, xS, List.take_of_length_le (by omega), List.take_of_length_le (by omega)]
theorem xS_ok {a F : List Lsa} (ha : dbOK a = true) (hF : ∀ y ∈ F, lsaOK y = true) : ∀ k, dbOK (xS a F k) = true
 | 0 => ha
 | k + 1 => by
  by_cases hk : k < F.length
  ·rw [xS_succ hk]; exact ins_db (xS_ok ha hF k) (hF _ (List.getElem_mem hk))
  ·rw [xS_end hk]; exact xS_ok ha hF k
theorem take_none {F : List Lsa} (h : Srt Lsa.o F) {k : Nat} (hk : k < F.length) : gK Lsa.o (F.take k) F[k].o = none := by
 rw [gK_none]
 intro y hy e
 obtain ⟨j, hj, rfl⟩ := List.mem_take_iff_getElem.1 hy
 have := List.pairwise_iff_getElem.1 h j k (by omega) hk (by omega)
 omega
theorem xS_gK {a F : List Lsa} (h : Srt Lsa.o F) (t : Int) : ∀ k, k ≤ F.length → gK Lsa.o (xS a F k) t = (gK Lsa.o (F.take k) t).or (gK Lsa.o a t)
 | 0, _ => by simp [xS, gK]
 | k + 1, hk => by
  have hk : k < F.length := by omega
  rw [xS_succ hk, insP_gK, List.take_succ_eq_append_getElem hk, gK_append, gK_cons, gK_nil, xS_gK h t k (by omega)]
  by_cases e : t = F[k].o
  ·rw [if_pos e, if_pos e.symm, e, take_none h hk]; rfl
  ·rw [if_neg e, if_neg (fun h => e h.symm)]; cases gK Lsa.o (F.take k) t <;> rfl
def ordF (s : List Lsa) (x : Lsa) : List Lsa := if (putR s x).2.2 = 0 then (putR s x).2.1 else s
def ordS (x : List Lsa) (k : Nat) : List Lsa := (x.take k).foldl ordF []
def idxG {α : Type} (x : List α) (ts : List (BitVec 8)) (i : Nat) : Int := if i < ts.length then ((ts.getD i 0).toNat : Int) % (x.length : Int) else (x.length : Int) - 1 - ((i : Int) - (ts.length : Int))
def zsG {α : Type} [Inhabited α] (x : List α) (ts : List (BitVec 8)) : List α := if 0 < x.length then (List.range (ts.length + x.length)).map fun i => x.getD (idxG x ts i).toNat default else []
section
variable {α : Type}
end
end Go.Vai.D
set_option linter.unusedSimpArgs false
set_option linter.unusedVariables false
namespace Go.Vai.D
open Go.Vai.I Go.Vai.L
structure Dl where
 n1 : Bool
 nw : List Lsa
 n2 : Bool
 gn : List Int
 n3 : Bool
 ol : List Lsa
def dl0 : Dl := ⟨true, [], true, [], true, []⟩
abbrev gD (l : List Lsa) (t : Int) : Lsa := (gK Lsa.o l t).getD default
def nwP (a : List Lsa) (y : Lsa) : Bool := !isK Lsa.o a y.o || newer y ((gK Lsa.o a y.o).getD default)
def olP (a : List Lsa) (y : Lsa) : Bool := !nwP a y && !lsaEq y ((gK Lsa.o a y.o).getD default)
def gnP (b : List Lsa) (x : Lsa) : Bool := !isK Lsa.o b x.o
def nwL (a b : List Lsa) : List Lsa := b.filter (nwP a)
def olL (a b : List Lsa) : List Lsa := b.filter (olP a)
def gnL (a b : List Lsa) : List Int := (a.filter (gnP b)).map Lsa.o
def dlR (a b : List Lsa) : Dl := ⟨(nwL a b).isEmpty, nwL a b, (gnL a b).isEmpty, gnL a b, (olL a b).isEmpty, olL a b⟩
def ofR (a b : List Lsa) : Dl × Int := if dbOK a && dbOK b then (dlR a b, 0) else (dl0, 1)
def hasN (l : List Int) (x : Int) : Bool := l.any fun z => decide (x = z)
def kp (d : Dl) (x : Lsa) : Bool := !hasN d.gn x.o
def emptyD (d : Dl) : Bool := (decide ((d.nw.length : Int) = 0) && decide ((d.gn.length : Int) = 0)) && decide ((d.ol.length : Int) = 0)
def sameD (x y : Dl) : Bool := (eqAll lsaEq x.nw y.nw && eqAll lsaEq x.ol y.ol) && decide (x.gn = y.gn)
def mo (d : Dl) : List Lsa := d.ol ++ d.nw
def apA (a : List Lsa) (d : Dl) : List Lsa := a.filter (kp d)
def applyR (a : List Lsa) (d : Dl) : Bool × List Lsa × Int := if dbOK a && (mo d).all lsaOK then ((apA a d).isEmpty && decide ((mo d).length = 0), xS (apA a d) (mo d) (mo d).length, 0) else (true, [], 1)
theorem db_filter {a : List Lsa} {p : Lsa → Bool} (h : dbOK a = true) : dbOK (a.filter p) = true := by
 unfold dbOK at h ⊢
 rw [chn_iff] at h ⊢
 exact ⟨h.1.filter, fun x hx => h.2 x (List.mem_filter.1 hx).1⟩
theorem xS_app {a F G : List Lsa} : xS (xS a F F.length) G G.length = xS a (F ++ G) (F ++ G).length := by
 simp only [xS, List.take_length, List.foldl_append]
def mD (a b : List Lsa) : Dl := ⟨(nwL a b).isEmpty, nwL a b, true, [], true, []⟩
def mergeR (a b : List Lsa) : Bool × List Lsa × Int := if dbOK a && dbOK b then applyR a (mD a b) else (true, [], 1)
theorem applyR_dbno {a : List Lsa} {d : Dl} (h : dbOK a = false) : applyR a d = (true, [], 1) := by rw [applyR, h]; rfl
theorem applyR_mono {a : List Lsa} {d : Dl} (h : (mo d).all lsaOK = false) : applyR a d = (true, [], 1) := by rw [applyR, h, Bool.and_false]; rfl
theorem mo_all {d : Dl} : (mo d).all lsaOK = (d.ol.all lsaOK && d.nw.all lsaOK) := List.all_append
theorem applyR_bad {a : List Lsa} {d : Dl} (h : ((!dbOK a) = true ∨ (!d.nw.all lsaOK) = true) ∨ (!d.ol.all lsaOK) = true) : applyR a d = (true, [], 1) := by
 rcases h with (h | h) | h
 ·exact applyR_dbno (by simpa using h)
 ·exact applyR_mono (by rw [mo_all, show d.nw.all lsaOK = false from by simpa using h, Bool.and_false])
 ·exact applyR_mono (by rw [mo_all, show d.ol.all lsaOK = false from by simpa using h]; rfl)
def rgF {α : Type} (f : Nat → Option α) (k : Nat) : List α := (List.range k).filterMap f
def roG (a b : List Lsa) (i : Nat) : Option Int := if (gD b ((i : Int) + 1)).o = 0 ∧ (gD a ((i : Int) + 1)).o > 0 then some ((i : Int) + 1) else none
def roN (a b : List Lsa) (i : Nat) : Option Lsa := if (gD b ((i : Int) + 1)).o = 0 ∧ (gD a ((i : Int) + 1)).o > 0 then none else if (gD b ((i : Int) + 1)).s > (gD a ((i : Int) + 1)).s then some (gD b ((i : Int) + 1)) else none
def roO (a b : List Lsa) (i : Nat) : Option Lsa := if (gD b ((i : Int) + 1)).o = 0 ∧ (gD a ((i : Int) + 1)).o > 0 then none else if (gD b ((i : Int) + 1)).s > (gD a ((i : Int) + 1)).s then none else if (!lsaEq (gD a ((i : Int) + 1)) (gD b ((i : Int) + 1))) = true then some (gD b ((i : Int) + 1)) else none
def mgX (a b : List Lsa) (i : Nat) : Lsa := if (gD b ((i : Int) + 1)).s > (gD a ((i : Int) + 1)).s then gD b ((i : Int) + 1) else gD a ((i : Int) + 1)
def mgI (a b : List Lsa) (i : Nat) : Option Lsa := if (mgX a b i).o > 0 then some (mgX a b i) else none
def rofR (a b : List Lsa) : Dl := ⟨(rgF (roN a b) 64).isEmpty, rgF (roN a b) 64, (rgF (roG a b) 64).isEmpty, rgF (roG a b) 64, (rgF (roO a b) 64).isEmpty, rgF (roO a b) 64⟩
end Go.Vai.D
set_option linter.unusedSimpArgs false
set_option linter.unusedVariables false
namespace Go.Vai.BA
open Go.Vai.L Go.Vai.D Go.Vai.I Go.Vai.G Go.Vai.C
structure Sta where
 n1 : Bool
 db : List Lsa
 up : Int
 bo : Int
 n2 : Bool
 ep : List It
def sta0 : Sta := ⟨true, [], 0, 0, true, []⟩
def epV (x : It) : Bool := (decide (x.o ≤ 64) && decide (1 ≤ x.s)) && decide (x.s ≤ 1073741824)
def epOK (l : List It) : Bool := chn epV It.o 0 l
def nuOK (s : Sta) : Bool := ((decide (0 ≤ s.up) && decide (s.up ≤ 4611686018427387904)) && decide (0 ≤ s.bo)) && decide (s.bo ≤ 1073741824)
def staOK (s : Sta) : Bool := (nuOK s && dbOK s.db) && epOK s.ep
def staE (s : Sta) : Int := if staOK s then 0 else 1
theorem staE_0 {s : Sta} (h : ¬ staE s ≠ 0) : staOK s = true := by
 rw [staE] at h
 cases e : staOK s with
 | true => rfl
 | false => rw [e] at h; exact absurd (by decide : (1 : Int) ≠ 0) h
theorem staE_1 {s : Sta} (h : staE s ≠ 0) : staOK s = false ∧ staE s = 1 := by
 rw [staE] at h ⊢
 cases e : staOK s with
 | false => exact ⟨rfl, rfl⟩
 | true => rw [e] at h; exact absurd rfl h
theorem sta_parts {s : Sta} (h : staOK s = true) : nuOK s = true ∧ dbOK s.db = true ∧ epOK s.ep = true := by
 simp only [staOK, Bool.and_eq_true] at h; exact ⟨h.1.1, h.1.2, h.2⟩
theorem sta_is {s : Sta} (h1 : nuOK s = true) (h2 : dbOK s.db = true) (h3 : epOK s.ep = true) : staOK s = true := by rw [staOK, h1, h2, h3]; rfl
theorem nu_no {s : Sta} (h : ((s.up < 0 ∨ s.up > 4611686018427387904) ∨ s.bo < 0) ∨ s.bo > 1073741824) : staE s = 1 := by
 have : nuOK s = false := by
  cases e : nuOK s with
  | false => rfl
  | true =>
   simp only [nuOK, Bool.and_eq_true, decide_eq_true_eq] at e
   omega
 rw [staE, staOK, this]; rfl
theorem nu_yes {s : Sta} (h : ((¬ s.up < 0 ∧ ¬ s.up > 4611686018427387904) ∧ ¬ s.bo < 0) ∧ ¬ s.bo > 1073741824) : nuOK s = true := by
 simp only [nuOK, Bool.and_eq_true, decide_eq_true_eq]; omega
theorem db_bad {s : Sta} (h : dbE s.db = 1) : staE s = 1 := by
 have : dbOK s.db = false := dbE_1 (by rw [h]; decide)
 rw [staE, staOK, this, Bool.and_false]; rfl
theorem db_zero {l : List Lsa} (h : dbE l = 0) : dbOK l = true := dbE_0 (by rw [h]; simp)
theorem epV_not {x : It} {last : Int} (h : ((x.o ≤ last ∨ x.o > 64) ∨ x.s < 1) ∨ x.s > 1073741824) : epV x = false ∨ x.o ≤ last := by
 by_cases h2 : x.o ≤ last
 ·exact .inr h2
 ·refine .inl ?_
  cases e : epV x with
  | false => rfl
  | true => simp only [epV, Bool.and_eq_true, decide_eq_true_eq] at e; omega
theorem ep_no {s : Sta} {last : Int} {k : Nat} (h : chn epV It.o 0 s.ep = chn epV It.o last (s.ep.drop k)) (hk : k < s.ep.length) (h2 : ((s.ep[k].o ≤ last ∨ s.ep[k].o > 64) ∨ s.ep[k].s < 1) ∨ s.ep[k].s > 1073741824) : staE s = 1 := by
 have : epOK s.ep = false := chn_no h hk (epV_not h2)
 rw [staE, staOK, this, Bool.and_false]; rfl
theorem epV_yes {x : It} {last : Int} (h : ((¬ x.o ≤ last ∧ ¬ x.o > 64) ∧ ¬ x.s < 1) ∧ ¬ x.s > 1073741824) : epV x = true ∧ last < x.o := by
 simp only [epV, Bool.and_eq_true, decide_eq_true_eq]; omega
theorem ep_go {l : List It} {last : Int} {k : Nat} (h : chn epV It.o 0 l = chn epV It.o last (l.drop k)) (hk : k < l.length) (h2 : ((¬ l[k].o ≤ last ∧ ¬ l[k].o > 64) ∧ ¬ l[k].s < 1) ∧ ¬ l[k].s > 1073741824) : chn epV It.o 0 l = chn epV It.o l[k].o (l.drop (k + 1)) :=
 chn_go h hk (epV_yes h2).1 (epV_yes h2).2
theorem ep_end {s : Sta} {last : Int} (hn : nuOK s = true) (hd : dbE s.db = 0) (h : chn epV It.o 0 s.ep = chn epV It.o last (s.ep.drop s.ep.length)) : staE s = 0 := by
 rw [staE, sta_is hn (db_zero hd) (h.trans chn_end)]; rfl
def lastE (l : List It) (k : Nat) : Int := if k = 0 then 0 else (l.getD ((k : Int) - 1).toNat default).o
theorem lastE_succ {l : List It} {k : Nat} (h : k < l.length) : lastE l (k + 1) = l[k].o := by
 rw [lastE, if_neg (by omega), show (((k + 1 : Nat) : Int) - 1).toNat = k by omega, getD_at h]
theorem re_no {s : Sta} {k : Nat} (h : chn epV It.o 0 s.ep = chn epV It.o (lastE s.ep k) (s.ep.drop k)) (hk : k < s.ep.length)
  (h2 : (((s.ep[k].o < 1 ∨ s.ep[k].o > 64) ∨ s.ep[k].s < 1) ∨ s.ep[k].s > 1073741824) ∨ ((k : Int) > 0 ∧ (s.ep.getD ((k : Int) - 1).toNat default).o ≥ s.ep[k].o)) (hp : ∀ j, j < k → 0 < (s.ep.getD j default).o) : staOK s = false := by
 have : epOK s.ep = false := by
  refine chn_no h hk ?_
  rcases h2 with h2 | ⟨h2, h3⟩
  ·by_cases h0 : s.ep[k].o < 1
   ·right
    rw [lastE]
    split
    ·omega
    ·have := hp ((k : Int) - 1).toNat (by omega); omega
   ·rcases epV_not (x := s.ep[k]) (last := s.ep[k].o - 1) (by omega) with h | h
    ·exact .inl h
    ·omega
  ·right; rw [lastE, if_neg (by omega)]; exact h3
 rw [staOK, this, Bool.and_false]
theorem re_go {l : List It} {k : Nat} (h : chn epV It.o 0 l = chn epV It.o (lastE l k) (l.drop k)) (hk : k < l.length)
  (h2 : (((¬ l[k].o < 1 ∧ ¬ l[k].o > 64) ∧ ¬ l[k].s < 1) ∧ ¬ l[k].s > 1073741824) ∧ (¬ (k : Int) > 0 ∨ ¬ (l.getD ((k : Int) - 1).toNat default).o ≥ l[k].o)) : chn epV It.o 0 l = chn epV It.o (lastE l (k + 1)) (l.drop (k + 1)) := by
 rw [lastE_succ hk]
 refine chn_go h hk (by simp only [epV, Bool.and_eq_true, decide_eq_true_eq]; omega) ?_
 rw [lastE]
 split
 ·omega
 ·rcases h2.2 with h3 | h3 <;> omega
theorem re_pos {l : List It} {k : Nat} (hk : k < l.length) (hp : ∀ j, j < k → 0 < (l.getD j default).o) (h : ¬ l[k].o < 1) : ∀ j, j < k + 1 → 0 < (l.getD j default).o := fun j hj => by
 by_cases e : j = k
 ·subst e; rw [getD_at hk]; omega
 ·exact hp j (by omega)
theorem re_end {s : Sta} (hd : dbOK s.db = true) (h : chn epV It.o 0 s.ep = chn epV It.o (lastE s.ep s.ep.length) (s.ep.drop s.ep.length)) : nuOK s = staOK s := by
 rw [staOK, hd, epOK, h, chn_end, Bool.and_true, Bool.and_true]
theorem st_dbno {s : Sta} (h : dbOK s.db = false) : staOK s = false := by rw [staOK, h, Bool.and_false]; rfl
theorem ep_srt {l : List It} (h : epOK l = true) : Srt It.o l := chn_srt h
theorem ep_len {l : List It} (h : epOK l = true) : l.length ≤ 64 := by
 have hs := ep_srt h
 have : ∀ (l : List It) (a : Int), chn epV It.o a l = true → 0 ≤ a → a ≤ 64 → (l.length : Int) ≤ 64 - a := by
  intro l
  induction l with
  | nil => intro a _ _ h; simp; omega
  | cons x l ih =>
   intro a h h0 h1
   simp only [chn, Bool.and_eq_true, decide_eq_true_eq] at h
   have hx : x.o ≤ 64 := by
    have := h.1.1
    simp only [epV, Bool.and_eq_true, decide_eq_true_eq] at this
    omega
   have := ih x.o h.2 (by omega) hx
   simp only [List.length_cons]; omega
 have := this l 0 h (by omega) (by omega)
 omega
def sameS (a b : Sta) : Bool := ((decide (a.up = b.up) && decide (a.bo = b.bo)) && eqAll lsaEq a.db b.db) && decide (a.ep = b.ep)
theorem sameS_refl (s : Sta) : sameS s s = true := by
 rw [sameS, eqAll_refl (fun x => by simp [lsaEq]) s.db]; simp
def doS (s : Sta) (c : Ch) : Option Sta :=
 if c.kind = 1 then (if sqL s.db c.l.o ≥ c.l.s then none else some { s with db := insP Lsa.o s.db c.l, n1 := false })
 else if c.kind = 2 then (if s.up ≥ c.n then none else some { s with up := c.n })
 else if c.kind = 3 then (if s.bo ≥ c.n then none else some { s with bo := c.n })
 else (if qK s.ep c.of ≥ c.n then none else some { s with ep := insP It.o s.ep ⟨c.of, c.n⟩, n2 := false })
def foldS : Sta → List Ch → Option Sta
 | s, [] => some s
 | s, c :: l => (doS s c).bind fun z => foldS z l
theorem foldS_append : ∀ (a b : List Ch) (s : Sta), foldS s (a ++ b) = (foldS s a).bind fun z => foldS z b
 | [], b, s => rfl
 | c :: a, b, s => by
  simp only [List.cons_append, foldS]
  cases doS s c with
  | none => rfl
  | some z => exact foldS_append a b z
theorem foldS_take {l : List Ch} {s z : Sta} {k : Nat} (hk : k < l.length) (h : foldS s (l.take k) = some z) : foldS s (l.take (k + 1)) = doS z l[k] := by
 rw [List.take_succ_eq_append_getElem hk, foldS_append, h]
 simp only [Option.bind_some, foldS]
 cases doS z l[k] <;> rfl
theorem foldS_none {l : List Ch} {s z : Sta} {k : Nat} (hk : k < l.length) (h : foldS s (l.take k) = some z) (h2 : doS z l[k] = none) : foldS s l = none := by
 rw [← List.take_append_drop (k + 1) l, foldS_append, foldS_take hk h, h2]; rfl
def applyR (s : Sta) (l : List Ch) : Sta × Int :=
 if staOK s && allCh l then (match foldS s l with | some z => (z, 0) | none => (sta0, 10)) else (sta0, 1)
theorem applyR_s {s : Sta} {l : List Ch} (h : staOK s = false) : applyR s l = (sta0, 1) := by rw [applyR, h]; rfl
theorem applyR_l {s : Sta} {l : List Ch} (h : allCh l = false) : applyR s l = (sta0, 1) := by rw [applyR, h, Bool.and_false]; rfl
theorem applyR_old {s : Sta} {l : List Ch} (h : staOK s = true) (h1 : allCh l = true) (h2 : foldS s l = none) : applyR s l = (sta0, 10) := by rw [applyR, h, h1, h2]; rfl
theorem applyR_ok {s z : Sta} {l : List Ch} (h : staOK s = true) (h1 : allCh l = true) (h2 : foldS s l = some z) : applyR s l = (z, 0) := by rw [applyR, h, h1, h2]; rfl
theorem epV_ch {c : Ch} (h : chOK c = true) (hk : c.kind = 4) : epV ⟨c.of, c.n⟩ = true ∧ 0 < c.of := by
 rcases ch_kind h with h | h | h | h
 ·omega
 ·omega
 ·omega
 ·refine ⟨?_, by omega⟩
  simp only [epV, Bool.and_eq_true, decide_eq_true_eq]; omega
theorem doS_ok {s z : Sta} {c : Ch} (hs : staOK s = true) (hc : chOK c = true) (h : doS s c = some z) : staOK z = true := by
 obtain ⟨h1, h2, h3⟩ := sta_parts hs
 have hk := ch_kind hc
 rw [doS] at h
 split at h
 ·split at h
  ·cases h
  ·simp only [Option.some.injEq] at h; subst h
   exact sta_is h1 (ins_db h2 (by rcases hk with h | h | h | h <;> first | exact h.2.1 | omega)) h3
 ·split at h
  ·split at h
   ·cases h
   ·simp only [Option.some.injEq] at h; subst h
    refine sta_is ?_ h2 h3
    simp only [nuOK, Bool.and_eq_true, decide_eq_true_eq] at h1 ⊢
    omega
  ·split at h
   ·split at h
    ·cases h
    ·simp only [Option.some.injEq] at h; subst h
     refine sta_is ?_ h2 h3
     simp only [nuOK, Bool.and_eq_true, decide_eq_true_eq] at h1 ⊢
     omega
   ·split at h
    ·cases h
    ·simp only [Option.some.injEq] at h; subst h
     have hv := epV_ch hc (by omega)
     exact sta_is h1 h2 (insP_chn h3 hv.1 hv.2)
end Go.Vai.BA
namespace Go.Vai.BA
open Go.Proofs Go.Vai Go.Vai.C Go.Vai.D Go.Vai.DB Go.Vai.G Go.Vai.I Go.Vai.L Go.Vai.N Go.Vai.O
set_option linter.unusedSimpArgs false
set_option linter.unusedVariables false
set_option maxHeartbeats 4000000
set_option maxRecDepth 100000
open Go.Vai.L Go.Vai.D Go.Vai.I Go.Vai.DB Go.Vai.C
def staA (a : Sta) : AV := .agg [.sl 3 a.n1 (a.db.map lsaA), i64 a.up, i64 a.bo, .sl 2 a.n2 (a.ep.map itA)]
theorem cellsOf_sta (a : Sta) : cellsOf (staA a) = [.sl 3 a.n1 (a.db.map lsaA), i64 a.up, i64 a.bo, .sl 2 a.n2 (a.ep.map itA)] := rfl
@[simp] theorem noPtr_sta (a : Sta) : noPtr (staA a) = true := by simp [staA, noPtr, noPtrL]
attribute [go_sem] cellsOf_sta
theorem good_CheckB (a : Sta) (ha1 : a.db.length ≤ 9223372036854775807) (ha2 : a.ep.length ≤ 9223372036854775807) (pa : ∀ x ∈ a.db, x.ls.length ≤ 9223372036854775807) : Good Try.prog 12 [(staA a, false)] [] [(i64 (staE a), false)] [] := by
  refine good_of_body2 74 Try.func12 rfl rfl rfl (by simp) ?_
  intro s m ha hr hv hG
  have f0 : s 0 = .v (.agg [.sl 3 a.n1 (a.db.map lsaA), i64 a.up, i64 a.bo, .sl 2 a.n2 (a.ep.map itA)]) := ha 0 _ rfl
  clear ha
  have hc : True := trivial
  have F := (And.intro f0 hG)
  refine AW.seq ?_
  refine AW.region (cfg := cfg) ?_
  refine stp (fun _ h => sb h) ?_
  refine stp (fun _ h => s0 h) ?_
  refine aops_nil ?_
  refine AW.seq ?_
  refine AW.seq ?_
  refine AW.region (cfg := cfg) ?_
  refine stp (fun _ h => sx h) ?_
  refine stp (fun _ h => sl h) ?_
  iterate 2 refine stp (fun _ h => s0 h) ?_
  refine mrg wa (fun hc _ h => sx h) ?_
  refine mrg wa (fun hc _ h => sl h) ?_
  refine mrg wa (fun hc _ h => s0 h) ?_
  iterate 2 refine stp (fun _ h => s0 h) ?_
  refine mrg wa (fun hc _ h => sx h) ?_
  refine mrg wa (fun hc _ h => sl h) ?_
  refine mrg wa (fun hc _ h => s0 h) ?_
  iterate 2 refine stp (fun _ h => s0 h) ?_
  refine mrg wa (fun hc _ h => sx h) ?_
  refine mrg wa (fun hc _ h => sl h) ?_
  refine mrg wa (fun hc _ h => s0 h) ?_
  refine stp (fun _ h => s0 h) ?_
  refine aops_nil ?_
  refine cnd (fun hb => ?ht1) (fun hb => ?hf1)
  case ht1 =>
    have hw25 := hb
    try simp only [bo1, bo2, bo3, bo4, bo5, bo6] at hb
    have hbt25 := hb
    refine AW.seq ?_
    refine AW.region (cfg := cfg) ?_
    refine stp (fun _ h => s0 h) ?_
    refine aops_nil ?_
    refine AW.ret ?_
    refine ⟨.inr rfl, ?_⟩
    refine leaves_tmp1 2 rfl ?_ (by exact hG)
    simp (disch := first | omega | decide) only [go_sem, F, aIndex_map]
    all_goals (rw [nu_no hbt25]; done)
  case hf1 =>
    have hw25 := hb
    try simp only [bo1, bo2, bo3, bo4, bo5, bo6] at hb
    have hbt25 := hb
    refine AW.skip ?_
    refine AW.seq ?_
    refine AW.region (cfg := cfg) ?_
    refine stp (fun _ h => s0 h) ?_
    refine aops_nil ?_
    refine AW.seq ?_
    refine AW.seq ?_
    refine AW.region (cfg := cfg) ?_
    refine stp (fun _ h => sx h) ?_
    refine stp (fun _ h => sl h) ?_
    refine stp (fun _ h => sd h) ?_
    refine stp (fun _ h => s0 h) ?_
    refine aops_nil ?_
    refine AW.block ?_
    refine AW.forN (fun k σ => ∃ s m last, σ = ⟨74, s, m⟩ ∧ s 1 = .lptr (.tmp 1 0) (m.objs (.tmp 1 0)).1 0 ∧ (m.objs (.tmp 1 0)).2 = .box [.v (.sl 3 a.n1 (a.db.map lsaA)), .v (i64 a.up), .v (i64 a.bo), .v (.sl 2 a.n2 (a.ep.map itA))] ∧ s 3 = .v (i64 last) ∧ s 27 = .v (.sl 3 a.n1 (a.db.map lsaA)) ∧ s 28 = .v (i64 (a.db.length : Int)) ∧ s 29 = .v (i64 (k : Int)) ∧ (chn lsaOK Lsa.o 0 a.db = chn lsaOK Lsa.o last (a.db.drop k)) ∧ (∀ i, (m.objs (.res i)).2 = .dead) ∧ m.G = []) (a.db.length) ?_ ?_ ?_
    · refine ⟨_, _, 0, rfl, ?_, ?_, ?_, ?_, ?_, ?_, ?_, (by intro i; simp [Mem.set, hr]), (by exact hG)⟩ <;> try simp (disch := first | omega | decide) only [go_sem, F, aIndex_map]
      all_goals rfl
    · clear F f0 hr hG
      rintro k σ hk ⟨s, m, last, rfl, f1, o1, f3, f27, f28, f29, mo0, hr, hG⟩
      obtain ⟨g1, o1⟩ : ∃ g, m.objs (.tmp 1 0) = (g, .box [.v (.sl 3 a.n1 (a.db.map lsaA)), .v (i64 a.up), .v (i64 a.bo), .v (.sl 2 a.n2 (a.ep.map itA))]) := ⟨_, Prod.ext rfl o1⟩
      rw [o1] at f1
      have F := (And.intro f1 (And.intro f3 (And.intro f27 (And.intro f28 (And.intro f29 (And.intro o1 hG))))))
      refine AW.seq ?_
      refine AW.region (cfg := cfg) ?_
      refine stp (fun _ h => s0 h) ?_
      refine aops_nil ?_
      refine AW.seq ?_
      refine cnd (fun hb => ?ht2) (fun hb => ?hf2)
      case hf2 => (simp at hb; omega)
      case ht2 =>
      have hbt30 := hb
      refine AW.skip ?_
      refine AW.seq ?_
      refine AW.block ?_
      refine AW.seq ?_
      refine AW.region (cfg := cfg) ?_
      refine stp (fun _ h => si h) ?_
      refine stp (fun _ h => sl h) ?_
      refine stp (fun _ h => sd h) ?_
      refine stp0 (fun _ h => ss h) ?_
      refine aops_nil ?_
      refine AW.seq ?_
      refine AW.seq ?_
      have hkl : k < a.db.length := by assumption
      have pk1 := pa a.db[k] (List.getElem_mem hkl)
      refine AW.region (cfg := cfg) ?_
      refine stp (fun _ h => sl h) ?_
      refine stp (fun _ h => cs (w := good_CheckX a.db[k] (by omega)) (x := h)) ?_
      iterate 2 refine stp (fun _ h => s0 h) ?_
      refine mrg wa (fun hc _ h => sx h) ?_
      refine mrg wa (fun hc _ h => sl h) ?_
      iterate 2 refine mrg wa (fun hc _ h => s0 h) ?_
      refine stp (fun _ h => s0 h) ?_
      refine aops_nil ?_
      refine cnd (fun hb => ?ht3) (fun hb => ?hf3)
      case ht3 =>
        have hw41 := hb
        try simp only [bo1, bo2, bo3, bo4, bo5, bo6] at hb
        have hbt41 := hb
        refine AW.seq ?_
        refine AW.region (cfg := cfg) ?_
        refine stp (fun _ h => s0 h) ?_
        refine aops_nil ?_
        refine AW.ret ?_
        refine ⟨.inr rfl, ?_⟩
        refine leaves_tmp1 2 rfl ?_ (by exact hG)
        simp (disch := first | omega | decide) only [go_sem, F, aIndex_map]
        all_goals (rw [db_bad (db_no mo0 hk hbt41)]; done)
      case hf3 =>
        have hw41 := hb
        try simp only [bo1, bo2, bo3, bo4, bo5, bo6] at hb
        have hbt41 := hb
        refine AW.skip ?_
        refine AW.region (cfg := cfg) ?_
        refine stp (fun _ h => sx h) ?_
        refine stp (fun _ h => sl h) ?_
        refine stp (fun _ h => s0 h) ?_
        refine aops_nil ?_
        refine AW.region (cfg := cfg) ?_
        refine stp (fun _ h => sd h) ?_
        refine stp (fun _ h => s0 h) ?_
        refine aops_nil ?_
        refine ⟨_, _, a.db[k].o, rfl, ?_, ?_, ?_, ?_, ?_, ?_, ?_, (by intro i; simp [Mem.set, hr]), (by exact hG)⟩ <;> try simp (disch := first | omega | decide) only [go_sem, F, aIndex_map]
        all_goals first | rfl | exact db_go mo0 hk hbt41
    · clear F f0 hr hG
      rintro σ ⟨s, m, last, rfl, f1, o1, f3, f27, f28, f29, mo0, hr, hG⟩
      obtain ⟨g1, o1⟩ : ∃ g, m.objs (.tmp 1 0) = (g, .box [.v (.sl 3 a.n1 (a.db.map lsaA)), .v (i64 a.up), .v (i64 a.bo), .v (.sl 2 a.n2 (a.ep.map itA))]) := ⟨_, Prod.ext rfl o1⟩
      rw [o1] at f1
      have F := (And.intro f1 (And.intro f3 (And.intro f27 (And.intro f28 (And.intro f29 (And.intro o1 hG))))))
      refine AW.seq ?_
      refine AW.region (cfg := cfg) ?_
      refine stp (fun _ h => s0 h) ?_
      refine aops_nil ?_
      refine AW.seq ?_
      refine cnd (fun hb => ?ht4) (fun hb => ?hf4)
      case ht4 => (simp at hb; done)
      case hf4 =>
      have hbt30 := hb
      refine AW.exit ?_
      refine AW.seq ?_
      refine AW.region (cfg := cfg) ?_
      refine stp (fun _ h => s0 h) ?_
      refine aops_nil ?_
      refine AW.seq ?_
      refine AW.seq ?_
      refine AW.region (cfg := cfg) ?_
      refine stp (fun _ h => sx h) ?_
      refine stp (fun _ h => sl h) ?_
      refine stp (fun _ h => sd h) ?_
      refine stp (fun _ h => s0 h) ?_
      refine aops_nil ?_
      refine AW.block ?_
      refine AW.forN (fun k σ => ∃ s m last, σ = ⟨74, s, m⟩ ∧ s 1 = .lptr (.tmp 1 0) (m.objs (.tmp 1 0)).1 0 ∧ (m.objs (.tmp 1 0)).2 = .box [.v (.sl 3 a.n1 (a.db.map lsaA)), .v (i64 a.up), .v (i64 a.bo), .v (.sl 2 a.n2 (a.ep.map itA))] ∧ s 3 = .v (i64 last) ∧ s 46 = .v (.sl 2 a.n2 (a.ep.map itA)) ∧ s 47 = .v (i64 (a.ep.length : Int)) ∧ s 48 = .v (i64 (k : Int)) ∧ (dbE a.db = 0) ∧ (chn epV It.o 0 a.ep = chn epV It.o last (a.ep.drop k)) ∧ (∀ i, (m.objs (.res i)).2 = .dead) ∧ m.G = []) (a.ep.length) ?_ ?_ ?_
      · refine ⟨_, _, 0, rfl, ?_, ?_, ?_, ?_, ?_, ?_, ?_, ?_, (by intro i; simp [Mem.set, hr]), (by exact hG)⟩ <;> try simp (disch := first | omega | decide) only [go_sem, F, aIndex_map]
        all_goals first | rfl | exact db_end mo0
      · clear F f1 f3 f27 f28 f29 o1 hr hG
        rintro k σ hk ⟨s, m, last, rfl, f1, o1, f3, f46, f47, f48, mo0, mo1, hr, hG⟩
        obtain ⟨g1, o1⟩ : ∃ g, m.objs (.tmp 1 0) = (g, .box [.v (.sl 3 a.n1 (a.db.map lsaA)), .v (i64 a.up), .v (i64 a.bo), .v (.sl 2 a.n2 (a.ep.map itA))]) := ⟨_, Prod.ext rfl o1⟩
        rw [o1] at f1
        have F := (And.intro f1 (And.intro f3 (And.intro f46 (And.intro f47 (And.intro f48 (And.intro o1 hG))))))
        refine AW.seq ?_
        refine AW.region (cfg := cfg) ?_
        refine stp (fun _ h => s0 h) ?_
        refine aops_nil ?_
        refine AW.seq ?_
        refine cnd (fun hb => ?ht5) (fun hb => ?hf5)
        case hf5 => (simp at hb; omega)
        case ht5 =>
        have hbt49 := hb
        refine AW.skip ?_
        refine AW.seq ?_
        refine AW.block ?_
        refine AW.seq ?_
        refine AW.region (cfg := cfg) ?_
        refine stp (fun _ h => si h) ?_
        refine stp (fun _ h => sl h) ?_
        refine stp (fun _ h => sd h) ?_
        refine stp0 (fun _ h => ss h) ?_
        refine aops_nil ?_
        refine AW.seq ?_
        refine AW.seq ?_
        refine AW.region (cfg := cfg) ?_
        refine stp (fun _ h => sx h) ?_
        refine stp (fun _ h => sl h) ?_
        iterate 3 refine stp (fun _ h => s0 h) ?_
        refine mrg wa (fun hc _ h => sx h) ?_
        refine mrg wa (fun hc _ h => sl h) ?_
        refine mrg wa (fun hc _ h => s0 h) ?_
        iterate 2 refine stp (fun _ h => s0 h) ?_
        refine mrg wa (fun hc _ h => sx h) ?_
        refine mrg wa (fun hc _ h => sl h) ?_
        refine mrg wa (fun hc _ h => s0 h) ?_
        iterate 2 refine stp (fun _ h => s0 h) ?_
        refine mrg wa (fun hc _ h => sx h) ?_
        refine mrg wa (fun hc _ h => sl h) ?_
        refine mrg wa (fun hc _ h => s0 h) ?_
        refine stp (fun _ h => s0 h) ?_
        refine aops_nil ?_
        refine cnd (fun hb => ?ht6) (fun hb => ?hf6)
        case ht6 =>
          have hw70 := hb
          try simp only [bo1, bo2, bo3, bo4, bo5, bo6] at hb
          have hbt70 := hb
          refine AW.seq ?_
          refine AW.region (cfg := cfg) ?_
          refine stp (fun _ h => s0 h) ?_
          refine aops_nil ?_
          refine AW.ret ?_
          refine ⟨.inr rfl, ?_⟩
          refine leaves_tmp1 2 rfl ?_ (by exact hG)
          simp (disch := first | omega | decide) only [go_sem, F, aIndex_map]
          all_goals (rw [ep_no mo1 hk hbt70]; done)
        case hf6 =>
          have hw70 := hb
          try simp only [bo1, bo2, bo3, bo4, bo5, bo6] at hb
          have hbt70 := hb
          refine AW.skip ?_
          refine AW.region (cfg := cfg) ?_
          refine stp (fun _ h => sx h) ?_
          refine stp (fun _ h => sl h) ?_
          refine stp (fun _ h => s0 h) ?_
          refine aops_nil ?_
          refine AW.region (cfg := cfg) ?_
          refine stp (fun _ h => sd h) ?_
          refine stp (fun _ h => s0 h) ?_
          refine aops_nil ?_
          refine ⟨_, _, a.ep[k].o, rfl, ?_, ?_, ?_, ?_, ?_, ?_, ?_, ?_, (by intro i; simp [Mem.set, hr]), (by exact hG)⟩ <;> try simp (disch := first | omega | decide) only [go_sem, F, aIndex_map]
          all_goals first | rfl | assumption | exact ep_go mo1 hk hbt70
      · clear F f1 f3 f27 f28 f29 o1 hr hG
        rintro σ ⟨s, m, last, rfl, f1, o1, f3, f46, f47, f48, mo0, mo1, hr, hG⟩
        obtain ⟨g1, o1⟩ : ∃ g, m.objs (.tmp 1 0) = (g, .box [.v (.sl 3 a.n1 (a.db.map lsaA)), .v (i64 a.up), .v (i64 a.bo), .v (.sl 2 a.n2 (a.ep.map itA))]) := ⟨_, Prod.ext rfl o1⟩
        rw [o1] at f1
        have F := (And.intro f1 (And.intro f3 (And.intro f46 (And.intro f47 (And.intro f48 (And.intro o1 hG))))))
        refine AW.seq ?_
        refine AW.region (cfg := cfg) ?_
        refine stp (fun _ h => s0 h) ?_
        refine aops_nil ?_
        refine AW.seq ?_
        refine cnd (fun hb => ?ht7) (fun hb => ?hf7)
        case ht7 => (simp at hb; done)
        case hf7 =>
        have hbt49 := hb
        refine AW.exit ?_
        refine AW.seq ?_
        refine AW.region (cfg := cfg) ?_
        refine stp (fun _ h => s0 h) ?_
        refine aops_nil ?_
        refine AW.ret ?_
        refine ⟨.inr rfl, ?_⟩
        refine leaves_tmp1 2 rfl ?_ (by exact hG)
        simp (disch := first | omega | decide) only [go_sem, F, aIndex_map]
        all_goals (rw [ep_end (nu_yes hbt25) mo0 mo1]; done)
theorem good_MayB (a : Sta) (ha1 : a.db.length ≤ 9223372036854775807) (ha2 : a.ep.length ≤ 9223372036854775807) (pa : ∀ x ∈ a.db, x.ls.length ≤ 9223372036854775807) : Good Try.prog 13 [(staA a, false)] [] [(.b (staOK a), false)] [] := by
  refine good_of_body2 104 Try.func13 rfl rfl rfl (by simp) ?_
  intro s m ha hr hv hG
  have f0 : s 0 = .v (.agg [.sl 3 a.n1 (a.db.map lsaA), i64 a.up, i64 a.bo, .sl 2 a.n2 (a.ep.map itA)]) := ha 0 _ rfl
  clear ha
  have hc : True := trivial
  have F := (And.intro f0 hG)
  refine AW.seq ?_
  refine AW.region (cfg := cfg) ?_
  refine stp (fun _ h => sb h) ?_
  refine stp (fun _ h => s0 h) ?_
  refine aops_nil ?_
  refine AW.seq ?_
  refine AW.seq ?_
  refine AW.region (cfg := cfg) ?_
  refine stp (fun _ h => s0 h) ?_
  refine aops_nil ?_
  refine AW.block ?_
  refine AW.forN (fun k σ => ∃ s m, σ = ⟨104, s, m⟩ ∧ s 1 = .lptr (.tmp 1 0) (m.objs (.tmp 1 0)).1 0 ∧ (m.objs (.tmp 1 0)).2 = .box [.v (.sl 3 a.n1 (a.db.map lsaA)), .v (i64 a.up), .v (i64 a.bo), .v (.sl 2 a.n2 (a.ep.map itA))] ∧ s 3 = .v (i64 (k : Int)) ∧ (chn lsaOK Lsa.o 0 a.db = chn lsaOK Lsa.o (lastD a.db k) (a.db.drop k)) ∧ (∀ i, (m.objs (.res i)).2 = .dead) ∧ m.G = []) (a.db.length) ?_ ?_ ?_
  · refine ⟨_, _, rfl, ?_, ?_, ?_, ?_, (by intro i; simp [Mem.set, hr]), (by exact hG)⟩ <;> try simp (disch := first | omega | decide) only [go_sem, F, aIndex_map]
    all_goals rfl
  · clear F f0 hr hG
    rintro k σ hk ⟨s, m, rfl, f1, o1, f3, mo0, hr, hG⟩
    obtain ⟨g1, o1⟩ : ∃ g, m.objs (.tmp 1 0) = (g, .box [.v (.sl 3 a.n1 (a.db.map lsaA)), .v (i64 a.up), .v (i64 a.bo), .v (.sl 2 a.n2 (a.ep.map itA))]) := ⟨_, Prod.ext rfl o1⟩
    rw [o1] at f1
    have F := (And.intro f1 (And.intro f3 (And.intro o1 hG)))
    refine AW.seq ?_
    refine AW.seq ?_
    refine AW.region (cfg := cfg) ?_
    refine stp (fun _ h => s0 h) ?_
    refine stp (fun _ h => sx h) ?_
    refine stp (fun _ h => sl h) ?_
    refine stp (fun _ h => sd h) ?_
    refine stp (fun _ h => s0 h) ?_
    refine aops_nil ?_
    refine cnd (fun hb => ?ht1) (fun hb => ?hf1)
    case hf1 => (simp at hb; omega)
    case ht1 =>
    have hbt10 := hb
    refine AW.skip ?_
    refine AW.seq ?_
    refine AW.block ?_
    refine AW.seq ?_
    have hkl : k < a.db.length := by assumption
    have pk1 := pa a.db[k] (List.getElem_mem hkl)
    refine AW.draw (cfg := cfg) (by kernel_rfl) (by kernel_rfl) (by kernel_rfl) ?_
    refine dstp (fun _ h => sx h) ?_
    refine dstp (fun _ h => sl h) ?_
    refine dstp (fun _ h => s0 h) ?_
    refine dstp (fun _ h => si h) ?_
    refine dstp (fun _ h => sl h) ?_
    refine dstp (fun _ h => cs (w := good_refMayX a.db[k] (by omega)) (x := h)) ?_
    iterate 2 refine dstp (fun _ h => s0 h) ?_
    iterate 3 refine dmrg wa (fun hc _ h => s0 h) ?_
    refine dmrg wa (fun hc _ h => sx h) ?_
    refine dmrg wa (fun hc _ h => sl h) ?_
    refine dmrg wa (fun hc _ h => s0 h) ?_
    refine dmrg wa (fun hc _ h => sd h) ?_
    refine dmrg wa (fun hc _ h => sg h) ?_
    refine dmrg wa (fun hc _ h => sx h) ?_
    refine dmrg wa (fun hc _ h => sl h) ?_
    refine dmrg wa (fun hc _ h => sx h) ?_
    refine dmrg wa (fun hc _ h => sl h) ?_
    refine dmrg wa (fun hc _ h => s0 h) ?_
    refine dmrg wa (fun hc _ h => sg h) ?_
    refine dmrg wa (fun hc _ h => sx h) ?_
    refine dmrg wa (fun hc _ h => sl h) ?_
    iterate 2 refine dmrg wa (fun hc _ h => s0 h) ?_
    refine dstp (fun _ h => s0 h) ?_
    refine adraw_nil (by kernel_rfl) ?_
    refine cnd (fun hb => ?ht2) (fun hb => ?hf2)
    case ht2 =>
      have hw39 := hb
      try simp only [bo1, bo2, bo3, bo4, bo5, bo6] at hb
      have hbt39 := hb
      refine AW.seq ?_
      refine AW.region (cfg := cfg) ?_
      refine stp (fun _ h => s0 h) ?_
      refine aops_nil ?_
      refine AW.ret ?_
      refine ⟨.inr rfl, ?_⟩
      refine leaves_tmp1 2 rfl ?_ (by exact hG)
      simp (disch := first | omega | decide) only [go_sem, F, aIndex_map]
      all_goals (simp only [getD_at hkl] at hbt39; rw [st_dbno (rd_no mo0 hk hbt39)]; done)
    case hf2 =>
      have hw39 := hb
      try simp only [bo1, bo2, bo3, bo4, bo5, bo6] at hb
      have hbt39 := hb
      refine AW.skip ?_
      refine AW.region (cfg := cfg) ?_
      refine stp (fun _ h => s0 h) ?_
      refine stp (fun _ h => sd h) ?_
      refine stp (fun _ h => s0 h) ?_
      refine aops_nil ?_
      refine ⟨_, _, rfl, ?_, ?_, ?_, ?_, (by intro i; simp [Mem.set, hr]), (by exact hG)⟩ <;> try simp (disch := first | omega | decide) only [go_sem, F, aIndex_map]
      all_goals first | rfl | (simp only [getD_at hkl] at hbt39; exact rd_go mo0 hk hbt39)
  · clear F f0 hr hG
    rintro σ ⟨s, m, rfl, f1, o1, f3, mo0, hr, hG⟩
    obtain ⟨g1, o1⟩ : ∃ g, m.objs (.tmp 1 0) = (g, .box [.v (.sl 3 a.n1 (a.db.map lsaA)), .v (i64 a.up), .v (i64 a.bo), .v (.sl 2 a.n2 (a.ep.map itA))]) := ⟨_, Prod.ext rfl o1⟩
    rw [o1] at f1
    have F := (And.intro f1 (And.intro f3 (And.intro o1 hG)))
    refine AW.seq ?_
    refine AW.seq ?_
    refine AW.region (cfg := cfg) ?_
    refine stp (fun _ h => s0 h) ?_
    refine stp (fun _ h => sx h) ?_
    refine stp (fun _ h => sl h) ?_
    refine stp (fun _ h => sd h) ?_
    refine stp (fun _ h => s0 h) ?_
    refine aops_nil ?_
    refine cnd (fun hb => ?ht3) (fun hb => ?hf3)
    case ht3 => (simp at hb; done)
    case hf3 =>
    have hbt10 := hb
    refine AW.exit ?_
    refine AW.seq ?_
    refine AW.seq ?_
    refine AW.region (cfg := cfg) ?_
    refine stp (fun _ h => s0 h) ?_
    refine aops_nil ?_
    refine AW.block ?_
    refine AW.forN (fun k σ => ∃ s m, σ = ⟨104, s, m⟩ ∧ s 1 = .lptr (.tmp 1 0) (m.objs (.tmp 1 0)).1 0 ∧ (m.objs (.tmp 1 0)).2 = .box [.v (.sl 3 a.n1 (a.db.map lsaA)), .v (i64 a.up), .v (i64 a.bo), .v (.sl 2 a.n2 (a.ep.map itA))] ∧ s 4 = .v (i64 (k : Int)) ∧ (dbOK a.db = true) ∧ (chn epV It.o 0 a.ep = chn epV It.o (lastE a.ep k) (a.ep.drop k)) ∧ (∀ j, j < k → 0 < (a.ep.getD j default).o) ∧ (∀ i, (m.objs (.res i)).2 = .dead) ∧ m.G = []) (a.ep.length) ?_ ?_ ?_
    · refine ⟨_, _, rfl, ?_, ?_, ?_, ?_, ?_, ?_, (by intro i; simp [Mem.set, hr]), (by exact hG)⟩ <;> try simp (disch := first | omega | decide) only [go_sem, F, aIndex_map]
      all_goals first | rfl | exact rd_end mo0 | (simp [lastE]; done)
    · clear F f1 f3 o1 hr hG
      rintro k σ hk ⟨s, m, rfl, f1, o1, f4, mo0, mo1, mo2, hr, hG⟩
      obtain ⟨g1, o1⟩ : ∃ g, m.objs (.tmp 1 0) = (g, .box [.v (.sl 3 a.n1 (a.db.map lsaA)), .v (i64 a.up), .v (i64 a.bo), .v (.sl 2 a.n2 (a.ep.map itA))]) := ⟨_, Prod.ext rfl o1⟩
      rw [o1] at f1
      have F := (And.intro f1 (And.intro f4 (And.intro o1 hG)))
      refine AW.seq ?_
      refine AW.seq ?_
      refine AW.region (cfg := cfg) ?_
      refine stp (fun _ h => s0 h) ?_
      refine stp (fun _ h => sx h) ?_
      refine stp (fun _ h => sl h) ?_
      refine stp (fun _ h => sd h) ?_
      refine stp (fun _ h => s0 h) ?_
      refine aops_nil ?_
      refine cnd (fun hb => ?ht4) (fun hb => ?hf4)
      case hf4 => (simp at hb; omega)
      case ht4 =>
      have hbt44 := hb
      refine AW.skip ?_
      refine AW.seq ?_
      refine AW.block ?_
      refine AW.seq ?_
      refine AW.region (cfg := cfg) ?_
      refine stp (fun _ h => sx h) ?_
      refine stp (fun _ h => sl h) ?_
      refine stp (fun _ h => s0 h) ?_
      refine stp (fun _ h => si h) ?_
      refine stp (fun _ h => sl h) ?_
      refine stp (fun _ h => sd h) ?_
      refine stp0 (fun _ h => ss h) ?_
      refine aops_nil ?_
      refine AW.seq ?_
      have hkl : k < a.ep.length := by assumption
      refine AW.draw (cfg := cfg) (by kernel_rfl) (by kernel_rfl) (by kernel_rfl) ?_
      refine dstp (fun _ h => sx h) ?_
      refine dstp (fun _ h => sl h) ?_
      iterate 2 refine dstp (fun _ h => s0 h) ?_
      refine dmrg wa (fun hc _ h => sx h) ?_
      refine dmrg wa (fun hc _ h => sl h) ?_
      refine dmrg wa (fun hc _ h => s0 h) ?_
      iterate 2 refine dstp (fun _ h => s0 h) ?_
      refine dmrg wa (fun hc _ h => sx h) ?_
      refine dmrg wa (fun hc _ h => sl h) ?_
      refine dmrg wa (fun hc _ h => s0 h) ?_
      iterate 2 refine dstp (fun _ h => s0 h) ?_
      refine dmrg wa (fun hc _ h => sx h) ?_
      refine dmrg wa (fun hc _ h => sl h) ?_
      refine dmrg wa (fun hc _ h => s0 h) ?_
      iterate 2 refine dstp (fun _ h => s0 h) ?_
      iterate 3 refine dmrg wa (fun hc _ h => s0 h) ?_
      refine dmrg wa (fun hc _ h => sx h) ?_
      refine dmrg wa (fun hc _ h => sl h) ?_
      refine dmrg wa (fun hc _ h => s0 h) ?_
      refine dmrg wa (fun hc _ h => sd h) ?_
      refine dmrg wa (fun hc _ h => sg h) ?_
      refine dmrg wa (fun hc _ h => sx h) ?_
      refine dmrg wa (fun hc _ h => sl h) ?_
      refine dmrg wa (fun hc _ h => sx h) ?_
      refine dmrg wa (fun hc _ h => sl h) ?_
      iterate 2 refine dmrg wa (fun hc _ h => s0 h) ?_
      refine dstp (fun _ h => s0 h) ?_
      refine adraw_nil (by kernel_rfl) ?_
      refine cnd (fun hb => ?ht5) (fun hb => ?hf5)
      case ht5 =>
        have hw85 := hb
        try simp only [bo1, bo2, bo3, bo4, bo5, bo6] at hb
        have hbt85 := hb
        refine AW.seq ?_
        refine AW.region (cfg := cfg) ?_
        refine stp (fun _ h => s0 h) ?_
        refine aops_nil ?_
        refine AW.ret ?_
        refine ⟨.inr rfl, ?_⟩
        refine leaves_tmp1 2 rfl ?_ (by exact hG)
        simp (disch := first | omega | decide) only [go_sem, F, aIndex_map]
        all_goals (rw [re_no mo1 hk hbt85 mo2]; done)
      case hf5 =>
        have hw85 := hb
        try simp only [bo1, bo2, bo3, bo4, bo5, bo6] at hb
        have hbt85 := hb
        refine AW.skip ?_
        refine AW.region (cfg := cfg) ?_
        refine stp (fun _ h => s0 h) ?_
        refine stp (fun _ h => sd h) ?_
        refine stp (fun _ h => s0 h) ?_
        refine aops_nil ?_
        refine ⟨_, _, rfl, ?_, ?_, ?_, ?_, ?_, ?_, (by intro i; simp [Mem.set, hr]), (by exact hG)⟩ <;> try simp (disch := first | omega | decide) only [go_sem, F, aIndex_map]
        all_goals first | rfl | assumption | exact re_go mo1 hk hbt85 | exact re_pos hk mo2 hbt85.1.1.1.1
    · clear F f1 f3 o1 hr hG
      rintro σ ⟨s, m, rfl, f1, o1, f4, mo0, mo1, mo2, hr, hG⟩
      obtain ⟨g1, o1⟩ : ∃ g, m.objs (.tmp 1 0) = (g, .box [.v (.sl 3 a.n1 (a.db.map lsaA)), .v (i64 a.up), .v (i64 a.bo), .v (.sl 2 a.n2 (a.ep.map itA))]) := ⟨_, Prod.ext rfl o1⟩
      rw [o1] at f1
      have F := (And.intro f1 (And.intro f4 (And.intro o1 hG)))
      refine AW.seq ?_
      refine AW.seq ?_
      refine AW.region (cfg := cfg) ?_
      refine stp (fun _ h => s0 h) ?_
      refine stp (fun _ h => sx h) ?_
      refine stp (fun _ h => sl h) ?_
      refine stp (fun _ h => sd h) ?_
      refine stp (fun _ h => s0 h) ?_
      refine aops_nil ?_
      refine cnd (fun hb => ?ht6) (fun hb => ?hf6)
      case ht6 => (simp at hb; done)
      case hf6 =>
      have hbt44 := hb
      refine AW.exit ?_
      refine AW.seq ?_
      refine AW.region (cfg := cfg) ?_
      refine stp (fun _ h => sx h) ?_
      refine stp (fun _ h => sl h) ?_
      iterate 2 refine stp (fun _ h => s0 h) ?_
      refine mrg wa (fun hc _ h => sx h) ?_
      refine mrg wa (fun hc _ h => sl h) ?_
      refine mrg wa (fun hc _ h => s0 h) ?_
      iterate 2 refine stp (fun _ h => s0 h) ?_
      refine mrg wa (fun hc _ h => sx h) ?_
      refine mrg wa (fun hc _ h => sl h) ?_
      refine mrg wa (fun hc _ h => s0 h) ?_
      iterate 2 refine stp (fun _ h => s0 h) ?_
      refine mrg wa (fun hc _ h => sx h) ?_
      refine mrg wa (fun hc _ h => sl h) ?_
      refine mrg wa (fun hc _ h => s0 h) ?_
      iterate 2 refine stp (fun _ h => s0 h) ?_
      refine aops_nil ?_
      refine AW.ret ?_
      refine ⟨.inr rfl, ?_⟩
      refine leaves_tmp1 2 rfl ?_ (by exact hG)
      simp (disch := first | omega | decide) only [go_sem, F, aIndex_map]
      all_goals (rw [← re_end mo0 mo1]; rfl)
end Go.Vai.BA
namespace Go.Vai.BA
open Go.Proofs Go.Vai Go.Vai.C Go.Vai.D Go.Vai.DB Go.Vai.G Go.Vai.I Go.Vai.L Go.Vai.N Go.Vai.O
set_option linter.unusedSimpArgs false
set_option linter.unusedVariables false
set_option maxHeartbeats 4000000
set_option maxRecDepth 100000
theorem itE_eq {x y : It} (h : (!(decide (x.o = y.o) && decide (x.s = y.s))) = false) : x = y := by
  obtain ⟨_, _⟩ := x
  obtain ⟨_, _⟩ := y
  simpa using h
theorem itE_ne {x y : It} (h : (!(decide (x.o = y.o) && decide (x.s = y.s))) = true) : x ≠ y := by
  rintro rfl
  simp at h
theorem sameS_no {a b : Sta} (h : ((¬ a.up = b.up ∨ ¬ a.bo = b.bo) ∨ (!eqAll lsaEq a.db b.db) = true) ∨ ¬ (a.ep.length : Int) = (b.ep.length : Int)) : sameS a b = false := by
  cases e : sameS a b with
  | false => rfl
  | true =>
    simp only [sameS, Bool.and_eq_true, decide_eq_true_eq] at e
    rcases h with ((h | h) | h) | h
    · exact absurd e.1.1.1 h
    · exact absurd e.1.1.2 h
    · rw [e.1.2] at h; cases h
    · exact absurd (by rw [e.2]) h
theorem sameS_ep {a b : Sta} (h : a.ep ≠ b.ep) : sameS a b = false := by rw [sameS, decide_eq_false h, Bool.and_false]
theorem sameS_yes {a b : Sta} (h : ((a.up = b.up ∧ a.bo = b.bo) ∧ (!eqAll lsaEq a.db b.db) = false) ∧ (a.ep.length : Int) = (b.ep.length : Int)) (h2 : a.ep.take a.ep.length = b.ep.take a.ep.length) : sameS a b = true := by
  rw [List.take_length, List.take_of_length_le (by omega)] at h2
  simp only [sameS, Bool.and_eq_true, decide_eq_true_eq]
  exact ⟨⟨⟨h.1.1.1, h.1.1.2⟩, by simpa using h.1.2⟩, h2⟩
theorem good_refSameB (a : Sta) (ha1 : a.db.length ≤ 1000000) (ha2 : a.ep.length ≤ 1000000) (pa : ∀ x ∈ a.db, fit x) (b : Sta) (hb1 : b.db.length ≤ 1000000) (hb2 : b.ep.length ≤ 1000000) (pb : ∀ x ∈ b.db, fit x) : Good Try.prog 14 [(staA a, false), (staA b, false)] [] [(.b (sameS a b), false)] [] := by
  refine good_of_body2 53 Try.func14 rfl rfl rfl (by simp) ?_
  intro s m ha hr hv hG
  have f0 : s 0 = .v (.agg [.sl 3 a.n1 (a.db.map lsaA), i64 a.up, i64 a.bo, .sl 2 a.n2 (a.ep.map itA)]) := ha 0 _ rfl
  have f1 : s 1 = .v (.agg [.sl 3 b.n1 (b.db.map lsaA), i64 b.up, i64 b.bo, .sl 2 b.n2 (b.ep.map itA)]) := ha 1 _ rfl
  clear ha
  have hc : True := trivial
  have F := (And.intro f0 (And.intro f1 hG))
  refine AW.seq ?_
  refine AW.region (cfg := cfg) ?_
  iterate 2 refine stp (fun _ h => sb h) ?_
  refine stp (fun _ h => s0 h) ?_
  refine aops_nil ?_
  refine AW.seq ?_
  refine AW.seq ?_
  refine AW.region (cfg := cfg) ?_
  refine stp (fun _ h => sx h) ?_
  refine stp (fun _ h => sl h) ?_
  refine stp (fun _ h => sx h) ?_
  refine stp (fun _ h => sl h) ?_
  iterate 2 refine stp (fun _ h => s0 h) ?_
  refine mrg wa (fun hc _ h => sx h) ?_
  refine mrg wa (fun hc _ h => sl h) ?_
  refine mrg wa (fun hc _ h => sx h) ?_
  refine mrg wa (fun hc _ h => sl h) ?_
  refine mrg wa (fun hc _ h => s0 h) ?_
  iterate 2 refine stp (fun _ h => s0 h) ?_
  refine mrg wa (fun hc _ h => sx h) ?_
  refine mrg wa (fun hc _ h => sl h) ?_
  refine mrg wa (fun hc _ h => sx h) ?_
  refine mrg wa (fun hc _ h => sl h) ?_
  refine mrg wa (fun hc _ h => cs (w := good_refAllDb a.n1 b.n1 a.db b.db (by omega) (by omega) pa pb) (x := h)) ?_
  refine mrg wa (fun hc _ h => s0 h) ?_
  iterate 2 refine stp (fun _ h => s0 h) ?_
  refine mrg wa (fun hc _ h => sx h) ?_
  refine mrg wa (fun hc _ h => sl h) ?_
  refine mrg wa (fun hc _ h => sd h) ?_
  refine mrg wa (fun hc _ h => sx h) ?_
  refine mrg wa (fun hc _ h => sl h) ?_
  refine mrg wa (fun hc _ h => sd h) ?_
  refine mrg wa (fun hc _ h => s0 h) ?_
  refine stp (fun _ h => s0 h) ?_
  refine aops_nil ?_
  refine cnd (fun hb => ?ht1) (fun hb => ?hf1)
  case ht1 =>
    have hw34 := hb
    try simp only [bo1, bo2, bo3, bo4, bo5, bo6] at hb
    have hbt34 := hb
    refine AW.seq ?_
    refine AW.region (cfg := cfg) ?_
    refine stp (fun _ h => s0 h) ?_
    refine aops_nil ?_
    refine AW.ret ?_
    refine ⟨.inr rfl, ?_⟩
    refine leaves_tmp1 4 rfl ?_ (by exact hG)
    simp (disch := first | omega | decide) only [go_sem, F, aIndex_map]
    all_goals (rw [sameS_no (by simpa using hbt34)]; done)
  case hf1 =>
    have hw34 := hb
    try simp only [bo1, bo2, bo3, bo4, bo5, bo6] at hb
    have hbt34 := hb
    refine AW.skip ?_
    refine AW.seq ?_
    refine AW.seq ?_
    refine AW.region (cfg := cfg) ?_
    refine stp (fun _ h => s0 h) ?_
    refine aops_nil ?_
    refine AW.block ?_
    refine AW.forN (fun k σ => ∃ s m, σ = ⟨53, s, m⟩ ∧ s 2 = .lptr (.tmp 2 0) (m.objs (.tmp 2 0)).1 0 ∧ (m.objs (.tmp 2 0)).2 = .box [.v (.sl 3 a.n1 (a.db.map lsaA)), .v (i64 a.up), .v (i64 a.bo), .v (.sl 2 a.n2 (a.ep.map itA))] ∧ s 3 = .lptr (.tmp 3 0) (m.objs (.tmp 3 0)).1 0 ∧ (m.objs (.tmp 3 0)).2 = .box [.v (.sl 3 b.n1 (b.db.map lsaA)), .v (i64 b.up), .v (i64 b.bo), .v (.sl 2 b.n2 (b.ep.map itA))] ∧ s 5 = .v (i64 (k : Int)) ∧ (((a.up = b.up ∧ a.bo = b.bo) ∧ (!eqAll lsaEq a.db b.db) = false) ∧ (a.ep.length : Int) = (b.ep.length : Int)) ∧ (a.ep.take k = b.ep.take k) ∧ (∀ i, (m.objs (.res i)).2 = .dead) ∧ m.G = []) (a.ep.length) ?_ ?_ ?_
    · refine ⟨_, _, rfl, ?_, ?_, ?_, ?_, ?_, ?_, ?_, (by intro i; simp [Mem.set, hr]), (by exact hG)⟩ <;> try simp (disch := first | omega | decide) only [go_sem, F, aIndex_map]
      all_goals first | rfl | (simpa using hbt34)
    · clear F f0 f1 hr hG
      rintro k σ hk ⟨s, m, rfl, f2, o2, f3, o3, f5, mo0, mo1, hr, hG⟩
      obtain ⟨g2, o2⟩ : ∃ g, m.objs (.tmp 2 0) = (g, .box [.v (.sl 3 a.n1 (a.db.map lsaA)), .v (i64 a.up), .v (i64 a.bo), .v (.sl 2 a.n2 (a.ep.map itA))]) := ⟨_, Prod.ext rfl o2⟩
      rw [o2] at f2
      obtain ⟨g3, o3⟩ : ∃ g, m.objs (.tmp 3 0) = (g, .box [.v (.sl 3 b.n1 (b.db.map lsaA)), .v (i64 b.up), .v (i64 b.bo), .v (.sl 2 b.n2 (b.ep.map itA))]) := ⟨_, Prod.ext rfl o3⟩
      rw [o3] at f3
      have F := (And.intro f2 (And.intro f3 (And.intro f5 (And.intro o2 (And.intro o3 hG)))))
      refine AW.seq ?_
      refine AW.seq ?_
      refine AW.region (cfg := cfg) ?_
      refine stp (fun _ h => s0 h) ?_
      refine stp (fun _ h => sx h) ?_
      refine stp (fun _ h => sl h) ?_
      refine stp (fun _ h => sd h) ?_
      refine stp (fun _ h => s0 h) ?_
      refine aops_nil ?_
      refine cnd (fun hb => ?ht2) (fun hb => ?hf2)
      case hf2 => (simp at hb; omega)
      case ht2 =>
      have hbt39 := hb
      refine AW.skip ?_
      refine AW.seq ?_
      refine AW.block ?_
      refine AW.seq ?_
      have hka : k < a.ep.length := by assumption
      have hkb : k < b.ep.length := by omega
      refine AW.draw (cfg := cfg) (by kernel_rfl) (by kernel_rfl) (by kernel_rfl) ?_
      refine dstp (fun _ h => sx h) ?_
      refine dstp (fun _ h => sl h) ?_
      refine dstp (fun _ h => s0 h) ?_
      refine dstp (fun _ h => si h) ?_
      refine dstp (fun _ h => sl h) ?_
      refine dstp (fun _ h => sx h) ?_
      refine dstp (fun _ h => sl h) ?_
      refine dstp (fun _ h => s0 h) ?_
      refine dstp (fun _ h => si h) ?_
      refine dstp (fun _ h => sl h) ?_
      refine dstp (fun _ h => s0 h) ?_
      refine adraw_nil (by kernel_rfl) ?_
      refine cnd (fun hb => ?ht3) (fun hb => ?hf3)
      case ht3 =>
        have hw52 := hb
        try simp only [bo1, bo2, bo3, bo4, bo5, bo6] at hb
        have hbt52 := hb
        refine AW.seq ?_
        refine AW.region (cfg := cfg) ?_
        refine stp (fun _ h => s0 h) ?_
        refine aops_nil ?_
        refine AW.ret ?_
        refine ⟨.inr rfl, ?_⟩
        refine leaves_tmp1 4 rfl ?_ (by exact hG)
        simp (disch := first | omega | decide) only [go_sem, F, aIndex_map]
        all_goals (rw [sameS_ep (fun e => itE_ne (by exact hb) (by simp [e]))]; done)
      case hf3 =>
        have hw52 := hb
        try simp only [bo1, bo2, bo3, bo4, bo5, bo6] at hb
        have hbt52 := hb
        refine AW.skip ?_
        refine AW.region (cfg := cfg) ?_
        refine stp (fun _ h => s0 h) ?_
        refine stp (fun _ h => sd h) ?_
        refine stp (fun _ h => s0 h) ?_
        refine aops_nil ?_
        refine ⟨_, _, rfl, ?_, ?_, ?_, ?_, ?_, ?_, ?_, (by intro i; simp [Mem.set, hr]), (by exact hG)⟩ <;> try simp (disch := first | omega | decide) only [go_sem, F, aIndex_map]
        all_goals first | rfl | assumption | exact take_eq hk (by omega) mo1 (itE_eq (by exact hb))
    · clear F f0 f1 hr hG
      rintro σ ⟨s, m, rfl, f2, o2, f3, o3, f5, mo0, mo1, hr, hG⟩
      obtain ⟨g2, o2⟩ : ∃ g, m.objs (.tmp 2 0) = (g, .box [.v (.sl 3 a.n1 (a.db.map lsaA)), .v (i64 a.up), .v (i64 a.bo), .v (.sl 2 a.n2 (a.ep.map itA))]) := ⟨_, Prod.ext rfl o2⟩
      rw [o2] at f2
      obtain ⟨g3, o3⟩ : ∃ g, m.objs (.tmp 3 0) = (g, .box [.v (.sl 3 b.n1 (b.db.map lsaA)), .v (i64 b.up), .v (i64 b.bo), .v (.sl 2 b.n2 (b.ep.map itA))]) := ⟨_, Prod.ext rfl o3⟩
      rw [o3] at f3
      have F := (And.intro f2 (And.intro f3 (And.intro f5 (And.intro o2 (And.intro o3 hG)))))
      refine AW.seq ?_
      refine AW.seq ?_
      refine AW.region (cfg := cfg) ?_
      refine stp (fun _ h => s0 h) ?_
      refine stp (fun _ h => sx h) ?_
      refine stp (fun _ h => sl h) ?_
      refine stp (fun _ h => sd h) ?_
      refine stp (fun _ h => s0 h) ?_
      refine aops_nil ?_
      refine cnd (fun hb => ?ht4) (fun hb => ?hf4)
      case ht4 => (simp at hb; done)
      case hf4 =>
      have hbt39 := hb
      refine AW.exit ?_
      refine AW.seq ?_
      refine AW.region (cfg := cfg) ?_
      refine stp (fun _ h => s0 h) ?_
      refine aops_nil ?_
      refine AW.ret ?_
      refine ⟨.inr rfl, ?_⟩
      refine leaves_tmp1 4 rfl ?_ (by exact hG)
      simp (disch := first | omega | decide) only [go_sem, F, aIndex_map]
      all_goals (rw [sameS_yes mo0 mo1]; done)
end Go.Vai.BA
namespace Go.Vai.BA
open Go.Proofs Go.Vai Go.Vai.C Go.Vai.D Go.Vai.DB Go.Vai.G Go.Vai.I Go.Vai.L Go.Vai.N Go.Vai.O
set_option linter.unusedSimpArgs false
set_option linter.unusedVariables false
set_option maxHeartbeats 4000000
set_option maxRecDepth 100000
theorem good_CloneIt (nil : Bool) (l : List It) (hl : l.length ≤ 8796093022208) (hz : nil = true → l = []) : Good Try.prog 48 [(.sl 2 nil (l.map itA), false)] [] [(.sl 2 nil (l.map itA), true)] [] := by
  refine good_of_body3 8 Try.func48 rfl rfl rfl (by simp) ?_
  intro s m ha hr hv hG
  have f0 : s 0 = .v (.sl 2 nil (l.map itA)) := ha 0 _ rfl
  clear ha
  have hc : True := trivial
  have F := (And.intro f0 hG)
  refine AW.seq ?_
  refine AW.region (cfg := cfg) ?_
  refine stp (fun _ h => s0 h) ?_
  refine aops_nil ?_
  refine AW.seq ?_
  refine AW.seq ?_
  refine AW.region (cfg := cfg) ?_
  iterate 2 refine stp (fun _ h => s0 h) ?_
  refine aops_nil ?_
  refine cnd (fun hb => ?ht1) (fun hb => ?hf1)
  case ht1 =>
    have hw4 := hb
    try simp only [bo1, bo2, bo3, bo4, bo5, bo6] at hb
    have hbt4 := hb
    refine AW.seq ?_
    refine AW.region (cfg := cfg) ?_
    refine stp (fun _ h => s0 h) ?_
    refine aops_nil ?_
    refine AW.ret ?_
    refine ⟨.inr rfl, ?_⟩
    (obtain rfl : nil = true := (by simpa using hb); obtain rfl := hz rfl; refine ⟨_, nilEq_nil (nilEq_refl _), leaves_own1 2 rfl (by simp (disch := first | omega | decide) only [go_sem, F, aIndex_map] <;> rfl) (by simp (disch := first | omega | decide) only [go_sem, F, aIndex_map] <;> rfl) (by decide) (by simp [sub, List.take_of_length_le]) (by exact hG)⟩)
  case hf1 =>
    have hw4 := hb
    try simp only [bo1, bo2, bo3, bo4, bo5, bo6] at hb
    have hbt4 := hb
    refine AW.skip ?_
    refine AW.seq ?_
    refine AW.region (cfg := cfg) ?_
    refine stp (fun _ h => sq h) ?_
    refine stp (fun _ h => s0 h) ?_
    refine stp (fun _ h => sp h) ?_
    refine stp (fun _ h => st h) ?_
    refine aops_nil ?_
    refine AW.ret ?_
    refine ⟨.inr rfl, ?_⟩
    (obtain rfl : nil = false := (by simpa using hb); refine leavesN (leaves_own1 2 rfl (by simp (disch := first | omega | decide) only [go_sem, F, aIndex_map] <;> rfl) (by simp (disch := first | omega | decide) only [go_sem, F, aIndex_map] <;> rfl) (by decide) (by simp [sub, List.take_of_length_le]) (by exact hG)))
end Go.Vai.BA
namespace Go.Vai.BA
open Go.Proofs Go.Vai Go.Vai.C Go.Vai.D Go.Vai.DB Go.Vai.G Go.Vai.I Go.Vai.L Go.Vai.N Go.Vai.O
set_option linter.unusedSimpArgs false
set_option linter.unusedVariables false
set_option maxHeartbeats 4000000
set_option maxRecDepth 100000
/-- The caller's state, written anew. -/
def wr (b g g0 g3 : Nat) (a : Sta) (m : Mem) : Mem := ((m.set (.cell b 0) (g0, .arr a.n1 3 (a.db.map lsaA))).set (.cell b 3) (g3, .arr a.n2 2 (a.ep.map itA))).set (.tmp b 0) (g, .box [.own (.cell b 0) g0 0 a.db.length, .v (i64 a.up), .v (i64 a.bo), .own (.cell b 3) g3 0 a.ep.length])
structure HasS (b g g0 g3 : Nat) (a : Sta) (m : Mem) : Prop where
  bx : m.objs (.tmp b 0) = (g, .box [.own (.cell b 0) g0 0 a.db.length, .v (i64 a.up), .v (i64 a.bo), .own (.cell b 3) g3 0 a.ep.length])
  r0 : m.objs (.cell b 0) = (g0, .arr a.n1 3 (a.db.map lsaA))
  r3 : m.objs (.cell b 3) = (g3, .arr a.n2 2 (a.ep.map itA))
theorem wr_G {b g g0 g3 : Nat} {a : Sta} {m : Mem} : (wr b g g0 g3 a m).G = m.G := rfl
theorem wr_has {b g g0 g3 : Nat} {a : Sta} {m : Mem} : HasS b g g0 g3 a (wr b g g0 g3 a m) := ⟨by simp [wr, mset_if], by simp [wr, mset_if], by simp [wr, mset_if]⟩
theorem up_wr {b g g0 g3 : Nat} {a : Sta} {m m1 m2 : Mem} (hu : UpMem m m1) (h : HasS (b + 1000) g g0 g3 a m2) (h4 : ∀ n : Nm, n ≠ .tmp b 0 → n ≠ .cell b 0 → n ≠ .cell b 3 → m2.objs n.up = m1.objs n.up) : ∀ n : Nm, m2.objs n.up = upO ((wr b g g0 g3 a m).objs n) := fun n => by
  simp only [wr, mset_if]
  split
  · rename_i e; subst e; exact h.bx
  · split
    · rename_i e; subst e; exact h.r3
    · split
      · rename_i e; subst e; exact h.r0
      · rw [h4 n (by assumption) (by assumption) (by assumption), hu.up]
theorem wr_other {b g g0 g3 : Nat} {a : Sta} {m : Mem} {n : Nm} (h1 : n ≠ .tmp b 0) (h2 : n ≠ .cell b 0) (h3 : n ≠ .cell b 3) : (wr b g g0 g3 a m).objs n = m.objs n := by
  simp only [wr, mset_if]
  rw [if_neg h1, if_neg h3, if_neg h2]
theorem good_cmpPutB (x : Lsa) (t : Int) : Good Try.prog 69 [(lsaA x, false), (i64 t, false)] [] [(i64 (cmpI (Lsa.o x) t), false)] [] := by
  refine good_of_body2 9 Try.func69 rfl rfl rfl (by simp) ?_
  intro s m ha hr hv hG
  have f0 : s 0 = .v (.agg [i64 x.o, i64 x.s, .sl 2 x.nil (x.ls.map linkA)]) := ha 0 _ rfl
  have f1 : s 1 = .v (i64 t) := ha 1 _ rfl
  clear ha
  have hc : True := trivial
  have F := (And.intro f0 (And.intro f1 hG))
  refine AW.seq ?_
  refine AW.region (cfg := cfg) ?_
  refine stp (fun _ h => sb h) ?_
  refine stp (fun _ h => s0 h) ?_
  refine aops_nil ?_
  refine AW.seq ?_
  refine AW.region (cfg := cfg) ?_
  refine stp (fun _ h => sx h) ?_
  refine stp (fun _ h => sl h) ?_
  refine stp (fun _ h => s0 h) ?_
  refine stp (fun _ h => cs (w := good_cmpInt (Lsa.o x) t) (x := h)) ?_
  refine stp (fun _ h => s0 h) ?_
  refine aops_nil ?_
  refine AW.ret ?_
  refine ⟨.inr rfl, ?_⟩
  refine leaves_tmp1 4 rfl ?_ (by exact hG)
  simp (disch := first | omega | decide) only [go_sem, F, aIndex_map]
  all_goals first | done | rfl | trace_state
theorem good_cmpEpB (x : It) (t : Int) : Good Try.prog 74 [(itA x, false), (i64 t, false)] [] [(i64 (cmpI (It.o x) t), false)] [] := by
  refine good_of_body2 9 Try.func74 rfl rfl rfl (by simp) ?_
  intro s m ha hr hv hG
  have f0 : s 0 = .v (.agg [i64 x.o, i64 x.s]) := ha 0 _ rfl
  have f1 : s 1 = .v (i64 t) := ha 1 _ rfl
  clear ha
  have hc : True := trivial
  have F := (And.intro f0 (And.intro f1 hG))
  refine AW.seq ?_
  refine AW.region (cfg := cfg) ?_
  refine stp (fun _ h => sb h) ?_
  refine stp (fun _ h => s0 h) ?_
  refine aops_nil ?_
  refine AW.seq ?_
  refine AW.region (cfg := cfg) ?_
  refine stp (fun _ h => sx h) ?_
  refine stp (fun _ h => sl h) ?_
  refine stp (fun _ h => s0 h) ?_
  refine stp (fun _ h => cs (w := good_cmpInt (It.o x) t) (x := h)) ?_
  refine stp (fun _ h => s0 h) ?_
  refine aops_nil ?_
  refine AW.ret ?_
  refine ⟨.inr rfl, ?_⟩
  refine leaves_tmp1 4 rfl ?_ (by exact hG)
  simp (disch := first | omega | decide) only [go_sem, F, aIndex_map]
  all_goals first | done | rfl | trace_state
theorem good_BSearchIt (nil : Bool) (l : List It) (t : Int) (f : FuncId) (hl : l.length ≤ 1000000) (hs : Rise It.o l) (hpu : cfg.pure f = true) (hsc : cfg.scalar f = true) (hxf : cfg.xfer f = false) (hp : ∀ x, Good Try.prog f [(itA x, false), (i64 t, false)] [] [(i64 (cmpI (It.o x) t), false)] []) : Good Try.prog 73 [(.sl 2 nil (l.map itA), false), (i64 t, false), (.clo f [], false)] [] [(i64 (posK It.o l t : Nat), false), (.b (isK It.o l t), false)] [] := by
  refine good_of_body2 49 Try.func73 rfl rfl rfl (by simp) ?_
  intro s m ha hr hv hG
  have f0 : s 0 = .v (.sl 2 nil (l.map itA)) := ha 0 _ rfl
  have f1 : s 1 = .v (i64 t) := ha 1 _ rfl
  have f2 : s 2 = .v (.clo f []) := ha 2 _ rfl
  clear ha
  have hc : True := trivial
  have F := (And.intro f0 (And.intro f1 (And.intro f2 hG)))
  obtain ⟨N, hlt, hge⟩ := bs_end It.o l t
  refine AW.seq ?_
  refine AW.region (cfg := cfg) ?_
  iterate 2 refine stp (fun _ h => s0 h) ?_
  refine aops_nil ?_
  refine AW.seq ?_
  refine AW.region (cfg := cfg) ?_
  refine stp (fun _ h => s0 h) ?_
  refine stp (fun _ h => sd h) ?_
  refine stp (fun _ h => s0 h) ?_
  refine aops_nil ?_
  refine AW.seq ?_
  refine AW.region (cfg := cfg) ?_
  iterate 3 refine stp (fun _ h => s0 h) ?_
  refine aops_nil ?_
  refine AW.seq ?_
  refine AW.block ?_
  refine AW.forN (fun k σ => ∃ s m, σ = ⟨49, s, m⟩ ∧ s 0 = .v (.sl 2 nil (l.map itA)) ∧ s 1 = .v (i64 t) ∧ s 2 = .v (.clo f []) ∧ s 8 = .v (i64 (l.length : Int)) ∧ s 9 = .v (i64 ((bsS It.o l t k).1 : Int)) ∧ s 10 = .v (i64 ((bsS It.o l t k).2 : Int)) ∧ (∀ i, (m.objs (.res i)).2 = .dead) ∧ m.G = []) (N) ?_ ?_ ?_
  · refine ⟨_, _, rfl, ?_, ?_, ?_, ?_, ?_, ?_, (by intro i; simp [Mem.set, hr]), (by exact hG)⟩ <;> try simp (disch := first | omega | decide) only [go_sem, F, aIndex_map]
    all_goals rfl
  · clear F f0 f1 f2 hr hG
    rintro k σ hk ⟨s, m, rfl, f0, f1, f2, f8, f9, f10, hr, hG⟩
    have F := (And.intro f0 (And.intro f1 (And.intro f2 (And.intro f8 (And.intro f9 (And.intro f10 hG))))))
    refine AW.seq ?_
    refine AW.seq ?_
    refine AW.region (cfg := cfg) ?_
    iterate 3 refine stp (fun _ h => s0 h) ?_
    refine aops_nil ?_
    refine cnd (fun hb => ?ht1) (fun hb => ?hf1)
    case hf1 => (have hb1 := of_decide_eq_false hb; have hlt2 := hlt _ hk; omega)
    case ht1 =>
    have hbt17 := hb
    refine AW.skip ?_
    refine AW.block ?_
    refine AW.seq ?_
    have hbl := bs_le It.o l t k
    have hlt2 := hlt k hk
    have hmid : IntKind.i64.wrap ((((bsS It.o l t k).1 : Int) + ((bsS It.o l t k).2 : Int)) / 2 ^ Int.toNat 1) = ((bsM (bsS It.o l t k) : Nat) : Int) := bs_mid (by omega)
    have F := And.intro hmid F
    refine AW.region (cfg := cfg) ?_
    iterate 2 refine stp (fun _ h => s0 h) ?_
    iterate 4 refine stp (fun _ h => sd h) ?_
    refine stp (fun _ h => s0 h) ?_
    refine aops_nil ?_
    refine AW.seq ?_
    have hbl := bs_le It.o l t k
    have hlt2 := hlt k hk
    have hmd : bsM (bsS It.o l t k) < l.length := by simp only [bsM]; omega
    refine AW.region (cfg := cfg) ?_
    iterate 3 refine stp (fun _ h => s0 h) ?_
    refine stp (fun _ h => si h) ?_
    refine stp (fun _ h => sl h) ?_
    refine stp (fun _ h => s0 h) ?_
    apply aops_step (by decide) rfl
    · intro K hK
      simp (disch := first | omega | decide) only [go_sem, F, aIndex_map, act_callv, List.map]
      apply mwp_call_sc hpu hxf hsc
      · intro Q hQ
        simp (disch := first | omega | decide) only [go_sem, F, aIndex_map, peekL, reifyL_nil, reifyL_cons, reify_v]
        exact hQ
      · exact hp _
      · simp [noPtrL, noPtr, itA]
      · rfl
      · exact hK _
    refine stp (fun _ h => s0 h) ?_
    refine aops_nil ?_
    refine cnd (fun hb => ?ht2) (fun hb => ?hf2)
    case ht2 =>
      have hw31 := hb
      try simp only [bo1, bo2, bo3, bo4, bo5, bo6] at hb
      have hbt31 := hb
      refine AW.region (cfg := cfg) ?_
      refine stp (fun _ h => s0 h) ?_
      refine stp (fun _ h => sd h) ?_
      refine stp (fun _ h => s0 h) ?_
      refine aops_nil ?_
      refine ⟨_, _, rfl, ?_, ?_, ?_, ?_, ?_, ?_, (by intro i; simp [Mem.set, hr]), (by exact hG)⟩ <;> try simp (disch := first | omega | decide) only [go_sem, F, aIndex_map]
      all_goals first | (rw [bs_yes hlt2 (bs_at1 hmd hb)]; done) | (rw [bs_yes hlt2 (bs_at1 hmd hb)]; rfl)
    case hf2 =>
      have hw31 := hb
      try simp only [bo1, bo2, bo3, bo4, bo5, bo6] at hb
      have hbt31 := hb
      refine AW.region (cfg := cfg) ?_
      iterate 2 refine stp (fun _ h => s0 h) ?_
      refine aops_nil ?_
      refine ⟨_, _, rfl, ?_, ?_, ?_, ?_, ?_, ?_, (by intro i; simp [Mem.set, hr]), (by exact hG)⟩ <;> try simp (disch := first | omega | decide) only [go_sem, F, aIndex_map]
      all_goals first | (rw [bs_no hlt2 (bs_at2 hmd hb)]; done) | (rw [bs_no hlt2 (bs_at2 hmd hb)]; rfl)
  · clear F f0 f1 f2 hr hG
    rintro σ ⟨s, m, rfl, f0, f1, f2, f8, f9, f10, hr, hG⟩
    have F := (And.intro f0 (And.intro f1 (And.intro f2 (And.intro f8 (And.intro f9 (And.intro f10 hG))))))
    refine AW.seq ?_
    refine AW.seq ?_
    refine AW.region (cfg := cfg) ?_
    iterate 3 refine stp (fun _ h => s0 h) ?_
    refine aops_nil ?_
    refine cnd (fun hb => ?ht3) (fun hb => ?hf3)
    case ht3 => (simp at hb; omega)
    case hf3 =>
    have hbt17 := hb
    refine AW.exit ?_
    refine AW.seq ?_
    rw [bs_pos hs hge] at f9
    have F := (And.intro f0 (And.intro f1 (And.intro f2 (And.intro f8 (And.intro f9 (And.intro f10 hG))))))
    by_cases hsp : ((posK It.o l t : Nat) : Int) < (l.length : Int)
    · have hd := decide_eq_true hsp
      have hpl : posK It.o l t < l.length := by omega
      have F := And.intro hd F
      refine AW.region (cfg := cfg) ?_
      iterate 8 refine stp (fun _ h => s0 h) ?_
      refine stp (fun _ h => si h) ?_
      refine stp (fun _ h => sl h) ?_
      refine stp (fun _ h => s0 h) ?_
      apply aops_step (by decide) rfl
      · intro K hK
        simp (disch := first | omega | decide) only [go_sem, F, aIndex_map, act_callv, List.map]
        apply mwp_call_sc hpu hxf hsc
        · intro Q hQ
          simp (disch := first | omega | decide) only [go_sem, F, aIndex_map, peekL, reifyL_nil, reifyL_cons, reify_v]
          exact hQ
        · exact hp _
        · simp [noPtrL, noPtr, itA]
        · rfl
        · exact hK _
      iterate 4 refine stp (fun _ h => s0 h) ?_
      refine aops_nil ?_
      refine AW.ret ?_
      refine ⟨.inr rfl, ?_⟩
      refine leaves_mwp2 (rs := [.tmp 6, .tmp 7]) rfl ?_
      simp (config := {failIfUnchanged := false}) [giveL, srcOne, rehome, freezeN, sub, upd, opn, aLoad, loadL, giveOne, reify, reifyL, readL, readOne, Mwp, M.bind, Mem.set, setAt, cellsL, hG, f0, f1, f2, f8, f9, f10, hd]
      all_goals (rw [isK_in2 hs hpl]; done)
    · have hd := decide_eq_false hsp
      have hpl : ¬ posK It.o l t < l.length := by omega
      have F := And.intro hd F
      refine AW.region (cfg := cfg) ?_
      iterate 5 refine stp (fun _ h => s0 h) ?_
      iterate 8 refine skp ?_
      iterate 3 refine stp (fun _ h => s0 h) ?_
      refine aops_nil ?_
      refine AW.ret ?_
      refine ⟨.inr rfl, ?_⟩
      refine leaves_mwp2 (rs := [.tmp 6, .tmp 7]) rfl ?_
      simp (config := {failIfUnchanged := false}) [giveL, srcOne, rehome, freezeN, sub, upd, opn, aLoad, loadL, giveOne, reify, reifyL, readL, readOne, Mwp, M.bind, Mem.set, setAt, cellsL, hG, f0, f1, f2, f8, f9, f10, hd]
      all_goals (rw [isK_out hs hpl]; done)
end Go.Vai.BA
