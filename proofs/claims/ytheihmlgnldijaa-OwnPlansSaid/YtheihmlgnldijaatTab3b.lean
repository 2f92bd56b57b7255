import Derived.Test.YtheihmlgnldijaatTab3
namespace Go.Vai.T
open Go.Proofs Go.Vai Go.Vai.N
set_option linter.unusedSimpArgs false
set_option linter.unusedVariables false
set_option maxHeartbeats 4000000
set_option maxRecDepth 100000
instance : Inhabited Nr := ⟨⟨0, 0, 0, 0, false, false, 0, false⟩⟩
theorem good_BSearchNr (nil : Bool) (l : List Nr) (t : Int) (f : FuncId) (hl : l.length ≤ 1000000) (hs : Rise Nr.of l) (hpu : cfg.pure f = true) (hsc : cfg.scalar f = true) (hxf : cfg.xfer f = false) (hp : ∀ x, Good Try.prog f [(nrA x, false), (i64 t, false)] [] [(i64 (cmpI (Nr.of x) t), false)] []) : Good Try.prog 58 [(.sl 8 nil (l.map nrA), false), (i64 t, false), (.clo f [], false)] [] [(i64 (posK Nr.of l t : Nat), false), (.b (isK Nr.of l t), false)] [] := by
  refine good_of_body2 49 Try.func58 rfl rfl rfl (by simp) ?_
  intro s m ha hr hv hG
  have f0 : s 0 = .v (.sl 8 nil (l.map nrA)) := ha 0 _ rfl
  have f1 : s 1 = .v (i64 t) := ha 1 _ rfl
  have f2 : s 2 = .v (.clo f []) := ha 2 _ rfl
  clear ha
  have hc : True := trivial
  have F := (And.intro f0 (And.intro f1 (And.intro f2 hG)))
  obtain ⟨N, hlt, hge⟩ := bs_end Nr.of l t
  refine AW.seq ?_
  refine AW.region (cfg := cfg) ?_
  iterate 2 refine stp (fun _ h => s0 h) ?_
  refine aops_nil ?_
  refine AW.seq ?_
  refine AW.region (cfg := cfg) ?_
  refine stp (fun _ h => s0 h) ?_
  refine stp (fun _ h => sd h) ?_
  refine stp (fun _ h => s0 h) ?_
  refine aops_nil ?_
  refine AW.seq ?_
  refine AW.region (cfg := cfg) ?_
  iterate 3 refine stp (fun _ h => s0 h) ?_
  refine aops_nil ?_
  refine AW.seq ?_
  refine AW.block ?_
  refine AW.forN (fun k σ => ∃ s m, σ = ⟨49, s, m⟩ ∧ s 0 = .v (.sl 8 nil (l.map nrA)) ∧ s 1 = .v (i64 t) ∧ s 2 = .v (.clo f []) ∧ s 8 = .v (i64 (l.length : Int)) ∧ s 9 = .v (i64 ((bsS Nr.of l t k).1 : Int)) ∧ s 10 = .v (i64 ((bsS Nr.of l t k).2 : Int)) ∧ (∀ i, (m.objs (.res i)).2 = .dead) ∧ m.G = []) (N) ?_ ?_ ?_
  · refine ⟨_, _, rfl, ?_, ?_, ?_, ?_, ?_, ?_, (by intro i; simp [Mem.set, hr]), (by exact hG)⟩ <;> try simp (disch := first | omega | decide) only [go_sem, F, aIndex_map]
    all_goals rfl
  · clear F f0 f1 f2 hr hG
    rintro k σ hk ⟨s, m, rfl, f0, f1, f2, f8, f9, f10, hr, hG⟩
    have F := (And.intro f0 (And.intro f1 (And.intro f2 (And.intro f8 (And.intro f9 (And.intro f10 hG))))))
    refine AW.seq ?_
    refine AW.seq ?_
    refine AW.region (cfg := cfg) ?_
    iterate 3 refine stp (fun _ h => s0 h) ?_
    refine aops_nil ?_
    refine cnd (fun hb => ?ht1) (fun hb => ?hf1)
    case hf1 => (have hb1 := of_decide_eq_false hb; have hlt2 := hlt _ hk; omega)
    case ht1 =>
    have hbt17 := hb
    refine AW.skip ?_
    refine AW.block ?_
    refine AW.seq ?_
    have hbl := bs_le Nr.of l t k
    have hlt2 := hlt k hk
    have hmid : IntKind.i64.wrap ((((bsS Nr.of l t k).1 : Int) + ((bsS Nr.of l t k).2 : Int)) / 2 ^ Int.toNat 1) = ((bsM (bsS Nr.of l t k) : Nat) : Int) := bs_mid (by omega)
    have F := And.intro hmid F
    refine AW.region (cfg := cfg) ?_
    iterate 2 refine stp (fun _ h => s0 h) ?_
    iterate 4 refine stp (fun _ h => sd h) ?_
    refine stp (fun _ h => s0 h) ?_
    refine aops_nil ?_
    refine AW.seq ?_
    have hbl := bs_le Nr.of l t k
    have hlt2 := hlt k hk
    have hmd : bsM (bsS Nr.of l t k) < l.length := by simp only [bsM]; omega
    refine AW.region (cfg := cfg) ?_
    iterate 3 refine stp (fun _ h => s0 h) ?_
    refine stp (fun _ h => si h) ?_
    refine stp (fun _ h => sl h) ?_
    refine stp (fun _ h => s0 h) ?_
    apply aops_step (by decide) rfl
    · intro K hK
      simp (disch := first | omega | decide) only [go_sem, F, aIndex_map, act_callv, List.map]
      apply mwp_call_sc hpu hxf hsc
      · intro Q hQ
        simp (disch := first | omega | decide) only [go_sem, F, aIndex_map, peekL, reifyL_nil, reifyL_cons, reify_v]
        exact hQ
      · exact hp _
      · simp [noPtrL, noPtr, nrA]
      · rfl
      · exact hK _
    refine stp (fun _ h => s0 h) ?_
    refine aops_nil ?_
    refine cnd (fun hb => ?ht2) (fun hb => ?hf2)
    case ht2 =>
      have hw31 := hb
      try simp only [bo1, bo2, bo3, bo4, bo5, bo6] at hb
      have hbt31 := hb
      refine AW.region (cfg := cfg) ?_
      refine stp (fun _ h => s0 h) ?_
      refine stp (fun _ h => sd h) ?_
      refine stp (fun _ h => s0 h) ?_
      refine aops_nil ?_
      refine ⟨_, _, rfl, ?_, ?_, ?_, ?_, ?_, ?_, (by intro i; simp [Mem.set, hr]), (by exact hG)⟩ <;> try simp (disch := first | omega | decide) only [go_sem, F, aIndex_map]
      all_goals first | (rw [bs_yes hlt2 (bs_at1 hmd hb)]; done) | (rw [bs_yes hlt2 (bs_at1 hmd hb)]; rfl)
    case hf2 =>
      have hw31 := hb
      try simp only [bo1, bo2, bo3, bo4, bo5, bo6] at hb
      have hbt31 := hb
      refine AW.region (cfg := cfg) ?_
      iterate 2 refine stp (fun _ h => s0 h) ?_
      refine aops_nil ?_
      refine ⟨_, _, rfl, ?_, ?_, ?_, ?_, ?_, ?_, (by intro i; simp [Mem.set, hr]), (by exact hG)⟩ <;> try simp (disch := first | omega | decide) only [go_sem, F, aIndex_map]
      all_goals (rw [bs_no hlt2 (bs_at2 hmd hb)]; done)
  · clear F f0 f1 f2 hr hG
    rintro σ ⟨s, m, rfl, f0, f1, f2, f8, f9, f10, hr, hG⟩
    have F := (And.intro f0 (And.intro f1 (And.intro f2 (And.intro f8 (And.intro f9 (And.intro f10 hG))))))
    refine AW.seq ?_
    refine AW.seq ?_
    refine AW.region (cfg := cfg) ?_
    iterate 3 refine stp (fun _ h => s0 h) ?_
    refine aops_nil ?_
    refine cnd (fun hb => ?ht3) (fun hb => ?hf3)
    case ht3 => (simp at hb; omega)
    case hf3 =>
    have hbt17 := hb
    refine AW.exit ?_
    refine AW.seq ?_
    rw [bs_pos hs hge] at f9
    have F := (And.intro f0 (And.intro f1 (And.intro f2 (And.intro f8 (And.intro f9 (And.intro f10 hG))))))
    by_cases hsp : ((posK Nr.of l t : Nat) : Int) < (l.length : Int)
    · have hd := decide_eq_true hsp
      have hpl : posK Nr.of l t < l.length := by omega
      have F := And.intro hd F
      refine AW.region (cfg := cfg) ?_
      iterate 8 refine stp (fun _ h => s0 h) ?_
      refine stp (fun _ h => si h) ?_
      refine stp (fun _ h => sl h) ?_
      refine stp (fun _ h => s0 h) ?_
      apply aops_step (by decide) rfl
      · intro K hK
        simp (disch := first | omega | decide) only [go_sem, F, aIndex_map, act_callv, List.map]
        apply mwp_call_sc hpu hxf hsc
        · intro Q hQ
          simp (disch := first | omega | decide) only [go_sem, F, aIndex_map, peekL, reifyL_nil, reifyL_cons, reify_v]
          exact hQ
        · exact hp _
        · simp [noPtrL, noPtr, nrA]
        · rfl
        · exact hK _
      iterate 4 refine stp (fun _ h => s0 h) ?_
      refine aops_nil ?_
      refine AW.ret ?_
      refine ⟨.inr rfl, ?_⟩
      refine leaves_mwp2 (rs := [.tmp 6, .tmp 7]) rfl ?_
      simp (config := {failIfUnchanged := false}) [giveL, srcOne, rehome, freezeN, sub, upd, opn, aLoad, loadL, giveOne, reify, reifyL, readL, readOne, Mwp, M.bind, Mem.set, setAt, cellsL, hG, f0, f1, f2, f8, f9, f10, hd]
      all_goals (rw [isK_in2 hs hpl]; done)
    · have hd := decide_eq_false hsp
      have hpl : ¬ posK Nr.of l t < l.length := by omega
      have F := And.intro hd F
      refine AW.region (cfg := cfg) ?_
      iterate 5 refine stp (fun _ h => s0 h) ?_
      iterate 8 refine skp ?_
      iterate 3 refine stp (fun _ h => s0 h) ?_
      refine aops_nil ?_
      refine AW.ret ?_
      refine ⟨.inr rfl, ?_⟩
      refine leaves_mwp2 (rs := [.tmp 6, .tmp 7]) rfl ?_
      simp (config := {failIfUnchanged := false}) [giveL, srcOne, rehome, freezeN, sub, upd, opn, aLoad, loadL, giveOne, reify, reifyL, readL, readOne, Mwp, M.bind, Mem.set, setAt, cellsL, hG, f0, f1, f2, f8, f9, f10, hd]
      all_goals (rw [isK_out hs hpl]; done)
theorem good_cmpN (x : Nr) (t : Int) : Good Try.prog 59 [(nrA x, false), (i64 t, false)] [] [(i64 (cmpI x.of t), false)] [] := by
  refine good_of_body2 9 Try.func59 rfl rfl rfl (by simp) ?_
  intro s m ha hr hv hG
  have f0 : s 0 = .v (.agg [i64 x.of, i64 x.co, i64 x.bo, i64 x.ep, .b x.he, .b x.fu, i64 x.ag, .b x.go]) := ha 0 _ rfl
  have f1 : s 1 = .v (i64 t) := ha 1 _ rfl
  clear ha
  have hc : True := trivial
  have F := (And.intro f0 (And.intro f1 hG))
  refine AW.seq ?_
  refine AW.region (cfg := cfg) ?_
  refine stp (fun _ h => sb h) ?_
  refine stp (fun _ h => s0 h) ?_
  refine aops_nil ?_
  refine AW.seq ?_
  refine AW.region (cfg := cfg) ?_
  refine stp (fun _ h => sx h) ?_
  refine stp (fun _ h => sl h) ?_
  refine stp (fun _ h => s0 h) ?_
  refine stp (fun _ h => cs (w := good_cmpInt x.of t) (x := h)) ?_
  refine stp (fun _ h => s0 h) ?_
  refine aops_nil ?_
  refine AW.ret ?_
  refine ⟨.inr rfl, ?_⟩
  refine leaves_tmp1 4 rfl ?_ (by exact hG)
  simp (disch := first | omega | decide) only [go_sem, F, aIndex_map]
  all_goals first | done | rfl | trace_state
end Go.Vai.T
