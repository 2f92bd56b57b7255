import Derived.Test.YtheihmlgnldijaatDb
namespace Go.Vai.DB
open Go.Proofs Go.Vai Go.Vai.D Go.Vai.I Go.Vai.L Go.Vai.N Go.Vai.O
set_option linter.unusedSimpArgs false
set_option linter.unusedVariables false
set_option maxHeartbeats 4000000
set_option maxRecDepth 100000
theorem good_Get11 (nil : Bool) (l : List Lsa) (hl : l.length ≤ 1000000) (t : Int) : Good Try.prog 34 [(.sl 3 nil (l.map lsaA), false), (i64 t, false)] [] [(lsaA ((gK Lsa.o l t).getD default), false)] [] := by
  refine good_of_body2 24 Try.func34 rfl rfl rfl (by simp) ?_
  intro s m ha hr hv hG
  have f0 : s 0 = .v (.sl 3 nil (l.map lsaA)) := ha 0 _ rfl
  have f1 : s 1 = .v (i64 t) := ha 1 _ rfl
  clear ha
  have hc : True := trivial
  have F := (And.intro f0 (And.intro f1 hG))
  refine AW.seq ?_
  refine AW.region (cfg := cfg) ?_
  refine stp (fun _ h => sd h) ?_
  refine aops_nil ?_
  refine AW.seq ?_
  refine AW.seq ?_
  refine AW.region (cfg := cfg) ?_
  refine stp (fun _ h => s0 h) ?_
  refine aops_nil ?_
  refine AW.block ?_
  refine AW.forN (fun k σ => ∃ s m, σ = ⟨24, s, m⟩ ∧ s 0 = .v (.sl 3 nil (l.map lsaA)) ∧ s 1 = .v (i64 t) ∧ s 4 = .lptr (.tmp 4 0) (m.objs (.tmp 4 0)).1 0 ∧ (m.objs (.tmp 4 0)).2 = .box [.v (i64 0), .v (i64 0), .v (.sl 2 true [])] ∧ s 5 = .v (i64 (k : Int)) ∧ (gK Lsa.o (l.take k) t = none) ∧ (∀ i, (m.objs (.res i)).2 = .dead) ∧ m.G = []) (l.length) ?_ ?_ ?_
  · refine ⟨_, _, rfl, ?_, ?_, ?_, ?_, ?_, ?_, (by intro i; simp [Mem.set, hr]), (by exact hG)⟩ <;> try simp (disch := first | omega | decide) only [go_sem, F, aIndex_map]
    all_goals rfl
  · clear F f0 f1 hr hG
    rintro k σ hk ⟨s, m, rfl, f0, f1, f4, o4, f5, mo0, hr, hG⟩
    obtain ⟨g4, o4⟩ : ∃ g, m.objs (.tmp 4 0) = (g, .box [.v (i64 0), .v (i64 0), .v (.sl 2 true [])]) := ⟨_, Prod.ext rfl o4⟩
    rw [o4] at f4
    have F := (And.intro f0 (And.intro f1 (And.intro f4 (And.intro f5 (And.intro o4 hG)))))
    refine AW.seq ?_
    refine AW.seq ?_
    refine AW.region (cfg := cfg) ?_
    iterate 2 refine stp (fun _ h => s0 h) ?_
    refine stp (fun _ h => sd h) ?_
    refine stp (fun _ h => s0 h) ?_
    refine aops_nil ?_
    refine cnd (fun hb => ?ht1) (fun hb => ?hf1)
    case hf1 => (simp at hb; omega)
    case ht1 =>
    have hbt9 := hb
    refine AW.skip ?_
    refine AW.seq ?_
    refine AW.block ?_
    refine AW.seq ?_
    refine AW.region (cfg := cfg) ?_
    iterate 2 refine stp (fun _ h => s0 h) ?_
    refine stp (fun _ h => si h) ?_
    refine stp (fun _ h => sx h) ?_
    refine stp (fun _ h => sl h) ?_
    iterate 2 refine stp (fun _ h => s0 h) ?_
    refine aops_nil ?_
    refine cnd (fun hb => ?ht2) (fun hb => ?hf2)
    case ht2 =>
      have hw18 := hb
      try simp only [bo1, bo2, bo3, bo4, bo5, bo6] at hb
      have hbt18 := hb
      refine AW.seq ?_
      refine AW.region (cfg := cfg) ?_
      iterate 2 refine stp (fun _ h => s0 h) ?_
      refine stp (fun _ h => si h) ?_
      refine stp (fun _ h => sl h) ?_
      refine stp0 (fun _ h => ss h) ?_
      refine aops_nil ?_
      refine AW.ret ?_
      refine ⟨.inr rfl, ?_⟩
      refine leaves_mwp2 (rs := [.cell 4 33]) rfl ?_
      simp (config := {failIfUnchanged := false}) [giveL, srcOne, rehome, freezeN, sub, ti33, upd, opn, aLoad, loadL, giveOne, reify, reifyL, readL, readOne, Mwp, M.bind, Mem.set, setAt, cellsL, hG, f0, f1, f4, f5, o4]
      all_goals (rw [gK_hit hk mo0 hbt18]; rfl)
    case hf2 =>
      have hw18 := hb
      try simp only [bo1, bo2, bo3, bo4, bo5, bo6] at hb
      have hbt18 := hb
      refine AW.skip ?_
      refine AW.region (cfg := cfg) ?_
      refine stp (fun _ h => s0 h) ?_
      refine stp (fun _ h => sd h) ?_
      refine stp (fun _ h => s0 h) ?_
      refine aops_nil ?_
      refine ⟨_, _, rfl, ?_, ?_, ?_, ?_, ?_, ?_, (by intro i; simp [Mem.set, hr]), (by exact hG)⟩ <;> try simp (disch := first | omega | decide) only [go_sem, F, aIndex_map]
      all_goals first | rfl | (rw [List.take_succ_eq_append_getElem hk, gK_append, mo0, gK_cons, if_neg hbt18, gK_nil]; rfl)
  · clear F f0 f1 hr hG
    rintro σ ⟨s, m, rfl, f0, f1, f4, o4, f5, mo0, hr, hG⟩
    obtain ⟨g4, o4⟩ : ∃ g, m.objs (.tmp 4 0) = (g, .box [.v (i64 0), .v (i64 0), .v (.sl 2 true [])]) := ⟨_, Prod.ext rfl o4⟩
    rw [o4] at f4
    have F := (And.intro f0 (And.intro f1 (And.intro f4 (And.intro f5 (And.intro o4 hG)))))
    refine AW.seq ?_
    refine AW.seq ?_
    refine AW.region (cfg := cfg) ?_
    iterate 2 refine stp (fun _ h => s0 h) ?_
    refine stp (fun _ h => sd h) ?_
    refine stp (fun _ h => s0 h) ?_
    refine aops_nil ?_
    refine cnd (fun hb => ?ht3) (fun hb => ?hf3)
    case ht3 => (simp at hb; done)
    case hf3 =>
    have hbt9 := hb
    refine AW.exit ?_
    refine AW.seq ?_
    refine AW.region (cfg := cfg) ?_
    refine stp (fun _ h => su h) ?_
    refine stp0 (fun _ h => ss h) ?_
    refine aops_nil ?_
    refine AW.ret ?_
    refine ⟨.inr rfl, ?_⟩
    refine leaves_mwp2 (rs := [.cell 4 33]) rfl ?_
    simp (config := {failIfUnchanged := false}) [giveL, srcOne, rehome, freezeN, sub, ti33, upd, opn, aLoad, loadL, giveOne, reify, reifyL, readL, readOne, Mwp, M.bind, Mem.set, setAt, cellsL, hG, f0, f1, f4, f5, o4]
    all_goals (rw [List.take_length] at mo0; rw [mo0]; rfl)
theorem good_BSearchLsa (nil : Bool) (l : List Lsa) (t : Int) (f : FuncId) (hl : l.length ≤ 1000000) (hs : Rise Lsa.o l) (hpu : cfg.pure f = true) (hsc : cfg.scalar f = true) (hxf : cfg.xfer f = false) (hp : ∀ x, Good Try.prog f [(lsaA x, false), (i64 t, false)] [] [(i64 (cmpI (Lsa.o x) t), false)] []) : Good Try.prog 54 [(.sl 3 nil (l.map lsaA), false), (i64 t, false), (.clo f [], false)] [] [(i64 (posK Lsa.o l t : Nat), false), (.b (isK Lsa.o l t), false)] [] := by
  refine good_of_body2 49 Try.func54 rfl rfl rfl (by simp) ?_
  intro s m ha hr hv hG
  have f0 : s 0 = .v (.sl 3 nil (l.map lsaA)) := ha 0 _ rfl
  have f1 : s 1 = .v (i64 t) := ha 1 _ rfl
  have f2 : s 2 = .v (.clo f []) := ha 2 _ rfl
  clear ha
  have hc : True := trivial
  have F := (And.intro f0 (And.intro f1 (And.intro f2 hG)))
  obtain ⟨N, hlt, hge⟩ := bs_end Lsa.o l t
  refine AW.seq ?_
  refine AW.region (cfg := cfg) ?_
  iterate 2 refine stp (fun _ h => s0 h) ?_
  refine aops_nil ?_
  refine AW.seq ?_
  refine AW.region (cfg := cfg) ?_
  refine stp (fun _ h => s0 h) ?_
  refine stp (fun _ h => sd h) ?_
  refine stp (fun _ h => s0 h) ?_
  refine aops_nil ?_
  refine AW.seq ?_
  refine AW.region (cfg := cfg) ?_
  iterate 3 refine stp (fun _ h => s0 h) ?_
  refine aops_nil ?_
  refine AW.seq ?_
  refine AW.block ?_
  refine AW.forN (fun k σ => ∃ s m, σ = ⟨49, s, m⟩ ∧ s 0 = .v (.sl 3 nil (l.map lsaA)) ∧ s 1 = .v (i64 t) ∧ s 2 = .v (.clo f []) ∧ s 8 = .v (i64 (l.length : Int)) ∧ s 9 = .v (i64 ((bsS Lsa.o l t k).1 : Int)) ∧ s 10 = .v (i64 ((bsS Lsa.o l t k).2 : Int)) ∧ (∀ i, (m.objs (.res i)).2 = .dead) ∧ m.G = []) (N) ?_ ?_ ?_
  · refine ⟨_, _, rfl, ?_, ?_, ?_, ?_, ?_, ?_, (by intro i; simp [Mem.set, hr]), (by exact hG)⟩ <;> try simp (disch := first | omega | decide) only [go_sem, F, aIndex_map]
    all_goals rfl
  · clear F f0 f1 f2 hr hG
    rintro k σ hk ⟨s, m, rfl, f0, f1, f2, f8, f9, f10, hr, hG⟩
    have F := (And.intro f0 (And.intro f1 (And.intro f2 (And.intro f8 (And.intro f9 (And.intro f10 hG))))))
    refine AW.seq ?_
    refine AW.seq ?_
    refine AW.region (cfg := cfg) ?_
    iterate 3 refine stp (fun _ h => s0 h) ?_
    refine aops_nil ?_
    refine cnd (fun hb => ?ht1) (fun hb => ?hf1)
    case hf1 => (have hb1 := of_decide_eq_false hb; have hlt2 := hlt _ hk; omega)
    case ht1 =>
    have hbt17 := hb
    refine AW.skip ?_
    refine AW.block ?_
    refine AW.seq ?_
    have hbl := bs_le Lsa.o l t k
    have hlt2 := hlt k hk
    have hmid : IntKind.i64.wrap ((((bsS Lsa.o l t k).1 : Int) + ((bsS Lsa.o l t k).2 : Int)) / 2 ^ Int.toNat 1) = ((bsM (bsS Lsa.o l t k) : Nat) : Int) := bs_mid (by omega)
    have F := And.intro hmid F
    refine AW.region (cfg := cfg) ?_
    iterate 2 refine stp (fun _ h => s0 h) ?_
    iterate 4 refine stp (fun _ h => sd h) ?_
    refine stp (fun _ h => s0 h) ?_
    refine aops_nil ?_
    refine AW.seq ?_
    have hbl := bs_le Lsa.o l t k
    have hlt2 := hlt k hk
    have hmd : bsM (bsS Lsa.o l t k) < l.length := by simp only [bsM]; omega
    refine AW.region (cfg := cfg) ?_
    iterate 3 refine stp (fun _ h => s0 h) ?_
    refine stp (fun _ h => si h) ?_
    refine stp (fun _ h => sl h) ?_
    refine stp (fun _ h => s0 h) ?_
    apply aops_step (by decide) rfl
    · intro K hK
      simp (disch := first | omega | decide) only [go_sem, F, aIndex_map, act_callv, List.map]
      apply mwp_call_sc hpu hxf hsc
      · intro Q hQ
        simp (disch := first | omega | decide) only [go_sem, F, aIndex_map, peekL, reifyL_nil, reifyL_cons, reify_v]
        exact hQ
      · exact hp _
      · simp [noPtrL, noPtr, lsaA]
      · rfl
      · exact hK _
    refine stp (fun _ h => s0 h) ?_
    refine aops_nil ?_
    refine cnd (fun hb => ?ht2) (fun hb => ?hf2)
    case ht2 =>
      have hw31 := hb
      try simp only [bo1, bo2, bo3, bo4, bo5, bo6] at hb
      have hbt31 := hb
      refine AW.region (cfg := cfg) ?_
      refine stp (fun _ h => s0 h) ?_
      refine stp (fun _ h => sd h) ?_
      refine stp (fun _ h => s0 h) ?_
      refine aops_nil ?_
      refine ⟨_, _, rfl, ?_, ?_, ?_, ?_, ?_, ?_, (by intro i; simp [Mem.set, hr]), (by exact hG)⟩ <;> try simp (disch := first | omega | decide) only [go_sem, F, aIndex_map]
      all_goals first | (rw [bs_yes hlt2 (bs_at1 hmd hb)]; done) | (rw [bs_yes hlt2 (bs_at1 hmd hb)]; rfl)
    case hf2 =>
      have hw31 := hb
      try simp only [bo1, bo2, bo3, bo4, bo5, bo6] at hb
      have hbt31 := hb
      refine AW.region (cfg := cfg) ?_
      iterate 2 refine stp (fun _ h => s0 h) ?_
      refine aops_nil ?_
      refine ⟨_, _, rfl, ?_, ?_, ?_, ?_, ?_, ?_, (by intro i; simp [Mem.set, hr]), (by exact hG)⟩ <;> try simp (disch := first | omega | decide) only [go_sem, F, aIndex_map]
      all_goals (rw [bs_no hlt2 (bs_at2 hmd hb)]; done)
  · clear F f0 f1 f2 hr hG
    rintro σ ⟨s, m, rfl, f0, f1, f2, f8, f9, f10, hr, hG⟩
    have F := (And.intro f0 (And.intro f1 (And.intro f2 (And.intro f8 (And.intro f9 (And.intro f10 hG))))))
    refine AW.seq ?_
    refine AW.seq ?_
    refine AW.region (cfg := cfg) ?_
    iterate 3 refine stp (fun _ h => s0 h) ?_
    refine aops_nil ?_
    refine cnd (fun hb => ?ht3) (fun hb => ?hf3)
    case ht3 => (simp at hb; omega)
    case hf3 =>
    have hbt17 := hb
    refine AW.exit ?_
    refine AW.seq ?_
    rw [bs_pos hs hge] at f9
    have F := (And.intro f0 (And.intro f1 (And.intro f2 (And.intro f8 (And.intro f9 (And.intro f10 hG))))))
    by_cases hsp : ((posK Lsa.o l t : Nat) : Int) < (l.length : Int)
    · have hd := decide_eq_true hsp
      have hpl : posK Lsa.o l t < l.length := by omega
      have F := And.intro hd F
      refine AW.region (cfg := cfg) ?_
      iterate 8 refine stp (fun _ h => s0 h) ?_
      refine stp (fun _ h => si h) ?_
      refine stp (fun _ h => sl h) ?_
      refine stp (fun _ h => s0 h) ?_
      apply aops_step (by decide) rfl
      · intro K hK
        simp (disch := first | omega | decide) only [go_sem, F, aIndex_map, act_callv, List.map]
        apply mwp_call_sc hpu hxf hsc
        · intro Q hQ
          simp (disch := first | omega | decide) only [go_sem, F, aIndex_map, peekL, reifyL_nil, reifyL_cons, reify_v]
          exact hQ
        · exact hp _
        · simp [noPtrL, noPtr, lsaA]
        · rfl
        · exact hK _
      iterate 4 refine stp (fun _ h => s0 h) ?_
      refine aops_nil ?_
      refine AW.ret ?_
      refine ⟨.inr rfl, ?_⟩
      refine leaves_mwp2 (rs := [.tmp 6, .tmp 7]) rfl ?_
      simp (config := {failIfUnchanged := false}) [giveL, srcOne, rehome, freezeN, sub, upd, opn, aLoad, loadL, giveOne, reify, reifyL, readL, readOne, Mwp, M.bind, Mem.set, setAt, cellsL, hG, f0, f1, f2, f8, f9, f10, hd]
      all_goals (rw [isK_in2 hs hpl]; done)
    · have hd := decide_eq_false hsp
      have hpl : ¬ posK Lsa.o l t < l.length := by omega
      have F := And.intro hd F
      refine AW.region (cfg := cfg) ?_
      iterate 5 refine stp (fun _ h => s0 h) ?_
      iterate 8 refine skp ?_
      iterate 3 refine stp (fun _ h => s0 h) ?_
      refine aops_nil ?_
      refine AW.ret ?_
      refine ⟨.inr rfl, ?_⟩
      refine leaves_mwp2 (rs := [.tmp 6, .tmp 7]) rfl ?_
      simp (config := {failIfUnchanged := false}) [giveL, srcOne, rehome, freezeN, sub, upd, opn, aLoad, loadL, giveOne, reify, reifyL, readL, readOne, Mwp, M.bind, Mem.set, setAt, cellsL, hG, f0, f1, f2, f8, f9, f10, hd]
      all_goals (rw [isK_out hs hpl]; done)
theorem good_CloneLsa (nil : Bool) (l : List Lsa) (hl : l.length ≤ 1000000000000) (hz : nil = true → l = []) : Good Try.prog 50 [(.sl 3 nil (l.map lsaA), false)] [] [(.sl 3 nil (l.map lsaA), true)] [] := by
  refine good_of_body3 8 Try.func50 rfl rfl rfl (by simp) ?_
  intro s m ha hr hv hG
  have f0 : s 0 = .v (.sl 3 nil (l.map lsaA)) := ha 0 _ rfl
  clear ha
  have hc : True := trivial
  have F := (And.intro f0 hG)
  refine AW.seq ?_
  refine AW.region (cfg := cfg) ?_
  refine stp (fun _ h => s0 h) ?_
  refine aops_nil ?_
  refine AW.seq ?_
  refine AW.seq ?_
  refine AW.region (cfg := cfg) ?_
  iterate 2 refine stp (fun _ h => s0 h) ?_
  refine aops_nil ?_
  refine cnd (fun hb => ?ht1) (fun hb => ?hf1)
  case ht1 =>
    have hw4 := hb
    try simp only [bo1, bo2, bo3, bo4, bo5, bo6] at hb
    have hbt4 := hb
    refine AW.seq ?_
    refine AW.region (cfg := cfg) ?_
    refine stp (fun _ h => s0 h) ?_
    refine aops_nil ?_
    refine AW.ret ?_
    refine ⟨.inr rfl, ?_⟩
    (obtain rfl : nil = true := (by simpa using hb); obtain rfl := hz rfl; refine ⟨_, nilEq_nil (nilEq_refl _), leaves_own1 2 rfl (by simp (disch := first | omega | decide) only [go_sem, F, aIndex_map] <;> rfl) (by simp (disch := first | omega | decide) only [go_sem, F, aIndex_map] <;> rfl) (by decide) (by simp [sub, List.take_of_length_le]) (by exact hG)⟩)
  case hf1 =>
    have hw4 := hb
    try simp only [bo1, bo2, bo3, bo4, bo5, bo6] at hb
    have hbt4 := hb
    refine AW.skip ?_
    refine AW.seq ?_
    refine AW.region (cfg := cfg) ?_
    refine stp (fun _ h => sq h) ?_
    refine stp (fun _ h => s0 h) ?_
    refine stp (fun _ h => sp h) ?_
    refine stp (fun _ h => st h) ?_
    refine aops_nil ?_
    refine AW.ret ?_
    refine ⟨.inr rfl, ?_⟩
    (obtain rfl : nil = false := (by simpa using hb); refine leavesN (leaves_own1 2 rfl (by simp (disch := first | omega | decide) only [go_sem, F, aIndex_map] <;> rfl) (by simp (disch := first | omega | decide) only [go_sem, F, aIndex_map] <;> rfl) (by decide) (by simp [sub, List.take_of_length_le]) (by exact hG)))
theorem good_cmpDb (x : Lsa) (t : Int) : Good Try.prog 55 [(lsaA x, false), (i64 t, false)] [] [(i64 (cmpI (Lsa.o x) t), false)] [] := by
  refine good_of_body2 9 Try.func55 rfl rfl rfl (by simp) ?_
  intro s m ha hr hv hG
  have f0 : s 0 = .v (.agg [i64 x.o, i64 x.s, .sl 2 x.nil (x.ls.map linkA)]) := ha 0 _ rfl
  have f1 : s 1 = .v (i64 t) := ha 1 _ rfl
  clear ha
  have hc : True := trivial
  have F := (And.intro f0 (And.intro f1 hG))
  refine AW.seq ?_
  refine AW.region (cfg := cfg) ?_
  refine stp (fun _ h => sb h) ?_
  refine stp (fun _ h => s0 h) ?_
  refine aops_nil ?_
  refine AW.seq ?_
  refine AW.region (cfg := cfg) ?_
  refine stp (fun _ h => sx h) ?_
  refine stp (fun _ h => sl h) ?_
  refine stp (fun _ h => s0 h) ?_
  refine stp (fun _ h => cs (w := good_cmpInt (Lsa.o x) t) (x := h)) ?_
  refine stp (fun _ h => s0 h) ?_
  refine aops_nil ?_
  refine AW.ret ?_
  refine ⟨.inr rfl, ?_⟩
  refine leaves_tmp1 4 rfl ?_ (by exact hG)
  simp (disch := first | omega | decide) only [go_sem, F, aIndex_map]
  all_goals first | done | rfl | trace_state
theorem good_findDb (nil : Bool) (l : List Lsa) (t : Int) (hl : l.length ≤ 1000000) (hs : Srt Lsa.o l) : Good Try.prog 42 [(.sl 3 nil (l.map lsaA), false), (i64 t, false)] [] [(i64 (posK Lsa.o l t : Nat), false), (.b (isK Lsa.o l t), false)] [] := by
  refine good_of_body2 11 Try.func42 rfl rfl rfl (by simp) ?_
  intro s m ha hr hv hG
  have f0 : s 0 = .v (.sl 3 nil (l.map lsaA)) := ha 0 _ rfl
  have f1 : s 1 = .v (i64 t) := ha 1 _ rfl
  clear ha
  have hc : True := trivial
  have F := (And.intro f0 (And.intro f1 hG))
  refine AW.seq ?_
  refine AW.region (cfg := cfg) ?_
  iterate 2 refine stp (fun _ h => s0 h) ?_
  refine aops_nil ?_
  refine AW.seq ?_
  refine AW.region (cfg := cfg) ?_
  iterate 2 refine stp (fun _ h => s0 h) ?_
  refine stp (fun _ h => ct (w := good_BSearchLsa nil l t 55 hl (rise_iff.2 hs) rfl rfl rfl (fun x => good_cmpDb x t)) (x := h)) ?_
  iterate 4 refine stp (fun _ h => s0 h) ?_
  refine aops_nil ?_
  refine AW.ret ?_
  refine ⟨.inr rfl, ?_⟩
  refine leaves_mwp2 (rs := [.tmp 4, .tmp 5]) rfl ?_
  simp (config := {failIfUnchanged := false}) [giveL, srcOne, rehome, freezeN, sub, upd, opn, aLoad, loadL, giveOne, reify, reifyL, readL, readOne, Mwp, M.bind, Mem.set, setAt, cellsL, hG, f0, f1]
  all_goals first | done | rfl | exact ⟨rfl, rfl⟩ | trace_state
end Go.Vai.DB
