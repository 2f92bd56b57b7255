import Derived.Test.YtbnpnljlfnaheaapIt5
namespace Go.Vai.IT
open Go.Proofs Go.Vai Go.Vai.I Go.Vai.N
set_option linter.unusedSimpArgs false
set_option linter.unusedVariables false
set_option maxHeartbeats 4000000
set_option maxRecDepth 100000
theorem owe_flag {nil : Bool} {l x : List It} {k : Nat} {t : Int} (hz : nil = true → l = []) (h : isK It.o (oweS l x k) t = true) : (nil && decide (k = 0)) = false := by
  cases nil with
  | false => rfl
  | true =>
    rw [hz rfl] at h
    cases k with
    | zero => simp [oweS, isK] at h
    | succ k => simp
theorem pay_flag {nil : Bool} {l x : List It} {k : Nat} {t : Int} (hz : nil = true → l = []) (h : isK It.o (payS l x k) t = true) : nil = false := by
  cases nil with
  | false => rfl
  | true =>
    rw [hz rfl] at h
    have : ∀ k, payS [] x k = [] := fun k => by
      induction k with
      | zero => rfl
      | succ k ih =>
        by_cases hk : k < x.length
        · rw [payS_succ hk, ih]; rfl
        · rw [payS, List.take_of_length_le (by omega)] at ih ⊢; exact ih
    rw [this] at h; simp [isK] at h
theorem wr_no {l x : List It} (h : (!(itOK l && x.all it1)) = false) : itOK l = true ∧ ∀ y ∈ x, it1 y = true := by
  simp only [Bool.not_eq_false', Bool.and_eq_true, List.all_eq_true] at h; exact h
theorem oweR_no {nil : Bool} {l x : List It} (h : (!(itOK l && x.all it1)) = true) : oweR nil l x = (true, [], 1) := by
  have := bnot_t h
  rw [oweR, this]; rfl
theorem payR_no {nil : Bool} {l x : List It} (h : (!(itOK l && x.all it1)) = true) : payR nil l x = (true, [], 1) := by
  have := bnot_t h
  rw [payR, this]; rfl
theorem oweR_ok {nil : Bool} {l x : List It} (h : (!(itOK l && x.all it1)) = false) : oweR nil l x = (nil && decide (x.length = 0), oweS l x x.length, 0) := by
  have := bnot_f h
  rw [oweR, this]; rfl
theorem payR_ok {nil : Bool} {l x : List It} (h : (!(itOK l && x.all it1)) = false) : payR nil l x = (nil, payS l x x.length, 0) := by
  have := bnot_f h
  rw [payR, this]; rfl
theorem good_Owe (nil : Bool) (l : List It) (hl : l.length ≤ 1000) (hz : nil = true → l = []) (nx : Bool) (x : List It) (hx : x.length ≤ 1000000) : Good Try.prog 9 [(.sl 2 nil (l.map itA), false), (.sl 2 nx (x.map itA), false)] [] [(.sl 2 (oweR nil l x).1 ((oweR nil l x).2.1.map itA), false), (i64 (oweR nil l x).2.2, false)] [] := by
  refine good_of_body2 50 Try.func9 rfl rfl rfl (by simp) ?_
  intro s m ha hr hv hG
  have f0 : s 0 = .v (.sl 2 nil (l.map itA)) := ha 0 _ rfl
  have f1 : s 1 = .v (.sl 2 nx (x.map itA)) := ha 1 _ rfl
  clear ha
  have hc : True := trivial
  have F := (And.intro f0 (And.intro f1 hG))
  refine AW.seq ?_
  refine AW.region (cfg := cfg) ?_
  iterate 2 refine stp (fun _ h => s0 h) ?_
  refine aops_nil ?_
  refine AW.seq ?_
  refine AW.seq ?_
  refine AW.region (cfg := cfg) ?_
  iterate 2 refine stp (fun _ h => s0 h) ?_
  refine stp (fun _ h => cs (w := good_wrong nil l (by omega) nx x (by omega)) (x := h)) ?_
  refine aops_nil ?_
  refine cnd (fun hb => ?ht1) (fun hb => ?hf1)
  case ht1 =>
    have hw13 := hb
    try simp only [bo1, bo2, bo3, bo4, bo5, bo6] at hb
    have hbt13 := hb
    refine AW.seq ?_
    refine AW.region (cfg := cfg) ?_
    iterate 2 refine stp (fun _ h => s0 h) ?_
    refine aops_nil ?_
    refine AW.ret ?_
    refine ⟨.inr rfl, ?_⟩
    refine leaves_mwp2 (rs := [.tmp 4, .tmp 5]) rfl ?_
    simp (config := {failIfUnchanged := false}) [giveL, srcOne, rehome, freezeN, sub, upd, opn, aLoad, loadL, giveOne, reify, reifyL, readL, readOne, Mwp, M.bind, Mem.set, setAt, cellsL, hG, f0, f1]
    all_goals (rw [oweR_no hw13]; simp; done)
  case hf1 =>
    have hw13 := hb
    try simp only [bo1, bo2, bo3, bo4, bo5, bo6] at hb
    have hbt13 := hb
    refine AW.skip ?_
    refine AW.seq ?_
    obtain ⟨h0, hx1⟩ := wr_no hw13
    refine AW.region (cfg := cfg) ?_
    refine stp (fun _ h => s0 h) ?_
    refine stp (fun _ h => co1 (w := good_CloneIt nil l (by omega) hz) (x := h)) ?_
    refine stp (fun _ h => st h) ?_
    refine aops_nil ?_
    refine AW.seq ?_
    refine AW.seq ?_
    refine AW.region (cfg := cfg) ?_
    refine stp (fun _ h => s0 h) ?_
    refine stp (fun _ h => sd h) ?_
    refine stp (fun _ h => s0 h) ?_
    refine aops_nil ?_
    refine AW.block ?_
    refine AW.forN (fun k σ => ∃ s m, σ = ⟨50, s, m⟩ ∧ s 6 = .own (.var 6) (m.objs (.var 6)).1 0 ((oweS l x k).length) ∧ (m.objs (.var 6)).2 = .arr (nil && decide (k = 0)) 2 ((oweS l x k).map itA) ∧ s 16 = .v (.sl 2 nx (x.map itA)) ∧ s 17 = .v (i64 (x.length : Int)) ∧ s 18 = .v (i64 (k : Int)) ∧ (∀ i, (m.objs (.res i)).2 = .dead) ∧ m.G = []) (x.length) ?_ ?_ ?_
    · refine ⟨_, _, rfl, ?_, ?_, ?_, ?_, ?_, (by intro i; simp [Mem.set, hr]), (by exact hG)⟩ <;> try simp (disch := first | omega | decide) only [go_sem, F, aIndex_map]
      all_goals first | rfl | (simp [oweS]; done)
    · clear F f0 f1 hr hG
      rintro k σ hk ⟨s, m, rfl, f6, o6, f16, f17, f18, hr, hG⟩
      obtain ⟨g6, o6⟩ : ∃ g, m.objs (.var 6) = (g, .arr (nil && decide (k = 0)) 2 ((oweS l x k).map itA)) := ⟨_, Prod.ext rfl o6⟩
      rw [o6] at f6
      have F := (And.intro f6 (And.intro f16 (And.intro f17 (And.intro f18 (And.intro o6 hG)))))
      refine AW.seq ?_
      refine AW.region (cfg := cfg) ?_
      refine stp (fun _ h => s0 h) ?_
      refine aops_nil ?_
      refine AW.seq ?_
      refine cnd (fun hb => ?ht2) (fun hb => ?hf2)
      case hf2 => (simp at hb; omega)
      case ht2 =>
      have hbt19 := hb
      refine AW.skip ?_
      refine AW.seq ?_
      refine AW.block ?_
      refine AW.seq ?_
      refine AW.region (cfg := cfg) ?_
      refine stp (fun _ h => si h) ?_
      refine stp (fun _ h => sl h) ?_
      refine stp (fun _ h => sd h) ?_
      refine stp0 (fun _ h => ss h) ?_
      refine aops_nil ?_
      refine AW.seq ?_
      have hok := owe_all h0 hx1 k
      have hle := it_len hok
      have hs := it_srt hok
      refine AW.region (cfg := cfg) ?_
      refine stp (fun _ h => s0 h) ?_
      refine stp (fun _ h => sx h) ?_
      refine stp (fun _ h => sl h) ?_
      refine stp (fun _ h => ct (w := good_findI (nil && decide (k = 0)) (oweS l x k) x[k].o (by omega) hs) (x := h)) ?_
      iterate 5 refine stp (fun _ h => s0 h) ?_
      refine aops_nil ?_
      refine AW.seq ?_
      refine AW.seq ?_
      refine AW.region (cfg := cfg) ?_
      iterate 2 refine stp (fun _ h => s0 h) ?_
      refine aops_nil ?_
      refine cnd (fun hb => ?ht3) (fun hb => ?hf3)
      case ht3 =>
        have hw30 := hb
        try simp only [bo1, bo2, bo3, bo4, bo5, bo6] at hb
        have hbt30 := hb
        refine AW.seq ?_
        have hn : isK It.o (oweS l x k) x[k].o = false := by simpa using hbt30
        have hp := pos_le It.o (oweS l x k) x[k].o
        refine AW.region (cfg := cfg) ?_
        iterate 2 refine stp (fun _ h => s0 h) ?_
        refine stp (fun _ h => sl h) ?_
        refine stp (fun _ h => sq h) ?_
        refine stp (fun _ h => cx1 (w := good_InsIt (nil && decide (k = 0)) (oweS l x k) x[k] (posK It.o (oweS l x k) x[k].o) hp (by omega)) (x := h)) ?_
        refine stp (fun _ h => st h) ?_
        refine aops_nil ?_
        refine AW.exit ?_
        refine AW.region (cfg := cfg) ?_
        refine stp (fun _ h => sd h) ?_
        refine stp (fun _ h => s0 h) ?_
        refine aops_nil ?_
        refine ⟨_, _, rfl, ?_, ?_, ?_, ?_, ?_, (by intro i; simp [Mem.set, hr]), (by exact hG)⟩ <;> try simp (disch := first | omega | decide) only [go_sem, F, aIndex_map]
        all_goals first | rfl | (rw [oweS_succ hk, oweF_new hok hn (hx1 _ (List.getElem_mem hk))]; done) | (rw [oweS_succ hk, oweF_new hok hn (hx1 _ (List.getElem_mem hk))]; simp; done)
      case hf3 =>
        have hw30 := hb
        try simp only [bo1, bo2, bo3, bo4, bo5, bo6] at hb
        have hbt30 := hb
        refine AW.skip ?_
        have hn : isK It.o (oweS l x k) x[k].o = true := by simpa using hbt30
        have hp := pos_lt hs hn
        have hfl := owe_flag hz hn
        obtain ⟨y, hy⟩ : ∃ y : It, y = ⟨(oweS l x k)[posK It.o (oweS l x k) x[k].o].o, if x[k].s > (oweS l x k)[posK It.o (oweS l x k) x[k].o].s then x[k].s else (oweS l x k)[posK It.o (oweS l x k) x[k].o].s⟩ := ⟨_, rfl⟩
        have hst : setCells (itA (oweS l x k)[posK It.o (oweS l x k) x[k].o]) 1 [i64 (if x[k].s > (oweS l x k)[posK It.o (oweS l x k) x[k].o].s then x[k].s else (oweS l x k)[posK It.o (oweS l x k) x[k].o].s)] = itA y := by (rw [hy]; rfl)
        refine AW.draw (cfg := cfg) (by kernel_rfl) (by kernel_rfl) (by kernel_rfl) ?_
        iterate 4 refine dstp (fun _ h => s0 h) ?_
        refine dstp (fun _ h => si h) ?_
        refine dstp (fun _ h => sxe h) ?_
        refine dstp (fun _ h => sle h) ?_
        refine dstp (fun _ h => sx h) ?_
        refine dstp (fun _ h => sl h) ?_
        refine dstp (fun _ h => sd h) ?_
        refine dstp (fun _ h => si h) ?_
        refine dstp (fun _ h => sxe h) ?_
        refine dstp0 (fun _ h => sf2 (w := hst) (x := h)) ?_
        refine adraw_nil (by kernel_rfl) ?_
        refine AW.region (cfg := cfg) ?_
        refine stp (fun _ h => sd h) ?_
        refine stp (fun _ h => s0 h) ?_
        refine aops_nil ?_
        refine ⟨_, _, rfl, ?_, ?_, ?_, ?_, ?_, (by intro i; simp [Mem.set, hr]), (by exact hG)⟩ <;> try simp (disch := first | omega | decide) only [go_sem, F, aIndex_map]
        all_goals first | rfl | (rw [oweS_succ hk, oweF_old hok hn]; simp; done) | (rw [oweS_succ hk, oweF_old hok hn, ← hy, hfl]; simp; done)
    · clear F f0 f1 hr hG
      rintro σ ⟨s, m, rfl, f6, o6, f16, f17, f18, hr, hG⟩
      obtain ⟨g6, o6⟩ : ∃ g, m.objs (.var 6) = (g, .arr (nil && decide (x.length = 0)) 2 ((oweS l x x.length).map itA)) := ⟨_, Prod.ext rfl o6⟩
      rw [o6] at f6
      have F := (And.intro f6 (And.intro f16 (And.intro f17 (And.intro f18 (And.intro o6 hG)))))
      refine AW.seq ?_
      refine AW.region (cfg := cfg) ?_
      refine stp (fun _ h => s0 h) ?_
      refine aops_nil ?_
      refine AW.seq ?_
      refine cnd (fun hb => ?ht4) (fun hb => ?hf4)
      case ht4 => (simp at hb; done)
      case hf4 =>
      have hbt19 := hb
      refine AW.exit ?_
      refine AW.seq ?_
      refine AW.region (cfg := cfg) ?_
      refine stp (fun _ h => s0 h) ?_
      refine stp (fun _ h => sm h) ?_
      refine stp (fun _ h => s0 h) ?_
      refine aops_nil ?_
      refine AW.ret ?_
      refine ⟨.inr rfl, ?_⟩
      refine leaves_mwp2 (rs := [.tmp 4, .tmp 5]) rfl ?_
      simp (config := {failIfUnchanged := false}) [giveL, srcOne, rehome, freezeN, sub, upd, opn, aLoad, loadL, giveOne, reify, reifyL, readL, readOne, Mwp, M.bind, Mem.set, setAt, cellsL, hG, f6, f16, f17, f18, o6]
      all_goals (rw [oweR_ok hw13]; simp [List.take_of_length_le]; done)
theorem good_Paid (nil : Bool) (l : List It) (hl : l.length ≤ 1000) (hz : nil = true → l = []) (nx : Bool) (x : List It) (hx : x.length ≤ 1000000) : Good Try.prog 10 [(.sl 2 nil (l.map itA), false), (.sl 2 nx (x.map itA), false)] [] [(.sl 2 (payR nil l x).1 ((payR nil l x).2.1.map itA), false), (i64 (payR nil l x).2.2, false)] [] := by
  refine good_of_body2 47 Try.func10 rfl rfl rfl (by simp) ?_
  intro s m ha hr hv hG
  have f0 : s 0 = .v (.sl 2 nil (l.map itA)) := ha 0 _ rfl
  have f1 : s 1 = .v (.sl 2 nx (x.map itA)) := ha 1 _ rfl
  clear ha
  have hc : True := trivial
  have F := (And.intro f0 (And.intro f1 hG))
  refine AW.seq ?_
  refine AW.region (cfg := cfg) ?_
  iterate 2 refine stp (fun _ h => s0 h) ?_
  refine aops_nil ?_
  refine AW.seq ?_
  refine AW.seq ?_
  refine AW.region (cfg := cfg) ?_
  iterate 2 refine stp (fun _ h => s0 h) ?_
  refine stp (fun _ h => cs (w := good_wrong nil l (by omega) nx x (by omega)) (x := h)) ?_
  refine aops_nil ?_
  refine cnd (fun hb => ?ht1) (fun hb => ?hf1)
  case ht1 =>
    have hw13 := hb
    try simp only [bo1, bo2, bo3, bo4, bo5, bo6] at hb
    have hbt13 := hb
    refine AW.seq ?_
    refine AW.region (cfg := cfg) ?_
    iterate 2 refine stp (fun _ h => s0 h) ?_
    refine aops_nil ?_
    refine AW.ret ?_
    refine ⟨.inr rfl, ?_⟩
    refine leaves_mwp2 (rs := [.tmp 4, .tmp 5]) rfl ?_
    simp (config := {failIfUnchanged := false}) [giveL, srcOne, rehome, freezeN, sub, upd, opn, aLoad, loadL, giveOne, reify, reifyL, readL, readOne, Mwp, M.bind, Mem.set, setAt, cellsL, hG, f0, f1]
    all_goals (rw [payR_no hw13]; simp; done)
  case hf1 =>
    have hw13 := hb
    try simp only [bo1, bo2, bo3, bo4, bo5, bo6] at hb
    have hbt13 := hb
    refine AW.skip ?_
    refine AW.seq ?_
    obtain ⟨h0, hx1⟩ := wr_no hw13
    refine AW.region (cfg := cfg) ?_
    refine stp (fun _ h => s0 h) ?_
    refine stp (fun _ h => co1 (w := good_CloneIt nil l (by omega) hz) (x := h)) ?_
    refine stp (fun _ h => st h) ?_
    refine aops_nil ?_
    refine AW.seq ?_
    refine AW.seq ?_
    refine AW.region (cfg := cfg) ?_
    refine stp (fun _ h => s0 h) ?_
    refine stp (fun _ h => sd h) ?_
    refine stp (fun _ h => s0 h) ?_
    refine aops_nil ?_
    refine AW.block ?_
    refine AW.forN (fun k σ => ∃ s m, σ = ⟨47, s, m⟩ ∧ s 6 = .own (.var 6) (m.objs (.var 6)).1 0 ((payS l x k).length) ∧ (m.objs (.var 6)).2 = .arr nil 2 ((payS l x k).map itA) ∧ s 16 = .v (.sl 2 nx (x.map itA)) ∧ s 17 = .v (i64 (x.length : Int)) ∧ s 18 = .v (i64 (k : Int)) ∧ (∀ i, (m.objs (.res i)).2 = .dead) ∧ m.G = []) (x.length) ?_ ?_ ?_
    · refine ⟨_, _, rfl, ?_, ?_, ?_, ?_, ?_, (by intro i; simp [Mem.set, hr]), (by exact hG)⟩ <;> try simp (disch := first | omega | decide) only [go_sem, F, aIndex_map]
      all_goals rfl
    · clear F f0 f1 hr hG
      rintro k σ hk ⟨s, m, rfl, f6, o6, f16, f17, f18, hr, hG⟩
      obtain ⟨g6, o6⟩ : ∃ g, m.objs (.var 6) = (g, .arr nil 2 ((payS l x k).map itA)) := ⟨_, Prod.ext rfl o6⟩
      rw [o6] at f6
      have F := (And.intro f6 (And.intro f16 (And.intro f17 (And.intro f18 (And.intro o6 hG)))))
      refine AW.seq ?_
      refine AW.region (cfg := cfg) ?_
      refine stp (fun _ h => s0 h) ?_
      refine aops_nil ?_
      refine AW.seq ?_
      refine cnd (fun hb => ?ht2) (fun hb => ?hf2)
      case hf2 => (simp at hb; omega)
      case ht2 =>
      have hbt19 := hb
      refine AW.skip ?_
      refine AW.seq ?_
      refine AW.block ?_
      refine AW.seq ?_
      refine AW.region (cfg := cfg) ?_
      refine stp (fun _ h => si h) ?_
      refine stp (fun _ h => sl h) ?_
      refine stp (fun _ h => sd h) ?_
      refine stp0 (fun _ h => ss h) ?_
      refine aops_nil ?_
      refine AW.seq ?_
      have hok := pay_all (x := x) h0 k
      have hle := it_len hok
      have hs := it_srt hok
      refine AW.region (cfg := cfg) ?_
      refine stp (fun _ h => s0 h) ?_
      refine stp (fun _ h => sx h) ?_
      refine stp (fun _ h => sl h) ?_
      refine stp (fun _ h => ct (w := good_findI nil (payS l x k) x[k].o (by omega) hs) (x := h)) ?_
      iterate 5 refine stp (fun _ h => s0 h) ?_
      refine aops_nil ?_
      refine AW.seq ?_
      rcases it_way (payS l x k) x[k].o with hn | hn
      · skip
        have F := And.intro hn F
        refine AW.draw (cfg := cfg) (by kernel_rfl) (by kernel_rfl) (by kernel_rfl) ?_
        iterate 2 refine dstp (fun _ h => s0 h) ?_
        iterate 8 refine dskp ?_
        refine dstp (fun _ h => s0 h) ?_
        refine adraw_nil (by kernel_rfl) ?_
        refine cnd (fun hb => ?ht3) (fun hb => ?hf3)
        case ht3 => (simp at hb; done)
        case hf3 =>
        have hbt39 := hb
        refine AW.skip ?_
        refine AW.region (cfg := cfg) ?_
        refine stp (fun _ h => sd h) ?_
        refine stp (fun _ h => s0 h) ?_
        refine aops_nil ?_
        refine ⟨_, _, rfl, ?_, ?_, ?_, ?_, ?_, (by intro i; simp [Mem.set, hr]), (by exact hG)⟩ <;> try simp (disch := first | omega | decide) only [go_sem, F, aIndex_map]
        all_goals first | rfl | (rw [payS_succ hk, payF_no hok (.inl hn)]; done)
      · skip
        have hp0 := pos_lt hs hn
        have F := And.intro hn F
        refine AW.draw (cfg := cfg) (by kernel_rfl) (by kernel_rfl) (by kernel_rfl) ?_
        iterate 4 refine dstp (fun _ h => s0 h) ?_
        refine dstp (fun _ h => si h) ?_
        refine dstp (fun _ h => sxe h) ?_
        refine dstp (fun _ h => sle h) ?_
        refine dstp (fun _ h => sx h) ?_
        refine dstp (fun _ h => sl h) ?_
        iterate 2 refine dstp (fun _ h => s0 h) ?_
        refine adraw_nil (by kernel_rfl) ?_
        refine cnd (fun hb => ?ht4) (fun hb => ?hf4)
        case ht4 =>
          have hw39 := hb
          try simp only [bo1, bo2, bo3, bo4, bo5, bo6] at hb
          have hbt39 := hb
          have hp := pos_lt hs hn
          obtain rfl := pay_flag hz hn
          refine AW.region (cfg := cfg) ?_
          iterate 3 refine stp (fun _ h => s0 h) ?_
          refine stp (fun _ h => sd h) ?_
          refine stp (fun _ h => cx1 (w := good_Del1It (payS l x k) (posK It.o (payS l x k) x[k].o) hp (by omega)) (x := h)) ?_
          refine stp (fun _ h => st h) ?_
          refine aops_nil ?_
          refine AW.region (cfg := cfg) ?_
          refine stp (fun _ h => sd h) ?_
          refine stp (fun _ h => s0 h) ?_
          refine aops_nil ?_
          refine ⟨_, _, rfl, ?_, ?_, ?_, ?_, ?_, (by intro i; simp [Mem.set, hr]), (by exact hG)⟩ <;> try simp (disch := first | omega | decide) only [go_sem, F, aIndex_map]
          all_goals first | rfl | (rw [payS_succ hk, payF_yes hok hn (qK_at hs hn hbt39)]; done)
        case hf4 =>
          have hw39 := hb
          try simp only [bo1, bo2, bo3, bo4, bo5, bo6] at hb
          have hbt39 := hb
          refine AW.skip ?_
          refine AW.region (cfg := cfg) ?_
          refine stp (fun _ h => sd h) ?_
          refine stp (fun _ h => s0 h) ?_
          refine aops_nil ?_
          refine ⟨_, _, rfl, ?_, ?_, ?_, ?_, ?_, (by intro i; simp [Mem.set, hr]), (by exact hG)⟩ <;> try simp (disch := first | omega | decide) only [go_sem, F, aIndex_map]
          all_goals first | rfl | (rw [payS_succ hk, payF_no hok (.inr (qK_at2 hs hn hbt39))]; done)
    · clear F f0 f1 hr hG
      rintro σ ⟨s, m, rfl, f6, o6, f16, f17, f18, hr, hG⟩
      obtain ⟨g6, o6⟩ : ∃ g, m.objs (.var 6) = (g, .arr nil 2 ((payS l x x.length).map itA)) := ⟨_, Prod.ext rfl o6⟩
      rw [o6] at f6
      have F := (And.intro f6 (And.intro f16 (And.intro f17 (And.intro f18 (And.intro o6 hG)))))
      refine AW.seq ?_
      refine AW.region (cfg := cfg) ?_
      refine stp (fun _ h => s0 h) ?_
      refine aops_nil ?_
      refine AW.seq ?_
      refine cnd (fun hb => ?ht5) (fun hb => ?hf5)
      case ht5 => (simp at hb; done)
      case hf5 =>
      have hbt19 := hb
      refine AW.exit ?_
      refine AW.seq ?_
      refine AW.region (cfg := cfg) ?_
      refine stp (fun _ h => s0 h) ?_
      refine stp (fun _ h => sm h) ?_
      refine stp (fun _ h => s0 h) ?_
      refine aops_nil ?_
      refine AW.ret ?_
      refine ⟨.inr rfl, ?_⟩
      refine leaves_mwp2 (rs := [.tmp 4, .tmp 5]) rfl ?_
      simp (config := {failIfUnchanged := false}) [giveL, srcOne, rehome, freezeN, sub, upd, opn, aLoad, loadL, giveOne, reify, reifyL, readL, readOne, Mwp, M.bind, Mem.set, setAt, cellsL, hG, f6, f16, f17, f18, o6]
      all_goals (rw [payR_ok hw13]; simp [List.take_of_length_le]; done)
end Go.Vai.IT
