import Derived.Test.YtkekchbnaidmnaaqDb6
namespace Go.Vai.DB
open Go.Proofs Go.Vai Go.Vai.D Go.Vai.I Go.Vai.L Go.Vai.N Go.Vai.O
set_option linter.unusedSimpArgs false
set_option linter.unusedVariables false
set_option maxHeartbeats 4000000
set_option maxRecDepth 100000
theorem flt_yes {α : Type} {p : α → Bool} {l : List α} {k : Nat} (hk : k < l.length) (h : p l[k] = true) : (l.take (k + 1)).filter p = (l.take k).filter p ++ [l[k]] := by
  rw [List.take_succ_eq_append_getElem hk, List.filter_append]; simp [h]
theorem flt_no {α : Type} {p : α → Bool} {l : List α} {k : Nat} (hk : k < l.length) (h : p l[k] = false) : (l.take (k + 1)).filter p = (l.take k).filter p := by
  rw [List.take_succ_eq_append_getElem hk, List.filter_append]; simp [h]
theorem flt_len {α : Type} (p : α → Bool) (l : List α) (k : Nat) : ((l.take k).filter p).length ≤ k := Nat.le_trans (List.length_filter_le _ _) (by simp; omega)
theorem more_at {l : List Lsa} {y : It} (h : dbOK l = true) : ((!(getR l y.o).2) || decide (y.s > (getR l y.o).1.s)) = moreP l y := by rw [getR, h]; rfl
theorem more_y {l : List Lsa} {y : It} (h : dbOK l = true) (h2 : (!(getR l y.o).2) = true ∨ y.s > (getR l y.o).1.s) : moreP l y = true := by
  rw [← more_at h]; rcases h2 with h2 | h2 <;> simp [h2]
theorem more_n {l : List Lsa} {y : It} (h : dbOK l = true) (h2 : (!(getR l y.o).2) = false ∧ ¬ y.s > (getR l y.o).1.s) : moreP l y = false := by
  rw [← more_at h, h2.1]; simpa using h2.2
theorem moreR_no {l : List Lsa} {x : List It} (h : dbE l ≠ 0) : moreR l x = [] := by rw [moreR, dbE_1 h]; rfl
theorem moreR_yes {l : List Lsa} {x : List It} (h : dbOK l = true) : moreR l x = (x.take x.length).filter (moreP l) := by rw [moreR, h, List.take_length]; rfl
def moreS (l : List Lsa) (y : It) : Bool := decide (sqL l y.o = 0) || decide (y.s > sqL l y.o)
def lackS (x : List It) (y : Lsa) : Bool := !hasI x (itm y)
def hasF (y : Lsa) (z : It) : Bool := decide (z.o = y.o) && decide (z.s ≥ y.s)
theorem good_MoreDb (nil : Bool) (l : List Lsa) (hl : l.length ≤ 1000000) (pl : ∀ x ∈ l, fit x) (nx : Bool) (x : List It) (hx : x.length ≤ 1000000) : Good Try.prog 23 [(.sl 3 nil (l.map lsaA), false), (.sl 2 nx (x.map itA), false)] [] [(.sl 2 (moreR l x).isEmpty ((moreR l x).map itA), false)] [] := by
  refine good_of_body5 41 Try.func23 rfl rfl rfl (by simp) (by simp) (by simp [noPtrL, noPtr]) (by simp [noPtrL, noPtr]) ?_
  intro s m ha hr hv hG
  have f0 : s 0 = .v (.sl 3 nil (l.map lsaA)) := ha 0 _ rfl
  have f1 : s 1 = .v (.sl 2 nx (x.map itA)) := ha 1 _ rfl
  clear ha
  have hc : True := trivial
  have F := (And.intro f0 (And.intro f1 hG))
  refine AW.seq ?_
  refine AW.region (cfg := cfg) ?_
  refine stp (fun _ h => s0 h) ?_
  refine aops_nil ?_
  refine AW.seq ?_
  refine AW.seq ?_
  refine AW.region (cfg := cfg) ?_
  refine stp (fun _ h => s0 h) ?_
  refine stp (fun _ h => cs (w := good_CheckDb nil l (by omega) (fun x hx => by have := (pl x hx).1; omega)) (x := h)) ?_
  refine stp (fun _ h => s0 h) ?_
  refine aops_nil ?_
  refine cnd (fun hb => ?ht1) (fun hb => ?hf1)
  case ht1 =>
    have hw12 := hb
    try simp only [bo1, bo2, bo3, bo4, bo5, bo6] at hb
    have hbt12 := hb
    refine AW.seq ?_
    refine AW.region (cfg := cfg) ?_
    refine stp (fun _ h => s0 h) ?_
    refine aops_nil ?_
    refine AW.ret ?_
    refine ⟨.inr rfl, ?_⟩
    apply Exists.intro
    (rw [moreR_no hbt12])
    refine leavesN ?_
    refine leaves_mwp2 (rs := [.tmp 4]) rfl ?_; simp (config := {failIfUnchanged := false}) [giveL, srcOne, rehome, freezeN, sub, upd, opn, aLoad, loadL, giveOne, reify, reifyL, readL, readOne, Mwp, M.bind, Mem.set, setAt, cellsL, hG, f0, f1]
    exact rfl
  case hf1 =>
    have hw12 := hb
    try simp only [bo1, bo2, bo3, bo4, bo5, bo6] at hb
    have hbt12 := hb
    refine AW.skip ?_
    refine AW.seq ?_
    have h0 := dbE_0 hbt12
    refine AW.region (cfg := cfg) ?_
    refine stp (fun _ h => s0 h) ?_
    refine aops_nil ?_
    refine AW.seq ?_
    refine AW.seq ?_
    refine AW.region (cfg := cfg) ?_
    refine stp (fun _ h => s0 h) ?_
    refine stp (fun _ h => sd h) ?_
    refine stp (fun _ h => s0 h) ?_
    refine aops_nil ?_
    refine AW.block ?_
    refine AW.forN (fun k σ => ∃ s m, σ = ⟨41, s, m⟩ ∧ s 0 = .v (.sl 3 nil (l.map lsaA)) ∧ s 5 = .own (.var 5) (m.objs (.var 5)).1 0 (((x.take k).filter (moreP l)).length) ∧ (m.objs (.var 5)).2 = .arr ((x.take k).filter (moreP l)).isEmpty 2 (((x.take k).filter (moreP l)).map itA) ∧ s 13 = .v (.sl 2 nx (x.map itA)) ∧ s 14 = .v (i64 (x.length : Int)) ∧ s 15 = .v (i64 (k : Int)) ∧ (∀ i, (m.objs (.res i)).2 = .dead) ∧ m.G = []) (x.length) ?_ ?_ ?_
    · refine ⟨_, _, rfl, ?_, ?_, ?_, ?_, ?_, ?_, (by intro i; simp [Mem.set, hr]), (by exact hG)⟩ <;> try simp (disch := first | omega | decide) only [go_sem, F, aIndex_map]
      all_goals rfl
    · clear F f0 f1 hr hG
      rintro k σ hk ⟨s, m, rfl, f0, f5, o5, f13, f14, f15, hr, hG⟩
      obtain ⟨g5, o5⟩ : ∃ g, m.objs (.var 5) = (g, .arr ((x.take k).filter (moreP l)).isEmpty 2 (((x.take k).filter (moreP l)).map itA)) := ⟨_, Prod.ext rfl o5⟩
      rw [o5] at f5
      have F := (And.intro f0 (And.intro f5 (And.intro f13 (And.intro f14 (And.intro f15 (And.intro o5 hG))))))
      refine AW.seq ?_
      refine AW.region (cfg := cfg) ?_
      refine stp (fun _ h => s0 h) ?_
      refine aops_nil ?_
      refine AW.seq ?_
      refine cnd (fun hb => ?ht2) (fun hb => ?hf2)
      case hf2 => (simp at hb; omega)
      case ht2 =>
      have hbt16 := hb
      refine AW.skip ?_
      refine AW.seq ?_
      refine AW.block ?_
      refine AW.seq ?_
      have hkx : k < x.length := by assumption
      have wb := flt_len (moreP l) x k
      refine AW.region (cfg := cfg) ?_
      refine stp (fun _ h => si h) ?_
      refine stp (fun _ h => sl h) ?_
      refine stp (fun _ h => sd h) ?_
      refine stp0 (fun _ h => ss h) ?_
      refine aops_nil ?_
      refine AW.seq ?_
      refine AW.region (cfg := cfg) ?_
      refine stp (fun _ h => s0 h) ?_
      refine stp (fun _ h => sx h) ?_
      refine stp (fun _ h => sl h) ?_
      refine stp (fun _ h => cr (w := good_GetDb nil l (by omega) pl x[k].o) (x := h)) ?_
      iterate 3 refine stp (fun _ h => s0 h) ?_
      refine stp (fun _ h => sd h) ?_
      refine stp0 (fun _ h => ss h) ?_
      refine stp (fun _ h => s0 h) ?_
      refine aops_nil ?_
      refine AW.seq ?_
      refine AW.region (cfg := cfg) ?_
      iterate 3 refine stp (fun _ h => s0 h) ?_
      refine mrg wa (fun hc _ h => sx h) ?_
      refine mrg wa (fun hc _ h => sl h) ?_
      refine mrg wa (fun hc _ h => sx h) ?_
      refine mrg wa (fun hc _ h => sl h) ?_
      refine mrg wa (fun hc _ h => s0 h) ?_
      refine stp (fun _ h => s0 h) ?_
      refine aops_nil ?_
      refine cnd (fun hb => ?ht3) (fun hb => ?hf3)
      case ht3 =>
        have hw34 := hb
        try simp only [bo1, bo2, bo3, bo4, bo5, bo6] at hb
        have hbt34 := hb
        refine AW.region (cfg := cfg) ?_
        refine stp (fun _ h => s0 h) ?_
        refine stp (fun _ h => sl h) ?_
        refine stp (fun _ h => sq h) ?_
        refine stp (fun _ h => sp h) ?_
        refine stp (fun _ h => st h) ?_
        refine aops_nil ?_
        refine AW.region (cfg := cfg) ?_
        refine stp (fun _ h => sd h) ?_
        refine stp (fun _ h => s0 h) ?_
        refine aops_nil ?_
        refine ⟨_, _, rfl, ?_, ?_, ?_, ?_, ?_, ?_, (by intro i; simp [Mem.set, hr]), (by exact hG)⟩ <;> try simp (disch := first | omega | decide) only [go_sem, F, aIndex_map]
        all_goals first | rfl | (rw [flt_yes hkx (more_y h0 hbt34)]; simp; done) | (rw [flt_yes hkx (more_y h0 hbt34)]; simp [itA]; done)
      case hf3 =>
        have hw34 := hb
        try simp only [bo1, bo2, bo3, bo4, bo5, bo6] at hb
        have hbt34 := hb
        refine AW.skip ?_
        refine AW.region (cfg := cfg) ?_
        refine stp (fun _ h => sd h) ?_
        refine stp (fun _ h => s0 h) ?_
        refine aops_nil ?_
        refine ⟨_, _, rfl, ?_, ?_, ?_, ?_, ?_, ?_, (by intro i; simp [Mem.set, hr]), (by exact hG)⟩ <;> try simp (disch := first | omega | decide) only [go_sem, F, aIndex_map]
        all_goals first | rfl | (rw [flt_no hkx (more_n h0 hbt34)]; done)
    · clear F f0 f1 hr hG
      rintro σ ⟨s, m, rfl, f0, f5, o5, f13, f14, f15, hr, hG⟩
      obtain ⟨g5, o5⟩ : ∃ g, m.objs (.var 5) = (g, .arr ((x.take x.length).filter (moreP l)).isEmpty 2 (((x.take x.length).filter (moreP l)).map itA)) := ⟨_, Prod.ext rfl o5⟩
      rw [o5] at f5
      have F := (And.intro f0 (And.intro f5 (And.intro f13 (And.intro f14 (And.intro f15 (And.intro o5 hG))))))
      refine AW.seq ?_
      refine AW.region (cfg := cfg) ?_
      refine stp (fun _ h => s0 h) ?_
      refine aops_nil ?_
      refine AW.seq ?_
      refine cnd (fun hb => ?ht4) (fun hb => ?hf4)
      case ht4 => (simp at hb; done)
      case hf4 =>
      have hbt16 := hb
      refine AW.exit ?_
      refine AW.seq ?_
      refine AW.region (cfg := cfg) ?_
      refine stp (fun _ h => s0 h) ?_
      refine stp (fun _ h => sm h) ?_
      refine aops_nil ?_
      refine AW.ret ?_
      refine ⟨.inr rfl, ?_⟩
      apply Exists.intro
      (rw [moreR_yes h0])
      refine leavesN ?_
      refine leaves_mwp2 (rs := [.tmp 4]) rfl ?_; simp (config := {failIfUnchanged := false}) [giveL, srcOne, rehome, freezeN, sub, upd, opn, aLoad, loadL, giveOne, reify, reifyL, readL, readOne, Mwp, M.bind, Mem.set, setAt, cellsL, hG, f0, f5, f13, f14, f15, o5]
      exact ⟨List.take_of_length_le (by simp), rfl⟩
end Go.Vai.DB
