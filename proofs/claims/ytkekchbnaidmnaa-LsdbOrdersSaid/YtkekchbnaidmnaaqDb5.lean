import Derived.Test.YtkekchbnaidmnaaqDb4
namespace Go.Vai.DB
open Go.Proofs Go.Vai Go.Vai.D Go.Vai.I Go.Vai.L Go.Vai.N Go.Vai.O
set_option linter.unusedSimpArgs false
set_option linter.unusedVariables false
set_option maxHeartbeats 4000000
set_option maxRecDepth 100000
theorem items_no {l : List Lsa} (h : dbE l ≠ 0) : itemsR l = [] := by rw [itemsR, dbE_1 h]; rfl
theorem items_yes {l : List Lsa} (h : ¬ dbE l ≠ 0) : itemsR l = (l.take l.length).map itm := by rw [itemsR, dbE_0 h, List.take_length]; rfl
theorem itm_take {l : List Lsa} {k : Nat} (hk : k < l.length) : (l.take (k + 1)).map itm = (l.take k).map itm ++ [itm l[k]] := by
  rw [List.take_succ_eq_append_getElem hk, List.map_append]; rfl
theorem good_ItemsDb (nil : Bool) (l : List Lsa) (hl : l.length ≤ 1000000) (pl : ∀ x ∈ l, fit x) : Good Try.prog 11 [(.sl 3 nil (l.map lsaA), false)] [] [(.sl 2 (itemsR l).isEmpty ((itemsR l).map itA), true)] [] := by
  refine good_of_body5 25 Try.func11 rfl rfl rfl (by simp) (by simp) (by simp [noPtrL, noPtr]) (by simp [noPtrL, noPtr]) ?_
  intro s m ha hr hv hG
  have f0 : s 0 = .v (.sl 3 nil (l.map lsaA)) := ha 0 _ rfl
  clear ha
  have hc : True := trivial
  have F := (And.intro f0 hG)
  refine AW.seq ?_
  refine AW.region (cfg := cfg2) ?_
  refine stp (fun _ h => s0 h) ?_
  refine aops_nil ?_
  refine AW.seq ?_
  refine AW.region (cfg := cfg2) ?_
  refine stp (fun _ h => s0 h) ?_
  refine aops_nil ?_
  refine AW.seq ?_
  refine AW.seq ?_
  refine AW.region (cfg := cfg2) ?_
  refine stp (fun _ h => s0 h) ?_
  refine stp (fun _ h => cs (w := good_CheckDb nil l (by omega) (fun x hx => by have := (pl x hx).1; omega)) (x := h)) ?_
  refine stp (fun _ h => s0 h) ?_
  refine aops_nil ?_
  refine cnd (fun hb => ?ht1) (fun hb => ?hf1)
  case ht1 =>
    have hw8 := hb
    try simp only [bo1, bo2, bo3, bo4, bo5, bo6] at hb
    have hbt8 := hb
    refine AW.seq ?_
    refine AW.region (cfg := cfg2) ?_
    refine stp (fun _ h => s0 h) ?_
    refine aops_nil ?_
    refine AW.ret ?_
    refine ⟨.inr rfl, ?_⟩
    apply Exists.intro
    (rw [items_no hbt8])
    (refine leavesN (leaves_own1 2 rfl (by simp (disch := first | omega | decide) only [go_sem, F, aIndex_map] <;> rfl) (by simp (disch := first | omega | decide) only [go_sem, F, aIndex_map] <;> rfl) (by decide) (by simp [sub, List.take_of_length_le]) (by rfl)); done)
  case hf1 =>
    have hw8 := hb
    try simp only [bo1, bo2, bo3, bo4, bo5, bo6] at hb
    have hbt8 := hb
    refine AW.skip ?_
    refine AW.seq ?_
    refine AW.seq ?_
    have hle := db_len (dbE_0 hbt8)
    refine AW.region (cfg := cfg2) ?_
    refine stp (fun _ h => s0 h) ?_
    refine stp (fun _ h => sd h) ?_
    refine stp (fun _ h => s0 h) ?_
    refine aops_nil ?_
    refine AW.block ?_
    refine AW.forN (fun k σ => ∃ s m, σ = ⟨25, s, m⟩ ∧ s 3 = .own (.var 3) (m.objs (.var 3)).1 0 (((l.take k).map itm).length) ∧ (m.objs (.var 3)).2 = .arr ((l.take k).map itm).isEmpty 2 (((l.take k).map itm).map itA) ∧ s 9 = .v (.sl 3 nil (l.map lsaA)) ∧ s 10 = .v (i64 (l.length : Int)) ∧ s 11 = .v (i64 (k : Int)) ∧ (∀ i, (m.objs (.res i)).2 = .dead) ∧ m.G = []) (l.length) ?_ ?_ ?_
    · refine ⟨_, _, rfl, ?_, ?_, ?_, ?_, ?_, (by intro i; simp [Mem.set, hr]), (by exact hG)⟩ <;> try simp (disch := first | omega | decide) only [go_sem, F, aIndex_map]
      all_goals rfl
    · clear F f0 hr hG
      rintro k σ hk ⟨s, m, rfl, f3, o3, f9, f10, f11, hr, hG⟩
      obtain ⟨g3, o3⟩ : ∃ g, m.objs (.var 3) = (g, .arr ((l.take k).map itm).isEmpty 2 (((l.take k).map itm).map itA)) := ⟨_, Prod.ext rfl o3⟩
      rw [o3] at f3
      have F := (And.intro f3 (And.intro f9 (And.intro f10 (And.intro f11 (And.intro o3 hG)))))
      refine AW.seq ?_
      refine AW.region (cfg := cfg2) ?_
      refine stp (fun _ h => s0 h) ?_
      refine aops_nil ?_
      refine AW.seq ?_
      refine cnd (fun hb => ?ht2) (fun hb => ?hf2)
      case hf2 => (simp at hb; omega)
      case ht2 =>
      have hbt12 := hb
      refine AW.skip ?_
      refine AW.seq ?_
      refine AW.block ?_
      refine AW.seq ?_
      refine AW.region (cfg := cfg2) ?_
      refine stp (fun _ h => si h) ?_
      refine stp (fun _ h => sl h) ?_
      refine stp (fun _ h => sd h) ?_
      refine stp0 (fun _ h => ss h) ?_
      refine aops_nil ?_
      refine AW.region (cfg := cfg2) ?_
      refine stp (fun _ h => s0 h) ?_
      refine stp (fun _ h => sx h) ?_
      refine stp (fun _ h => sl h) ?_
      refine stp (fun _ h => sx h) ?_
      refine stp (fun _ h => sl h) ?_
      refine stp (fun _ h => su h) ?_
      refine stp (fun _ h => sq h) ?_
      refine stp (fun _ h => sp h) ?_
      refine stp (fun _ h => st h) ?_
      refine aops_nil ?_
      refine AW.region (cfg := cfg2) ?_
      refine stp (fun _ h => sd h) ?_
      refine stp (fun _ h => s0 h) ?_
      refine aops_nil ?_
      refine ⟨_, _, rfl, ?_, ?_, ?_, ?_, ?_, (by intro i; simp [Mem.set, hr]), (by exact hG)⟩ <;> try simp (disch := first | omega | decide) only [go_sem, F, aIndex_map]
      all_goals first | rfl | (rw [itm_take hk]; simp [itA, itm]; done) | (simp; omega)
    · clear F f0 hr hG
      rintro σ ⟨s, m, rfl, f3, o3, f9, f10, f11, hr, hG⟩
      obtain ⟨g3, o3⟩ : ∃ g, m.objs (.var 3) = (g, .arr ((l.take l.length).map itm).isEmpty 2 (((l.take l.length).map itm).map itA)) := ⟨_, Prod.ext rfl o3⟩
      rw [o3] at f3
      have F := (And.intro f3 (And.intro f9 (And.intro f10 (And.intro f11 (And.intro o3 hG)))))
      refine AW.seq ?_
      refine AW.region (cfg := cfg2) ?_
      refine stp (fun _ h => s0 h) ?_
      refine aops_nil ?_
      refine AW.seq ?_
      refine cnd (fun hb => ?ht3) (fun hb => ?hf3)
      case ht3 => (simp at hb; done)
      case hf3 =>
      have hbt12 := hb
      refine AW.exit ?_
      refine AW.seq ?_
      refine AW.region (cfg := cfg2) ?_
      refine stp (fun _ h => s0 h) ?_
      refine stp (fun _ h => sm h) ?_
      refine aops_nil ?_
      refine AW.ret ?_
      refine ⟨.inr rfl, ?_⟩
      apply Exists.intro
      (rw [items_yes hbt8])
      (refine leavesN (leaves_own1 2 rfl (by simp (disch := first | omega | decide) only [go_sem, F, aIndex_map] <;> rfl) (by simp (disch := first | omega | decide) only [go_sem, F, aIndex_map] <;> rfl) (by decide) (by simp [sub, List.take_of_length_le]) (by rfl)); done)
end Go.Vai.DB
