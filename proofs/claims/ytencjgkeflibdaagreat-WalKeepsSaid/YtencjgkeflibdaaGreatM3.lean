import Derived.Test.YtencjgkeflibdaaGreatM2
import Derived.Test.YtencjgkeflibdaaGreatVaiD
import Derived.Test.YtencjgkeflibdaaGreatVaiE
import Derived.Test.YtencjgkeflibdaaGreatM1
namespace Go.Vai.RC
open Go.Proofs Go.Vai Go.Vai.G Go.Vai.L Go.Vai.O Go.Vai.U Go.Vai.Z
set_option linter.unusedSimpArgs false
set_option linter.unusedVariables false
set_option maxHeartbeats 4000000
set_option maxRecDepth 100000
attribute [simp] splitP_len
theorem cut_nil {nil : Bool} {b : List (BitVec 8)} (hz : nil = true → b = []) (k m : Nat) : nil = true → (b.drop k).take m = [] := fun h => by rw [hz h]; simp
theorem idx_out {p : Page} {b : List (BitVec 8)} {n : Int} (h : p.idx < 0 ∨ p.idx > 2147483648) : pageOK (pageAt p false b n 0) = false := by
  cases e : pageOK (pageAt p false b n 0) with
  | false => rfl
  | true =>
    have := (page_bd e).2.2.2.1
    have h2 : (pageAt p false b n 0).idx = p.idx + ((0 : Nat) : Int) := rfl
    omega
theorem idx_in {p : Page} {b : List (BitVec 8)} {n k : Int} {nil : Bool} {c : List (BitVec 8)} (h : pageOK ⟨p.kind, p.gen, p.mark, p.idx, k, n, nil, c⟩ = true) : 0 ≤ p.idx ∧ p.idx ≤ 2147483648 := (page_bd h).2.2.2.1
theorem flag_end {n : Int} (h : ¬ n = 0) (h2 : 0 ≤ n) : decide (n.toNat = 0) = false := decide_eq_false (by omega)
theorem good_Split (p : Page) (hp : p.b.length ≤ 9223372036854775807) (nil : Bool) (b : List (BitVec 8)) (hb0 : b.length ≤ 140737488350000) (hz : nil = true → b = []) : Good Tryz.prog 45 [(pageA p, false), (.sl 1 nil (bsl b), false)] [] [(.sl 7 (!splitOK p b) ((splitL p nil b).map pageA), true), (i64 (splitE p b), false)] [] := by
  refine good_of_body3 63 Tryz.func45 rfl rfl rfl (by simp) ?_
  intro s m ha hr hv hG
  have f0 : s 0 = .v (.agg [i64 p.kind, i64 p.gen, i64 p.mark, i64 p.idx, i64 p.part, i64 p.parts, .sl 1 p.nil (bsl p.b)]) := ha 0 _ rfl
  have f1 : s 1 = .v (.sl 1 nil (bsl b)) := ha 1 _ rfl
  clear ha
  have hc : True := trivial
  have F := (And.intro f0 (And.intro f1 hG))
  refine AW.seq ?_
  refine AW.region (cfg := cfg4) ?_
  refine stp (fun _ h => sb h) ?_
  iterate 2 refine stp (fun _ h => s0 h) ?_
  refine aops_nil ?_
  refine AW.seq ?_
  refine AW.region (cfg := cfg4) ?_
  refine stp (fun _ h => s0 h) ?_
  refine stp (fun _ h => sd h) ?_
  refine stp (fun _ h => cs (w := good_Parts _ (by omega)) (x := h)) ?_
  refine stp (fun _ h => s0 h) ?_
  refine aops_nil ?_
  refine AW.seq ?_
  refine AW.seq ?_
  refine AW.region (cfg := cfg4) ?_
  iterate 2 refine stp (fun _ h => s0 h) ?_
  refine aops_nil ?_
  refine cnd (fun hb => ?ht1) (fun hb => ?hf1)
  case ht1 =>
    have hw15 := hb
    try simp only [bo1, bo2, bo3, bo4, bo5, bo6] at hb
    have hbt15 := hb
    refine AW.seq ?_
    refine AW.region (cfg := cfg4) ?_
    iterate 2 refine stp (fun _ h => s0 h) ?_
    refine aops_nil ?_
    refine AW.ret ?_
    refine ⟨.inr rfl, ?_⟩
    all_goals (have zz : parts (b.length : Int) = 0 := hbt15; obtain ⟨e1, e2, e3⟩ := split_no0 (p := p) (nil := nil) (b := b) zz; rw [e1, e2, e3]; refine leavesN (leaves_own2 4 5 rfl (by simp (disch := first | omega | decide) only [go_sem, F, aIndex_map] <;> rfl) (by simp (disch := first | omega | decide) only [go_sem, F, aIndex_map] <;> rfl) (by simp (disch := first | omega | decide) only [go_sem, F, aIndex_map] <;> rfl) (by decide) (by simp [sub]) (by exact hG)))
  case hf1 =>
    have hw15 := hb
    try simp only [bo1, bo2, bo3, bo4, bo5, bo6] at hb
    have hbt15 := hb
    refine AW.skip ?_
    refine AW.seq ?_
    refine AW.region (cfg := cfg4) ?_
    refine stp (fun _ h => s0 h) ?_
    refine aops_nil ?_
    refine AW.seq ?_
    refine AW.seq ?_
    refine AW.region (cfg := cfg4) ?_
    iterate 2 refine stp (fun _ h => s0 h) ?_
    refine aops_nil ?_
    refine AW.block ?_
    refine AW.forN (fun k σ => ∃ s m, σ = ⟨63, s, m⟩ ∧ s 1 = .v (.sl 1 nil (bsl (b.drop (488 * k)))) ∧ s 2 = .lptr (.tmp 2 0) (m.objs (.tmp 2 0)).1 0 ∧ (m.objs (.tmp 2 0)).2 = .box [.v (i64 p.kind), .v (i64 p.gen), .v (i64 p.mark), .v (i64 p.idx), .v (i64 p.part), .v (i64 p.parts), .v (.sl 1 p.nil (bsl p.b))] ∧ s 6 = .v (i64 (parts (b.length : Int))) ∧ s 7 = .own (.var 7) (m.objs (.var 7)).1 0 (k) ∧ (m.objs (.var 7)).2 = .arr (decide (k = 0)) 7 ((splitP p nil b k).map pageA) ∧ s 16 = .v (i64 (parts (b.length : Int))) ∧ s 17 = .v (i64 (k : Int)) ∧ (k = 0 ∨ (0 ≤ p.idx ∧ p.idx ≤ 2147483648)) ∧ (allPages (splitP p false b k) = true) ∧ (∀ i, (m.objs (.res i)).2 = .dead) ∧ m.G = []) ((parts (b.length : Int)).toNat) ?_ ?_ ?_
    · refine ⟨_, _, rfl, ?_, ?_, ?_, ?_, ?_, ?_, ?_, ?_, ?_, ?_, (by intro i; simp [Mem.set, hr]), (by exact hG)⟩ <;> try simp (disch := first | omega | decide) only [go_sem, F, aIndex_map]
      all_goals first | rfl | (simp [splitP]; done)
    · clear F f0 f1 hr hG
      rintro k σ hk ⟨s, m, rfl, f1, f2, o2, f6, f7, o7, f16, f17, mo0, mo1, hr, hG⟩
      obtain ⟨g2, o2⟩ : ∃ g, m.objs (.tmp 2 0) = (g, .box [.v (i64 p.kind), .v (i64 p.gen), .v (i64 p.mark), .v (i64 p.idx), .v (i64 p.part), .v (i64 p.parts), .v (.sl 1 p.nil (bsl p.b))]) := ⟨_, Prod.ext rfl o2⟩
      rw [o2] at f2
      obtain ⟨g7, o7⟩ : ∃ g, m.objs (.var 7) = (g, .arr (decide (k = 0)) 7 ((splitP p nil b k).map pageA)) := ⟨_, Prod.ext rfl o7⟩
      rw [o7] at f7
      have F := (And.intro f1 (And.intro f2 (And.intro f6 (And.intro f7 (And.intro f16 (And.intro f17 (And.intro o2 (And.intro o7 hG))))))))
      refine AW.seq ?_
      refine AW.region (cfg := cfg4) ?_
      refine stp (fun _ h => s0 h) ?_
      refine aops_nil ?_
      refine AW.seq ?_
      refine cnd (fun hb => ?ht2) (fun hb => ?hf2)
      case hf2 => (simp at hb; omega)
      case ht2 =>
      have hbt18 := hb
      refine AW.skip ?_
      refine AW.seq ?_
      refine AW.block ?_
      refine AW.seq ?_
      have hp16 := parts_is (n := (b.length : Int)) (fun hc => by rw [parts_no hc] at hbt15; exact hbt15 rfl)
      have ck := chunk_is (b := b) (k := k)
      have cn := chunk_next (b := b) (k := k)
      have hcz := cut_nil hz (488 * k) 488
      have F := And.intro ck F
      have F := And.intro cn F
      refine AW.region (cfg := cfg4) ?_
      iterate 2 refine stp (fun _ h => s0 h) ?_
      refine aops_nil ?_
      refine AW.seq ?_
      refine AW.region (cfg := cfg4) ?_
      refine stp (fun _ h => s0 h) ?_
      iterate 2 refine stp (fun _ h => sd h) ?_
      refine stp (fun _ h => s0 h) ?_
      refine aops_nil ?_
      refine AW.seq ?_
      refine AW.draw (cfg := cfg4) (by kernel_rfl) (by kernel_rfl) (by kernel_rfl) ?_
      refine dstp (fun _ h => sx h) ?_
      refine dstp (fun _ h => sl h) ?_
      refine dstp (fun _ h => sx h) ?_
      refine dstp (fun _ h => sl h) ?_
      refine dstp (fun _ h => sx h) ?_
      refine dstp (fun _ h => sl h) ?_
      refine dstp (fun _ h => sx h) ?_
      refine dstp (fun _ h => sl h) ?_
      iterate 4 refine dstp (fun _ h => s0 h) ?_
      refine dstp (fun _ h => sd h) ?_
      refine dstp (fun _ h => cr (w := (O.good_Clone nil (chunk b k) (by simp [chunk]; omega) hcz).lend1) (x := h)) ?_
      refine dstp (fun _ h => su h) ?_
      refine dstp (fun _ h => sd h) ?_
      refine dstp0 (fun _ h => ss h) ?_
      refine adraw_nil (by kernel_rfl) ?_
      refine AW.seq ?_
      refine AW.seq ?_
      refine AW.region (cfg := cfg4) ?_
      refine stp (fun _ h => sx h) ?_
      refine stp (fun _ h => sl h) ?_
      iterate 2 refine stp (fun _ h => s0 h) ?_
      refine mrg wa (fun hc _ h => sx h) ?_
      refine mrg wa (fun hc _ h => sl h) ?_
      refine mrg wa (fun hc _ h => s0 h) ?_
      refine stp (fun _ h => s0 h) ?_
      refine aops_nil ?_
      refine cnd (fun hb => ?ht3) (fun hb => ?hf3)
      case ht3 =>
        have hw45 := hb
        try simp only [bo1, bo2, bo3, bo4, bo5, bo6] at hb
        have hbt45 := hb
        refine AW.region (cfg := cfg4) ?_
        refine stp (fun _ h => sx h) ?_
        refine stp (fun _ h => sl h) ?_
        refine stp (fun _ h => s0 h) ?_
        refine stp (fun _ h => sd h) ?_
        refine stp (fun _ h => sx h) ?_
        refine stp0 (fun _ h => ss h) ?_
        refine aops_nil ?_
        refine AW.seq ?_
        refine AW.seq ?_
        refine AW.region (cfg := cfg4) ?_
        refine stp (fun _ h => sl h) ?_
        refine stp (fun _ h => cs (w := good_right ⟨p.kind, p.gen, p.mark, _, k, (parts (b.length : Int)), nil, chunk b k⟩ (by (show (chunk b k).length ≤ _; simp [chunk]; omega))) (x := h)) ?_
        refine stp (fun _ h => s0 h) ?_
        refine aops_nil ?_
        refine cnd (fun hb => ?ht4) (fun hb => ?hf4)
        case ht4 =>
          have hw53 := hb
          try simp only [bo1, bo2, bo3, bo4, bo5, bo6] at hb
          have hbt53 := hb
          refine AW.seq ?_
          refine AW.region (cfg := cfg4) ?_
          iterate 2 refine stp (fun _ h => s0 h) ?_
          refine aops_nil ?_
          refine AW.ret ?_
          refine ⟨.inr rfl, ?_⟩
          all_goals (have zz : pageOK (pageAt p false b (parts (b.length : Int)) k) = false := (by (have h8 := hbt53; change (!pageOK (pageAt p nil b (parts (b.length : Int)) k)) = _ at h8; simpa [okAt_nil] using h8)); obtain ⟨e1, e2, e3⟩ := split_no1 (p := p) (nil := nil) (b := b) hbt15 hk zz; rw [e1, e2, e3]; refine leavesN (leaves_own2 4 5 rfl (by simp (disch := first | omega | decide) only [go_sem, F, aIndex_map] <;> rfl) (by simp (disch := first | omega | decide) only [go_sem, F, aIndex_map] <;> rfl) (by simp (disch := first | omega | decide) only [go_sem, F, aIndex_map] <;> rfl) (by decide) (by simp [sub]) (by exact hG)))
        case hf4 =>
          have hw53 := hb
          try simp only [bo1, bo2, bo3, bo4, bo5, bo6] at hb
          have hbt53 := hb
          refine AW.skip ?_
          refine AW.draw (cfg := cfg4) (by kernel_rfl) (by kernel_rfl) (by kernel_rfl) ?_
          refine dstp (fun _ h => s0 h) ?_
          refine dstp (fun _ h => sl h) ?_
          refine dstp (fun _ h => sq h) ?_
          refine dstp (fun _ h => sp h) ?_
          iterate 2 refine dstp (fun _ h => s0 h) ?_
          refine dstp (fun _ h => sd h) ?_
          refine dstp (fun _ h => st h) ?_
          refine dstp (fun _ h => s0 h) ?_
          refine adraw_nil (by kernel_rfl) ?_
          refine AW.region (cfg := cfg4) ?_
          refine stp (fun _ h => sd h) ?_
          refine stp (fun _ h => s0 h) ?_
          refine aops_nil ?_
          refine ⟨_, _, rfl, ?_, ?_, ?_, ?_, ?_, ?_, ?_, ?_, ?_, ?_, (by intro i; simp [Mem.set, hr]), (by exact hG)⟩ <;> try simp (disch := first | omega | decide) only [go_sem, F, aIndex_map]
          all_goals first | rfl | (right; omega) | (rw [allP_succ, mo1]; (have h8 := hbt53; change (!pageOK (pageAt p nil b (parts (b.length : Int)) k)) = _ at h8; simpa [okAt_nil] using h8)) | (rw [splitP_succ]; simp [pageA, pageAt]; done)
      case hf3 =>
        have hw45 := hb
        try simp only [bo1, bo2, bo3, bo4, bo5, bo6] at hb
        have hbt45 := hb
        refine AW.skip ?_
        refine AW.seq ?_
        refine AW.seq ?_
        refine AW.region (cfg := cfg4) ?_
        refine stp (fun _ h => sl h) ?_
        refine stp (fun _ h => cs (w := good_right ⟨p.kind, p.gen, p.mark, _, k, (parts (b.length : Int)), nil, chunk b k⟩ (by (show (chunk b k).length ≤ _; simp [chunk]; omega))) (x := h)) ?_
        refine stp (fun _ h => s0 h) ?_
        refine aops_nil ?_
        refine cnd (fun hb => ?ht5) (fun hb => ?hf5)
        case ht5 =>
          have hw53 := hb
          try simp only [bo1, bo2, bo3, bo4, bo5, bo6] at hb
          have hbt53 := hb
          refine AW.seq ?_
          refine AW.region (cfg := cfg4) ?_
          iterate 2 refine stp (fun _ h => s0 h) ?_
          refine aops_nil ?_
          refine AW.ret ?_
          refine ⟨.inr rfl, ?_⟩
          all_goals (have zk : k = 0 := (by omega); subst zk; have zz := idx_out (p := p) (b := b) (n := parts (b.length : Int)) (by omega); obtain ⟨e1, e2, e3⟩ := split_no1 (p := p) (nil := nil) (b := b) hbt15 hk zz; rw [e1, e2, e3]; refine leavesN (leaves_own2 4 5 rfl (by simp (disch := first | omega | decide) only [go_sem, F, aIndex_map] <;> rfl) (by simp (disch := first | omega | decide) only [go_sem, F, aIndex_map] <;> rfl) (by simp (disch := first | omega | decide) only [go_sem, F, aIndex_map] <;> rfl) (by decide) (by simp [sub]) (by exact hG)))
        case hf5 =>
          have hw53 := hb
          try simp only [bo1, bo2, bo3, bo4, bo5, bo6] at hb
          have hbt53 := hb
          refine AW.skip ?_
          refine AW.draw (cfg := cfg4) (by kernel_rfl) (by kernel_rfl) (by kernel_rfl) ?_
          refine dstp (fun _ h => s0 h) ?_
          refine dstp (fun _ h => sl h) ?_
          refine dstp (fun _ h => sq h) ?_
          refine dstp (fun _ h => sp h) ?_
          iterate 2 refine dstp (fun _ h => s0 h) ?_
          refine dstp (fun _ h => sd h) ?_
          refine dstp (fun _ h => st h) ?_
          refine dstp (fun _ h => s0 h) ?_
          refine adraw_nil (by kernel_rfl) ?_
          refine AW.region (cfg := cfg4) ?_
          refine stp (fun _ h => sd h) ?_
          refine stp (fun _ h => s0 h) ?_
          refine aops_nil ?_
          refine ⟨_, _, rfl, ?_, ?_, ?_, ?_, ?_, ?_, ?_, ?_, ?_, ?_, (by intro i; simp [Mem.set, hr]), (by exact hG)⟩ <;> try simp (disch := first | omega | decide) only [go_sem, F, aIndex_map]
          all_goals first | rfl | (exfalso; have h9 := idx_in (b := b) (by simpa using hbt53); omega)
    · clear F f0 f1 hr hG
      rintro σ ⟨s, m, rfl, f1, f2, o2, f6, f7, o7, f16, f17, mo0, mo1, hr, hG⟩
      obtain ⟨g2, o2⟩ : ∃ g, m.objs (.tmp 2 0) = (g, .box [.v (i64 p.kind), .v (i64 p.gen), .v (i64 p.mark), .v (i64 p.idx), .v (i64 p.part), .v (i64 p.parts), .v (.sl 1 p.nil (bsl p.b))]) := ⟨_, Prod.ext rfl o2⟩
      rw [o2] at f2
      obtain ⟨g7, o7⟩ : ∃ g, m.objs (.var 7) = (g, .arr (decide ((parts (b.length : Int)).toNat = 0)) 7 ((splitP p nil b (parts (b.length : Int)).toNat).map pageA)) := ⟨_, Prod.ext rfl o7⟩
      rw [o7] at f7
      have F := (And.intro f1 (And.intro f2 (And.intro f6 (And.intro f7 (And.intro f16 (And.intro f17 (And.intro o2 (And.intro o7 hG))))))))
      refine AW.seq ?_
      refine AW.region (cfg := cfg4) ?_
      refine stp (fun _ h => s0 h) ?_
      refine aops_nil ?_
      refine AW.seq ?_
      refine cnd (fun hb => ?ht6) (fun hb => ?hf6)
      case ht6 => (simp at hb; omega)
      case hf6 =>
      have hbt18 := hb
      refine AW.exit ?_
      refine AW.seq ?_
      have zz : ¬ parts (b.length : Int) = 0 := hbt15
      have zn : 0 ≤ parts (b.length : Int) := (by have := parts_is (n := (b.length : Int)) (fun hc => zz (parts_no hc)); omega)
      have zf := flag_end zz zn
      have F := And.intro zf F
      refine AW.region (cfg := cfg4) ?_
      refine stp (fun _ h => s0 h) ?_
      refine stp (fun _ h => sm h) ?_
      refine stp (fun _ h => s0 h) ?_
      refine aops_nil ?_
      refine AW.ret ?_
      refine ⟨.inr rfl, ?_⟩
      all_goals (have zz : ¬ parts (b.length : Int) = 0 := hbt15; obtain ⟨e1, e2, e3⟩ := split_yes (p := p) (nil := nil) (b := b) zz mo1; rw [e1, e2, e3]; refine leavesN (leaves_own2 4 5 rfl (by simp (disch := first | omega | decide) only [go_sem, F, aIndex_map] <;> rfl) (by simp (disch := first | omega | decide) only [go_sem, F, aIndex_map] <;> rfl) (by simp (disch := first | omega | decide) only [go_sem, F, aIndex_map] <;> rfl) (by decide) (by rw [sub_full (by simp [splitP_len])]) (by exact hG)))
end Go.Vai.RC
set_option linter.unusedSimpArgs false
set_option linter.unusedVariables false
namespace Go.Vai.RC
open Go.Vai.O Go.Vai.L Go.Vai.G
theorem getD0 {l : List Page} {k : Nat} (h : k < l.length) : l.getD k page0 = l[k] := by rw [List.getD_eq_getElem?_getD, List.getElem?_eq_getElem h]; rfl
theorem join_f {l : List Page} (h : joinOK l = false) : joinOK l = false ∧ joinB l = [] ∧ joinN l = 0 := ⟨h, by rw [joinB, h]; rfl, by rw [joinN, h]; rfl⟩
theorem join_t {l : List Page} (h : joinOK l = true) : joinOK l = true ∧ joinB l = jB l ∧ joinN l = (jN l : Int) := ⟨h, by rw [joinB, h]; rfl, by rw [joinN, h]; rfl⟩
theorem join_no0 {l : List Page} (h : l.length = 0) : joinOK l = false := by
 obtain rfl := List.eq_nil_of_length_eq_zero h; rfl
theorem join_no1 {l : List Page} (h0 : 0 < l.length) (h : pageOK l[0] = false) : joinOK l = false := by
 rw [joinOK, headOK, getD0 h0, h]; simp
theorem join_no2 {l : List Page} (h0 : 0 < l.length) (h : (l.length : Int) < (l[0]).parts) : joinOK l = false := by
 have : decide ((l[0]).parts ≤ (l.length : Int)) = false := decide_eq_false (by omega)
 rw [joinOK, headOK, getD0 h0, this]; simp
theorem head_yes {l : List Page} (h0 : 0 < l.length) (h1 : pageOK l[0] = true) (h2 : ¬ (l.length : Int) < (l[0]).parts) : headOK l = true := by
 have h3 : decide ((l[0]).parts ≤ (l.length : Int)) = true := decide_eq_true (by omega)
 rw [headOK, getD0 h0, h1, h3]
 cases l with
 | nil => simp at h0
 | cons a l => rfl
theorem allF_stop {l : List Page} {k : Nat} (hk : follows (l.getD 0 page0) (l.getD k page0) k = false) : ∀ {n : Nat}, k < n → allF l n = false
 | 0, h => by omega
 | n + 1, h => by
  rw [allF_succ]
  by_cases e : k = n
  ·subst e; rw [hk, Bool.and_false]
  ·rw [allF_stop hk (by omega), Bool.false_and]
theorem join_no3 {l : List Page} {k : Nat} (h0 : 0 < l.length) (hl : k < l.length) (hk : k < jN l) (h : follows l[0] l[k] k = false) : joinOK l = false := by
 rw [joinOK, allF_stop (by rw [getD0 h0, getD0 hl]; exact h) hk]; simp
theorem join_no4 {l : List Page} (h : ¬ parts ((jB l).length : Int) = (jN l : Int)) : joinOK l = false := by
 rw [joinOK, decide_eq_false h]; simp
theorem join_yes {l : List Page} (h : headOK l = true) (h1 : allF l (jN l) = true) (h2 : parts ((jB l).length : Int) = (jN l : Int)) : joinOK l = true := by
 rw [joinOK, h, h1, decide_eq_true h2]; rfl
theorem allF_one {l : List Page} {k : Nat} (h0 : 0 < l.length) (hl : k < l.length) (h : allF l k = true) (h1 : follows l[0] l[k] k = true) : allF l (k + 1) = true := by
 rw [allF_succ, h, getD0 h0, getD0 hl, h1]; rfl
theorem jN_is {l : List Page} (h0 : 0 < l.length) (h1 : pageOK l[0] = true) : (jN l : Int) = (l[0]).parts ∧ 1 ≤ jN l ∧ jN l ≤ 16 := by
 have := page_bd h1
 unfold jN
 rw [getD0 h0]; omega
theorem emp_app {a b : List (BitVec 8)} : (a.isEmpty && (b.map u8).isEmpty) = (a ++ b).isEmpty := by cases a <;> cases b <;> rfl
def lightP (l : List Page) : Bool := ((l.take 21).all fun p => decide ((p.b.length : Int) ≤ 600)) && decide ((l.length : Int) ≤ 20)
end Go.Vai.RC
namespace Go.Vai.RC
open Go.Proofs Go.Vai Go.Vai.G Go.Vai.L Go.Vai.O Go.Vai.U Go.Vai.Z
set_option linter.unusedSimpArgs false
set_option linter.unusedVariables false
set_option maxHeartbeats 4000000
set_option maxRecDepth 100000
theorem chunk_len (b : List (BitVec 8)) (k : Nat) : (chunk b k).length ≤ 488 := by simp [chunk]; omega
end Go.Vai.RC
namespace Go.Vai.RC
open Go.Proofs Go.Vai Go.Vai.G Go.Vai.L Go.Vai.O Go.Vai.U Go.Vai.Z
set_option linter.unusedSimpArgs false
set_option linter.unusedVariables false
set_option maxHeartbeats 4000000
set_option maxRecDepth 100000
theorem way3 (l : List Page) : l.length = 0 ∨ (∃ h : 0 < l.length, pageOK l[0] = false) ∨ (∃ h : 0 < l.length, pageOK l[0] = true) := by
  by_cases h : l.length = 0
  · exact .inl h
  · have h0 : 0 < l.length := by omega
    cases e : pageOK l[0] with
    | false => exact .inr (.inl ⟨h0, e⟩)
    | true => exact .inr (.inr ⟨h0, e⟩)
theorem emp_succ {l : List Page} {k : Nat} (h : k < l.length) : ((catB (l.take k)).isEmpty && ((l[k]).b.map u8).isEmpty) = (catB (l.take (k + 1))).isEmpty := by rw [catB_succ h, emp_app]
theorem take_gt {l : List Page} {k n : Nat} (h : k < n) (hl : k < l.length) : (l.take n)[k]'(by simp; omega) = l[k] := by simp
theorem fol_bd {f p : Page} {i : Int} (h : follows f p i = true) : p.b.length ≤ 488 := (page_bd (follows_iff.1 h).1).2.2.2.2.2.2
theorem good_Join (nil : Bool) (l : List Page) (hl : l.length ≤ 9223372036854775807) (pl : ∀ x ∈ l, x.b.length ≤ 9223372036854775807) : Good Tryz.prog 81 [(.sl 7 nil (l.map pageA), false)] [] [(.sl 1 (joinB l).isEmpty (bsl (joinB l)), false), (i64 (joinN l), false), (.b (joinOK l), false)] [] := by
  refine good_of_body3 60 Tryz.func81 rfl rfl rfl (by simp) ?_
  intro s m ha hr hv hG
  have f0 : s 0 = .v (.sl 7 nil (l.map pageA)) := ha 0 _ rfl
  clear ha
  have hc : True := trivial
  have F := (And.intro f0 hG)
  refine AW.seq ?_
  refine AW.region (cfg := cfg) ?_
  iterate 3 refine stp (fun _ h => s0 h) ?_
  refine aops_nil ?_
  refine AW.seq ?_
  refine AW.seq ?_
  rcases way3 l with h0 | ⟨h0, hp⟩ | ⟨h0, hp⟩
  · skip
    have hlz : ((l.length : Nat) : Int) = 0 := by omega
    have zo := join_no0 h0
    have hpo := d00
    have F := And.intro hlz F
    have F := And.intro hpo F
    refine AW.region (cfg := cfg) ?_
    refine stp (fun _ h => s0 h) ?_
    refine stp (fun _ h => sd h) ?_
    iterate 2 refine stp (fun _ h => s0 h) ?_
    iterate 5 refine skp ?_
    iterate 2 refine stp (fun _ h => s0 h) ?_
    iterate 7 refine skp ?_
    refine stp (fun _ h => s0 h) ?_
    refine aops_nil ?_
    refine cnd (fun hb => ?ht1) (fun hb => ?hf1)
    case hf1 => simp at hb
    case ht1 =>
    have hbt27 := hb
    refine AW.seq ?_
    refine AW.region (cfg := cfg) ?_
    iterate 3 refine stp (fun _ h => s0 h) ?_
    refine aops_nil ?_
    refine AW.ret ?_
    refine ⟨.inr rfl, ?_⟩
    have hcl := trivial
    (have zz := zo)
    (obtain ⟨e1, e2, e3⟩ := join_f zz; rw [e1, e2, e3]; refine leavesN ?_; refine leaves_mwp2 (rs := [.tmp 2, .tmp 3, .tmp 4]) rfl ?_; simp (config := {failIfUnchanged := false}) [giveL, srcOne, rehome, freezeN, sub, upd, opn, aLoad, loadL, giveOne, reify, reifyL, readL, readOne, Mwp, M.bind, Mem.set, setAt, cellsL, hG, f0, hlz, hpo]; done)
  · skip
    have hlz : decide (((l.length : Nat) : Int) = 0) = false := decide_eq_false (by omega)
    have zo := join_no1 h0 hp
    have hpl := pl l[0] (List.getElem_mem h0)
    have hpo := hp
    have F := And.intro hlz F
    have F := And.intro hpo F
    refine AW.region (cfg := cfg) ?_
    refine stp (fun _ h => s0 h) ?_
    refine stp (fun _ h => sd h) ?_
    iterate 3 refine stp (fun _ h => s0 h) ?_
    refine stp (fun _ h => si h) ?_
    refine stp (fun _ h => sl h) ?_
    refine stp (fun _ h => cs (w := good_right l[0] (by omega)) (x := h)) ?_
    iterate 3 refine stp (fun _ h => s0 h) ?_
    iterate 7 refine skp ?_
    refine stp (fun _ h => s0 h) ?_
    refine aops_nil ?_
    refine cnd (fun hb => ?ht2) (fun hb => ?hf2)
    case hf2 => simp at hb
    case ht2 =>
    have hbt27 := hb
    refine AW.seq ?_
    refine AW.region (cfg := cfg) ?_
    iterate 3 refine stp (fun _ h => s0 h) ?_
    refine aops_nil ?_
    refine AW.ret ?_
    refine ⟨.inr rfl, ?_⟩
    have hcl := trivial
    (have zz := zo)
    (obtain ⟨e1, e2, e3⟩ := join_f zz; rw [e1, e2, e3]; refine leavesN ?_; refine leaves_mwp2 (rs := [.tmp 2, .tmp 3, .tmp 4]) rfl ?_; simp (config := {failIfUnchanged := false}) [giveL, srcOne, rehome, freezeN, sub, upd, opn, aLoad, loadL, giveOne, reify, reifyL, readL, readOne, Mwp, M.bind, Mem.set, setAt, cellsL, hG, f0, hlz, hpo]; done)
  · skip
    have hlz : decide (((l.length : Nat) : Int) = 0) = false := decide_eq_false (by omega)
    have hpl := pl l[0] (List.getElem_mem h0)
    have hpo := hp
    obtain ⟨j1, j2, j3⟩ := jN_is h0 hp
    have j6 : (l[0].parts).toNat = jN l := by omega
    have F := And.intro hlz F
    have F := And.intro hpo F
    refine AW.region (cfg := cfg) ?_
    refine stp (fun _ h => s0 h) ?_
    refine stp (fun _ h => sd h) ?_
    iterate 3 refine stp (fun _ h => s0 h) ?_
    refine stp (fun _ h => si h) ?_
    refine stp (fun _ h => sl h) ?_
    refine stp (fun _ h => cs (w := good_right l[0] (by omega)) (x := h)) ?_
    iterate 4 refine stp (fun _ h => s0 h) ?_
    refine stp (fun _ h => sd h) ?_
    refine stp (fun _ h => s0 h) ?_
    refine stp (fun _ h => si h) ?_
    refine stp (fun _ h => sx h) ?_
    refine stp (fun _ h => sl h) ?_
    iterate 2 refine stp (fun _ h => s0 h) ?_
    refine aops_nil ?_
    refine cnd (fun hb => ?ht3) (fun hb => ?hf3)
    case ht3 =>
      have hw27 := hb
      try simp only [bo1, bo2, bo3, bo4, bo5, bo6] at hb
      have hbt27 := hb
      refine AW.seq ?_
      refine AW.region (cfg := cfg) ?_
      iterate 3 refine stp (fun _ h => s0 h) ?_
      refine aops_nil ?_
      refine AW.ret ?_
      refine ⟨.inr rfl, ?_⟩
      have hcl := trivial
      (have zz := join_no2 h0 hbt27)
      (obtain ⟨e1, e2, e3⟩ := join_f zz; rw [e1, e2, e3]; refine leavesN ?_; refine leaves_mwp2 (rs := [.tmp 2, .tmp 3, .tmp 4]) rfl ?_; simp (config := {failIfUnchanged := false}) [giveL, srcOne, rehome, freezeN, sub, upd, opn, aLoad, loadL, giveOne, reify, reifyL, readL, readOne, Mwp, M.bind, Mem.set, setAt, cellsL, hG, f0, hlz, hpo]; done)
    case hf3 =>
      have hw27 := hb
      try simp only [bo1, bo2, bo3, bo4, bo5, bo6] at hb
      have hbt27 := hb
      refine AW.skip ?_
      refine AW.seq ?_
      have hhd := head_yes h0 hp (by omega)
      have j5 : jN l ≤ l.length := by omega
      have j7 : (((l.take (jN l)).length : Nat) : Int) = (jN l : Int) := by (simp; omega)
      have F := And.intro j6 F
      have F := And.intro j7 F
      refine AW.region (cfg := cfg) ?_
      refine stp (fun _ h => s0 h) ?_
      refine stp (fun _ h => si h) ?_
      refine stp (fun _ h => sx h) ?_
      refine stp (fun _ h => sl h) ?_
      refine stp (fun _ h => s0 h) ?_
      refine aops_nil ?_
      refine AW.seq ?_
      refine AW.region (cfg := cfg) ?_
      refine stp (fun _ h => s0 h) ?_
      refine aops_nil ?_
      refine AW.seq ?_
      refine AW.seq ?_
      refine AW.region (cfg := cfg) ?_
      iterate 2 refine stp (fun _ h => s0 h) ?_
      iterate 2 refine stp (fun _ h => sd h) ?_
      refine stp (fun _ h => s0 h) ?_
      refine aops_nil ?_
      refine AW.block ?_
      refine AW.forN (fun k σ => ∃ s m, σ = ⟨60, s, m⟩ ∧ s 0 = .v (.sl 7 nil (l.map pageA)) ∧ s 5 = .v (i64 (l[0]).parts) ∧ s 6 = .own (.var 6) (m.objs (.var 6)).1 0 ((catB (l.take k)).length) ∧ (m.objs (.var 6)).2 = .arr (catB (l.take k)).isEmpty 1 (bsl (catB (l.take k))) ∧ s 34 = .v (.sl 7 nil ((l.take (jN l)).map pageA)) ∧ s 35 = .v (i64 (jN l : Int)) ∧ s 36 = .v (i64 (k : Int)) ∧ (allF l k = true) ∧ ((catB (l.take k)).length ≤ 488 * k) ∧ (∀ i, (m.objs (.res i)).2 = .dead) ∧ m.G = []) (jN l) ?_ ?_ ?_
      · refine ⟨_, _, rfl, ?_, ?_, ?_, ?_, ?_, ?_, ?_, ?_, ?_, (by intro i; simp [Mem.set, hr]), (by exact hG)⟩ <;> try simp (disch := first | omega | decide) only [go_sem, F, aIndex_map]
        all_goals first | rfl | (simp [catB]; done)
      · clear F f0 hr hG
        rintro k σ hk ⟨s, m, rfl, f0, f5, f6, o6, f34, f35, f36, mo0, mo1, hr, hG⟩
        obtain ⟨g6, o6⟩ : ∃ g, m.objs (.var 6) = (g, .arr (catB (l.take k)).isEmpty 1 (bsl (catB (l.take k)))) := ⟨_, Prod.ext rfl o6⟩
        rw [o6] at f6
        have F := (And.intro f0 (And.intro f5 (And.intro f6 (And.intro f34 (And.intro f35 (And.intro f36 (And.intro o6 (And.intro hlz (And.intro hpo (And.intro j6 (And.intro j7 hG)))))))))))
        refine AW.seq ?_
        refine AW.region (cfg := cfg) ?_
        refine stp (fun _ h => s0 h) ?_
        refine aops_nil ?_
        refine AW.seq ?_
        refine cnd (fun hb => ?ht4) (fun hb => ?hf4)
        case hf4 => (simp at hb; omega)
        case ht4 =>
        have hbt37 := hb
        refine AW.skip ?_
        refine AW.seq ?_
        refine AW.block ?_
        refine AW.seq ?_
        have hk2 : k < l.length := by omega
        have hpk := pl l[k] (List.getElem_mem hk2)
        have tg := take_gt (l := l) hk hk2
        have hkt : k < (l.take (jN l)).length := by (simp; omega)
        have F := And.intro tg F
        refine AW.region (cfg := cfg) ?_
        refine stp (fun _ h => s0 h) ?_
        refine stp (fun _ h => si h) ?_
        refine stp (fun _ h => sl h) ?_
        refine stp (fun _ h => sd h) ?_
        refine stp (fun _ h => s0 h) ?_
        refine stp0 (fun _ h => ss h) ?_
        refine aops_nil ?_
        refine AW.seq ?_
        refine AW.seq ?_
        refine AW.draw (cfg := cfg) (by kernel_rfl) (by kernel_rfl) (by kernel_rfl) ?_
        refine dstp (fun _ h => s0 h) ?_
        refine dstp (fun _ h => si h) ?_
        iterate 2 refine dstp (fun _ h => sl h) ?_
        refine dstp (fun _ h => s0 h) ?_
        refine dstp (fun _ h => cs (w := good_follows l[0] (by omega) l[k] (by omega) (k : Int) (by omega)) (x := h)) ?_
        refine dstp (fun _ h => s0 h) ?_
        refine adraw_nil (by kernel_rfl) ?_
        refine cnd (fun hb => ?ht5) (fun hb => ?hf5)
        case ht5 =>
          have hw47 := hb
          try simp only [bo1, bo2, bo3, bo4, bo5, bo6] at hb
          have hbt47 := hb
          refine AW.seq ?_
          refine AW.region (cfg := cfg) ?_
          iterate 3 refine stp (fun _ h => s0 h) ?_
          refine aops_nil ?_
          refine AW.ret ?_
          refine ⟨.inr rfl, ?_⟩
          have hcl := trivial
          (have zz := join_no3 h0 hk2 hk (by simpa using hbt47))
          (obtain ⟨e1, e2, e3⟩ := join_f zz; rw [e1, e2, e3]; refine leavesN ?_; refine leaves_mwp2 (rs := [.tmp 2, .tmp 3, .tmp 4]) rfl ?_; simp (config := {failIfUnchanged := false}) [giveL, srcOne, rehome, freezeN, sub, upd, opn, aLoad, loadL, giveOne, reify, reifyL, readL, readOne, Mwp, M.bind, Mem.set, setAt, cellsL, hG, f0, f5, f6, f34, f35, f36, o6, hlz, hpo, j6, j7, tg]; done)
        case hf5 =>
          have hw47 := hb
          try simp only [bo1, bo2, bo3, bo4, bo5, bo6] at hb
          have hbt47 := hb
          refine AW.skip ?_
          have hfo : follows l[0] l[k] k = true := by simpa using hbt47
          have hfb := fol_bd hfo
          have hcl := catB_succ hk2
          refine AW.region (cfg := cfg) ?_
          refine stp (fun _ h => s0 h) ?_
          refine stp (fun _ h => sx h) ?_
          refine stp (fun _ h => sl h) ?_
          refine stp (fun _ h => sp h) ?_
          refine stp (fun _ h => st h) ?_
          refine aops_nil ?_
          refine AW.region (cfg := cfg) ?_
          refine stp (fun _ h => sd h) ?_
          refine stp (fun _ h => s0 h) ?_
          refine aops_nil ?_
          refine ⟨_, _, rfl, ?_, ?_, ?_, ?_, ?_, ?_, ?_, ?_, ?_, (by intro i; simp [Mem.set, hr]), (by exact hG)⟩ <;> try simp (disch := first | omega | decide) only [go_sem, F, aIndex_map]
          all_goals first | rfl | exact allF_one h0 hk2 mo0 hfo | (rw [hcl]; simp; omega) | (rw [hcl]; simp; done) | (rw [emp_succ hk2, hcl]; done)
      · clear F f0 hr hG
        rintro σ ⟨s, m, rfl, f0, f5, f6, o6, f34, f35, f36, mo0, mo1, hr, hG⟩
        obtain ⟨g6, o6⟩ : ∃ g, m.objs (.var 6) = (g, .arr (catB (l.take (jN l))).isEmpty 1 (bsl (catB (l.take (jN l))))) := ⟨_, Prod.ext rfl o6⟩
        rw [o6] at f6
        have F := (And.intro f0 (And.intro f5 (And.intro f6 (And.intro f34 (And.intro f35 (And.intro f36 (And.intro o6 (And.intro hlz (And.intro hpo (And.intro j6 (And.intro j7 hG)))))))))))
        refine AW.seq ?_
        refine AW.region (cfg := cfg) ?_
        refine stp (fun _ h => s0 h) ?_
        refine aops_nil ?_
        refine AW.seq ?_
        refine cnd (fun hb => ?ht6) (fun hb => ?hf6)
        case ht6 => (simp at hb; done)
        case hf6 =>
        have hbt37 := hb
        refine AW.exit ?_
        refine AW.seq ?_
        refine AW.seq ?_
        refine AW.region (cfg := cfg) ?_
        refine stp (fun _ h => s0 h) ?_
        refine stp (fun _ h => sn h) ?_
        refine stp (fun _ h => cs (w := good_Parts _ (by omega)) (x := h)) ?_
        iterate 2 refine stp (fun _ h => s0 h) ?_
        refine aops_nil ?_
        refine cnd (fun hb => ?ht7) (fun hb => ?hf7)
        case ht7 =>
          have hw57 := hb
          try simp only [bo1, bo2, bo3, bo4, bo5, bo6] at hb
          have hbt57 := hb
          refine AW.seq ?_
          refine AW.region (cfg := cfg) ?_
          iterate 3 refine stp (fun _ h => s0 h) ?_
          refine aops_nil ?_
          refine AW.ret ?_
          refine ⟨.inr rfl, ?_⟩
          have hcl := trivial
          (have zz : joinOK l = false := join_no4 (fun e => hbt57 (by rw [← j1]; exact e)))
          (obtain ⟨e1, e2, e3⟩ := join_f zz; rw [e1, e2, e3]; refine leavesN ?_; refine leaves_mwp2 (rs := [.tmp 2, .tmp 3, .tmp 4]) rfl ?_; simp (config := {failIfUnchanged := false}) [giveL, srcOne, rehome, freezeN, sub, upd, opn, aLoad, loadL, giveOne, reify, reifyL, readL, readOne, Mwp, M.bind, Mem.set, setAt, cellsL, hG, f0, f5, f6, f34, f35, f36, o6, hlz, hpo, j6, j7]; done)
        case hf7 =>
          have hw57 := hb
          try simp only [bo1, bo2, bo3, bo4, bo5, bo6] at hb
          have hbt57 := hb
          refine AW.skip ?_
          refine AW.seq ?_
          refine AW.region (cfg := cfg) ?_
          iterate 2 refine stp (fun _ h => s0 h) ?_
          refine stp (fun _ h => sm h) ?_
          iterate 2 refine stp (fun _ h => s0 h) ?_
          refine aops_nil ?_
          refine AW.ret ?_
          refine ⟨.inr rfl, ?_⟩
          have hcl := trivial
          (have zz : joinOK l = true := join_yes hhd mo0 (by rw [j1]; exact Decidable.not_not.1 hbt57))
          (obtain ⟨e1, e2, e3⟩ := join_t zz; rw [e1, e2, e3]; refine leavesN ?_; refine leaves_mwp2 (rs := [.tmp 2, .tmp 3, .tmp 4]) rfl ?_; simp (config := {failIfUnchanged := false}) [giveL, srcOne, rehome, freezeN, sub, upd, opn, aLoad, loadL, giveOne, reify, reifyL, readL, readOne, Mwp, M.bind, Mem.set, setAt, cellsL, hG, f0, f5, f6, f34, f35, f36, o6, hlz, hpo, j6, j7]; exact ⟨⟨rfl, List.take_of_length_le (by simp)⟩, j1.symm⟩)
end Go.Vai.RC
namespace Go.Vai.RC
open Go.Proofs Go.Vai Go.Vai.G Go.Vai.L Go.Vai.O Go.Vai.U Go.Vai.Z
set_option linter.unusedSimpArgs false
set_option linter.unusedVariables false
set_option maxHeartbeats 4000000
set_option maxRecDepth 100000
theorem sp_pos {b : List (BitVec 8)} (h : ¬ parts (b.length : Int) = 0) : (((parts (b.length : Int)).toNat : Nat) : Int) = parts (b.length : Int) ∧ 0 < (parts (b.length : Int)).toNat ∧ (parts (b.length : Int)).toNat ≤ 16 := by
  have := parts_is (n := (b.length : Int)) (fun hc => h (parts_no hc))
  omega
end Go.Vai.RC
set_option linter.unusedSimpArgs false
set_option linter.unusedVariables false
namespace Go.Vai.RC
open Go.Vai.O Go.Vai.L Go.Vai.G
theorem cat_split (p : Page) (nil : Bool) (b : List (BitVec 8)) : ∀ k, catB (splitP p nil b k) = b.take (488 * k)
 | 0 => by simp [splitP, catB]
 | k + 1 => by
  rw [splitP_succ]
  have ih := cat_split p nil b k
  simp only [catB, List.flatMap_append, List.flatMap_cons, List.flatMap_nil, List.append_nil] at ih ⊢
  rw [ih]
  show b.take (488 * k) ++ chunk b k = b.take (488 * (k + 1))
  rw [chunk, Nat.mul_succ, List.take_add]
theorem all_split {p : Page} {b : List (BitVec 8)} {n : Nat} (h : allPages (splitP p false b n) = true) {i : Nat} (hi : i < n) (nil : Bool) : pageOK (pageAt p nil b (parts (b.length : Int)) i) = true := by
 simp only [allPages, List.all_eq_true] at h
 have := h (pageAt p false b (parts (b.length : Int)) i) (by rw [← splitP_get (p := p) (nil := false) (b := b) hi]; exact List.getElem_mem _)
 exact this
theorem split_join {p : Page} {nil : Bool} {b : List (BitVec 8)} {more : List Page} (h0 : parts (b.length : Int) ≠ 0) (h : allPages (splitP p false b (parts (b.length : Int)).toNat) = true) :
  joinOK (splitP p nil b (parts (b.length : Int)).toNat ++ more) = true ∧ joinB (splitP p nil b (parts (b.length : Int)).toNat ++ more) = b ∧ joinN (splitP p nil b (parts (b.length : Int)).toNat ++ more) = parts (b.length : Int) := by
 have hp := parts_is (n := (b.length : Int)) (fun hc => h0 (parts_no hc))
 obtain ⟨n, hn⟩ : ∃ n, n = (parts (b.length : Int)).toNat := ⟨_, rfl⟩
 rw [← hn] at h ⊢
 obtain ⟨l, hl⟩ : ∃ l, l = splitP p nil b n ++ more := ⟨_, rfl⟩
 rw [← hl]
 have hnn : (n : Int) = parts (b.length : Int) := by omega
 have hlen : n ≤ l.length := by rw [hl, List.length_append, splitP_len]; omega
 have hg : ∀ i (hi : i < n), l[i]'(by omega) = pageAt p nil b (parts (b.length : Int)) i := fun i hi => by
  have : i < (splitP p nil b n).length := by rw [splitP_len]; exact hi
  simp only [hl]
  rw [List.getElem_append_left this, splitP_get hi]
 have hn0 : 0 < n := by omega
 have hl0 : 0 < l.length := by omega
 have h1 : pageOK l[0] = true := by rw [hg 0 hn0]; exact all_split h hn0 nil
 have hp0 : (l[0]).parts = parts (b.length : Int) := by rw [hg 0 hn0]; rfl
 have hj : jN l = n := by rw [jN, getD0 hl0, hp0]; exact hn.symm
 have hh : headOK l = true := head_yes hl0 h1 (by rw [hp0]; omega)
 have ht : l.take n = splitP p nil b n := by rw [hl, List.take_left' (splitP_len _ _ _ _)]
 have hb : jB l = b := by
  rw [jB, hj, ht, cat_split]
  exact List.take_of_length_le (by omega)
 have hf : allF l (jN l) = true := by
  rw [hj]
  simp only [allF, List.all_eq_true, List.mem_range]
  intro i hi
  rw [getD0 hl0, getD0 (show i < l.length by omega), hg 0 hn0, hg i hi]
  refine follows_iff.2 ⟨all_split h hi nil, rfl, rfl, rfl, ?_, rfl, rfl, ?_⟩
  ·show p.idx + (i : Int) - (i : Int) = p.idx + ((0 : Nat) : Int); omega
  ·by_cases e : (i : Int) = parts (b.length : Int) - 1
   ·exact .inl e
   ·right
    show ((chunk b i).length : Int) = 488
    have h4 := hp.2.2.2 (by omega)
    rw [chunk]; simp; omega
 have hy := join_yes hh hf (by rw [hb, hj, hnn])
 obtain ⟨_, e2, e3⟩ := join_t hy
 exact ⟨hy, by rw [e2, hb], by rw [e3, hj, hnn]⟩
end Go.Vai.RC
set_option linter.unusedSimpArgs false
set_option linter.unusedVariables false
namespace Go.Vai.S7
open Go.Vai.O Go.Vai.L Go.Vai.G Go.Vai.RC
variable {α : Type} (ok : α → Bool) (val : α → Page)
def pagesOf (ss : List α) : List Page := (ss.takeWhile ok).map val
theorem pages_stop {ss : List α} {k : Nat} (hk : k < ss.length) (h : (ss.take k).all ok = true) (h1 : ok ss[k] = false) : pagesOf ok val ss = (ss.take k).map val := by
 rw [pagesOf]
 congr 1
 induction ss generalizing k with
 | nil => simp at hk
 | cons x t ih =>
  cases k with
  | zero => simp at h1; simp [List.takeWhile, h1]
  | succ k =>
   simp only [List.take_succ_cons, List.all_cons, Bool.and_eq_true] at h
   simp only [List.takeWhile, h.1, List.take_succ_cons]
   rw [ih (by simpa using hk) h.2 (by simpa using h1)]
theorem pages_full {ss : List α} (h : ss.all ok = true) : pagesOf ok val ss = ss.map val := by
 rw [pagesOf]
 congr 1
 induction ss with
 | nil => rfl
 | cons x t ih =>
  simp only [List.all_cons, Bool.and_eq_true] at h
  simp only [List.takeWhile, h.1, ih h.2]
def slotOK (l : List Page) : Bool := joinOK l && (decide ((l.getD 0 page0).kind = 1) && decide ((l.getD 0 page0).idx = 0))
def slotB (l : List Page) : List (BitVec 8) := if slotOK l then joinB l else []
def slotG (l : List Page) : Int := if slotOK l then (l.getD 0 page0).gen else 0
def markOf (ss : List α) : Int := ss.foldl (fun n s => if ok s then (if (val s).mark > n then (val s).mark else n) else n) 0
theorem markOf_take {ss : List α} {k : Nat} (hk : k < ss.length) : markOf ok val (ss.take (k + 1)) = (if ok ss[k] then (if (val ss[k]).mark > markOf ok val (ss.take k) then (val ss[k]).mark else markOf ok val (ss.take k)) else markOf ok val (ss.take k)) := by
 rw [List.take_succ_eq_append_getElem hk]
 rw [markOf, List.foldl_append]; rfl
end Go.Vai.S7
namespace Go.Vai.S7
open Go.Proofs Go.Vai Go.Vai.G Go.Vai.L Go.Vai.O Go.Vai.RC Go.Vai.U Go.Vai.Z
set_option linter.unusedSimpArgs false
set_option linter.unusedVariables false
set_option maxHeartbeats 4000000
set_option maxRecDepth 100000
open Go.Vai.U (pslice cellsOf_ps noPtr_ps)
abbrev PS := Bool × List (BitVec 8)
def okS (x : PS) : Bool := pgGood x.2
def valS (x : PS) : Page := pgV x.2
def baseA (n : Int) (nil : Bool) (b : List (BitVec 8)) : AV := .agg [.i .i64 n, .sl 1 nil (bsl b)]
theorem cellsOf_base (n : Int) (nil : Bool) (b : List (BitVec 8)) : cellsOf (baseA n nil b) = [.i .i64 n, .sl 1 nil (bsl b)] := rfl
@[simp] theorem noPtr_base (n : Int) (nil : Bool) (b : List (BitVec 8)) : noPtr (baseA n nil b) = true := by simp [baseA, noPtr, noPtrL, noPtrL_bsl]
@[simp] theorem noPtrL_pss (ps : List PS) : noPtrL (ps.map pslice) = true := noPtrL_map noPtr_ps _
theorem good_pg {l : List (BitVec 8)} (h : pgGood l = true) : pageOK (pgV l) = true := by
  rw [pgV_is h]
  simp only [pgGood, Bool.and_eq_true] at h
  exact h.2.2.1
theorem valS_bd (x : PS) : (valS x).b.length ≤ 488 := by
  rw [valS]
  cases h : pgGood x.2 with
  | false => rw [pgV_no h]; decide
  | true => exact (page_bd (good_pg h)).2.2.2.2.2.2
def lightS (l : List PS) : Bool := ((l.take 11).all fun c => decide ((c.2.length : Int) ≤ 600)) && decide ((l.length : Int) ≤ 10)
theorem pg0 (l : List (BitVec 8)) : (¬ pgR l = 0 ↔ pgGood l = false) := by cases h : pgGood l <;> simp [pgR, h]
theorem take_ok {l : List PS} {k : Nat} (hk : k < l.length) (h : (l.take k).all okS = true) (h1 : pgGood (l[k]).2 = true) : (l.take (k + 1)).all okS = true := by
  rw [List.take_succ_eq_append_getElem hk, List.all_append, h]; simp [okS, h1]
theorem good_of_R {l : List (BitVec 8)} (h : ¬ pgR l ≠ 0) : pgGood l = true := by
  cases e : pgGood l with
  | true => rfl
  | false => exact absurd ((pg0 l).2 e) h
theorem emp_take {l : List PS} (k : Nat) (h : k ≤ l.length) : decide (k = 0) = ((l.take k).map valS).isEmpty := by cases k <;> cases l <;> simp_all
theorem emp_all {l : List PS} : decide (l.length = 0) = (l.map valS).isEmpty := by cases l <;> simp_all
attribute [go_sem] cellsOf_ps
theorem good_pagesS (nil : Bool) (l : List PS) (hl : l.length ≤ 1000000) (pl : ∀ x ∈ l, x.2.length ≤ 140737488355000 ∧ (x.1 = true → x.2 = [])) : Good Tryz.prog 110 [(.sl 1 nil (l.map pslice), false)] [] [(.sl 7 (pagesOf okS valS l).isEmpty ((pagesOf okS valS l).map pageA), false)] [] := by
  refine good_of_body5 27 Tryz.func110 rfl rfl rfl (by simp) (by simp) (by simp [noPtrL, noPtr]) (by simp [noPtrL, noPtr]) ?_
  intro s m ha hr hv hG
  have f0 : s 0 = .v (.sl 1 nil (l.map pslice)) := ha 0 _ rfl
  clear ha
  have hc : True := trivial
  have F := (And.intro f0 hG)
  refine AW.seq ?_
  refine AW.region (cfg := cfg) ?_
  refine stp (fun _ h => s0 h) ?_
  refine aops_nil ?_
  refine AW.seq ?_
  refine AW.region (cfg := cfg) ?_
  refine stp (fun _ h => s0 h) ?_
  refine aops_nil ?_
  refine AW.seq ?_
  refine AW.seq ?_
  refine AW.region (cfg := cfg) ?_
  refine stp (fun _ h => s0 h) ?_
  refine stp (fun _ h => sd h) ?_
  refine stp (fun _ h => s0 h) ?_
  refine aops_nil ?_
  refine AW.block ?_
  refine AW.forN (fun k σ => ∃ s m, σ = ⟨27, s, m⟩ ∧ s 0 = .v (.sl 1 nil (l.map pslice)) ∧ s 3 = .own (.var 3) (m.objs (.var 3)).1 0 (k) ∧ (m.objs (.var 3)).2 = .arr (decide (k = 0)) 7 (((l.take k).map valS).map pageA) ∧ s 8 = .v (.sl 1 nil (l.map pslice)) ∧ s 9 = .v (i64 (l.length : Int)) ∧ s 10 = .v (i64 (k : Int)) ∧ ((l.take k).all okS = true) ∧ (∀ i, (m.objs (.res i)).2 = .dead) ∧ m.G = []) (l.length) ?_ ?_ ?_
  · refine ⟨_, _, rfl, ?_, ?_, ?_, ?_, ?_, ?_, ?_, (by intro i; simp [Mem.set, hr]), (by exact hG)⟩ <;> try simp (disch := first | omega | decide) only [go_sem, F, aIndex_map]
    all_goals rfl
  · clear F f0 hr hG
    rintro k σ hk ⟨s, m, rfl, f0, f3, o3, f8, f9, f10, mo0, hr, hG⟩
    obtain ⟨g3, o3⟩ : ∃ g, m.objs (.var 3) = (g, .arr (decide (k = 0)) 7 (((l.take k).map valS).map pageA)) := ⟨_, Prod.ext rfl o3⟩
    rw [o3] at f3
    have F := (And.intro f0 (And.intro f3 (And.intro f8 (And.intro f9 (And.intro f10 (And.intro o3 hG))))))
    refine AW.seq ?_
    refine AW.region (cfg := cfg) ?_
    refine stp (fun _ h => s0 h) ?_
    refine aops_nil ?_
    refine AW.seq ?_
    refine cnd (fun hb => ?ht1) (fun hb => ?hf1)
    case ht1 =>
      have hw11 := hb
      try simp only [bo1, bo2, bo3, bo4, bo5, bo6] at hb
      have hbt11 := hb
      refine AW.skip ?_
      refine AW.seq ?_
      refine AW.block ?_
      refine AW.seq ?_
      have hkl : k < l.length := hk
      obtain ⟨pk1, pk2⟩ := pl l[k] (List.getElem_mem hkl)
      have pk3 := valS_bd l[k]
      refine AW.region (cfg := cfg) ?_
      refine stp (fun _ h => si h) ?_
      refine stp (fun _ h => sl h) ?_
      refine stp (fun _ h => s0 h) ?_
      refine aops_nil ?_
      refine AW.seq ?_
      refine AW.region (cfg := cfg) ?_
      refine stp (fun _ h => s0 h) ?_
      refine stp (fun _ h => cr (w := good_GetP l[k].1 l[k].2 (by omega) pk2) (x := h)) ?_
      iterate 3 refine stp (fun _ h => s0 h) ?_
      refine stp (fun _ h => sd h) ?_
      refine stp0 (fun _ h => ss h) ?_
      refine stp (fun _ h => s0 h) ?_
      refine aops_nil ?_
      refine AW.seq ?_
      refine AW.seq ?_
      refine AW.region (cfg := cfg) ?_
      iterate 2 refine stp (fun _ h => s0 h) ?_
      refine aops_nil ?_
      refine cnd (fun hb => ?ht2) (fun hb => ?hf2)
      case ht2 =>
        have hw20 := hb
        try simp only [bo1, bo2, bo3, bo4, bo5, bo6] at hb
        have hbt20 := hb
        refine AW.exit ?_
        refine AW.seq ?_
        refine AW.region (cfg := cfg) ?_
        refine stp (fun _ h => s0 h) ?_
        refine stp (fun _ h => sm h) ?_
        refine aops_nil ?_
        refine AW.ret ?_
        refine ⟨.inr rfl, ?_⟩
        apply Exists.intro
        (have zz : pagesOf okS valS l = (l.take k).map valS := pages_stop okS valS hk mo0 ((pg0 _).1 (by assumption)))
        (rw [zz, ← emp_take k (by omega)])
        refine leavesN ?_
        refine leaves_mwp2 (rs := [.tmp 2]) rfl ?_; simp (config := {failIfUnchanged := false}) [giveL, srcOne, rehome, freezeN, sub, upd, opn, aLoad, loadL, giveOne, reify, reifyL, readL, readOne, Mwp, M.bind, Mem.set, setAt, cellsL, hG, f0, f3, f8, f9, f10, o3]
        exact ⟨by simp [List.take_take], rfl⟩
      case hf2 =>
        have hw20 := hb
        try simp only [bo1, bo2, bo3, bo4, bo5, bo6] at hb
        have hbt20 := hb
        refine AW.skip ?_
        refine AW.region (cfg := cfg) ?_
        refine stp (fun _ h => s0 h) ?_
        refine stp (fun _ h => sl h) ?_
        refine stp (fun _ h => sq h) ?_
        refine stp (fun _ h => sp h) ?_
        refine stp (fun _ h => st h) ?_
        refine aops_nil ?_
        refine AW.region (cfg := cfg) ?_
        refine stp (fun _ h => sd h) ?_
        refine stp (fun _ h => s0 h) ?_
        refine aops_nil ?_
        refine ⟨_, _, rfl, ?_, ?_, ?_, ?_, ?_, ?_, ?_, (by intro i; simp [Mem.set, hr]), (by exact hG)⟩ <;> try simp (disch := first | omega | decide) only [go_sem, F, aIndex_map]
        all_goals first | rfl | (exact take_ok hk mo0 (good_of_R hb)) | (rw [List.take_succ_eq_append_getElem hk]; simp [pageA, valS, -List.take_append_getElem]; done)
    case hf1 =>
      have hw11 := hb
      try simp only [bo1, bo2, bo3, bo4, bo5, bo6] at hb
      have hbt11 := hb
      refine AW.exit ?_
      refine AW.seq ?_
      refine AW.region (cfg := cfg) ?_
      refine stp (fun _ h => s0 h) ?_
      refine stp (fun _ h => sm h) ?_
      refine aops_nil ?_
      refine AW.ret ?_
      refine ⟨.inr rfl, ?_⟩
      apply Exists.intro
      (have zz : pagesOf okS valS l = (l.take k).map valS := (by have e : k = l.length := (by omega); rw [e, List.take_length] at mo0; rw [e, List.take_length]; exact pages_full okS valS mo0))
      (rw [zz, ← emp_take k (by omega)])
      refine leavesN ?_
      refine leaves_mwp2 (rs := [.tmp 2]) rfl ?_; simp (config := {failIfUnchanged := false}) [giveL, srcOne, rehome, freezeN, sub, upd, opn, aLoad, loadL, giveOne, reify, reifyL, readL, readOne, Mwp, M.bind, Mem.set, setAt, cellsL, hG, f0, f3, f8, f9, f10, o3]
      exact ⟨by simp [List.take_take], rfl⟩
  · clear F f0 hr hG
    rintro σ ⟨s, m, rfl, f0, f3, o3, f8, f9, f10, mo0, hr, hG⟩
    obtain ⟨g3, o3⟩ : ∃ g, m.objs (.var 3) = (g, .arr (decide (l.length = 0)) 7 (((l.take l.length).map valS).map pageA)) := ⟨_, Prod.ext rfl o3⟩
    rw [o3] at f3
    have F := (And.intro f0 (And.intro f3 (And.intro f8 (And.intro f9 (And.intro f10 (And.intro o3 hG))))))
    refine AW.seq ?_
    refine AW.region (cfg := cfg) ?_
    refine stp (fun _ h => s0 h) ?_
    refine aops_nil ?_
    refine AW.seq ?_
    refine cnd (fun hb => ?ht3) (fun hb => ?hf3)
    case ht3 => (simp at hb; done)
    case hf3 =>
    have hbt11 := hb
    refine AW.exit ?_
    refine AW.seq ?_
    refine AW.region (cfg := cfg) ?_
    refine stp (fun _ h => s0 h) ?_
    refine stp (fun _ h => sm h) ?_
    refine aops_nil ?_
    refine AW.ret ?_
    refine ⟨.inr rfl, ?_⟩
    apply Exists.intro
    (have zz : pagesOf okS valS l = l.map valS := pages_full okS valS (by simpa using mo0))
    (rw [zz, ← emp_all])
    refine leavesN ?_
    refine leaves_mwp2 (rs := [.tmp 2]) rfl ?_; simp (config := {failIfUnchanged := false}) [giveL, srcOne, rehome, freezeN, sub, upd, opn, aLoad, loadL, giveOne, reify, reifyL, readL, readOne, Mwp, M.bind, Mem.set, setAt, cellsL, hG, f0, f3, f8, f9, f10, o3]
    exact ⟨List.take_of_length_le (by simp), rfl⟩
end Go.Vai.S7
namespace Go.Vai.S7
open Go.Proofs Go.Vai Go.Vai.G Go.Vai.L Go.Vai.O Go.Vai.RC Go.Vai.U Go.Vai.Z
set_option linter.unusedSimpArgs false
set_option linter.unusedVariables false
set_option maxHeartbeats 4000000
set_option maxRecDepth 100000
theorem mark_bd (x : PS) : 0 ≤ (valS x).mark ∧ (valS x).mark ≤ 2147483648 := by
  rw [valS]
  cases h : pgGood x.2 with
  | false => rw [pgV_no h]; decide
  | true => exact (page_bd (good_pg h)).2.2.1
theorem mark_0 : markOf okS valS ([] : List PS) = 0 := rfl
theorem mark_yes {l : List PS} {k : Nat} (hk : k < l.length) (h : pgGood (l[k]).2 = true) : markOf okS valS (l.take (k + 1)) = (if (valS l[k]).mark > markOf okS valS (l.take k) then (valS l[k]).mark else markOf okS valS (l.take k)) := by
  rw [markOf_take okS valS hk, if_pos (show okS l[k] = true from h)]
theorem mark_no {l : List PS} {k : Nat} (hk : k < l.length) (h : pgGood (l[k]).2 = false) : markOf okS valS (l.take (k + 1)) = markOf okS valS (l.take k) := by
  rw [markOf_take okS valS hk, if_neg (show ¬ okS l[k] = true by rw [okS, h]; decide)]
theorem mark_rg {l : List PS} : ∀ {k : Nat}, 0 ≤ markOf okS valS (l.take k) ∧ markOf okS valS (l.take k) ≤ 2147483648
  | 0 => by simp [mark_0]
  | k + 1 => by
    by_cases h : k < l.length
    · have i := mark_rg (l := l) (k := k)
      have b := mark_bd l[k]
      cases e : pgGood (l[k]).2 with
      | false => rw [mark_no h e]; exact i
      | true => rw [mark_yes h e]; split <;> omega
    · have i := mark_rg (l := l) (k := k)
      rw [List.take_of_length_le (by omega)] at i ⊢
      exact i
theorem bad_of_R {l : List (BitVec 8)} (h : ¬ pgR l = 0) : pgGood l = false := (pg0 l).1 h
theorem good_of_R0 {l : List (BitVec 8)} (h : pgR l = 0) : pgGood l = true := good_of_R (fun f => f h)
theorem good_Mark (nil : Bool) (l : List PS) (hl : l.length ≤ 1000000) (pl : ∀ x ∈ l, x.2.length ≤ 140737488355000 ∧ (x.1 = true → x.2 = [])) : Good Tryz.prog 38 [(.sl 1 nil (l.map pslice), false)] [] [(i64 (markOf okS valS l), false)] [] := by
  refine good_of_body2 27 Tryz.func38 rfl rfl rfl (by simp) ?_
  intro s m ha hr hv hG
  have f0 : s 0 = .v (.sl 1 nil (l.map pslice)) := ha 0 _ rfl
  clear ha
  have hc : True := trivial
  have F := (And.intro f0 hG)
  refine AW.seq ?_
  refine AW.region (cfg := cfg) ?_
  refine stp (fun _ h => s0 h) ?_
  refine aops_nil ?_
  refine AW.seq ?_
  refine AW.region (cfg := cfg) ?_
  refine stp (fun _ h => s0 h) ?_
  refine aops_nil ?_
  refine AW.seq ?_
  refine AW.seq ?_
  refine AW.region (cfg := cfg) ?_
  refine stp (fun _ h => s0 h) ?_
  refine stp (fun _ h => sd h) ?_
  refine stp (fun _ h => s0 h) ?_
  refine aops_nil ?_
  refine AW.block ?_
  refine AW.forN (fun k σ => ∃ s m, σ = ⟨27, s, m⟩ ∧ s 0 = .v (.sl 1 nil (l.map pslice)) ∧ s 3 = .v (i64 (markOf okS valS (l.take k))) ∧ s 8 = .v (.sl 1 nil (l.map pslice)) ∧ s 9 = .v (i64 (l.length : Int)) ∧ s 10 = .v (i64 (k : Int)) ∧ (∀ i, (m.objs (.res i)).2 = .dead) ∧ m.G = []) (l.length) ?_ ?_ ?_
  · refine ⟨_, _, rfl, ?_, ?_, ?_, ?_, ?_, (by intro i; simp [Mem.set, hr]), (by exact hG)⟩ <;> try simp (disch := first | omega | decide) only [go_sem, F, aIndex_map]
    all_goals rfl
  · clear F f0 hr hG
    rintro k σ hk ⟨s, m, rfl, f0, f3, f8, f9, f10, hr, hG⟩
    have F := (And.intro f0 (And.intro f3 (And.intro f8 (And.intro f9 (And.intro f10 hG)))))
    refine AW.seq ?_
    refine AW.region (cfg := cfg) ?_
    refine stp (fun _ h => s0 h) ?_
    refine aops_nil ?_
    refine AW.seq ?_
    refine cnd (fun hb => ?ht1) (fun hb => ?hf1)
    case hf1 => (simp at hb; omega)
    case ht1 =>
    have hbt11 := hb
    refine AW.skip ?_
    refine AW.seq ?_
    refine AW.block ?_
    refine AW.seq ?_
    have hkl : k < l.length := hk
    obtain ⟨pk1, pk2⟩ := pl l[k] (List.getElem_mem hkl)
    have pk3 := mark_bd l[k]
    have pk4 := mark_rg (l := l) (k := k)
    refine AW.region (cfg := cfg) ?_
    refine stp (fun _ h => si h) ?_
    refine stp (fun _ h => sl h) ?_
    refine stp (fun _ h => s0 h) ?_
    refine aops_nil ?_
    refine AW.seq ?_
    refine AW.region (cfg := cfg) ?_
    refine stp (fun _ h => s0 h) ?_
    refine stp (fun _ h => cr (w := good_GetP l[k].1 l[k].2 (by omega) pk2) (x := h)) ?_
    iterate 3 refine stp (fun _ h => s0 h) ?_
    refine stp (fun _ h => sd h) ?_
    refine stp0 (fun _ h => ss h) ?_
    refine stp (fun _ h => s0 h) ?_
    refine aops_nil ?_
    refine AW.seq ?_
    refine AW.region (cfg := cfg) ?_
    iterate 2 refine stp (fun _ h => s0 h) ?_
    refine aops_nil ?_
    refine cnd (fun hb => ?ht2) (fun hb => ?hf2)
    case ht2 =>
      have hw20 := hb
      try simp only [bo1, bo2, bo3, bo4, bo5, bo6] at hb
      have hbt20 := hb
      refine AW.region (cfg := cfg) ?_
      refine stp (fun _ h => s0 h) ?_
      refine stp (fun _ h => sx h) ?_
      refine stp (fun _ h => sl h) ?_
      refine stp (fun _ h => sd h) ?_
      refine stp (fun _ h => s0 h) ?_
      refine aops_nil ?_
      refine AW.region (cfg := cfg) ?_
      refine stp (fun _ h => sd h) ?_
      refine stp (fun _ h => s0 h) ?_
      refine aops_nil ?_
      refine ⟨_, _, rfl, ?_, ?_, ?_, ?_, ?_, (by intro i; simp [Mem.set, hr]), (by exact hG)⟩ <;> try simp (disch := first | omega | decide) only [go_sem, F, aIndex_map]
      all_goals first | rfl | (rw [mark_yes hk (good_of_R0 hb)]; rfl)
    case hf2 =>
      have hw20 := hb
      try simp only [bo1, bo2, bo3, bo4, bo5, bo6] at hb
      have hbt20 := hb
      refine AW.skip ?_
      refine AW.region (cfg := cfg) ?_
      refine stp (fun _ h => sd h) ?_
      refine stp (fun _ h => s0 h) ?_
      refine aops_nil ?_
      refine ⟨_, _, rfl, ?_, ?_, ?_, ?_, ?_, (by intro i; simp [Mem.set, hr]), (by exact hG)⟩ <;> try simp (disch := first | omega | decide) only [go_sem, F, aIndex_map]
      all_goals first | rfl | (rw [mark_no hk (bad_of_R hb)]; done)
  · clear F f0 hr hG
    rintro σ ⟨s, m, rfl, f0, f3, f8, f9, f10, hr, hG⟩
    have F := (And.intro f0 (And.intro f3 (And.intro f8 (And.intro f9 (And.intro f10 hG)))))
    refine AW.seq ?_
    refine AW.region (cfg := cfg) ?_
    refine stp (fun _ h => s0 h) ?_
    refine aops_nil ?_
    refine AW.seq ?_
    refine cnd (fun hb => ?ht3) (fun hb => ?hf3)
    case ht3 => (simp at hb; done)
    case hf3 =>
    have hbt11 := hb
    refine AW.exit ?_
    refine AW.seq ?_
    refine AW.region (cfg := cfg) ?_
    iterate 2 refine stp (fun _ h => s0 h) ?_
    refine aops_nil ?_
    refine AW.ret ?_
    refine ⟨.inr rfl, ?_⟩
    refine leaves_tmp1 2 rfl ?_ (by exact hG)
    simp (disch := first | omega | decide) only [go_sem, F, aIndex_map]
    all_goals first | done | (rw [List.take_length]; done) | trace_state
end Go.Vai.S7
namespace Go.Vai.S7
open Go.Proofs Go.Vai Go.Vai.G Go.Vai.L Go.Vai.O Go.Vai.RC Go.Vai.U Go.Vai.Z
set_option linter.unusedSimpArgs false
set_option linter.unusedVariables false
set_option maxHeartbeats 4000000
set_option maxRecDepth 100000
theorem pg_le (l : List PS) : (pagesOf okS valS l).length ≤ l.length := by
  rw [pagesOf, List.length_map]
  exact (List.takeWhile_sublist _).length_le
theorem pg_small (l : List PS) : ∀ x ∈ pagesOf okS valS l, x.b.length ≤ 488 := fun x hx => by
  rw [pagesOf] at hx
  obtain ⟨y, _, rfl⟩ := List.mem_map.1 hx
  exact valS_bd y
theorem slot_f0 {l : List Page} (h : joinOK l = false) : slotOK l = false ∧ slotB l = [] ∧ slotG l = 0 := by
  have e : slotOK l = false := by rw [slotOK, h, Bool.false_and]
  exact ⟨e, by rw [slotB, e]; rfl, by rw [slotG, e]; rfl⟩
theorem slot_f1 {l : List Page} (h0 : 0 < l.length) (h : l[0].kind ≠ 1 ∨ l[0].idx ≠ 0) : slotOK l = false ∧ slotB l = [] ∧ slotG l = 0 := by
  have e : slotOK l = false := by
    rw [slotOK, getD0 h0]
    rcases h with h | h
    · rw [decide_eq_false h, Bool.false_and, Bool.and_false]
    · rw [decide_eq_false h, Bool.and_false, Bool.and_false]
  exact ⟨e, by rw [slotB, e]; rfl, by rw [slotG, e]; rfl⟩
theorem slot_t {l : List Page} (h0 : 0 < l.length) (hj : joinOK l = true) (h : l[0].kind = 1 ∧ l[0].idx = 0) : slotOK l = true ∧ slotB l = joinB l ∧ slotG l = l[0].gen := by
  have e : slotOK l = true := by
    rw [slotOK, getD0 h0, hj, decide_eq_true h.1, decide_eq_true h.2]; rfl
  exact ⟨e, by rw [slotB, e]; rfl, by rw [slotG, e, getD0 h0]; rfl⟩
theorem join_way (l : List Page) : joinOK l = false ∨ (joinOK l = true ∧ 0 < l.length) := by
  cases e : joinOK l with
  | false => exact .inl rfl
  | true =>
    have e2 := e
    simp only [joinOK, Bool.and_eq_true] at e2
    exact .inr ⟨rfl, (head_is e2.1).1⟩
attribute [go_sem] cellsOf_base
theorem good_Load (nil : Bool) (l : List PS) (hl : l.length ≤ 1000000) (pl : ∀ x ∈ l, x.2.length ≤ 140737488355000 ∧ (x.1 = true → x.2 = [])) : Good Tryz.prog 76 [(.sl 1 nil (l.map pslice), false)] [] [(baseA (slotG (pagesOf okS valS l)) ((slotB (pagesOf okS valS l)).isEmpty) (slotB (pagesOf okS valS l)), false), (.b (slotOK (pagesOf okS valS l)), false)] [] := by
  refine good_of_body4 39 Tryz.func76 rfl rfl rfl (by simp) (by simp) (by simp [noPtrL, noPtr]) (by simp [noPtrL, noPtr]) ?_
  intro s m ha hr hv hG
  have f0 : s 0 = .v (.sl 1 nil (l.map pslice)) := ha 0 _ rfl
  clear ha
  have hc : True := trivial
  have F := (And.intro f0 hG)
  refine AW.seq ?_
  refine AW.region (cfg := cfg) ?_
  refine stp (fun _ h => sd h) ?_
  refine stp (fun _ h => s0 h) ?_
  refine aops_nil ?_
  refine AW.seq ?_
  have hpl := pg_le l
  have hps := pg_small l
  refine AW.region (cfg := cfg) ?_
  refine stp (fun _ h => s0 h) ?_
  refine stp (fun _ h => cr (w := good_pagesS nil l (by omega) pl) (x := h)) ?_
  refine stp (fun _ h => s0 h) ?_
  refine aops_nil ?_
  refine AW.seq ?_
  refine AW.region (cfg := cfg) ?_
  refine stp (fun _ h => s0 h) ?_
  refine stp (fun _ h => cr (w := good_Join (pagesOf okS valS l).isEmpty (pagesOf okS valS l) (by omega) (fun x hx => by have := hps x hx; omega)) (x := h)) ?_
  iterate 7 refine stp (fun _ h => s0 h) ?_
  refine aops_nil ?_
  refine AW.seq ?_
  refine AW.seq ?_
  rcases join_way (pagesOf okS valS l) with hj | ⟨hj1, hjl⟩
  · skip
    have hj1 := hj
    have F := And.intro hj1 F
    refine AW.region (cfg := cfg) ?_
    iterate 3 refine stp (fun _ h => s0 h) ?_
    iterate 5 refine skp ?_
    iterate 2 refine stp (fun _ h => s0 h) ?_
    iterate 5 refine skp ?_
    refine stp (fun _ h => s0 h) ?_
    refine aops_nil ?_
    refine cnd (fun hb => ?ht1) (fun hb => ?hf1)
    case hf1 => (simp at hb; done)
    case ht1 =>
    have hbt31 := hb
    refine AW.seq ?_
    refine AW.region (cfg := cfg) ?_
    refine stp (fun _ h => su h) ?_
    refine stp0 (fun _ h => ss h) ?_
    refine stp (fun _ h => s0 h) ?_
    refine aops_nil ?_
    refine AW.ret ?_
    refine ⟨.inr rfl, ?_⟩
    apply Exists.intro
    (have zz := slot_f0 hj)
    obtain ⟨e1, e2, e3⟩ := zz
    rw [e1, e2, e3]
    refine leaves_mwp2 (rs := [.cell 2 77, .tmp 3]) rfl ?_; simp (config := {failIfUnchanged := false}) [giveL, srcOne, rehome, freezeN, sub, ti77, upd, opn, aLoad, loadL, giveOne, reify, reifyL, readL, readOne, Mwp, M.bind, Mem.set, setAt, cellsL, hG, f0, hj1]
    exact ⟨rfl, rfl⟩
  · skip
    have hj := d00
    have F := And.intro hj1 F
    refine AW.region (cfg := cfg) ?_
    iterate 4 refine stp (fun _ h => s0 h) ?_
    refine stp (fun _ h => si h) ?_
    refine stp (fun _ h => sx h) ?_
    refine stp (fun _ h => sl h) ?_
    iterate 3 refine stp (fun _ h => s0 h) ?_
    refine mrg wa (fun hc _ h => s0 h) ?_
    refine mrg wa (fun hc _ h => si h) ?_
    refine mrg wa (fun hc _ h => sx h) ?_
    refine mrg wa (fun hc _ h => sl h) ?_
    refine mrg wa (fun hc _ h => s0 h) ?_
    refine stp (fun _ h => s0 h) ?_
    refine aops_nil ?_
    refine cnd (fun hb => ?ht2) (fun hb => ?hf2)
    case ht2 =>
      have hw31 := hb
      try simp only [bo1, bo2, bo3, bo4, bo5, bo6] at hb
      have hbt31 := hb
      refine AW.seq ?_
      refine AW.region (cfg := cfg) ?_
      refine stp (fun _ h => su h) ?_
      refine stp0 (fun _ h => ss h) ?_
      refine stp (fun _ h => s0 h) ?_
      refine aops_nil ?_
      refine AW.ret ?_
      refine ⟨.inr rfl, ?_⟩
      apply Exists.intro
      (have zz := slot_f1 hjl (by omega))
      obtain ⟨e1, e2, e3⟩ := zz
      rw [e1, e2, e3]
      refine leaves_mwp2 (rs := [.cell 2 77, .tmp 3]) rfl ?_; simp (config := {failIfUnchanged := false}) [giveL, srcOne, rehome, freezeN, sub, ti77, upd, opn, aLoad, loadL, giveOne, reify, reifyL, readL, readOne, Mwp, M.bind, Mem.set, setAt, cellsL, hG, f0, hj1]
      exact ⟨rfl, rfl⟩
    case hf2 =>
      have hw31 := hb
      try simp only [bo1, bo2, bo3, bo4, bo5, bo6] at hb
      have hbt31 := hb
      refine AW.skip ?_
      refine AW.seq ?_
      refine AW.region (cfg := cfg) ?_
      refine stp (fun _ h => s0 h) ?_
      refine stp (fun _ h => si h) ?_
      refine stp (fun _ h => sx h) ?_
      refine stp (fun _ h => sl h) ?_
      refine stp (fun _ h => s0 h) ?_
      refine stp (fun _ h => su h) ?_
      refine stp0 (fun _ h => ss h) ?_
      refine stp (fun _ h => s0 h) ?_
      refine aops_nil ?_
      refine AW.ret ?_
      refine ⟨.inr rfl, ?_⟩
      apply Exists.intro
      (have zz := slot_t hjl hj1 (by omega))
      obtain ⟨e1, e2, e3⟩ := zz
      rw [e1, e2, e3]
      refine leaves_mwp2 (rs := [.cell 2 77, .tmp 3]) rfl ?_; simp (config := {failIfUnchanged := false}) [giveL, srcOne, rehome, freezeN, sub, ti77, upd, opn, aLoad, loadL, giveOne, reify, reifyL, readL, readOne, Mwp, M.bind, Mem.set, setAt, cellsL, hG, f0, hj1]
      exact ⟨rfl, rfl⟩
end Go.Vai.S7
namespace Go.Vai.S7
open Go.Proofs Go.Vai Go.Vai.G Go.Vai.L Go.Vai.O Go.Vai.RC Go.Vai.U Go.Vai.Z
set_option linter.unusedSimpArgs false
set_option linter.unusedVariables false
set_option maxHeartbeats 4000000
set_option maxRecDepth 100000
def bet (x y : List Page) : Bool := slotOK y && (!slotOK x || decide (slotG y > slotG x))
def betG (x y : List Page) : Int := if bet x y then slotG y else slotG x
def betB (x y : List Page) : List (BitVec 8) := if bet x y then slotB y else slotB x
def betOK (x y : List Page) : Bool := slotOK x || slotOK y
theorem bet_t {x y : List Page} (h : bet x y = true) : betG x y = slotG y ∧ betB x y = slotB y ∧ betOK x y = true ∧ slotOK y = true := by
  have hy : slotOK y = true := by simp only [bet, Bool.and_eq_true] at h; exact h.1
  exact ⟨if_pos h, if_pos h, by rw [betOK, hy, Bool.or_true], hy⟩
theorem bet_f {x y : List Page} (h : bet x y = false) : betG x y = slotG x ∧ betB x y = slotB x ∧ betOK x y = slotOK x := by
  refine ⟨if_neg (by rw [h]; decide), if_neg (by rw [h]; decide), ?_⟩
  cases hy : slotOK y with
  | false => rw [betOK, hy, Bool.or_false]
  | true =>
    cases hx : slotOK x with
    | false => rw [bet, hx, hy] at h; cases h
    | true => rw [betOK, hx]; rfl
theorem bet_1 {x y : List Page} (h : slotOK y = true ∧ (slotOK x = false ∨ slotG y > slotG x)) : bet x y = true := by
  rw [bet, h.1]
  rcases h.2 with h | h
  · rw [h]; rfl
  · rw [decide_eq_true h, Bool.or_true]; rfl
theorem bet_0 {x y : List Page} (h : slotOK y = false ∨ (slotOK x = true ∧ ¬ slotG y > slotG x)) : bet x y = false := by
  rcases h with h | ⟨h1, h2⟩
  · rw [bet, h, Bool.false_and]
  · rw [bet, h1, decide_eq_false h2]; simp
theorem good_Better (na : Bool) (a : List PS) (ha0 : a.length ≤ 1000000) (pa : ∀ x ∈ a, x.2.length ≤ 140737488355000 ∧ (x.1 = true → x.2 = [])) (nb : Bool) (b : List PS) (hb0 : b.length ≤ 1000000) (pb : ∀ x ∈ b, x.2.length ≤ 140737488355000 ∧ (x.1 = true → x.2 = [])) : Good Tryz.prog 39 [(.sl 1 na (a.map pslice), false), (.sl 1 nb (b.map pslice), false)] [] [(baseA (betG (pagesOf okS valS a) (pagesOf okS valS b)) ((betB (pagesOf okS valS a) (pagesOf okS valS b)).isEmpty) (betB (pagesOf okS valS a) (pagesOf okS valS b)), false), (.b (betOK (pagesOf okS valS a) (pagesOf okS valS b)), false)] [] := by
  refine good_of_body4 35 Tryz.func39 rfl rfl rfl (by simp) (by simp) (by simp [noPtrL, noPtr]) (by simp [noPtrL, noPtr]) ?_
  intro s m ha hr hv hG
  have f0 : s 0 = .v (.sl 1 na (a.map pslice)) := ha 0 _ rfl
  have f1 : s 1 = .v (.sl 1 nb (b.map pslice)) := ha 1 _ rfl
  clear ha
  have hc : True := trivial
  have F := (And.intro f0 (And.intro f1 hG))
  refine AW.seq ?_
  refine AW.region (cfg := cfg) ?_
  refine stp (fun _ h => sd h) ?_
  refine stp (fun _ h => s0 h) ?_
  refine aops_nil ?_
  refine AW.seq ?_
  refine AW.region (cfg := cfg) ?_
  refine stp (fun _ h => s0 h) ?_
  refine stp (fun _ h => cr (w := good_Load na a (by omega) pa) (x := h)) ?_
  iterate 3 refine stp (fun _ h => s0 h) ?_
  refine stp (fun _ h => sd h) ?_
  refine stp0 (fun _ h => ss h) ?_
  refine stp (fun _ h => s0 h) ?_
  refine aops_nil ?_
  refine AW.seq ?_
  refine AW.region (cfg := cfg) ?_
  refine stp (fun _ h => s0 h) ?_
  refine stp (fun _ h => cr (w := good_Load nb b (by omega) pb) (x := h)) ?_
  iterate 3 refine stp (fun _ h => s0 h) ?_
  refine stp (fun _ h => sd h) ?_
  refine stp0 (fun _ h => ss h) ?_
  refine stp (fun _ h => s0 h) ?_
  refine aops_nil ?_
  refine AW.seq ?_
  refine AW.seq ?_
  refine AW.region (cfg := cfg) ?_
  iterate 2 refine stp (fun _ h => s0 h) ?_
  iterate 3 refine mrg wa (fun hc _ h => s0 h) ?_
  refine mrg wa (fun hc _ h => sx h) ?_
  refine mrg wa (fun hc _ h => sl h) ?_
  refine mrg wa (fun hc _ h => sx h) ?_
  refine mrg wa (fun hc _ h => sl h) ?_
  iterate 2 refine mrg wa (fun hc _ h => s0 h) ?_
  refine stp (fun _ h => s0 h) ?_
  refine aops_nil ?_
  refine cnd (fun hb => ?ht1) (fun hb => ?hf1)
  case ht1 =>
    have hw31 := hb
    try simp only [bo1, bo2, bo3, bo4, bo5, bo6] at hb
    have hbt31 := hb
    refine AW.seq ?_
    refine AW.region (cfg := cfg) ?_
    refine stp (fun _ h => sl h) ?_
    refine stp0 (fun _ h => ss h) ?_
    refine stp (fun _ h => s0 h) ?_
    refine aops_nil ?_
    refine AW.ret ?_
    refine ⟨.inr rfl, ?_⟩
    apply Exists.intro
    (have zz := bet_t (x := (pagesOf okS valS a)) (y := (pagesOf okS valS b)) (bet_1 (by simpa using hbt31)); obtain ⟨e1, e2, e3, e4⟩ := zz; (try rw [e4]); rw [e1, e2, e3])
    refine leaves_mwp2 (rs := [.cell 4 77, .tmp 5]) rfl ?_; simp (config := {failIfUnchanged := false}) [giveL, srcOne, rehome, freezeN, sub, ti77, upd, opn, aLoad, loadL, giveOne, reify, reifyL, readL, readOne, Mwp, M.bind, Mem.set, setAt, cellsL, hG, f0, f1]
    exact ⟨rfl, rfl⟩
  case hf1 =>
    have hw31 := hb
    try simp only [bo1, bo2, bo3, bo4, bo5, bo6] at hb
    have hbt31 := hb
    refine AW.skip ?_
    refine AW.seq ?_
    refine AW.region (cfg := cfg) ?_
    refine stp (fun _ h => sl h) ?_
    refine stp (fun _ h => s0 h) ?_
    refine stp0 (fun _ h => ss h) ?_
    refine stp (fun _ h => s0 h) ?_
    refine aops_nil ?_
    refine AW.ret ?_
    refine ⟨.inr rfl, ?_⟩
    apply Exists.intro
    (have zz := bet_f (x := (pagesOf okS valS a)) (y := (pagesOf okS valS b)) (bet_0 (by simpa using hbt31)); obtain ⟨e1, e2, e3⟩ := zz; rw [e1, e2, e3])
    refine leaves_mwp2 (rs := [.cell 4 77, .tmp 5]) rfl ?_; simp (config := {failIfUnchanged := false}) [giveL, srcOne, rehome, freezeN, sub, ti77, upd, opn, aLoad, loadL, giveOne, reify, reifyL, readL, readOne, Mwp, M.bind, Mem.set, setAt, cellsL, hG, f0, f1]
    exact ⟨rfl, rfl⟩
end Go.Vai.S7
set_option linter.unusedSimpArgs false
set_option linter.unusedVariables false
namespace Go.Vai.DK
structure Dk where
 n : Int
 safe : Int → Option (List (BitVec 8))
 waits : Int → Option (List (BitVec 8))
 armed : Int
 dead : Bool
def byA (b : List (BitVec 8)) : AV := .sl 1 false (bsl b)
def mapA (f : Int → Option (List (BitVec 8))) : Int → Option AV := fun k => (f k).map byA
def dkC (is iw : Nat) (x : Dk) : List AV := [i64 x.n, .gm is, .gm iw, i64 x.armed, .b x.dead]
structure HasD (G : List (List AV)) (d is iw : Nat) (x : Dk) : Prop where
 hd : G[d]? = some [i64 x.n, .gm is, .gm iw, i64 x.armed, .b x.dead]
 hs : G[is]? = some [.mp (mapA x.safe)]
 hw : G[iw]? = some [.mp (mapA x.waits)]
 ni : is ≠ iw
def offD (x : Dk) : Bool := decide (x.n = 0) || x.dead
def firmD (x : Dk) (i : Int) : List (BitVec 8) := (x.safe i).getD (List.replicate 512 0#8)
def readD (x : Dk) (i : Int) : List (BitVec 8) := (x.waits i).getD (firmD x i)
theorem lkp_map (f : Int → Option (List (BitVec 8))) (k : Int) : lkp (.sl 1 true []) true (mapA f k) = .v (.tup [.sl 1 (f k).isNone (bsl ((f k).getD [])), .b (f k).isSome]) := by
 simp only [lkp, mapA, if_true]
 cases f k <;> rfl
theorem HasD.ne {G : List (List AV)} {d is iw : Nat} {x : Dk} (h : HasD G d is iw x) : d ≠ is ∧ d ≠ iw := by
 constructor
 ·rintro rfl; have := h.hd.symm.trans h.hs; simp at this
 ·rintro rfl; have := h.hd.symm.trans h.hw; simp at this
structure Whole (x : Dk) : Prop where
 s : ∀ i b, x.safe i = some b → b.length = 512
 w : ∀ i b, x.waits i = some b → b.length = 512
theorem firm_yes {x : Dk} {i : Int} (hw : Whole x) (h : (x.safe i).isSome = true) : (x.safe i).isNone = false ∧ firmD x i = (x.safe i).getD [] ∧ ((x.safe i).getD []).length = 512 := by
 cases e : x.safe i with
 | none => rw [e] at h; cases h
 | some b => exact ⟨rfl, by rw [firmD, e]; rfl, hw.s i b e⟩
theorem firm_no {x : Dk} {i : Int} (h : (x.safe i).isSome = false) : firmD x i = List.replicate 512 0#8 := by
 cases e : x.safe i with
 | none => rw [firmD, e]; rfl
 | some b => rw [e] at h; cases h
theorem firm_len {x : Dk} (hw : Whole x) (i : Int) : (firmD x i).length = 512 := by
 cases e : (x.safe i).isSome with
 | true => obtain ⟨_, h1, h2⟩ := firm_yes hw e; rw [h1, h2]
 | false => rw [firm_no e, List.length_replicate]
theorem read_yes {x : Dk} {i : Int} (hw : Whole x) (h : (x.waits i).isSome = true) : (x.waits i).isNone = false ∧ readD x i = (x.waits i).getD [] ∧ ((x.waits i).getD []).length = 512 := by
 cases e : x.waits i with
 | none => rw [e] at h; cases h
 | some b => exact ⟨rfl, by rw [readD, e]; rfl, hw.w i b e⟩
theorem read_no {x : Dk} {i : Int} (h : (x.waits i).isSome = false) : readD x i = firmD x i := by
 cases e : x.waits i with
 | none => rw [readD, e]; rfl
 | some b => rw [e] at h; cases h
def rdE (x : Dk) (i : Int) : Int := if offD x = true then 7 else if i < 0 ∨ i ≥ x.n then 1 else 0
def rdB (x : Dk) (i : Int) : List (BitVec 8) := if offD x = true then [] else if i < 0 ∨ i ≥ x.n then [] else readD x i
theorem rd_off {x : Dk} {i : Int} (h : offD x = true) : rdE x i = 7 ∧ rdB x i = [] := by simp [rdE, rdB, h]
theorem rd_out {x : Dk} {i : Int} (h : offD x = false) (h2 : i < 0 ∨ i ≥ x.n) : rdE x i = 1 ∧ rdB x i = [] := by simp [rdE, rdB, h, h2]
theorem rd_ok {x : Dk} {i : Int} (h : offD x = false) (h2 : ¬ i < 0 ∧ ¬ i ≥ x.n) : rdE x i = 0 ∧ rdB x i = readD x i := by
 have : ¬ (i < 0 ∨ i ≥ x.n) := by omega
 simp [rdE, rdB, h, this]
theorem set_same {G : List (List AV)} {i : Nat} {a : List AV} (h : G[i]? = some a) : G.set i a = G := by
 obtain ⟨h1, rfl⟩ := List.getElem?_eq_some_iff.1 h
 exact List.set_getElem_self h1
def wrD (G : List (List AV)) (d is iw : Nat) (x : Dk) : List (List AV) := ((G.set d [i64 x.n, .gm is, .gm iw, i64 x.armed, .b x.dead]).set is [.mp (mapA x.safe)]).set iw [.mp (mapA x.waits)]
section
variable {G : List (List AV)} {d is iw : Nat} {x y : Dk}
theorem wr_d (h : HasD G d is iw x) (h1 : y.safe = x.safe) (h2 : y.waits = x.waits) : wrD G d is iw y = G.set d [i64 y.n, .gm is, .gm iw, i64 y.armed, .b y.dead] := by
 have e1 : (G.set d [i64 y.n, .gm is, .gm iw, i64 y.armed, .b y.dead])[is]? = some [.mp (mapA y.safe)] := by rw [List.getElem?_set_ne h.ne.1, h1]; exact h.hs
 have e2 : (G.set d [i64 y.n, .gm is, .gm iw, i64 y.armed, .b y.dead])[iw]? = some [.mp (mapA y.waits)] := by rw [List.getElem?_set_ne h.ne.2, h2]; exact h.hw
 rw [wrD, set_same e1, set_same e2]
theorem wr_self (h : HasD G d is iw x) : wrD G d is iw x = G := by rw [wr_d h rfl rfl, set_same h.hd]
theorem wr_w (h : HasD G d is iw x) (h1 : y.n = x.n) (h2 : y.armed = x.armed) (h3 : y.dead = x.dead) (h4 : y.safe = x.safe) : wrD G d is iw y = G.set iw [.mp (mapA y.waits)] := by
 rw [wrD, h1, h2, h3, h4, set_same h.hd, set_same h.hs]
theorem wr_has (h : HasD G d is iw x) : HasD (wrD G d is iw y) d is iw y := by
 have l1 := (List.getElem?_eq_some_iff.1 h.hd).1
 have l2 := (List.getElem?_eq_some_iff.1 h.hs).1
 have l3 := (List.getElem?_eq_some_iff.1 h.hw).1
 refine ⟨?_, ?_, ?_, h.ni⟩
 ·rw [wrD, List.getElem?_set_ne h.ne.2.symm, List.getElem?_set_ne h.ne.1.symm, List.getElem?_set_self l1]
 ·rw [wrD, List.getElem?_set_ne h.ni.symm, List.getElem?_set_self (by simpa using l2)]
 ·rw [wrD, List.getElem?_set_self (by simpa using l3)]
theorem wr_len : (wrD G d is iw y).length = G.length := by simp [wrD]
theorem wr_other {k : Nat} (h1 : k ≠ d) (h2 : k ≠ is) (h3 : k ≠ iw) : (wrD G d is iw y)[k]? = G[k]? := by
 rw [wrD, List.getElem?_set_ne h3.symm, List.getElem?_set_ne h2.symm, List.getElem?_set_ne h1.symm]
theorem wr_wr (h : HasD G d is iw x) {z : Dk} : wrD (wrD G d is iw y) d is iw z = wrD G d is iw z := by
 refine List.ext_getElem? fun k => ?_
 have l1 := (List.getElem?_eq_some_iff.1 h.hd).1
 have l2 := (List.getElem?_eq_some_iff.1 h.hs).1
 have l3 := (List.getElem?_eq_some_iff.1 h.hw).1
 by_cases e3 : k = iw
 ·subst e3; rw [(wr_has (wr_has (y := y) h) (y := z)).hw, (wr_has h (y := z)).hw]
 ·by_cases e2 : k = is
  ·subst e2; rw [(wr_has (wr_has (y := y) h) (y := z)).hs, (wr_has h (y := z)).hs]
  ·by_cases e1 : k = d
   ·subst e1; rw [(wr_has (wr_has (y := y) h) (y := z)).hd, (wr_has h (y := z)).hd]
   ·rw [wr_other e1 e2 e3, wr_other e1 e2 e3, wr_other e1 e2 e3]
end
def actD (x : Dk) : Dk := if x.armed = 0 then { x with dead := true } else if x.armed > 0 then { x with armed := x.armed - 1 } else x
def actE (x : Dk) : Int := if x.armed = 0 then 7 else 0
theorem act_0 {x : Dk} (h : x.armed = 0) : actD x = { x with dead := true } ∧ actE x = 7 := by simp [actD, actE, h]
theorem act_p {x : Dk} (h : ¬ x.armed = 0) (h2 : x.armed > 0) : actD x = { x with armed := x.armed - 1 } ∧ actE x = 0 := by simp [actD, actE, h, h2]
theorem act_n {x : Dk} (h : ¬ x.armed = 0) (h2 : ¬ x.armed > 0) : actD x = x ∧ actE x = 0 := by simp [actD, actE, h, h2]
theorem act_g0 {G : List (List AV)} {d is iw : Nat} {x : Dk} (hD : HasD G d is iw x) (h : x.armed = 0) : wrD G d is iw (actD x) = G.set d [i64 x.n, .gm is, .gm iw, i64 x.armed, .b true] := by
 rw [(act_0 h).1]; exact wr_d (y := { x with dead := true }) hD rfl rfl
theorem act_gp {G : List (List AV)} {d is iw : Nat} {x : Dk} (hD : HasD G d is iw x) (h : ¬ x.armed = 0) (h2 : x.armed > 0) : wrD G d is iw (actD x) = G.set d [i64 x.n, .gm is, .gm iw, i64 (x.armed - 1), .b x.dead] := by
 rw [(act_p h h2).1]; exact wr_d (y := { x with armed := x.armed - 1 }) hD rfl rfl
theorem act_gn {G : List (List AV)} {d is iw : Nat} {x : Dk} (hD : HasD G d is iw x) (h : ¬ x.armed = 0) (h2 : ¬ x.armed > 0) : wrD G d is iw (actD x) = G := by
 rw [(act_n h h2).1]; exact wr_self hD
theorem act_maps (x : Dk) : (actD x).safe = x.safe ∧ (actD x).waits = x.waits ∧ (actD x).n = x.n := by
 unfold actD; split
 ·exact ⟨rfl, rfl, rfl⟩
 ·split <;> exact ⟨rfl, rfl, rfl⟩
def putW (x : Dk) (i : Int) (b : List (BitVec 8)) : Dk := { x with waits := fun j => if j = i then some b else x.waits j }
def wriE (x : Dk) (i : Int) (b : List (BitVec 8)) : Int := if offD x = true then 7 else if (i < 0 ∨ i ≥ x.n) ∨ (b.length : Int) ≠ 512 then 1 else actE x
def wriX (x : Dk) (i : Int) (b : List (BitVec 8)) : Dk := if offD x = true then x else if (i < 0 ∨ i ≥ x.n) ∨ (b.length : Int) ≠ 512 then x else if x.armed = 0 then actD x else putW (actD x) i b
theorem wri_off {x : Dk} {i : Int} {b : List (BitVec 8)} (h : offD x = true) : wriE x i b = 7 ∧ wriX x i b = x := by simp [wriE, wriX, h]
theorem wri_bad {x : Dk} {i : Int} {b : List (BitVec 8)} (h : offD x = false) (h2 : (i < 0 ∨ i ≥ x.n) ∨ (b.length : Int) ≠ 512) : wriE x i b = 1 ∧ wriX x i b = x := by
 simp only [wriE, wriX, h, Bool.false_eq_true, if_false, if_pos h2, and_self]
theorem wri_die {x : Dk} {i : Int} {b : List (BitVec 8)} (h : offD x = false) (h2 : ¬ ((i < 0 ∨ i ≥ x.n) ∨ (b.length : Int) ≠ 512)) (h3 : actE x ≠ 0) : wriE x i b = actE x ∧ wriX x i b = actD x := by
 have h4 : x.armed = 0 := by unfold actE at h3; split at h3 <;> simp_all
 simp only [wriE, wriX, h, Bool.false_eq_true, if_false, if_neg h2, if_pos h4, and_self]
theorem wri_ok {x : Dk} {i : Int} {b : List (BitVec 8)} (h : offD x = false) (h2 : ¬ ((i < 0 ∨ i ≥ x.n) ∨ (b.length : Int) ≠ 512)) (h3 : ¬ actE x ≠ 0) : wriE x i b = 0 ∧ wriX x i b = putW (actD x) i b := by
 have h4 : ¬ x.armed = 0 := fun h => h3 (by rw [(act_0 h).2]; decide)
 have h5 : actE x = 0 := Decidable.not_not.1 h3
 simp only [wriE, wriX, h, Bool.false_eq_true, if_false, if_neg h2, if_neg h4, h5, and_self]
theorem map_upd (f : Int → Option (List (BitVec 8))) (k : Int) (b : List (BitVec 8)) : updM (mapA f) k (some (.sl 1 false (bsl b))) = mapA fun j => if j = k then some b else f j := by
 funext j
 simp only [updM, mapA]
 split <;> rfl
theorem wri_G {G : List (List AV)} {d is iw : Nat} {x y : Dk} {i : Int} {b : List (BitVec 8)} (hD : HasD G d is iw x) : wrD G d is iw (putW y i b) = (wrD G d is iw y).set iw [.mp (updM (mapA y.waits) i (some (.sl 1 false (bsl b))))] := by
 rw [map_upd, ← wr_wr (y := y) hD]
 exact wr_w (y := putW y i b) (wr_has (y := y) hD) rfl rfl rfl rfl
def armD (x : Dk) (n : Int) : Dk := { x with armed := if -1 > n then -1 else n }
def newG (G : List (List AV)) (n : Int) : List (List AV) := G ++ [[.mp fun _ => none], [.mp fun _ => none], [i64 n, .gm G.length, .gm (G.length + 1), i64 (-1), .b false]]
def newD (n : Int) : Dk := ⟨n, fun _ => none, fun _ => none, -1, false⟩
theorem new_has (G : List (List AV)) (n : Int) : HasD (newG G n) (G.length + 2) G.length (G.length + 1) (newD n) := by
 refine ⟨?_, ?_, ?_, by omega⟩
 ·rw [newG, List.getElem?_append_right (by omega), show G.length + 2 - G.length = 2 by omega]; rfl
 ·rw [newG, List.getElem?_append_right (by omega), Nat.sub_self]; rfl
 ·rw [newG, List.getElem?_append_right (by omega), show G.length + 1 - G.length = 1 by omega]; rfl
theorem arm_G {G : List (List AV)} {d is iw : Nat} {x : Dk} (hD : HasD G d is iw x) (n : Int) : wrD G d is iw (armD x n) = G.set d [i64 x.n, .gm is, .gm iw, i64 (if -1 > n then -1 else n), .b x.dead] := wr_d (y := armD x n) hD rfl rfl
end Go.Vai.DK
namespace Go.Vai.DK
open Go.Proofs Go.Vai Go.Vai.O Go.Vai.V
set_option linter.unusedSimpArgs false
set_option linter.unusedVariables false
set_option maxHeartbeats 4000000
set_option maxRecDepth 100000
theorem me_d : mapEl Tryz.prog 36 = some 22 := by kernel_rfl
theorem zo_d : zeroOf Tryz.prog 22 = some (.sl 1 true []) := by kernel_rfl
attribute [go_sem] me_d zo_d lkp_map
theorem good_off (G : List (List AV)) (d is iw : Nat) (x : Dk) (hD : HasD G d is iw x) : Good Tryz.prog 52 [(.gp d 0, false)] G [(.b (offD x), false)] G := by
  refine good_of_body2 18 Tryz.func52 rfl rfl rfl (by simp) ?_
  intro s m ha hr hv hG
  have f0 : s 0 = .v (.gp d 0) := ha 0 _ rfl
  clear ha
  have hc : True := trivial
  have F := (And.intro f0 hG)
  have hd := hD.hd
  have hs := hD.hs
  have hw := hD.hw
  refine AW.seq ?_
  refine AW.region (cfg := cfg) ?_
  refine stp (fun _ h => s0 h) ?_
  refine aops_nil ?_
  refine AW.seq ?_
  refine AW.region (cfg := cfg) ?_
  iterate 3 refine stp (fun _ h => s0 h) ?_
  refine mrg wa (fun hc _ h => s0 h) ?_
  refine mrg wa (fun hc _ h => sd h) ?_
  refine mrg wa (fun hc _ h => sx h) ?_
  refine mrg wa (fun hc _ h => sl h) ?_
  refine mrg wa (fun hc _ h => s0 h) ?_
  iterate 2 refine stp (fun _ h => s0 h) ?_
  refine mrg wa (fun hc _ h => s0 h) ?_
  refine mrg wa (fun hc _ h => sd h) ?_
  refine mrg wa (fun hc _ h => sx h) ?_
  refine mrg wa (fun hc _ h => sl h) ?_
  iterate 2 refine stp (fun _ h => s0 h) ?_
  refine aops_nil ?_
  refine AW.ret ?_
  refine ⟨.inr rfl, ?_⟩
  refine leaves_tmp1 2 rfl ?_ (by exact hG)
  simp (disch := first | omega | decide) only [go_sem, F, aIndex_map]
  all_goals rfl
theorem good_SizeD (G : List (List AV)) (d is iw : Nat) (x : Dk) (hD : HasD G d is iw x) : Good Tryz.prog 36 [(.gp d 0, false)] G [(i64 x.n, false)] G := by
  refine good_of_body2 9 Tryz.func36 rfl rfl rfl (by simp) ?_
  intro s m ha hr hv hG
  have f0 : s 0 = .v (.gp d 0) := ha 0 _ rfl
  clear ha
  have hc : True := trivial
  have F := (And.intro f0 hG)
  have hd := hD.hd
  have hs := hD.hs
  have hw := hD.hw
  refine AW.seq ?_
  refine AW.region (cfg := cfg) ?_
  refine stp (fun _ h => s0 h) ?_
  refine aops_nil ?_
  refine AW.seq ?_
  refine AW.seq ?_
  refine AW.region (cfg := cfg) ?_
  iterate 2 refine stp (fun _ h => s0 h) ?_
  refine aops_nil ?_
  refine cnd (fun hb => ?ht1) (fun hb => ?hf1)
  case ht1 => simp at hb
  case hf1 =>
  have hbt4 := hb
  refine AW.skip ?_
  refine AW.seq ?_
  refine AW.region (cfg := cfg) ?_
  refine stp (fun _ h => s0 h) ?_
  refine stp (fun _ h => sd h) ?_
  refine stp (fun _ h => sx h) ?_
  refine stp (fun _ h => sl h) ?_
  refine stp (fun _ h => s0 h) ?_
  refine aops_nil ?_
  refine AW.ret ?_
  refine ⟨.inr rfl, ?_⟩
  refine leaves_tmp1 2 rfl ?_ (by exact hG)
  simp (disch := first | omega | decide) only [go_sem, F, aIndex_map]
  all_goals first | done | rfl | trace_state
theorem good_firmG (G : List (List AV)) (d is iw : Nat) (x : Dk) (hD : HasD G d is iw x) (hw512 : Whole x) (i : Int) : Good Tryz.prog 57 [(.gp d 0, false), (i64 i, false)] G [(.sl 1 false (bsl (firmD x i)), true)] G := by
  refine good_of_body2 20 Tryz.func57 rfl rfl rfl (by simp) ?_
  intro s m ha hr hv hG
  have f0 : s 0 = .v (.gp d 0) := ha 0 _ rfl
  have f1 : s 1 = .v (i64 i) := ha 1 _ rfl
  clear ha
  have hc : True := trivial
  have F := (And.intro f0 (And.intro f1 hG))
  have hd := hD.hd
  have hs := hD.hs
  have hw := hD.hw
  refine AW.seq ?_
  refine AW.region (cfg := cfg) ?_
  refine stp (fun _ h => s0 h) ?_
  refine aops_nil ?_
  refine AW.seq ?_
  refine AW.seq ?_
  refine AW.region (cfg := cfg) ?_
  refine stp (fun _ h => s0 h) ?_
  refine stp (fun _ h => sd h) ?_
  refine stp (fun _ h => sx h) ?_
  refine stp (fun _ h => sl h) ?_
  refine stp (fun _ h => s0 h) ?_
  refine stp (fun _ h => sM h) ?_
  iterate 5 refine stp (fun _ h => s0 h) ?_
  refine aops_nil ?_
  refine AW.seq ?_
  refine AW.region (cfg := cfg) ?_
  refine stp (fun _ h => s0 h) ?_
  refine aops_nil ?_
  refine cnd (fun hb => ?ht1) (fun hb => ?hf1)
  case ht1 =>
    have hw16 := hb
    try simp only [bo1, bo2, bo3, bo4, bo5, bo6] at hb
    have hbt16 := hb
    refine AW.seq ?_
    obtain ⟨w1, w2, w3⟩ := firm_yes hw512 hbt16
    have F := And.intro w1 F
    refine AW.region (cfg := cfg) ?_
    refine stp (fun _ h => s0 h) ?_
    refine stp (fun _ h => co1 (w := O.good_Clone false ((x.safe i).getD []) (by omega) (fun h => by cases h)) (x := h)) ?_
    refine stp (fun _ h => st h) ?_
    refine aops_nil ?_
    refine AW.ret ?_
    refine ⟨.inr rfl, ?_⟩
    (rw [w2]; refine leaves_own1 4 rfl (by simp (disch := first | omega | decide) only [go_sem, F, aIndex_map] <;> rfl) (by simp (disch := first | omega | decide) only [go_sem, F, aIndex_map] <;> rfl) (by decide) (by simp [sub, List.take_of_length_le]) (by exact hG))
  case hf1 =>
    have hw16 := hb
    try simp only [bo1, bo2, bo3, bo4, bo5, bo6] at hb
    have hbt16 := hb
    refine AW.skip ?_
    refine AW.seq ?_
    refine AW.region (cfg := cfg) ?_
    refine stp (fun _ h => sk h) ?_
    refine stp (fun _ h => st h) ?_
    refine aops_nil ?_
    refine AW.ret ?_
    refine ⟨.inr rfl, ?_⟩
    (have w2 := firm_no hbt16; rw [w2]; refine leaves_own1 4 rfl (by simp (disch := first | omega | decide) only [go_sem, F, aIndex_map] <;> rfl) (by simp (disch := first | omega | decide) only [go_sem, F, aIndex_map] <;> rfl) (by decide) (by simp [sub]) (by exact hG))
theorem good_ReadG (G : List (List AV)) (d is iw : Nat) (x : Dk) (hD : HasD G d is iw x) (hw512 : Whole x) (i : Int) : Good Tryz.prog 73 [(.gp d 0, false), (i64 i, false)] G [(.sl 1 (!decide (rdE x i = 0)) (bsl (rdB x i)), false), (i64 (rdE x i), false)] G := by
  refine good_of_body2 37 Tryz.func73 rfl rfl rfl (by simp) ?_
  intro s m ha hr hv hG
  have f0 : s 0 = .v (.gp d 0) := ha 0 _ rfl
  have f1 : s 1 = .v (i64 i) := ha 1 _ rfl
  clear ha
  have hc : True := trivial
  have F := (And.intro f0 (And.intro f1 hG))
  have hd := hD.hd
  have hs := hD.hs
  have hw := hD.hw
  refine AW.seq ?_
  refine AW.region (cfg := cfg) ?_
  iterate 2 refine stp (fun _ h => s0 h) ?_
  refine aops_nil ?_
  refine AW.seq ?_
  refine AW.block ?_
  refine AW.seq ?_
  refine AW.region (cfg := cfg) ?_
  refine stp (fun _ h => s0 h) ?_
  refine stp (fun _ h => cg (w := good_off G d is iw x hD) (x := h)) ?_
  refine stp (fun _ h => s0 h) ?_
  refine aops_nil ?_
  refine cnd (fun hb => ?ht1) (fun hb => ?hf1)
  case ht1 =>
    have hw8 := hb
    try simp only [bo1, bo2, bo3, bo4, bo5, bo6] at hb
    have hbt8 := hb
    refine AW.seq ?_
    refine AW.region (cfg := cfg) ?_
    iterate 2 refine stp (fun _ h => s0 h) ?_
    refine aops_nil ?_
    refine AW.ret ?_
    refine ⟨.inr rfl, ?_⟩
    refine leaves_mwp2 (rs := [.tmp 4, .tmp 5]) rfl ?_
    simp (config := {failIfUnchanged := false}) [giveL, srcOne, rehome, freezeN, sub, upd, opn, aLoad, loadL, giveOne, reify, reifyL, readL, readOne, Mwp, M.bind, Mem.set, setAt, cellsL, hG, f0, f1]
    all_goals (obtain ⟨e1, e2⟩ := rd_off (i := i) hbt8; rw [e1, e2]; (simp [sub]; done))
  case hf1 =>
    have hw8 := hb
    try simp only [bo1, bo2, bo3, bo4, bo5, bo6] at hb
    have hbt8 := hb
    refine AW.seq ?_
    refine AW.region (cfg := cfg) ?_
    iterate 3 refine stp (fun _ h => s0 h) ?_
    iterate 2 refine mrg wa (fun hc _ h => s0 h) ?_
    refine mrg wa (fun hc _ h => sd h) ?_
    refine mrg wa (fun hc _ h => sx h) ?_
    refine mrg wa (fun hc _ h => sl h) ?_
    refine mrg wa (fun hc _ h => s0 h) ?_
    iterate 2 refine stp (fun _ h => s0 h) ?_
    refine aops_nil ?_
    refine cnd (fun hb => ?ht2) (fun hb => ?hf2)
    case ht2 =>
      have hw11 := hb
      try simp only [bo1, bo2, bo3, bo4, bo5, bo6] at hb
      have hbt11 := hb
      refine AW.seq ?_
      refine AW.region (cfg := cfg) ?_
      iterate 2 refine stp (fun _ h => s0 h) ?_
      refine aops_nil ?_
      refine AW.ret ?_
      refine ⟨.inr rfl, ?_⟩
      refine leaves_mwp2 (rs := [.tmp 4, .tmp 5]) rfl ?_
      simp (config := {failIfUnchanged := false}) [giveL, srcOne, rehome, freezeN, sub, upd, opn, aLoad, loadL, giveOne, reify, reifyL, readL, readOne, Mwp, M.bind, Mem.set, setAt, cellsL, hG, f0, f1]
      all_goals (obtain ⟨e1, e2⟩ := rd_out hbt8 hbt11; rw [e1, e2]; (simp [sub]; done))
    case hf2 =>
      have hw11 := hb
      try simp only [bo1, bo2, bo3, bo4, bo5, bo6] at hb
      have hbt11 := hb
      refine AW.skip ?_
      refine AW.seq ?_
      refine AW.seq ?_
      refine AW.region (cfg := cfg) ?_
      refine stp (fun _ h => s0 h) ?_
      refine stp (fun _ h => sd h) ?_
      refine stp (fun _ h => sx h) ?_
      refine stp (fun _ h => sl h) ?_
      refine stp (fun _ h => s0 h) ?_
      refine stp (fun _ h => sM h) ?_
      iterate 5 refine stp (fun _ h => s0 h) ?_
      refine aops_nil ?_
      refine AW.seq ?_
      refine AW.region (cfg := cfg) ?_
      refine stp (fun _ h => s0 h) ?_
      refine aops_nil ?_
      refine cnd (fun hb => ?ht3) (fun hb => ?hf3)
      case ht3 =>
        have hw31 := hb
        try simp only [bo1, bo2, bo3, bo4, bo5, bo6] at hb
        have hbt31 := hb
        refine AW.seq ?_
        obtain ⟨w1, w2, w3⟩ := read_yes hw512 hbt31
        have F := And.intro w1 F
        refine AW.region (cfg := cfg) ?_
        refine stp (fun _ h => s0 h) ?_
        refine stp (fun _ h => co1 (w := O.good_Clone false ((x.waits i).getD []) (by omega) (fun h => by cases h)) (x := h)) ?_
        refine stp (fun _ h => st h) ?_
        refine stp (fun _ h => s0 h) ?_
        refine aops_nil ?_
        refine AW.ret ?_
        refine ⟨.inr rfl, ?_⟩
        refine leaves_mwp2 (rs := [.tmp 4, .tmp 5]) rfl ?_
        simp (config := {failIfUnchanged := false}) [giveL, srcOne, rehome, freezeN, sub, upd, opn, aLoad, loadL, giveOne, reify, reifyL, readL, readOne, Mwp, M.bind, Mem.set, setAt, cellsL, hG, f0, f1, w1]
        all_goals (obtain ⟨e1, e2⟩ := rd_ok hbt8 hbt11; rw [e1, e2]; (rw [w2]; (simp [sub, List.take_of_length_le]; done)))
      case hf3 =>
        have hw31 := hb
        try simp only [bo1, bo2, bo3, bo4, bo5, bo6] at hb
        have hbt31 := hb
        refine AW.skip ?_
        refine AW.seq ?_
        refine AW.region (cfg := cfg) ?_
        iterate 2 refine stp (fun _ h => s0 h) ?_
        refine stp (fun _ h => cg (w := (good_firmG G d is iw x hD hw512 i).lend1) (x := h)) ?_
        iterate 2 refine stp (fun _ h => s0 h) ?_
        refine aops_nil ?_
        refine AW.ret ?_
        refine ⟨.inr rfl, ?_⟩
        refine leaves_mwp2 (rs := [.tmp 4, .tmp 5]) rfl ?_
        simp (config := {failIfUnchanged := false}) [giveL, srcOne, rehome, freezeN, sub, upd, opn, aLoad, loadL, giveOne, reify, reifyL, readL, readOne, Mwp, M.bind, Mem.set, setAt, cellsL, hG, f0, f1]
        all_goals (obtain ⟨e1, e2⟩ := rd_ok hbt8 hbt11; rw [e1, e2]; (rw [read_no hbt31]; (simp [sub]; done)))
theorem good_actG (G : List (List AV)) (d is iw : Nat) (x : Dk) (hD : HasD G d is iw x) (hx : -1 ≤ x.armed ∧ x.armed ≤ 1000000) : Good Tryz.prog 53 [(.gp d 0, false)] G [(i64 (actE x), false)] (wrD G d is iw (actD x)) := by
  refine good_of_body2 25 Tryz.func53 rfl rfl rfl (by simp) ?_
  intro s m ha hr hv hG
  have f0 : s 0 = .v (.gp d 0) := ha 0 _ rfl
  clear ha
  have hc : True := trivial
  have F := (And.intro f0 hG)
  have hd := hD.hd
  have hs := hD.hs
  have hw := hD.hw
  refine AW.seq ?_
  refine AW.region (cfg := cfg) ?_
  refine stp (fun _ h => s0 h) ?_
  refine aops_nil ?_
  refine AW.seq ?_
  refine AW.block ?_
  refine AW.seq ?_
  refine AW.region (cfg := cfg) ?_
  refine stp (fun _ h => s0 h) ?_
  refine stp (fun _ h => sd h) ?_
  refine stp (fun _ h => sx h) ?_
  refine stp (fun _ h => sl h) ?_
  iterate 2 refine stp (fun _ h => s0 h) ?_
  refine aops_nil ?_
  refine cnd (fun hb => ?ht1) (fun hb => ?hf1)
  case ht1 =>
    have hw3 := hb
    try simp only [bo1, bo2, bo3, bo4, bo5, bo6] at hb
    have hbt3 := hb
    refine AW.seq ?_
    refine AW.region (cfg := cfg) ?_
    refine stp (fun _ h => s0 h) ?_
    refine stp (fun _ h => sd h) ?_
    refine stp (fun _ h => sx h) ?_
    refine stp0 (fun _ h => ss h) ?_
    refine aops_nil ?_
    refine AW.seq ?_
    refine AW.region (cfg := cfg) ?_
    refine stp (fun _ h => s0 h) ?_
    refine aops_nil ?_
    refine AW.ret ?_
    refine ⟨.inr rfl, ?_⟩
    (rw [act_g0 hD hbt3, (act_0 hbt3).2]; refine leaves_tmp1 2 rfl ?_ (by rfl) <;> simp (disch := first | omega | decide) only [go_sem, F, aIndex_map])
  case hf1 =>
    have hw3 := hb
    try simp only [bo1, bo2, bo3, bo4, bo5, bo6] at hb
    have hbt3 := hb
    refine AW.seq ?_
    refine AW.region (cfg := cfg) ?_
    refine stp (fun _ h => s0 h) ?_
    refine stp (fun _ h => sd h) ?_
    refine stp (fun _ h => sx h) ?_
    refine stp (fun _ h => sl h) ?_
    iterate 2 refine stp (fun _ h => s0 h) ?_
    refine aops_nil ?_
    refine cnd (fun hb => ?ht2) (fun hb => ?hf2)
    case ht2 =>
      have hw12 := hb
      try simp only [bo1, bo2, bo3, bo4, bo5, bo6] at hb
      have hbt12 := hb
      refine AW.region (cfg := cfg) ?_
      refine stp (fun _ h => s0 h) ?_
      refine stp (fun _ h => sd h) ?_
      refine stp (fun _ h => sx h) ?_
      refine stp (fun _ h => sl h) ?_
      iterate 2 refine stp (fun _ h => sd h) ?_
      refine stp (fun _ h => sx h) ?_
      refine stp0 (fun _ h => ss h) ?_
      refine aops_nil ?_
      refine AW.seq ?_
      refine AW.region (cfg := cfg) ?_
      refine stp (fun _ h => s0 h) ?_
      refine aops_nil ?_
      refine AW.ret ?_
      refine ⟨.inr rfl, ?_⟩
      (rw [act_gp hD hbt3 hbt12, (act_p hbt3 hbt12).2]; refine leaves_tmp1 2 rfl ?_ (by rfl) <;> simp (disch := first | omega | decide) only [go_sem, F, aIndex_map])
    case hf2 =>
      have hw12 := hb
      try simp only [bo1, bo2, bo3, bo4, bo5, bo6] at hb
      have hbt12 := hb
      refine AW.skip ?_
      refine AW.seq ?_
      refine AW.region (cfg := cfg) ?_
      refine stp (fun _ h => s0 h) ?_
      refine aops_nil ?_
      refine AW.ret ?_
      refine ⟨.inr rfl, ?_⟩
      (rw [act_gn hD hbt3 hbt12, (act_n hbt3 hbt12).2]; refine leaves_tmp1 2 rfl ?_ (by exact hG) <;> simp (disch := first | omega | decide) only [go_sem, F, aIndex_map])
theorem good_WriteG (G : List (List AV)) (d is iw : Nat) (x : Dk) (hD : HasD G d is iw x) (hx : -1 ≤ x.armed ∧ x.armed ≤ 1000000) (i : Int) (nb : Bool) (b : List (BitVec 8)) (hb0 : b.length ≤ 1000000) (hz : nb = true → b = []) : Good Tryz.prog 13 [(.gp d 0, false), (i64 i, false), (.sl 1 nb (bsl b), false)] G [(i64 (wriE x i b), false)] (wrD G d is iw (wriX x i b)) := by
  refine good_of_body2 39 Tryz.func13 rfl rfl rfl (by simp) ?_
  intro s m ha hr hv hG
  have f0 : s 0 = .v (.gp d 0) := ha 0 _ rfl
  have f1 : s 1 = .v (i64 i) := ha 1 _ rfl
  have f2 : s 2 = .v (.sl 1 nb (bsl b)) := ha 2 _ rfl
  clear ha
  have hc : True := trivial
  have F := (And.intro f0 (And.intro f1 (And.intro f2 hG)))
  have hd := hD.hd
  have hs := hD.hs
  have hw := hD.hw
  refine AW.seq ?_
  refine AW.region (cfg := cfg) ?_
  refine stp (fun _ h => s0 h) ?_
  refine aops_nil ?_
  refine AW.seq ?_
  refine AW.block ?_
  refine AW.seq ?_
  refine AW.region (cfg := cfg) ?_
  refine stp (fun _ h => s0 h) ?_
  refine stp (fun _ h => cg (w := good_off G d is iw x hD) (x := h)) ?_
  refine stp (fun _ h => s0 h) ?_
  refine aops_nil ?_
  refine cnd (fun hb => ?ht1) (fun hb => ?hf1)
  case ht1 =>
    have hw8 := hb
    try simp only [bo1, bo2, bo3, bo4, bo5, bo6] at hb
    have hbt8 := hb
    refine AW.seq ?_
    refine AW.region (cfg := cfg) ?_
    refine stp (fun _ h => s0 h) ?_
    refine aops_nil ?_
    refine AW.ret ?_
    refine ⟨.inr rfl, ?_⟩
    (obtain ⟨e1, e2⟩ := wri_off (i := i) (b := b) hbt8; rw [e1, e2, wr_self hD]; refine leaves_tmp1 6 rfl ?_ (by rfl) <;> simp (disch := first | omega | decide) only [go_sem, F, aIndex_map])
  case hf1 =>
    have hw8 := hb
    try simp only [bo1, bo2, bo3, bo4, bo5, bo6] at hb
    have hbt8 := hb
    refine AW.seq ?_
    refine AW.region (cfg := cfg) ?_
    iterate 3 refine stp (fun _ h => s0 h) ?_
    iterate 2 refine mrg wa (fun hc _ h => s0 h) ?_
    refine mrg wa (fun hc _ h => sd h) ?_
    refine mrg wa (fun hc _ h => sx h) ?_
    refine mrg wa (fun hc _ h => sl h) ?_
    refine mrg wa (fun hc _ h => s0 h) ?_
    iterate 2 refine stp (fun _ h => s0 h) ?_
    refine mrg wa (fun hc _ h => s0 h) ?_
    refine mrg wa (fun hc _ h => sd h) ?_
    refine mrg wa (fun hc _ h => s0 h) ?_
    iterate 2 refine stp (fun _ h => s0 h) ?_
    refine aops_nil ?_
    refine cnd (fun hb => ?ht2) (fun hb => ?hf2)
    case ht2 =>
      have hw11 := hb
      try simp only [bo1, bo2, bo3, bo4, bo5, bo6] at hb
      have hbt11 := hb
      refine AW.seq ?_
      refine AW.region (cfg := cfg) ?_
      refine stp (fun _ h => s0 h) ?_
      refine aops_nil ?_
      refine AW.ret ?_
      refine ⟨.inr rfl, ?_⟩
      (obtain ⟨e1, e2⟩ := wri_bad (b := b) hbt8 (by omega); rw [e1, e2, wr_self hD]; refine leaves_tmp1 6 rfl ?_ (by rfl) <;> simp (disch := first | omega | decide) only [go_sem, F, aIndex_map])
    case hf2 =>
      have hw11 := hb
      try simp only [bo1, bo2, bo3, bo4, bo5, bo6] at hb
      have hbt11 := hb
      refine AW.skip ?_
      refine AW.seq ?_
      refine AW.seq ?_
      refine AW.region (cfg := cfg) ?_
      refine stp (fun _ h => s0 h) ?_
      refine stp (fun _ h => cg (w := good_actG G d is iw x hD hx) (x := h)) ?_
      refine stp (fun _ h => s0 h) ?_
      refine aops_nil ?_
      refine AW.seq ?_
      refine AW.region (cfg := cfg) ?_
      iterate 2 refine stp (fun _ h => s0 h) ?_
      refine aops_nil ?_
      refine cnd (fun hb => ?ht3) (fun hb => ?hf3)
      case ht3 =>
        have hw30 := hb
        try simp only [bo1, bo2, bo3, bo4, bo5, bo6] at hb
        have hbt30 := hb
        refine AW.seq ?_
        refine AW.region (cfg := cfg) ?_
        iterate 2 refine stp (fun _ h => s0 h) ?_
        refine aops_nil ?_
        refine AW.ret ?_
        refine ⟨.inr rfl, ?_⟩
        (obtain ⟨e1, e2⟩ := wri_die (i := i) (b := b) hbt8 (by omega) hbt30; rw [e1, e2]; refine leaves_tmp1 6 rfl ?_ (by rfl) <;> simp (disch := first | omega | decide) only [go_sem, F, aIndex_map])
      case hf3 =>
        have hw30 := hb
        try simp only [bo1, bo2, bo3, bo4, bo5, bo6] at hb
        have hbt30 := hb
        refine AW.skip ?_
        refine AW.seq ?_
        have g1 := (wr_has (y := actD x) hD).hd
        have g2 := (wr_has (y := actD x) hD).hw
        have h512 : b.length = 512 := by omega
        obtain rfl : nb = false := by (cases nb with | false => rfl | true => (rw [hz rfl] at h512; simp at h512))
        refine AW.draw (cfg := cfg) (by kernel_rfl) (by kernel_rfl) (by kernel_rfl) ?_
        refine dstp (fun _ h => s0 h) ?_
        refine dstp (fun _ h => sd h) ?_
        refine dstp (fun _ h => sx h) ?_
        refine dstp (fun _ h => sl h) ?_
        iterate 2 refine dstp (fun _ h => s0 h) ?_
        refine dstp (fun _ h => co1 (w := O.good_Clone false b (by omega) (fun h => by cases h)) (x := h)) ?_
        refine dstp0 (fun _ h => sU h) ?_
        refine adraw_nil (by kernel_rfl) ?_
        refine AW.seq ?_
        refine AW.region (cfg := cfg) ?_
        refine stp (fun _ h => s0 h) ?_
        refine aops_nil ?_
        refine AW.ret ?_
        refine ⟨.inr rfl, ?_⟩
        (obtain ⟨e1, e2⟩ := wri_ok (i := i) (b := b) hbt8 (by omega) hbt30; rw [e1, e2, wri_G hD]; refine leaves_tmp1 6 rfl ?_ (by rfl) <;> simp (disch := first | omega | decide) only [go_sem, F, aIndex_map])
theorem good_DeadG (G : List (List AV)) (d is iw : Nat) (x : Dk) (hD : HasD G d is iw x) : Good Tryz.prog 33 [(.gp d 0, false)] G [(.b (offD x), false)] G := by
  refine good_of_body2 5 Tryz.func33 rfl rfl rfl (by simp) ?_
  intro s m ha hr hv hG
  have f0 : s 0 = .v (.gp d 0) := ha 0 _ rfl
  clear ha
  have hc : True := trivial
  have F := (And.intro f0 hG)
  have hd := hD.hd
  have hs := hD.hs
  have hw := hD.hw
  refine AW.seq ?_
  refine AW.region (cfg := cfg) ?_
  refine stp (fun _ h => s0 h) ?_
  refine aops_nil ?_
  refine AW.seq ?_
  refine AW.region (cfg := cfg) ?_
  refine stp (fun _ h => s0 h) ?_
  refine stp (fun _ h => cg (w := good_off G d is iw x hD) (x := h)) ?_
  refine stp (fun _ h => s0 h) ?_
  refine aops_nil ?_
  refine AW.ret ?_
  refine ⟨.inr rfl, ?_⟩
  refine leaves_tmp1 2 rfl ?_ (by rfl)
  simp (disch := first | omega | decide) only [go_sem, F, aIndex_map]
  all_goals first | done | rfl | trace_state
end Go.Vai.DK
namespace Go.Vai.DK
open Go.Proofs Go.Vai Go.Vai.O Go.Vai.V
set_option linter.unusedSimpArgs false
set_option linter.unusedVariables false
set_option maxHeartbeats 4000000
set_option maxRecDepth 100000
theorem good_NewG (G : List (List AV)) (n : Int) (hn : 1 ≤ n ∧ n ≤ 1024) : Good Tryz.prog 7 [(i64 n, false)] G [(.gp (G.length + 2) 0, false), (i64 0, false)] (newG G n) := by
  refine good_of_body2 15 Tryz.func7 rfl rfl rfl (by simp) ?_
  intro s m ha hr hv hG
  have f0 : s 0 = .v (i64 n) := ha 0 _ rfl
  clear ha
  have hc : True := trivial
  have F := (And.intro f0 hG)
  refine AW.seq ?_
  refine AW.region (cfg := cfgG) ?_
  iterate 2 refine stp (fun _ h => s0 h) ?_
  refine aops_nil ?_
  refine AW.seq ?_
  refine AW.seq ?_
  refine AW.region (cfg := cfgG) ?_
  iterate 3 refine stp (fun _ h => s0 h) ?_
  iterate 2 refine mrg wa (fun hc _ h => s0 h) ?_
  refine stp (fun _ h => s0 h) ?_
  refine aops_nil ?_
  refine cnd (fun hb => ?ht1) (fun hb => ?hf1)
  case ht1 => simp at hb; omega
  case hf1 =>
  have hbt9 := hb
  refine AW.skip ?_
  refine AW.seq ?_
  refine AW.region (cfg := cfgG) ?_
  refine stp (fun _ h => s0 h) ?_
  refine stp (fun _ h => sM h) ?_
  refine stp (fun _ h => sM h) ?_
  refine stp (fun _ h => su h) ?_
  refine stp (fun _ h => sbg h) ?_
  iterate 2 refine stp (fun _ h => s0 h) ?_
  refine aops_nil ?_
  refine AW.ret ?_
  refine ⟨.inr rfl, ?_⟩
  refine leaves_mwp2 (rs := [.tmp 2, .tmp 3]) rfl ?_
  simp [giveL, srcOne, upd, opn, giveOne, reify, readL, readOne, Mwp, M.bind, newG]
  all_goals trace_state
theorem good_ArmG (G : List (List AV)) (d is iw : Nat) (x : Dk) (hD : HasD G d is iw x) (n : Int) : Good Tryz.prog 22 [(.gp d 0, false), (i64 n, false)] G [] (wrD G d is iw (armD x n)) := by
  refine good_of_body2 11 Tryz.func22 rfl rfl rfl (by simp) ?_
  intro s m ha hr hv hG
  have f0 : s 0 = .v (.gp d 0) := ha 0 _ rfl
  have f1 : s 1 = .v (i64 n) := ha 1 _ rfl
  clear ha
  have hc : True := trivial
  have F := (And.intro f0 (And.intro f1 hG))
  have hd := hD.hd
  have hs := hD.hs
  have hw := hD.hw
  refine AW.seq ?_
  refine AW.region (cfg := cfg) ?_
  iterate 2 refine stp (fun _ h => s0 h) ?_
  refine aops_nil ?_
  refine cnd (fun hb => ?ht1) (fun hb => ?hf1)
  case hf1 => simp at hb
  case ht1 =>
  have hbt5 := hb
  refine AW.region (cfg := cfg) ?_
  iterate 2 refine stp (fun _ h => s0 h) ?_
  iterate 2 refine stp (fun _ h => sd h) ?_
  refine stp (fun _ h => sx h) ?_
  refine stp0 (fun _ h => ss h) ?_
  refine aops_nil ?_
  refine ⟨.inl rfl, ?_⟩
  rw [arm_G hD]
  refine leaves_mwp2 (rs := []) rfl ?_
  simp [giveL, srcOne, upd, opn, giveOne, readL, readOne, Mwp, M.bind]
  all_goals trace_state
end Go.Vai.DK
