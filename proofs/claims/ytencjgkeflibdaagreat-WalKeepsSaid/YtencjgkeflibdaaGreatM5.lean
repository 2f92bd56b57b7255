import Derived.Test.YtencjgkeflibdaaGreatM3
import Derived.Test.YtencjgkeflibdaaGreatM4
import Derived.Test.YtencjgkeflibdaaGreatM1
import Derived.Test.YtencjgkeflibdaaGreatM2
namespace Go.Vai.S7
open Go.Proofs Go.Vai Go.Vai.G Go.Vai.L Go.Vai.O Go.Vai.RC Go.Vai.U Go.Vai.Z
set_option linter.unusedSimpArgs false
set_option linter.unusedVariables false
set_option maxHeartbeats 4000000
set_option maxRecDepth 100000
def secP (g mark : Int) : Page := ⟨1, g, mark, 0, 0, 0, true, []⟩
def secOf (q : Page) : PS := (false, pgPut q)
def secN (b : List (BitVec 8)) : Nat := (parts (b.length : Int)).toNat
def secL (g mark : Int) (b : List (BitVec 8)) (k : Nat) : List PS := (splitP (secP g mark) false b k).map secOf
def secOK (g mark most : Int) (b : List (BitVec 8)) : Bool := decide (parts (b.length : Int) ≤ most) && splitOK (secP g mark) b
def secE (g mark most : Int) (b : List (BitVec 8)) : Int := if parts (b.length : Int) > most ∨ parts (b.length : Int) = 0 then 5 else splitE (secP g mark) b
def secR (g mark most : Int) (b : List (BitVec 8)) : List PS := if secOK g mark most b then secL g mark b (secN b) else []
theorem sec_big {g mark most : Int} {b : List (BitVec 8)} (h : parts (b.length : Int) > most) : secOK g mark most b = false ∧ secR g mark most b = [] ∧ secE g mark most b = 5 := by
  have e : secOK g mark most b = false := by rw [secOK, decide_eq_false (by omega), Bool.false_and]
  exact ⟨e, by rw [secR, e]; rfl, if_pos (.inl h)⟩
theorem split0E {p : Page} {b : List (BitVec 8)} : (splitE p b = 0 ∧ splitOK p b = true ∧ parts (b.length : Int) ≠ 0) ∨ (splitE p b ≠ 0 ∧ splitOK p b = false) := by
  by_cases h0 : parts (b.length : Int) = 0
  · obtain ⟨e1, _, e3⟩ := split_no0 (p := p) (nil := false) (b := b) h0
    right; rw [e1, e3]; decide
  · cases e : splitOK p b with
    | true => left; rw [splitE, if_neg h0, e]; exact ⟨rfl, rfl, h0⟩
    | false => right; rw [splitE, if_neg h0, e]; decide
theorem sec_no {g mark most : Int} {b : List (BitVec 8)} (h : ¬ parts (b.length : Int) > most) (h2 : splitE (secP g mark) b ≠ 0) : secOK g mark most b = false ∧ secR g mark most b = [] ∧ secE g mark most b = splitE (secP g mark) b := by
  have e : secOK g mark most b = false := by
    rcases split0E (p := secP g mark) (b := b) with ⟨h3, _⟩ | ⟨_, h3⟩
    · exact absurd h3 h2
    · rw [secOK, h3, Bool.and_false]
  refine ⟨e, by rw [secR, e]; rfl, ?_⟩
  unfold secE
  split
  · rename_i h4
    rcases h4 with h4 | h4
    · exact absurd h4 h
    · exact (split_no0 (p := secP g mark) (nil := false) (b := b) h4).2.2.symm
  · rfl
theorem sec_yes {g mark most : Int} {b : List (BitVec 8)} (h : ¬ parts (b.length : Int) > most) (h2 : splitE (secP g mark) b = 0) : secOK g mark most b = true ∧ secR g mark most b = secL g mark b (secN b) ∧ secE g mark most b = 0 := by
  rcases split0E (p := secP g mark) (b := b) with ⟨_, h3, h4⟩ | ⟨h3, _⟩
  · have e : secOK g mark most b = true := by rw [secOK, h3, decide_eq_true (by omega)]; rfl
    exact ⟨e, by rw [secR, e]; rfl, by rw [secE, if_neg (by omega), h2]⟩
  · exact absurd h2 h3
@[simp] theorem secL_len (g mark : Int) (b : List (BitVec 8)) (k : Nat) : (secL g mark b k).length = k := by rw [secL, List.length_map, splitP_len]
theorem at_nil (p : Page) (n1 n2 : Bool) (b : List (BitVec 8)) (i : Nat) : pgPut (pageAt p n1 b (parts (b.length : Int)) i) = pgPut (pageAt p n2 b (parts (b.length : Int)) i) := rfl
theorem secL_succ {g mark : Int} {b : List (BitVec 8)} {k : Nat} : secL g mark b (k + 1) = secL g mark b k ++ [secOf (pageAt (secP g mark) false b (parts (b.length : Int)) k)] := by
  rw [secL, splitP_succ, List.map_append]; rfl
theorem splitOK_at {p : Page} {nil : Bool} {b : List (BitVec 8)} (h : splitOK p b = true) {k : Nat} (hk : k < (parts (b.length : Int)).toNat) : pageOK (pageAt p nil b (parts (b.length : Int)) k) = true := by
  refine all_split (p := p) (b := b) ?_ hk nil
  simp only [splitOK, Bool.and_eq_true] at h
  exact h.2
theorem good_Sectors (ge mark most : Int) (nil : Bool) (b : List (BitVec 8)) (hb0 : b.length ≤ 140737488350000) (hz : nil = true → b = []) : Good Tryz.prog 50 [(baseA ge nil b, false), (i64 mark, false), (i64 most, false)] [] [(.sl 1 (!secOK ge mark most b) ((secR ge mark most b).map pslice), false), (i64 (secE ge mark most b), false)] [] := by
  refine good_of_body5 53 Tryz.func50 rfl rfl rfl (by simp) (by simp) (by simp [noPtrL, noPtr]) (by simp [noPtrL, noPtr]) ?_
  intro s m ha hr hv hG
  have f0 : s 0 = .v (baseA ge nil b) := ha 0 _ rfl
  have f1 : s 1 = .v (i64 mark) := ha 1 _ rfl
  have f2 : s 2 = .v (i64 most) := ha 2 _ rfl
  clear ha
  have hc : True := trivial
  have F := (And.intro f0 (And.intro f1 (And.intro f2 hG)))
  refine AW.seq ?_
  refine AW.region (cfg := cfg) ?_
  refine stp (fun _ h => sb h) ?_
  iterate 2 refine stp (fun _ h => s0 h) ?_
  refine aops_nil ?_
  refine AW.seq ?_
  have hsn : (secP ge mark).b.length ≤ 9223372036854775807 := by simp [secP]
  refine AW.region (cfg := cfg) ?_
  refine stp (fun _ h => sx h) ?_
  refine stp (fun _ h => sl h) ?_
  refine stp (fun _ h => s0 h) ?_
  refine stp (fun _ h => su h) ?_
  refine stp (fun _ h => sx h) ?_
  refine stp (fun _ h => sl h) ?_
  refine stp (fun _ h => cr (w := (good_Split (secP ge mark) hsn nil b (by omega) hz).lend2) (x := h)) ?_
  iterate 5 refine stp (fun _ h => s0 h) ?_
  refine aops_nil ?_
  refine AW.seq ?_
  refine AW.block ?_
  refine AW.seq ?_
  refine AW.region (cfg := cfg) ?_
  refine stp (fun _ h => sx h) ?_
  refine stp (fun _ h => sl h) ?_
  refine stp (fun _ h => sd h) ?_
  refine stp (fun _ h => cs (w := good_Parts _ (by omega)) (x := h)) ?_
  iterate 3 refine stp (fun _ h => s0 h) ?_
  refine aops_nil ?_
  refine cnd (fun hb => ?ht1) (fun hb => ?hf1)
  case ht1 =>
    have hw25 := hb
    try simp only [bo1, bo2, bo3, bo4, bo5, bo6] at hb
    have hbt25 := hb
    refine AW.seq ?_
    refine AW.region (cfg := cfg) ?_
    iterate 2 refine stp (fun _ h => s0 h) ?_
    refine aops_nil ?_
    refine AW.ret ?_
    refine ⟨.inr rfl, ?_⟩
    apply Exists.intro
    (have zz := sec_big (g := ge) (mark := mark) hbt25)
    obtain ⟨e1, e2, e3⟩ := zz
    rw [e1, e2, e3]
    refine leavesN ?_
    refine leaves_mwp2 (rs := [.tmp 6, .tmp 7]) rfl ?_; simp (config := {failIfUnchanged := false}) [giveL, srcOne, rehome, freezeN, sub, upd, opn, aLoad, loadL, giveOne, reify, reifyL, readL, readOne, Mwp, M.bind, Mem.set, setAt, cellsL, hG, f0, f1, f2]
    exact rfl
  case hf1 =>
    have hw25 := hb
    try simp only [bo1, bo2, bo3, bo4, bo5, bo6] at hb
    have hbt25 := hb
    refine AW.seq ?_
    refine AW.region (cfg := cfg) ?_
    iterate 3 refine stp (fun _ h => s0 h) ?_
    refine aops_nil ?_
    refine cnd (fun hb => ?ht2) (fun hb => ?hf2)
    case ht2 =>
      have hw32 := hb
      try simp only [bo1, bo2, bo3, bo4, bo5, bo6] at hb
      have hbt32 := hb
      refine AW.seq ?_
      refine AW.region (cfg := cfg) ?_
      iterate 3 refine stp (fun _ h => s0 h) ?_
      refine aops_nil ?_
      refine AW.ret ?_
      refine ⟨.inr rfl, ?_⟩
      apply Exists.intro
      (have zz := sec_no hbt25 hbt32)
      obtain ⟨e1, e2, e3⟩ := zz
      rw [e1, e2, e3]
      refine leavesN ?_
      refine leaves_mwp2 (rs := [.tmp 6, .tmp 7]) rfl ?_; simp (config := {failIfUnchanged := false}) [giveL, srcOne, rehome, freezeN, sub, upd, opn, aLoad, loadL, giveOne, reify, reifyL, readL, readOne, Mwp, M.bind, Mem.set, setAt, cellsL, hG, f0, f1, f2]
      exact rfl
    case hf2 =>
      have hw32 := hb
      try simp only [bo1, bo2, bo3, bo4, bo5, bo6] at hb
      have hbt32 := hb
      refine AW.skip ?_
      refine AW.seq ?_
      obtain ⟨hsE, hsO, hsP⟩ := split0E.resolve_right (fun f => f.1 (by exact Decidable.not_not.1 hbt32))
      have hs3 : splitL (secP ge mark) nil b = splitP (secP ge mark) nil b (parts (b.length : Int)).toNat := by rw [splitL, hsO]; rfl
      obtain ⟨hp1, hp2, hp3⟩ := sp_pos hsP
      have hpz : decide ((parts (b.length : Int)).toNat = 0) = false := decide_eq_false (by omega)
      have hlz := splitP_len (secP ge mark) nil b (parts (b.length : Int)).toNat
      have F := And.intro hs3 F
      refine AW.region (cfg := cfg) ?_
      refine stp (fun _ h => s0 h) ?_
      refine aops_nil ?_
      refine AW.seq ?_
      refine AW.seq ?_
      refine AW.region (cfg := cfg) ?_
      refine stp (fun _ h => s0 h) ?_
      refine stp (fun _ h => sd h) ?_
      refine stp (fun _ h => s0 h) ?_
      refine aops_nil ?_
      refine AW.block ?_
      refine AW.forN (fun k σ => ∃ s m, σ = ⟨53, s, m⟩ ∧ s 10 = .own (.var 10) (m.objs (.var 10)).1 0 (k) ∧ (m.objs (.var 10)).2 = .arr (decide (k = 0)) 1 ((secL ge mark b k).map pslice) ∧ s 36 = .v (.sl 7 (!splitOK (secP ge mark) b) ((splitP (secP ge mark) nil b (parts (b.length : Int)).toNat).map pageA)) ∧ s 37 = .v (i64 (((splitP (secP ge mark) nil b (parts (b.length : Int)).toNat).length : Nat) : Int)) ∧ s 38 = .v (i64 (k : Int)) ∧ (∀ i, (m.objs (.res i)).2 = .dead) ∧ m.G = []) ((parts (b.length : Int)).toNat) ?_ ?_ ?_
      · refine ⟨_, _, rfl, ?_, ?_, ?_, ?_, ?_, (by intro i; simp [Mem.set, hr]), (by exact hG)⟩ <;> try simp (disch := first | omega | decide) only [go_sem, F, aIndex_map]
        all_goals rfl
      · clear F f0 f1 f2 hr hG
        rintro k σ hk ⟨s, m, rfl, f10, o10, f36, f37, f38, hr, hG⟩
        obtain ⟨g10, o10⟩ : ∃ g, m.objs (.var 10) = (g, .arr (decide (k = 0)) 1 ((secL ge mark b k).map pslice)) := ⟨_, Prod.ext rfl o10⟩
        rw [o10] at f10
        have F := (And.intro f10 (And.intro f36 (And.intro f37 (And.intro f38 (And.intro o10 (And.intro hs3 hG))))))
        refine AW.seq ?_
        refine AW.region (cfg := cfg) ?_
        refine stp (fun _ h => s0 h) ?_
        refine aops_nil ?_
        refine AW.seq ?_
        refine cnd (fun hb => ?ht3) (fun hb => ?hf3)
        case hf3 => (simp at hb; omega)
        case ht3 =>
        have hbt39 := hb
        refine AW.skip ?_
        refine AW.seq ?_
        refine AW.block ?_
        refine AW.seq ?_
        have hks : k < (splitP (secP ge mark) nil b (parts (b.length : Int)).toNat).length := by (rw [splitP_len]; exact hk)
        have sg := splitP_get (p := secP ge mark) (nil := nil) (b := b) hk
        have hok := splitOK_at (nil := nil) hsO hk
        have hpc := chunk_len b k
        have F := And.intro sg F
        have F := And.intro hok F
        refine AW.region (cfg := cfg) ?_
        refine stp (fun _ h => si h) ?_
        refine stp (fun _ h => sl h) ?_
        refine stp (fun _ h => sd h) ?_
        refine stp0 (fun _ h => ss h) ?_
        refine aops_nil ?_
        refine AW.seq ?_
        refine AW.region (cfg := cfg) ?_
        refine stp (fun _ h => sl h) ?_
        refine stp (fun _ h => cr (w := (good_PutP (pageAt (secP ge mark) nil b (parts (b.length : Int)) k) (by (show (chunk _ _).length ≤ _; omega))).lend2) (x := h)) ?_
        iterate 5 refine stp (fun _ h => s0 h) ?_
        refine aops_nil ?_
        refine AW.region (cfg := cfg) ?_
        iterate 2 refine stp (fun _ h => s0 h) ?_
        refine stp (fun _ h => sq h) ?_
        refine stp (fun _ h => sp h) ?_
        refine stp (fun _ h => st h) ?_
        refine aops_nil ?_
        refine AW.region (cfg := cfg) ?_
        refine stp (fun _ h => sd h) ?_
        refine stp (fun _ h => s0 h) ?_
        refine aops_nil ?_
        refine ⟨_, _, rfl, ?_, ?_, ?_, ?_, ?_, (by intro i; simp [Mem.set, hr]), (by exact hG)⟩ <;> try simp (disch := first | omega | decide) only [go_sem, F, aIndex_map]
        all_goals first | rfl | (rw [secL_succ, at_nil _ nil false]; simp [pslice, secOf]; done)
      · clear F f0 f1 f2 hr hG
        rintro σ ⟨s, m, rfl, f10, o10, f36, f37, f38, hr, hG⟩
        obtain ⟨g10, o10⟩ : ∃ g, m.objs (.var 10) = (g, .arr (decide ((parts (b.length : Int)).toNat = 0)) 1 ((secL ge mark b (parts (b.length : Int)).toNat).map pslice)) := ⟨_, Prod.ext rfl o10⟩
        rw [o10] at f10
        have F := (And.intro f10 (And.intro f36 (And.intro f37 (And.intro f38 (And.intro o10 (And.intro hs3 hG))))))
        refine AW.seq ?_
        refine AW.region (cfg := cfg) ?_
        refine stp (fun _ h => s0 h) ?_
        refine aops_nil ?_
        refine AW.seq ?_
        refine cnd (fun hb => ?ht4) (fun hb => ?hf4)
        case ht4 => (simp at hb; done)
        case hf4 =>
        have hbt39 := hb
        refine AW.exit ?_
        refine AW.seq ?_
        refine AW.region (cfg := cfg) ?_
        refine stp (fun _ h => s0 h) ?_
        refine stp (fun _ h => sm h) ?_
        refine stp (fun _ h => s0 h) ?_
        refine aops_nil ?_
        refine AW.ret ?_
        refine ⟨.inr rfl, ?_⟩
        apply Exists.intro
        (have zz := sec_yes hbt25 (Decidable.not_not.1 hbt32))
        obtain ⟨e1, e2, e3⟩ := zz
        rw [e1, e2, e3]
        refine leavesN ?_
        refine leaves_mwp2 (rs := [.tmp 6, .tmp 7]) rfl ?_; simp (config := {failIfUnchanged := false}) [giveL, srcOne, rehome, freezeN, sub, upd, opn, aLoad, loadL, giveOne, reify, reifyL, readL, readOne, Mwp, M.bind, Mem.set, setAt, cellsL, hG, f10, f36, f37, f38, o10, hs3]
        exact ⟨⟨by omega, List.take_of_length_le (by simp [secL_len])⟩, rfl⟩
end Go.Vai.S7
namespace Go.Vai.WK
open Go.Proofs Go.Vai Go.Vai.DK Go.Vai.O Go.Vai.V
set_option linter.unusedSimpArgs false
set_option linter.unusedVariables false
set_option maxHeartbeats 4000000
set_option maxRecDepth 100000
theorem good_isW (G : List (List AV)) (w d : Nat) (x : Wk) (hW : HasW G w (.gp d 0) x) : Good Tryz.prog 44 [(.gp w 0, false)] G [(.b (!x.broken), false)] G := by
  refine good_of_body2 19 Tryz.func44 rfl rfl rfl (by simp) ?_
  intro s m ha hr hv hG
  have f0 : s 0 = .v (.gp w 0) := ha 0 _ rfl
  clear ha
  have hc : True := trivial
  have F := (And.intro f0 hG)
  have hx := hW.hx
  refine AW.seq ?_
  refine AW.region (cfg := cfg) ?_
  refine stp (fun _ h => s0 h) ?_
  refine aops_nil ?_
  refine AW.seq ?_
  refine AW.region (cfg := cfg) ?_
  iterate 3 refine stp (fun _ h => s0 h) ?_
  refine mrg wa (fun hc _ h => s0 h) ?_
  refine mrg wa (fun hc _ h => sd h) ?_
  refine mrg wa (fun hc _ h => sx h) ?_
  refine mrg wa (fun hc _ h => sl h) ?_
  refine mrg wa (fun hc _ h => s0 h) ?_
  iterate 2 refine stp (fun _ h => s0 h) ?_
  refine mrg wa (fun hc _ h => s0 h) ?_
  refine mrg wa (fun hc _ h => sd h) ?_
  refine mrg wa (fun hc _ h => sx h) ?_
  refine mrg wa (fun hc _ h => sl h) ?_
  refine mrg wa (fun hc _ h => s0 h) ?_
  iterate 2 refine stp (fun _ h => s0 h) ?_
  refine aops_nil ?_
  refine AW.ret ?_
  refine ⟨.inr rfl, ?_⟩
  refine leaves_tmp1 2 rfl ?_ (by exact hG)
  simp (disch := first | omega | decide) only [go_sem, F, aIndex_map]
  all_goals first | done | rfl | trace_state
theorem good_GenW (G : List (List AV)) (w d : Nat) (x : Wk) (hW : HasW G w (.gp d 0) x) : Good Tryz.prog 15 [(.gp w 0, false)] G [(i64 x.gen, false)] G := by
  refine good_of_body2 9 Tryz.func15 rfl rfl rfl (by simp) ?_
  intro s m ha hr hv hG
  have f0 : s 0 = .v (.gp w 0) := ha 0 _ rfl
  clear ha
  have hc : True := trivial
  have F := (And.intro f0 hG)
  have hx := hW.hx
  refine AW.seq ?_
  refine AW.region (cfg := cfg) ?_
  refine stp (fun _ h => s0 h) ?_
  refine aops_nil ?_
  refine AW.seq ?_
  refine AW.seq ?_
  refine AW.region (cfg := cfg) ?_
  iterate 2 refine stp (fun _ h => s0 h) ?_
  refine aops_nil ?_
  refine cnd (fun hb => ?ht1) (fun hb => ?hf1)
  case ht1 => simp at hb
  case hf1 =>
  have hbt4 := hb
  refine AW.skip ?_
  refine AW.seq ?_
  refine AW.region (cfg := cfg) ?_
  refine stp (fun _ h => s0 h) ?_
  refine stp (fun _ h => sd h) ?_
  refine stp (fun _ h => sx h) ?_
  refine stp (fun _ h => sl h) ?_
  refine stp (fun _ h => s0 h) ?_
  refine aops_nil ?_
  refine AW.ret ?_
  refine ⟨.inr rfl, ?_⟩
  refine leaves_tmp1 2 rfl ?_ (by exact hG)
  simp (disch := first | omega | decide) only [go_sem, F, aIndex_map]
  all_goals first | done | rfl | trace_state
theorem good_FreeW (G : List (List AV)) (w d : Nat) (x : Wk) (hW : HasW G w (.gp d 0) x) (hr : 0 ≤ x.next ∧ x.next ≤ 100000 ∧ 0 ≤ x.l ∧ x.l ≤ 100000) : Good Tryz.prog 16 [(.gp w 0, false)] G [(i64 (x.l - x.next), false)] G := by
  refine good_of_body2 15 Tryz.func16 rfl rfl rfl (by simp) ?_
  intro s m ha hr hv hG
  have f0 : s 0 = .v (.gp w 0) := ha 0 _ rfl
  clear ha
  have hc : True := trivial
  have F := (And.intro f0 hG)
  have hx := hW.hx
  refine AW.seq ?_
  refine AW.region (cfg := cfg) ?_
  refine stp (fun _ h => s0 h) ?_
  refine aops_nil ?_
  refine AW.seq ?_
  refine AW.seq ?_
  refine AW.region (cfg := cfg) ?_
  iterate 2 refine stp (fun _ h => s0 h) ?_
  refine aops_nil ?_
  refine cnd (fun hb => ?ht1) (fun hb => ?hf1)
  case ht1 => simp at hb
  case hf1 =>
  have hbt4 := hb
  refine AW.skip ?_
  refine AW.seq ?_
  refine AW.draw (cfg := cfg) (by kernel_rfl) (by kernel_rfl) (by kernel_rfl) ?_
  refine dstp (fun _ h => s0 h) ?_
  refine dstp (fun _ h => sd h) ?_
  iterate 2 refine dstp (fun _ h => sx h) ?_
  refine dstp (fun _ h => sl h) ?_
  refine dstp (fun _ h => s0 h) ?_
  refine dstp (fun _ h => sd h) ?_
  refine dstp (fun _ h => sx h) ?_
  refine dstp (fun _ h => sl h) ?_
  refine dstp (fun _ h => sd h) ?_
  refine dstp (fun _ h => s0 h) ?_
  refine adraw_nil (by kernel_rfl) ?_
  refine AW.ret ?_
  refine ⟨.inr rfl, ?_⟩
  refine leaves_tmp1 2 rfl ?_ (by exact hG)
  simp (disch := first | omega | decide) only [go_sem, F, aIndex_map]
  all_goals first | done | rfl | trace_state
theorem good_RoomW (G : List (List AV)) (w d : Nat) (x : Wk) (hW : HasW G w (.gp d 0) x) : Good Tryz.prog 17 [(.gp w 0, false)] G [(i64 x.s, false)] G := by
  refine good_of_body2 10 Tryz.func17 rfl rfl rfl (by simp) ?_
  intro s m ha hr hv hG
  have f0 : s 0 = .v (.gp w 0) := ha 0 _ rfl
  clear ha
  have hc : True := trivial
  have F := (And.intro f0 hG)
  have hx := hW.hx
  refine AW.seq ?_
  refine AW.region (cfg := cfg) ?_
  refine stp (fun _ h => s0 h) ?_
  refine aops_nil ?_
  refine AW.seq ?_
  refine AW.seq ?_
  refine AW.region (cfg := cfg) ?_
  iterate 2 refine stp (fun _ h => s0 h) ?_
  refine aops_nil ?_
  refine cnd (fun hb => ?ht1) (fun hb => ?hf1)
  case ht1 => simp at hb
  case hf1 =>
  have hbt4 := hb
  refine AW.skip ?_
  refine AW.seq ?_
  refine AW.region (cfg := cfg) ?_
  refine stp (fun _ h => s0 h) ?_
  refine stp (fun _ h => sd h) ?_
  iterate 2 refine stp (fun _ h => sx h) ?_
  refine stp (fun _ h => sl h) ?_
  refine stp (fun _ h => s0 h) ?_
  refine aops_nil ?_
  refine AW.ret ?_
  refine ⟨.inr rfl, ?_⟩
  refine leaves_tmp1 2 rfl ?_ (by exact hG)
  simp (disch := first | omega | decide) only [go_sem, F, aIndex_map]
  all_goals first | done | rfl | trace_state
end Go.Vai.WK
namespace Go.Vai.WK
open Go.Proofs Go.Vai Go.Vai.DK Go.Vai.O Go.Vai.U Go.Vai.V
set_option linter.unusedSimpArgs false
set_option linter.unusedVariables false
set_option maxHeartbeats 4000000
set_option maxRecDepth 100000
open Go.Vai.DK Go.Vai.U
def secR (x : Dk) : Nat → List (Bool × List (BitVec 8))
  | 0 => []
  | k + 1 => secR x k ++ [(false, readD x (k : Int))]
@[simp] theorem secR_len (x : Dk) : ∀ k, (secR x k).length = k
  | 0 => rfl
  | k + 1 => by rw [secR, List.length_append, secR_len x k]; rfl
theorem rd_at {x : Dk} {k : Nat} (h : offD x = false) (hk : k < x.n.toNat) : rdE x (k : Int) = 0 ∧ rdB x (k : Int) = readD x (k : Int) ∧ (!decide (rdE x (k : Int) = 0)) = false := by
  obtain ⟨e1, e2⟩ := rd_ok (i := (k : Int)) h (by omega)
  exact ⟨e1, e2, by rw [e1]; rfl⟩
attribute [simp] noPtr_ps noPtrL_ps
theorem good_sectors (G : List (List AV)) (d is iw : Nat) (x : Dk) (hD : HasD G d is iw x) (hw512 : Whole x) (ho : offD x = false) (hn : 0 ≤ x.n ∧ x.n ≤ 1024) : Good Tryz.prog 37 [(.gp d 0, false)] G [(.sl 1 (secR x x.n.toNat).isEmpty ((secR x x.n.toNat).map pslice), false), (i64 0, false)] G := by
  refine good_of_body2 28 Tryz.func37 rfl rfl rfl (by simp) ?_
  intro s m ha hr hv hG
  have f0 : s 0 = .v (.gp d 0) := ha 0 _ rfl
  clear ha
  have hc : True := trivial
  have F := (And.intro f0 hG)
  have hd := hD.hd
  refine AW.seq ?_
  refine AW.region (cfg := cfg) ?_
  iterate 2 refine stp (fun _ h => s0 h) ?_
  refine aops_nil ?_
  refine AW.seq ?_
  refine AW.region (cfg := cfg) ?_
  refine stp (fun _ h => s0 h) ?_
  refine aops_nil ?_
  refine AW.seq ?_
  refine AW.seq ?_
  refine AW.region (cfg := cfg) ?_
  refine stp (fun _ h => s0 h) ?_
  refine stp (fun _ h => cg (w := good_SizeD G d is iw x hD) (x := h)) ?_
  refine stp (fun _ h => s0 h) ?_
  refine aops_nil ?_
  refine AW.block ?_
  refine AW.forN (fun k σ => ∃ s m, σ = ⟨28, s, m⟩ ∧ s 0 = .v (.gp d 0) ∧ s 4 = .own (.var 4) (m.objs (.var 4)).1 0 ((secR x k).length) ∧ (m.objs (.var 4)).2 = .arr (secR x k).isEmpty 1 ((secR x k).map pslice) ∧ s 9 = .v (i64 x.n) ∧ s 10 = .v (i64 (k : Int)) ∧ (∀ i, (m.objs (.res i)).2 = .dead) ∧ m.G = G) (x.n.toNat) ?_ ?_ ?_
  · refine ⟨_, _, rfl, ?_, ?_, ?_, ?_, ?_, (by intro i; simp [Mem.set, hr]), (by rfl)⟩ <;> try simp (disch := first | omega | decide) only [go_sem, F, aIndex_map]
    all_goals rfl
  · clear F f0 hr hG
    rintro k σ hk ⟨s, m, rfl, f0, f4, o4, f9, f10, hr, hG⟩
    obtain ⟨g4, o4⟩ : ∃ g, m.objs (.var 4) = (g, .arr (secR x k).isEmpty 1 ((secR x k).map pslice)) := ⟨_, Prod.ext rfl o4⟩
    rw [o4] at f4
    have F := (And.intro f0 (And.intro f4 (And.intro f9 (And.intro f10 (And.intro o4 hG)))))
    refine AW.seq ?_
    refine AW.region (cfg := cfg) ?_
    refine stp (fun _ h => s0 h) ?_
    refine aops_nil ?_
    refine AW.seq ?_
    refine cnd (fun hb => ?ht1) (fun hb => ?hf1)
    case hf1 => simp at hb; omega
    case ht1 =>
    have hbt11 := hb
    refine AW.skip ?_
    refine AW.seq ?_
    refine AW.block ?_
    refine AW.seq ?_
    refine AW.region (cfg := cfg) ?_
    iterate 2 refine stp (fun _ h => s0 h) ?_
    refine aops_nil ?_
    refine AW.seq ?_
    obtain ⟨e1, e2, e3⟩ := rd_at ho hk
    have F := And.intro e1 F
    have F := And.intro e2 F
    have F := And.intro e3 F
    refine AW.region (cfg := cfg) ?_
    iterate 2 refine stp (fun _ h => s0 h) ?_
    refine stp (fun _ h => cg (w := good_ReadG G d is iw x hD hw512 (k : Int)) (x := h)) ?_
    iterate 5 refine stp (fun _ h => s0 h) ?_
    refine aops_nil ?_
    refine AW.seq ?_
    refine AW.seq ?_
    refine AW.region (cfg := cfg) ?_
    iterate 2 refine stp (fun _ h => s0 h) ?_
    refine aops_nil ?_
    refine cnd (fun hb => ?ht2) (fun hb => ?hf2)
    case ht2 => simp at hb
    case hf2 =>
    have hbt20 := hb
    refine AW.skip ?_
    refine AW.region (cfg := cfg) ?_
    iterate 2 refine stp (fun _ h => s0 h) ?_
    refine stp (fun _ h => sq h) ?_
    refine stp (fun _ h => sp h) ?_
    refine stp (fun _ h => st h) ?_
    refine aops_nil ?_
    refine AW.region (cfg := cfg) ?_
    refine stp (fun _ h => sd h) ?_
    refine stp (fun _ h => s0 h) ?_
    refine aops_nil ?_
    refine ⟨_, _, rfl, ?_, ?_, ?_, ?_, ?_, (by intro i; simp [Mem.set, hr]), (by rfl)⟩ <;> try simp (disch := first | omega | decide) only [go_sem, F, aIndex_map]
    all_goals first | rfl | (simp [secR, pslice]; done)
  · clear F f0 hr hG
    rintro σ ⟨s, m, rfl, f0, f4, o4, f9, f10, hr, hG⟩
    obtain ⟨g4, o4⟩ : ∃ g, m.objs (.var 4) = (g, .arr (secR x x.n.toNat).isEmpty 1 ((secR x x.n.toNat).map pslice)) := ⟨_, Prod.ext rfl o4⟩
    rw [o4] at f4
    have F := (And.intro f0 (And.intro f4 (And.intro f9 (And.intro f10 (And.intro o4 hG)))))
    refine AW.seq ?_
    refine AW.region (cfg := cfg) ?_
    refine stp (fun _ h => s0 h) ?_
    refine aops_nil ?_
    refine AW.seq ?_
    refine cnd (fun hb => ?ht3) (fun hb => ?hf3)
    case ht3 => simp at hb; omega
    case hf3 =>
    have hbt11 := hb
    refine AW.exit ?_
    refine AW.seq ?_
    refine AW.region (cfg := cfg) ?_
    refine stp (fun _ h => s0 h) ?_
    refine stp (fun _ h => sm h) ?_
    refine stp (fun _ h => s0 h) ?_
    refine aops_nil ?_
    refine AW.ret ?_
    refine ⟨.inr rfl, ?_⟩
    refine leaves_mwp2 (rs := [.tmp 2, .tmp 3]) rfl ?_
    simp (config := {failIfUnchanged := false}) [giveL, srcOne, rehome, freezeN, sub, upd, opn, aLoad, loadL, giveOne, reify, reifyL, readL, readOne, Mwp, M.bind, Mem.set, setAt, cellsL, hG, f0, f4, f9, f10, o4]
    all_goals (simp [List.take_of_length_le]; done)
end Go.Vai.WK
namespace Go.Vai.WK
open Go.Proofs Go.Vai Go.Vai.DK Go.Vai.O Go.Vai.U Go.Vai.V
set_option linter.unusedSimpArgs false
set_option linter.unusedVariables false
set_option maxHeartbeats 4000000
set_option maxRecDepth 100000
end Go.Vai.WK
namespace Go.Vai.WK
open Go.Proofs Go.Vai Go.Vai.DK Go.Vai.G Go.Vai.L Go.Vai.MP Go.Vai.O Go.Vai.RC Go.Vai.S7 Go.Vai.U Go.Vai.V Go.Vai.Z
set_option linter.unusedSimpArgs false
set_option linter.unusedVariables false
set_option maxHeartbeats 4000000
set_option maxRecDepth 100000
open Go.Vai.DK Go.Vai.U Go.Vai.V Go.Vai.S7 Go.Vai.RC Go.Vai.G
attribute [simp] noPtr_ps noPtrL_ps
def pgH (x : Wk) : Page := ⟨2, x.gen, x.mark, x.next, 0, 0, true, []⟩
def comL (x : Wk) (b : List (BitVec 8)) (k : Nat) : PSl := (splitP (pgH x) false b k).map secOf
@[simp] theorem comL_len (x : Wk) (b : List (BitVec 8)) (k : Nat) : (comL x b k).length = k := by rw [comL, List.length_map, splitP_len]
theorem comL_succ {x : Wk} {b : List (BitVec 8)} {k : Nat} : comL x b (k + 1) = comL x b k ++ [secOf (pageAt (pgH x) false b (parts (b.length : Int)) k)] := by
  rw [comL, splitP_succ, List.map_append]; rfl
theorem pgPut_lW {p : Page} (h : pageOK p = true) : (pgPut p).length = 512 := by rw [pgPut, h, if_pos rfl, Go.Vai.Z.sealS_len, pageB_len (page_bd h).2.2.2.2.2.2]
theorem comL_ok {x : Wk} {b : List (BitVec 8)} (h : splitOK (pgH x) b = true) {k : Nat} (hk : k ≤ (parts (b.length : Int)).toNat) : ∀ p ∈ comL x b k, p.2.length ≤ 1000000 ∧ (p.1 = true → p.2 = []) := by
  intro p hp
  obtain ⟨q, hq, rfl⟩ := List.mem_map.1 hp
  obtain ⟨i, hi, rfl⟩ := List.mem_map.1 hq
  rw [List.mem_range] at hi
  refine ⟨?_, fun e => by cases e⟩
  show (pgPut _).length ≤ _
  rw [pgPut_lW (splitOK_at h (by omega))]; decide
/-- A wal on a disk of n sectors. -/
structure WOK (x : Wk) (n : Int) : Prop where
  hn : 6 ≤ n ∧ n ≤ 1024
  s : x.s = (ploN n).s
  f : x.f = (ploN n).f
  l : x.l = (ploN n).l
  g : 0 ≤ x.gen ∧ x.gen ≤ 2147483648
  m : 0 ≤ x.mark ∧ x.mark ≤ 2147483648
  nx : 0 ≤ x.next ∧ x.next ≤ x.l
theorem at_x {x : Wk} {n : Int} (h : WOK x n) (h2 : x.next < x.l) : Good Tryz.prog 48 [(.agg [i64 x.s, i64 x.f, i64 x.l], false), (i64 x.next, false)] [] [(i64 (x.f + x.next), false)] [] := by
  have h1 := h.nx
  have h3 := good_AtP n h.hn x.next (by rw [← h.l]; omega)
  simp only [ploA, ← h.s, ← h.f, ← h.l] at h3
  exact h3
theorem slot_x {x : Wk} {n : Int} (h : WOK x n) (g : Int) (h2 : 0 ≤ g) : Good Tryz.prog 51 [(.agg [i64 x.s, i64 x.f, i64 x.l], false), (i64 g, false)] [] [(i64 (g % 2 * x.s), false), (i64 (g % 2 * x.s + x.s), false)] [] := by
  have h3 := good_SlotP n h.hn g h2
  simp only [ploA, ← h.s, ← h.f, ← h.l] at h3
  exact h3
def comX (x : Wk) (y : Dk) (b : List (BitVec 8)) : Wk × Dk × Int :=
  if x.broken = true then (x, y, 6) else if splitE (pgH x) b ≠ 0 then (x, y, splitE (pgH x) b) else if parts (b.length : Int) > x.l - x.next then (x, y, 4)
  else if (wrF y (x.f + x.next) (comL x b (parts (b.length : Int)).toNat)).2 ≠ 0 then ({ x with broken := decide ((wrF y (x.f + x.next) (comL x b (parts (b.length : Int)).toNat)).2 ≠ 0) }, (wrF y (x.f + x.next) (comL x b (parts (b.length : Int)).toNat)).1, (wrF y (x.f + x.next) (comL x b (parts (b.length : Int)).toNat)).2)
  else ({ x with broken := decide ((wrF y (x.f + x.next) (comL x b (parts (b.length : Int)).toNat)).2 ≠ 0), next := x.next + ((parts (b.length : Int)).toNat : Int) }, (wrF y (x.f + x.next) (comL x b (parts (b.length : Int)).toNat)).1, 0)
section
variable {x : Wk} {y : Dk} {b : List (BitVec 8)}
theorem com_1 (h : x.broken = true) : comX x y b = (x, y, 6) := if_pos h
theorem com_2 (h : ¬ x.broken = true) (h2 : splitE (pgH x) b ≠ 0) : comX x y b = (x, y, splitE (pgH x) b) := by rw [comX, if_neg h, if_pos h2]
theorem com_3 (h : ¬ x.broken = true) (h2 : ¬ splitE (pgH x) b ≠ 0) (h3 : parts (b.length : Int) > x.l - x.next) : comX x y b = (x, y, 4) := by rw [comX, if_neg h, if_neg h2, if_pos h3]
theorem com_4 (h : ¬ x.broken = true) (h2 : ¬ splitE (pgH x) b ≠ 0) (h3 : ¬ parts (b.length : Int) > x.l - x.next) (h4 : (wrF y (x.f + x.next) (comL x b (parts (b.length : Int)).toNat)).2 ≠ 0) :
    comX x y b = ({ x with broken := decide ((wrF y (x.f + x.next) (comL x b (parts (b.length : Int)).toNat)).2 ≠ 0) }, (wrF y (x.f + x.next) (comL x b (parts (b.length : Int)).toNat)).1, (wrF y (x.f + x.next) (comL x b (parts (b.length : Int)).toNat)).2) := by rw [comX, if_neg h, if_neg h2, if_neg h3, if_pos h4]
theorem com_5 (h : ¬ x.broken = true) (h2 : ¬ splitE (pgH x) b ≠ 0) (h3 : ¬ parts (b.length : Int) > x.l - x.next) (h4 : ¬ (wrF y (x.f + x.next) (comL x b (parts (b.length : Int)).toNat)).2 ≠ 0) :
    comX x y b = ({ x with broken := decide ((wrF y (x.f + x.next) (comL x b (parts (b.length : Int)).toNat)).2 ≠ 0), next := x.next + ((parts (b.length : Int)).toNat : Int) }, (wrF y (x.f + x.next) (comL x b (parts (b.length : Int)).toNat)).1, 0) := by rw [comX, if_neg h, if_neg h2, if_neg h3, if_neg h4]
end
theorem good_CommitW (G : List (List AV)) (w d is iw : Nat) (x : Wk) (y : Dk) (hB : HasB G w d is iw x y) (hF : Fine y) (hO : WOK x y.n) (nb : Bool) (b : List (BitVec 8)) (hb0 : b.length ≤ 1000000) (hz : nb = true → b = []) : Good Tryz.prog 10 [(.gp w 0, false), (.sl 1 nb (bsl b), false)] G [(i64 (comX x y b).2.2, false)] (wrB G w d is iw (comX x y b).1 (comX x y b).2.1) := by
  refine good_of_body2 84 Tryz.func10 rfl rfl rfl (by simp) ?_
  intro s m ha hr hv hG
  have f0 : s 0 = .v (.gp w 0) := ha 0 _ rfl
  have f1 : s 1 = .v (.sl 1 nb (bsl b)) := ha 1 _ rfl
  clear ha
  have hc : True := trivial
  have F := (And.intro f0 (And.intro f1 hG))
  have hx := hB.hx
  have hyn := hO.hn
  have hg := hO.g
  have hm := hO.m
  have hnx := hO.nx
  have hpb := pl_bd hO.hn
  have hxl := hO.l
  have hxf := hO.f
  have hxs := hO.s
  refine AW.seq ?_
  refine AW.region (cfg := cfg) ?_
  refine stp (fun _ h => s0 h) ?_
  refine aops_nil ?_
  refine AW.seq ?_
  refine AW.seq ?_
  refine AW.region (cfg := cfg) ?_
  refine stp (fun _ h => s0 h) ?_
  refine stp (fun _ h => cg (w := good_isW G w d x hB.hW) (x := h)) ?_
  refine stp (fun _ h => s0 h) ?_
  refine aops_nil ?_
  refine cnd (fun hb => ?ht1) (fun hb => ?hf1)
  case ht1 =>
    have hw15 := hb
    try simp only [bo1, bo2, bo3, bo4, bo5, bo6] at hb
    have hbt15 := hb
    refine AW.seq ?_
    refine AW.region (cfg := cfg) ?_
    refine stp (fun _ h => s0 h) ?_
    refine aops_nil ?_
    refine AW.ret ?_
    refine ⟨.inr rfl, ?_⟩
    (rw [com_1 (by simpa using hbt15), wb_self hB])
    refine leaves_tmp1 4 rfl ?_ (by rfl)
    simp (disch := first | omega | decide) only [go_sem, F, aIndex_map]
    all_goals first | done | rfl | (simp; done) | trace_state
  case hf1 =>
    have hw15 := hb
    try simp only [bo1, bo2, bo3, bo4, bo5, bo6] at hb
    have hbt15 := hb
    refine AW.skip ?_
    refine AW.seq ?_
    have hsn : (pgH x).b.length ≤ 9223372036854775807 := by simp [pgH]
    refine AW.draw (cfg := cfg) (by kernel_rfl) (by kernel_rfl) (by kernel_rfl) ?_
    refine dstp (fun _ h => s0 h) ?_
    refine dstp (fun _ h => sd h) ?_
    refine dstp (fun _ h => sx h) ?_
    refine dstp (fun _ h => sl h) ?_
    refine dstp (fun _ h => s0 h) ?_
    refine dstp (fun _ h => sd h) ?_
    refine dstp (fun _ h => sx h) ?_
    refine dstp (fun _ h => sl h) ?_
    refine dstp (fun _ h => s0 h) ?_
    refine dstp (fun _ h => sd h) ?_
    refine dstp (fun _ h => sx h) ?_
    refine dstp (fun _ h => sl h) ?_
    refine dstp (fun _ h => su h) ?_
    refine dstp (fun _ h => s0 h) ?_
    refine dstp (fun _ h => cr (w := (good_Split (pgH x) hsn nb b (by omega) hz).lend2) (x := h)) ?_
    iterate 5 refine dstp (fun _ h => s0 h) ?_
    refine adraw_nil (by kernel_rfl) ?_
    refine AW.seq ?_
    refine AW.block ?_
    refine AW.seq ?_
    refine AW.region (cfg := cfg) ?_
    iterate 3 refine stp (fun _ h => s0 h) ?_
    refine aops_nil ?_
    refine cnd (fun hb => ?ht2) (fun hb => ?hf2)
    case ht2 =>
      have hw34 := hb
      try simp only [bo1, bo2, bo3, bo4, bo5, bo6] at hb
      have hbt34 := hb
      refine AW.seq ?_
      refine AW.region (cfg := cfg) ?_
      iterate 2 refine stp (fun _ h => s0 h) ?_
      refine aops_nil ?_
      refine AW.ret ?_
      refine ⟨.inr rfl, ?_⟩
      (rw [com_2 (by simpa using hbt15) hbt34, wb_self hB])
      refine leaves_tmp1 4 rfl ?_ (by rfl)
      simp (disch := first | omega | decide) only [go_sem, F, aIndex_map]
      all_goals first | done | rfl | (simp; done) | trace_state
    case hf2 =>
      have hw34 := hb
      try simp only [bo1, bo2, bo3, bo4, bo5, bo6] at hb
      have hbt34 := hb
      refine AW.seq ?_
      obtain ⟨hsE, hsO, hsP⟩ := split0E.resolve_right (fun f => f.1 (by exact Decidable.not_not.1 hbt34))
      have hs3 : splitL (pgH x) nb b = splitP (pgH x) nb b (parts (b.length : Int)).toNat := by rw [splitL, hsO]; rfl
      obtain ⟨hp1, hp2, hp3⟩ := sp_pos hsP
      have hpz : decide ((parts (b.length : Int)).toNat = 0) = false := decide_eq_false (by omega)
      have hlz := splitP_len (pgH x) nb b (parts (b.length : Int)).toNat
      have F := And.intro hs3 F
      have F := And.intro hlz F
      refine AW.region (cfg := cfg) ?_
      refine stp (fun _ h => s0 h) ?_
      refine stp (fun _ h => sd h) ?_
      refine stp (fun _ h => s0 h) ?_
      refine stp (fun _ h => cg (w := good_FreeW G w d x hB.hW (by omega)) (x := h)) ?_
      iterate 2 refine stp (fun _ h => s0 h) ?_
      refine aops_nil ?_
      refine cnd (fun hb => ?ht3) (fun hb => ?hf3)
      case ht3 =>
        have hw38 := hb
        try simp only [bo1, bo2, bo3, bo4, bo5, bo6] at hb
        have hbt38 := hb
        refine AW.seq ?_
        refine AW.region (cfg := cfg) ?_
        refine stp (fun _ h => s0 h) ?_
        refine aops_nil ?_
        refine AW.ret ?_
        refine ⟨.inr rfl, ?_⟩
        (rw [com_3 (by simpa using hbt15) hbt34 (by omega), wb_self hB])
        refine leaves_tmp1 4 rfl ?_ (by rfl)
        simp (disch := first | omega | decide) only [go_sem, F, aIndex_map]
        all_goals first | done | rfl | (simp; done) | trace_state
      case hf3 =>
        have hw38 := hb
        try simp only [bo1, bo2, bo3, bo4, bo5, bo6] at hb
        have hbt38 := hb
        refine AW.skip ?_
        refine AW.seq ?_
        refine AW.region (cfg := cfg) ?_
        refine stp (fun _ h => s0 h) ?_
        refine aops_nil ?_
        refine AW.seq ?_
        refine AW.seq ?_
        refine AW.region (cfg := cfg) ?_
        refine stp (fun _ h => s0 h) ?_
        refine stp (fun _ h => sd h) ?_
        refine stp (fun _ h => s0 h) ?_
        refine aops_nil ?_
        refine AW.block ?_
        refine AW.forN (fun k σ => ∃ s m, σ = ⟨84, s, m⟩ ∧ s 0 = .v (.gp w 0) ∧ s 5 = .v (.sl 7 (!splitOK (pgH x) b) ((splitP (pgH x) nb b (parts (b.length : Int)).toNat).map pageA)) ∧ s 7 = .own (.var 7) (m.objs (.var 7)).1 0 (k) ∧ (m.objs (.var 7)).2 = .arr (decide (k = 0)) 1 ((comL x b k).map pslice) ∧ s 44 = .v (.sl 7 (!splitOK (pgH x) b) ((splitP (pgH x) nb b (parts (b.length : Int)).toNat).map pageA)) ∧ s 45 = .v (i64 (((splitP (pgH x) nb b (parts (b.length : Int)).toNat).length : Nat) : Int)) ∧ s 46 = .v (i64 (k : Int)) ∧ (∀ i, (m.objs (.res i)).2 = .dead) ∧ m.G = G) ((parts (b.length : Int)).toNat) ?_ ?_ ?_
        · refine ⟨_, _, rfl, ?_, ?_, ?_, ?_, ?_, ?_, ?_, (by intro i; simp [Mem.set, hr]), (by rfl)⟩ <;> try simp (disch := first | omega | decide) only [go_sem, F, aIndex_map]
          all_goals rfl
        · clear F f0 f1 hr hG
          rintro k σ hk ⟨s, m, rfl, f0, f5, f7, o7, f44, f45, f46, hr, hG⟩
          obtain ⟨g7, o7⟩ : ∃ g, m.objs (.var 7) = (g, .arr (decide (k = 0)) 1 ((comL x b k).map pslice)) := ⟨_, Prod.ext rfl o7⟩
          rw [o7] at f7
          have F := (And.intro f0 (And.intro f5 (And.intro f7 (And.intro f44 (And.intro f45 (And.intro f46 (And.intro o7 (And.intro hs3 (And.intro hlz hG)))))))))
          refine AW.seq ?_
          refine AW.region (cfg := cfg) ?_
          refine stp (fun _ h => s0 h) ?_
          refine aops_nil ?_
          refine AW.seq ?_
          refine cnd (fun hb => ?ht4) (fun hb => ?hf4)
          case hf4 => (simp at hb; omega)
          case ht4 =>
          have hbt47 := hb
          refine AW.skip ?_
          refine AW.seq ?_
          refine AW.block ?_
          refine AW.seq ?_
          refine AW.region (cfg := cfg) ?_
          refine stp (fun _ h => si h) ?_
          refine stp (fun _ h => sl h) ?_
          refine stp (fun _ h => sd h) ?_
          refine stp0 (fun _ h => ss h) ?_
          refine aops_nil ?_
          refine AW.seq ?_
          have hks : k < (splitP (pgH x) nb b (parts (b.length : Int)).toNat).length := by (rw [splitP_len]; exact hk)
          have sg := splitP_get (p := pgH x) (nil := nb) (b := b) hk
          have hok := splitOK_at (nil := nb) hsO hk
          have hpc := chunk_len b k
          have F := And.intro sg F
          have F := And.intro hok F
          refine AW.region (cfg := cfg) ?_
          refine stp (fun _ h => sl h) ?_
          refine stp (fun _ h => cr (w := (good_PutP (pageAt (pgH x) nb b (parts (b.length : Int)) k) (by (show (chunk _ _).length ≤ _; omega))).lend2) (x := h)) ?_
          iterate 5 refine stp (fun _ h => s0 h) ?_
          refine aops_nil ?_
          refine AW.region (cfg := cfg) ?_
          iterate 2 refine stp (fun _ h => s0 h) ?_
          refine stp (fun _ h => sq h) ?_
          refine stp (fun _ h => sp h) ?_
          refine stp (fun _ h => st h) ?_
          refine aops_nil ?_
          refine AW.region (cfg := cfg) ?_
          refine stp (fun _ h => sd h) ?_
          refine stp (fun _ h => s0 h) ?_
          refine aops_nil ?_
          refine ⟨_, _, rfl, ?_, ?_, ?_, ?_, ?_, ?_, ?_, (by intro i; simp [Mem.set, hr]), (by exact hG)⟩ <;> try simp (disch := first | omega | decide) only [go_sem, F, aIndex_map]
          all_goals first | rfl | (rw [comL_succ, at_nil _ nb false]; simp [pslice, secOf]; done)
        · clear F f0 f1 hr hG
          rintro σ ⟨s, m, rfl, f0, f5, f7, o7, f44, f45, f46, hr, hG⟩
          obtain ⟨g7, o7⟩ : ∃ g, m.objs (.var 7) = (g, .arr (decide ((parts (b.length : Int)).toNat = 0)) 1 ((comL x b (parts (b.length : Int)).toNat).map pslice)) := ⟨_, Prod.ext rfl o7⟩
          rw [o7] at f7
          have F := (And.intro f0 (And.intro f5 (And.intro f7 (And.intro f44 (And.intro f45 (And.intro f46 (And.intro o7 (And.intro hs3 (And.intro hlz hG)))))))))
          refine AW.seq ?_
          refine AW.region (cfg := cfg) ?_
          refine stp (fun _ h => s0 h) ?_
          refine aops_nil ?_
          refine AW.seq ?_
          refine cnd (fun hb => ?ht5) (fun hb => ?hf5)
          case ht5 => (simp at hb; done)
          case hf5 =>
          have hbt47 := hb
          refine AW.exit ?_
          refine AW.seq ?_
          refine AW.seq ?_
          refine AW.draw (cfg := cfg) (by kernel_rfl) (by kernel_rfl) (by kernel_rfl) ?_
          iterate 2 refine dstp (fun _ h => s0 h) ?_
          refine dstp (fun _ h => sd h) ?_
          refine dstp (fun _ h => sx h) ?_
          refine dstp (fun _ h => sl h) ?_
          refine dstp (fun _ h => s0 h) ?_
          refine dstp (fun _ h => sd h) ?_
          refine dstp (fun _ h => sx h) ?_
          refine dstp (fun _ h => sl h) ?_
          refine dstp (fun _ h => cs (w := at_x hO (by omega)) (x := h)) ?_
          refine dstp (fun _ h => s0 h) ?_
          refine dstp (fun _ h => cg (w := good_writeW G w d is iw x y hB hF (x.f + x.next) (by omega) (decide ((parts (b.length : Int)).toNat = 0)) (comL x b (parts (b.length : Int)).toNat) (by rw [comL_len]; omega) (comL_ok hsO (Nat.le_refl _))) (x := h)) ?_
          refine dstp (fun _ h => s0 h) ?_
          refine adraw_nil (by kernel_rfl) ?_
          refine AW.seq ?_
          have hb2 := wb_has (x' := { x with broken := decide ((wrF y (x.f + x.next) (comL x b (parts (b.length : Int)).toNat)).2 ≠ 0) }) (y' := (wrF y (x.f + x.next) (comL x b (parts (b.length : Int)).toNat)).1) hB
          have gb := hb2.hx
          refine AW.region (cfg := cfg) ?_
          iterate 2 refine stp (fun _ h => s0 h) ?_
          refine aops_nil ?_
          refine cnd (fun hb => ?ht6) (fun hb => ?hf6)
          case ht6 =>
            have hw73 := hb
            try simp only [bo1, bo2, bo3, bo4, bo5, bo6] at hb
            have hbt73 := hb
            refine AW.seq ?_
            refine AW.region (cfg := cfg) ?_
            iterate 2 refine stp (fun _ h => s0 h) ?_
            refine aops_nil ?_
            refine AW.ret ?_
            refine ⟨.inr rfl, ?_⟩
            (rw [com_4 (by simpa using hbt15) hbt34 (by omega) hbt73])
            refine leaves_tmp1 4 rfl ?_ (by rfl)
            simp (disch := first | omega | decide) only [go_sem, F, aIndex_map]
            all_goals first | done | rfl | (simp; done) | trace_state
          case hf6 =>
            have hw73 := hb
            try simp only [bo1, bo2, bo3, bo4, bo5, bo6] at hb
            have hbt73 := hb
            refine AW.skip ?_
            refine AW.seq ?_
            refine AW.region (cfg := cfg) ?_
            refine stp (fun _ h => s0 h) ?_
            refine stp (fun _ h => sd h) ?_
            refine stp (fun _ h => sx h) ?_
            refine stp (fun _ h => sl h) ?_
            refine stp (fun _ h => s0 h) ?_
            iterate 3 refine stp (fun _ h => sd h) ?_
            refine stp (fun _ h => sx h) ?_
            refine stp0 (fun _ h => ss h) ?_
            refine aops_nil ?_
            refine AW.seq ?_
            refine AW.region (cfg := cfg) ?_
            refine stp (fun _ h => s0 h) ?_
            refine aops_nil ?_
            refine AW.ret ?_
            refine ⟨.inr rfl, ?_⟩
            (rw [com_5 (by simpa using hbt15) hbt34 (by omega) hbt73]; rw [← wb_set (x' := { x with broken := decide ((wrF y (x.f + x.next) (comL x b (parts (b.length : Int)).toNat)).2 ≠ 0) })])
            refine leaves_tmp1 4 rfl ?_ (by rfl)
            simp (disch := first | omega | decide) only [go_sem, F, aIndex_map]
            all_goals first | done | rfl | (simp; done) | trace_state
end Go.Vai.WK
namespace Go.Vai.WK
open Go.Proofs Go.Vai Go.Vai.DK Go.Vai.G Go.Vai.L Go.Vai.MP Go.Vai.O Go.Vai.RC Go.Vai.S7 Go.Vai.U Go.Vai.V Go.Vai.Z
set_option linter.unusedSimpArgs false
set_option linter.unusedVariables false
set_option maxHeartbeats 4000000
set_option maxRecDepth 100000
open Go.Vai.DK Go.Vai.U Go.Vai.V Go.Vai.S7 Go.Vai.RC Go.Vai.G
theorem secRL {ge mark most : Int} {b : List (BitVec 8)} : (S7.secR ge mark most b).length ≤ 16 := by
  rw [S7.secR]; split
  · rw [secL_len, secN]
    by_cases h : (b.length : Int) < 0 ∨ (b.length : Int) > 7808
    · rw [parts_no h]; decide
    · have := parts_is h; omega
  · exact Nat.zero_le _
theorem secRO {ge mark most : Int} {b : List (BitVec 8)} : ∀ p ∈ S7.secR ge mark most b, p.2.length ≤ 1000000 ∧ (p.1 = true → p.2 = []) := by
  intro p hp
  rw [S7.secR] at hp
  split at hp
  · rename_i h
    simp only [secOK, Bool.and_eq_true] at h
    obtain ⟨q, hq, rfl⟩ := List.mem_map.1 hp
    obtain ⟨i, hi, rfl⟩ := List.mem_map.1 hq
    rw [List.mem_range] at hi
    refine ⟨?_, fun e => by cases e⟩
    show (pgPut _).length ≤ _
    rw [pgPut_lW (splitOK_at h.2 hi)]; decide
  · cases hp
def turX (x : Wk) (y : Dk) (b : List (BitVec 8)) : Wk × Dk × Int :=
  if x.broken = true then (x, y, 6) else if parts (b.length : Int) = 0 ∨ parts (b.length : Int) > x.s then (x, y, 5) else if x.gen = 2147483648 then (x, y, 4)
  else if secE (x.gen + 1) x.mark x.s b ≠ 0 then (x, y, secE (x.gen + 1) x.mark x.s b)
  else if (wrF y ((x.gen + 1) % 2 * x.s) (S7.secR (x.gen + 1) x.mark x.s b)).2 ≠ 0 then ({ x with broken := decide ((wrF y ((x.gen + 1) % 2 * x.s) (S7.secR (x.gen + 1) x.mark x.s b)).2 ≠ 0) }, (wrF y ((x.gen + 1) % 2 * x.s) (S7.secR (x.gen + 1) x.mark x.s b)).1, (wrF y ((x.gen + 1) % 2 * x.s) (S7.secR (x.gen + 1) x.mark x.s b)).2)
  else ({ x with broken := decide ((wrF y ((x.gen + 1) % 2 * x.s) (S7.secR (x.gen + 1) x.mark x.s b)).2 ≠ 0), gen := x.gen + 1, next := 0 }, (wrF y ((x.gen + 1) % 2 * x.s) (S7.secR (x.gen + 1) x.mark x.s b)).1, 0)
section
variable {x : Wk} {y : Dk} {b : List (BitVec 8)}
theorem tur_1 (h : x.broken = true) : turX x y b = (x, y, 6) := if_pos h
theorem tur_2 (h : ¬ x.broken = true) (h2 : parts (b.length : Int) = 0 ∨ parts (b.length : Int) > x.s) : turX x y b = (x, y, 5) := by rw [turX, if_neg h, if_pos h2]
theorem tur_3 (h : ¬ x.broken = true) (h2 : ¬ (parts (b.length : Int) = 0 ∨ parts (b.length : Int) > x.s)) (h3 : x.gen = 2147483648) : turX x y b = (x, y, 4) := by rw [turX, if_neg h, if_neg h2, if_pos h3]
theorem tur_4 (h : ¬ x.broken = true) (h2 : ¬ (parts (b.length : Int) = 0 ∨ parts (b.length : Int) > x.s)) (h3 : ¬ x.gen = 2147483648) (h4 : secE (x.gen + 1) x.mark x.s b ≠ 0) : turX x y b = (x, y, secE (x.gen + 1) x.mark x.s b) := by rw [turX, if_neg h, if_neg h2, if_neg h3, if_pos h4]
theorem tur_5 (h : ¬ x.broken = true) (h2 : ¬ (parts (b.length : Int) = 0 ∨ parts (b.length : Int) > x.s)) (h3 : ¬ x.gen = 2147483648) (h4 : ¬ secE (x.gen + 1) x.mark x.s b ≠ 0) (h5 : (wrF y ((x.gen + 1) % 2 * x.s) (S7.secR (x.gen + 1) x.mark x.s b)).2 ≠ 0) :
    turX x y b = ({ x with broken := decide ((wrF y ((x.gen + 1) % 2 * x.s) (S7.secR (x.gen + 1) x.mark x.s b)).2 ≠ 0) }, (wrF y ((x.gen + 1) % 2 * x.s) (S7.secR (x.gen + 1) x.mark x.s b)).1, (wrF y ((x.gen + 1) % 2 * x.s) (S7.secR (x.gen + 1) x.mark x.s b)).2) := by rw [turX, if_neg h, if_neg h2, if_neg h3, if_neg h4, if_pos h5]
theorem tur_6 (h : ¬ x.broken = true) (h2 : ¬ (parts (b.length : Int) = 0 ∨ parts (b.length : Int) > x.s)) (h3 : ¬ x.gen = 2147483648) (h4 : ¬ secE (x.gen + 1) x.mark x.s b ≠ 0) (h5 : ¬ (wrF y ((x.gen + 1) % 2 * x.s) (S7.secR (x.gen + 1) x.mark x.s b)).2 ≠ 0) :
    turX x y b = ({ x with broken := decide ((wrF y ((x.gen + 1) % 2 * x.s) (S7.secR (x.gen + 1) x.mark x.s b)).2 ≠ 0), gen := x.gen + 1, next := 0 }, (wrF y ((x.gen + 1) % 2 * x.s) (S7.secR (x.gen + 1) x.mark x.s b)).1, 0) := by rw [turX, if_neg h, if_neg h2, if_neg h3, if_neg h4, if_neg h5]
theorem slot_fr {n g : Int} (h : WOK x n) : 0 ≤ g % 2 * x.s ∧ g % 2 * x.s ≤ 100000 := by
  have pb := pl_bd h.hn
  rw [h.s]
  have h : g % 2 = 0 ∨ g % 2 = 1 := by omega
  rcases h with h | h <;> rw [h] <;> omega
end
theorem good_TurnW (G : List (List AV)) (w d is iw : Nat) (x : Wk) (y : Dk) (hB : HasB G w d is iw x y) (hF : Fine y) (hO : WOK x y.n) (nb : Bool) (b : List (BitVec 8)) (hb0 : b.length ≤ 1000000) (hz : nb = true → b = []) : Good Tryz.prog 11 [(.gp w 0, false), (.sl 1 nb (bsl b), false)] G [(i64 (turX x y b).2.2, false)] (wrB G w d is iw (turX x y b).1 (turX x y b).2.1) := by
  refine good_of_body2 90 Tryz.func11 rfl rfl rfl (by simp) ?_
  intro s m ha hr hv hG
  have f0 : s 0 = .v (.gp w 0) := ha 0 _ rfl
  have f1 : s 1 = .v (.sl 1 nb (bsl b)) := ha 1 _ rfl
  clear ha
  have hc : True := trivial
  have F := (And.intro f0 (And.intro f1 hG))
  have hx := hB.hx
  have hyn := hO.hn
  have hg := hO.g
  have hm := hO.m
  have hnx := hO.nx
  have hpb := pl_bd hO.hn
  have hxl := hO.l
  have hxf := hO.f
  have hxs := hO.s
  have hfr := slot_fr (g := x.gen + 1) hO
  refine AW.seq ?_
  refine AW.region (cfg := cfg) ?_
  refine stp (fun _ h => s0 h) ?_
  refine aops_nil ?_
  refine AW.seq ?_
  refine AW.block ?_
  refine AW.seq ?_
  refine AW.region (cfg := cfg) ?_
  refine stp (fun _ h => s0 h) ?_
  refine stp (fun _ h => cg (w := good_isW G w d x hB.hW) (x := h)) ?_
  iterate 2 refine stp (fun _ h => s0 h) ?_
  refine aops_nil ?_
  refine cnd (fun hb => ?ht1) (fun hb => ?hf1)
  case ht1 =>
    have hw10 := hb
    try simp only [bo1, bo2, bo3, bo4, bo5, bo6] at hb
    have hbt10 := hb
    refine AW.seq ?_
    refine AW.region (cfg := cfg) ?_
    refine stp (fun _ h => s0 h) ?_
    refine aops_nil ?_
    refine AW.ret ?_
    refine ⟨.inr rfl, ?_⟩
    (rw [tur_1 (by simpa using hbt10), wb_self hB])
    refine leaves_tmp1 4 rfl ?_ (by rfl)
    simp (disch := first | omega | decide) only [go_sem, F, aIndex_map]
    all_goals first | done | rfl | (simp; done) | (rw [List.set_set]; done) | trace_state
  case hf1 =>
    have hw10 := hb
    try simp only [bo1, bo2, bo3, bo4, bo5, bo6] at hb
    have hbt10 := hb
    refine AW.seq ?_
    refine AW.draw (cfg := cfg) (by kernel_rfl) (by kernel_rfl) (by kernel_rfl) ?_
    refine dstp (fun _ h => s0 h) ?_
    refine dstp (fun _ h => sd h) ?_
    refine dstp (fun _ h => cs (w := good_Parts _ (by omega)) (x := h)) ?_
    iterate 2 refine dstp (fun _ h => s0 h) ?_
    refine dmrg wa (fun hc _ h => s0 h) ?_
    refine dmrg wa (fun hc _ h => sd h) ?_
    refine dmrg wa (fun hc _ h => cs (w := good_Parts _ (by omega)) (x := h)) ?_
    refine dmrg wa (fun hc _ h => s0 h) ?_
    refine dmrg wa (fun hc _ h => sd h) ?_
    iterate 2 refine dmrg wa (fun hc _ h => sx h) ?_
    refine dmrg wa (fun hc _ h => sl h) ?_
    refine dmrg wa (fun hc _ h => s0 h) ?_
    iterate 2 refine dstp (fun _ h => s0 h) ?_
    refine adraw_nil (by kernel_rfl) ?_
    refine cnd (fun hb => ?ht2) (fun hb => ?hf2)
    case ht2 =>
      have hw14 := hb
      try simp only [bo1, bo2, bo3, bo4, bo5, bo6] at hb
      have hbt14 := hb
      refine AW.seq ?_
      refine AW.region (cfg := cfg) ?_
      refine stp (fun _ h => s0 h) ?_
      refine aops_nil ?_
      refine AW.ret ?_
      refine ⟨.inr rfl, ?_⟩
      (rw [tur_2 (by simpa using hbt10) (by exact hbt14), wb_self hB])
      refine leaves_tmp1 4 rfl ?_ (by rfl)
      simp (disch := first | omega | decide) only [go_sem, F, aIndex_map]
      all_goals first | done | rfl | (simp; done) | (rw [List.set_set]; done) | trace_state
    case hf2 =>
      have hw14 := hb
      try simp only [bo1, bo2, bo3, bo4, bo5, bo6] at hb
      have hbt14 := hb
      refine AW.seq ?_
      refine AW.region (cfg := cfg) ?_
      refine stp (fun _ h => s0 h) ?_
      refine stp (fun _ h => sd h) ?_
      refine stp (fun _ h => sx h) ?_
      refine stp (fun _ h => sl h) ?_
      iterate 2 refine stp (fun _ h => s0 h) ?_
      refine aops_nil ?_
      refine cnd (fun hb => ?ht3) (fun hb => ?hf3)
      case ht3 =>
        have hw30 := hb
        try simp only [bo1, bo2, bo3, bo4, bo5, bo6] at hb
        have hbt30 := hb
        refine AW.seq ?_
        refine AW.region (cfg := cfg) ?_
        refine stp (fun _ h => s0 h) ?_
        refine aops_nil ?_
        refine AW.ret ?_
        refine ⟨.inr rfl, ?_⟩
        (rw [tur_3 (by simpa using hbt10) (by omega) hbt30, wb_self hB])
        refine leaves_tmp1 4 rfl ?_ (by rfl)
        simp (disch := first | omega | decide) only [go_sem, F, aIndex_map]
        all_goals first | done | rfl | (simp; done) | (rw [List.set_set]; done) | trace_state
      case hf3 =>
        have hw30 := hb
        try simp only [bo1, bo2, bo3, bo4, bo5, bo6] at hb
        have hbt30 := hb
        refine AW.skip ?_
        refine AW.seq ?_
        refine AW.draw (cfg := cfg) (by kernel_rfl) (by kernel_rfl) (by kernel_rfl) ?_
        refine dstp (fun _ h => s0 h) ?_
        refine dstp (fun _ h => sd h) ?_
        refine dstp (fun _ h => sx h) ?_
        refine dstp (fun _ h => sl h) ?_
        refine dstp (fun _ h => sd h) ?_
        refine dstp (fun _ h => s0 h) ?_
        refine dstp (fun _ h => su h) ?_
        refine dstp (fun _ h => s0 h) ?_
        refine dstp (fun _ h => sd h) ?_
        refine dstp (fun _ h => sx h) ?_
        refine dstp (fun _ h => sl h) ?_
        refine dstp (fun _ h => s0 h) ?_
        refine dstp (fun _ h => sd h) ?_
        iterate 2 refine dstp (fun _ h => sx h) ?_
        refine dstp (fun _ h => sl h) ?_
        refine dstp (fun _ h => cr (w := good_Sectors (x.gen + 1) x.mark x.s nb b (by omega) hz) (x := h)) ?_
        iterate 5 refine dstp (fun _ h => s0 h) ?_
        refine adraw_nil (by kernel_rfl) ?_
        refine AW.seq ?_
        refine AW.seq ?_
        refine AW.region (cfg := cfg) ?_
        iterate 2 refine stp (fun _ h => s0 h) ?_
        refine aops_nil ?_
        refine cnd (fun hb => ?ht4) (fun hb => ?hf4)
        case ht4 =>
          have hw57 := hb
          try simp only [bo1, bo2, bo3, bo4, bo5, bo6] at hb
          have hbt57 := hb
          refine AW.seq ?_
          refine AW.region (cfg := cfg) ?_
          iterate 2 refine stp (fun _ h => s0 h) ?_
          refine aops_nil ?_
          refine AW.ret ?_
          refine ⟨.inr rfl, ?_⟩
          (rw [tur_4 (by simpa using hbt10) (by omega) hbt30 hbt57, wb_self hB])
          refine leaves_tmp1 4 rfl ?_ (by rfl)
          simp (disch := first | omega | decide) only [go_sem, F, aIndex_map]
          all_goals first | done | rfl | (simp; done) | (rw [List.set_set]; done) | trace_state
        case hf4 =>
          have hw57 := hb
          try simp only [bo1, bo2, bo3, bo4, bo5, bo6] at hb
          have hbt57 := hb
          refine AW.skip ?_
          refine AW.seq ?_
          refine AW.draw (cfg := cfg) (by kernel_rfl) (by kernel_rfl) (by kernel_rfl) ?_
          refine dstp (fun _ h => s0 h) ?_
          refine dstp (fun _ h => sd h) ?_
          refine dstp (fun _ h => sx h) ?_
          refine dstp (fun _ h => sl h) ?_
          refine dstp (fun _ h => s0 h) ?_
          refine dstp (fun _ h => sd h) ?_
          refine dstp (fun _ h => sx h) ?_
          refine dstp (fun _ h => sl h) ?_
          refine dstp (fun _ h => sd h) ?_
          refine dstp (fun _ h => ct (w := slot_x hO (x.gen + 1) (by omega)) (x := h)) ?_
          iterate 5 refine dstp (fun _ h => s0 h) ?_
          refine adraw_nil (by kernel_rfl) ?_
          refine AW.seq ?_
          refine AW.seq ?_
          refine AW.region (cfg := cfg) ?_
          iterate 3 refine stp (fun _ h => s0 h) ?_
          refine stp (fun _ h => cg (w := good_writeW G w d is iw x y hB hF ((x.gen + 1) % 2 * x.s) (by omega) (!secOK (x.gen + 1) x.mark x.s b) (S7.secR (x.gen + 1) x.mark x.s b) (by have := secRL (ge := x.gen + 1) (mark := x.mark) (most := x.s) (b := b); omega) secRO) (x := h)) ?_
          refine stp (fun _ h => s0 h) ?_
          refine aops_nil ?_
          refine AW.seq ?_
          have hb2 := wb_has (x' := { x with broken := decide ((wrF y ((x.gen + 1) % 2 * x.s) (S7.secR (x.gen + 1) x.mark x.s b)).2 ≠ 0) }) (y' := (wrF y ((x.gen + 1) % 2 * x.s) (S7.secR (x.gen + 1) x.mark x.s b)).1) hB
          have gb := hb2.hx
          refine AW.region (cfg := cfg) ?_
          iterate 2 refine stp (fun _ h => s0 h) ?_
          refine aops_nil ?_
          refine cnd (fun hb => ?ht5) (fun hb => ?hf5)
          case ht5 =>
            have hw77 := hb
            try simp only [bo1, bo2, bo3, bo4, bo5, bo6] at hb
            have hbt77 := hb
            refine AW.seq ?_
            refine AW.region (cfg := cfg) ?_
            iterate 2 refine stp (fun _ h => s0 h) ?_
            refine aops_nil ?_
            refine AW.ret ?_
            refine ⟨.inr rfl, ?_⟩
            (rw [tur_5 (by simpa using hbt10) (by omega) hbt30 hbt57 hbt77])
            refine leaves_tmp1 4 rfl ?_ (by rfl)
            simp (disch := first | omega | decide) only [go_sem, F, aIndex_map]
            all_goals first | done | rfl | (simp; done) | (rw [List.set_set]; done) | trace_state
          case hf5 =>
            have hw77 := hb
            try simp only [bo1, bo2, bo3, bo4, bo5, bo6] at hb
            have hbt77 := hb
            refine AW.skip ?_
            refine AW.seq ?_
            have gb2 : ((wrB G w d is iw { x with broken := decide ((wrF y ((x.gen + 1) % 2 * x.s) (S7.secR (x.gen + 1) x.mark x.s b)).2 ≠ 0) } (wrF y ((x.gen + 1) % 2 * x.s) (S7.secR (x.gen + 1) x.mark x.s b)).1).set w [.gp d 0, i64 x.s, i64 x.f, i64 x.l, i64 (x.gen + 1), i64 x.mark, i64 x.next, .b (decide ((wrF y ((x.gen + 1) % 2 * x.s) (S7.secR (x.gen + 1) x.mark x.s b)).2 ≠ 0))])[w]? = some [.gp d 0, i64 x.s, i64 x.f, i64 x.l, i64 (x.gen + 1), i64 x.mark, i64 x.next, .b (decide ((wrF y ((x.gen + 1) % 2 * x.s) (S7.secR (x.gen + 1) x.mark x.s b)).2 ≠ 0))] := List.getElem?_set_self (by rw [wb_len]; exact hB.lt)
            refine AW.region (cfg := cfg) ?_
            iterate 3 refine stp (fun _ h => s0 h) ?_
            refine stp (fun _ h => sd h) ?_
            refine stp (fun _ h => sx h) ?_
            refine stp (fun _ h => sl h) ?_
            iterate 2 refine stp (fun _ h => sd h) ?_
            refine stp (fun _ h => sx h) ?_
            refine stp0 (fun _ h => ss h) ?_
            refine stp (fun _ h => sd h) ?_
            refine stp (fun _ h => sx h) ?_
            refine stp0 (fun _ h => ss h) ?_
            refine aops_nil ?_
            refine AW.seq ?_
            refine AW.region (cfg := cfg) ?_
            refine stp (fun _ h => s0 h) ?_
            refine aops_nil ?_
            refine AW.ret ?_
            refine ⟨.inr rfl, ?_⟩
            (rw [tur_6 (by simpa using hbt10) (by omega) hbt30 hbt57 hbt77]; rw [← wb_set (x' := { x with broken := decide ((wrF y ((x.gen + 1) % 2 * x.s) (S7.secR (x.gen + 1) x.mark x.s b)).2 ≠ 0) }), ← List.set_set [.gp d 0, i64 x.s, i64 x.f, i64 x.l, i64 (x.gen + 1), i64 x.mark, i64 x.next, .b (decide ((wrF y ((x.gen + 1) % 2 * x.s) (S7.secR (x.gen + 1) x.mark x.s b)).2 ≠ 0))]])
            refine leaves_tmp1 4 rfl ?_ (by rfl)
            simp (disch := first | omega | decide) only [go_sem, F, aIndex_map]
            all_goals first | done | rfl | (simp; done) | (rw [List.set_set]; done) | trace_state
end Go.Vai.WK
namespace Go.Vai.WK
open Go.Proofs Go.Vai Go.Vai.DK Go.Vai.G Go.Vai.L Go.Vai.MP Go.Vai.O Go.Vai.RC Go.Vai.S7 Go.Vai.U Go.Vai.V Go.Vai.Z
set_option linter.unusedSimpArgs false
set_option linter.unusedVariables false
set_option maxHeartbeats 4000000
set_option maxRecDepth 100000
open Go.Vai.DK Go.Vai.U Go.Vai.V Go.Vai.S7 Go.Vai.RC Go.Vai.G
def cfgB : Cfg := { cfg with glob := fun d => d == 41 }
theorem glB6 : cfgB.glob 6 = false := rfl
theorem glB10 : cfgB.glob 10 = false := rfl
theorem glB41 : cfgB.glob 41 = true := rfl
attribute [go_sem] glB6 glB10 glB41
theorem off_rd {x : Dk} {k : Nat} (h : offD x = true) : rdE x (k : Int) = 7 ∧ rdB x (k : Int) = [] ∧ (!decide (rdE x (k : Int) = 0)) = true := by
  obtain ⟨e1, e2⟩ := rd_off (i := (k : Int)) h
  exact ⟨e1, e2, by rw [e1]; rfl⟩
theorem good_sectors0 (G : List (List AV)) (d is iw : Nat) (x : Dk) (hD : HasD G d is iw x) (hw512 : Whole x) (ho : offD x = true) (hn : 1 ≤ x.n ∧ x.n ≤ 1024) : Good Tryz.prog 37 [(.gp d 0, false)] G [(.sl 1 true ([] : List AV), false), (i64 7, false)] G := by
  refine good_of_body2 28 Tryz.func37 rfl rfl rfl (by simp) ?_
  intro s m ha hr hv hG
  have f0 : s 0 = .v (.gp d 0) := ha 0 _ rfl
  clear ha
  have hc : True := trivial
  have F := (And.intro f0 hG)
  have hd := hD.hd
  refine AW.seq ?_
  refine AW.region (cfg := cfg) ?_
  iterate 2 refine stp (fun _ h => s0 h) ?_
  refine aops_nil ?_
  refine AW.seq ?_
  refine AW.region (cfg := cfg) ?_
  refine stp (fun _ h => s0 h) ?_
  refine aops_nil ?_
  refine AW.seq ?_
  refine AW.seq ?_
  refine AW.region (cfg := cfg) ?_
  refine stp (fun _ h => s0 h) ?_
  refine stp (fun _ h => cg (w := good_SizeD G d is iw x hD) (x := h)) ?_
  refine stp (fun _ h => s0 h) ?_
  refine aops_nil ?_
  refine AW.block ?_
  refine AW.forN (fun k σ => ∃ s m, σ = ⟨28, s, m⟩ ∧ s 0 = .v (.gp d 0) ∧ s 4 = .own (.var 4) (m.objs (.var 4)).1 0 (0) ∧ (m.objs (.var 4)).2 = .arr true 1 (([] : List AV)) ∧ s 9 = .v (i64 x.n) ∧ s 10 = .v (i64 ((0 : Nat) : Int)) ∧ (∀ i, (m.objs (.res i)).2 = .dead) ∧ m.G = G) (0) ?_ ?_ ?_
  · refine ⟨_, _, rfl, ?_, ?_, ?_, ?_, ?_, (by intro i; simp [Mem.set, hr]), (by rfl)⟩ <;> try simp (disch := first | omega | decide) only [go_sem, F, aIndex_map]
    all_goals rfl
  · clear F f0 hr hG
    rintro k σ hk ⟨s, m, rfl, f0, f4, o4, f9, f10, hr, hG⟩
    obtain ⟨g4, o4⟩ : ∃ g, m.objs (.var 4) = (g, .arr true 1 (([] : List AV))) := ⟨_, Prod.ext rfl o4⟩
    rw [o4] at f4
    have F := (And.intro f0 (And.intro f4 (And.intro f9 (And.intro f10 (And.intro o4 hG)))))
    exact absurd hk (Nat.not_lt_zero _)
  · clear F f0 hr hG
    rintro σ ⟨s, m, rfl, f0, f4, o4, f9, f10, hr, hG⟩
    obtain ⟨g4, o4⟩ : ∃ g, m.objs (.var 4) = (g, .arr true 1 (([] : List AV))) := ⟨_, Prod.ext rfl o4⟩
    rw [o4] at f4
    have F := (And.intro f0 (And.intro f4 (And.intro f9 (And.intro f10 (And.intro o4 hG)))))
    refine AW.seq ?_
    refine AW.region (cfg := cfg) ?_
    refine stp (fun _ h => s0 h) ?_
    refine aops_nil ?_
    refine AW.seq ?_
    refine cnd (fun hb => ?ht1) (fun hb => ?hf1)
    case hf1 => (simp at hb; omega)
    case ht1 =>
    have hbt11 := hb
    refine AW.skip ?_
    refine AW.seq ?_
    refine AW.block ?_
    refine AW.seq ?_
    refine AW.region (cfg := cfg) ?_
    iterate 2 refine stp (fun _ h => s0 h) ?_
    refine aops_nil ?_
    refine AW.seq ?_
    obtain ⟨e1, e2, e3⟩ := off_rd (k := 0) ho
    have F := And.intro e1 F
    have F := And.intro e2 F
    have F := And.intro e3 F
    refine AW.region (cfg := cfg) ?_
    iterate 2 refine stp (fun _ h => s0 h) ?_
    refine stp (fun _ h => cg (w := good_ReadG G d is iw x hD hw512 ((0 : Nat) : Int)) (x := h)) ?_
    iterate 5 refine stp (fun _ h => s0 h) ?_
    refine aops_nil ?_
    refine AW.seq ?_
    refine AW.seq ?_
    refine AW.region (cfg := cfg) ?_
    iterate 2 refine stp (fun _ h => s0 h) ?_
    refine aops_nil ?_
    refine cnd (fun hb => ?ht2) (fun hb => ?hf2)
    case hf2 => (simp at hb; done)
    case ht2 =>
    have hbt20 := hb
    refine AW.seq ?_
    refine AW.region (cfg := cfg) ?_
    iterate 3 refine stp (fun _ h => s0 h) ?_
    refine aops_nil ?_
    refine AW.ret ?_
    refine ⟨.inr rfl, ?_⟩
    refine leaves_mwp2 (rs := [.tmp 2, .tmp 3]) rfl ?_
    simp (config := {failIfUnchanged := false}) [giveL, srcOne, rehome, freezeN, sub, upd, opn, aLoad, loadL, giveOne, reify, reifyL, readL, readOne, Mwp, M.bind, Mem.set, setAt, cellsL, hG, f0, f4, f9, f10, o4, e1, e2, e3]
    all_goals first | done | (simp [List.take_of_length_le]; done) | trace_state
def secD (y : Dk) : PSl := if offD y = true then [] else WK.secR y y.n.toNat
theorem secD_yes {y : Dk} (h : offD y = false) : secD y = WK.secR y y.n.toNat := by rw [secD, if_neg (by rw [h]; decide)]
theorem secD_no {y : Dk} (h : offD y = true) : secD y = [] := if_pos h
theorem secR_mem {y : Dk} : ∀ {k : Nat} {p : Bool × List (BitVec 8)}, p ∈ WK.secR y k → ∃ i, p = (false, readD y i)
  | 0, p, h => by cases h
  | k + 1, p, h => by
    rcases List.mem_append.1 (show p ∈ WK.secR y k ++ [(false, readD y (k : Int))] from h) with h | h
    · exact secR_mem h
    · exact ⟨_, List.mem_singleton.1 h⟩
theorem read_len {y : Dk} (hw : Whole y) (i : Int) : (readD y i).length = 512 := by
  cases e : (y.waits i).isSome with
  | true => obtain ⟨_, h1, h2⟩ := read_yes hw e; rw [h1, h2]
  | false => rw [read_no e, firm_len hw]
theorem secD_ok {y : Dk} (hw : Whole y) : ∀ p ∈ secD y, p.2.length = 512 ∧ (p.1 = true → p.2 = []) := by
  intro p hp
  cases e : offD y with
  | true => rw [secD_no e] at hp; cases hp
  | false =>
    rw [secD_yes e] at hp
    obtain ⟨i, rfl⟩ := secR_mem hp
    exact ⟨read_len hw i, fun h => by cases h⟩
theorem good_sectorsB (G : List (List AV)) (d is iw : Nat) (y : Dk) (hD : HasD G d is iw y) (hF : Fine y) : Good Tryz.prog 37 [(.gp d 0, false)] G [(.sl 1 (secD y).isEmpty ((secD y).map pslice), false), (i64 (if offD y = true then 7 else 0), false)] G := by
  have n1 := hF.n1
  have n2 := hF.n2
  cases e : offD y with
  | true => rw [secD_no e, if_pos rfl]; exact good_sectors0 G d is iw y hD hF.w e (by omega)
  | false => rw [secD_yes e, if_neg (by decide)]; exact good_sectors G d is iw y hD hF.w e (by omega)
theorem mark_nn (l : PSl) : 0 ≤ markOf okS valS l := by
  have : ∀ (l : PSl) (n : Int), 0 ≤ n → 0 ≤ l.foldl (fun n s => if okS s then (if (valS s).mark > n then (valS s).mark else n) else n) n := by
    intro l
    induction l with
    | nil => exact fun n h => h
    | cons a t ih =>
      intro n h
      rw [List.foldl_cons]
      refine ih _ ?_
      split
      · split <;> omega
      · exact h
  exact this l 0 (Int.le_refl _)
theorem mark_bd {x : PS} (h : okS x = true) : (valS x).mark ≤ 2147483648 := (page_bd (good_pg h)).2.2.1.2
theorem mark_up (l : PSl) : markOf okS valS l ≤ 2147483648 := by
  have : ∀ (l : PSl) (n : Int), n ≤ 2147483648 → l.foldl (fun n s => if okS s then (if (valS s).mark > n then (valS s).mark else n) else n) n ≤ 2147483648 := by
    intro l
    induction l with
    | nil => exact fun n h => h
    | cons a t ih =>
      intro n h
      rw [List.foldl_cons]
      refine ih _ ?_
      split
      · split
        · exact mark_bd (by assumption)
        · exact h
      · exact h
  exact this l 0 (by decide)
theorem tailF_mem {gen : Int} : ∀ {q : PSl} {i : Nat} {x : Page}, x ∈ tailF gen i q → ∃ y ∈ q, x = valS y
  | [], _, _, h => by cases h
  | y :: q, i, x, h => by
    rw [tailF] at h
    split at h
    · rcases List.mem_cons.1 h with rfl | h
      · exact ⟨y, by simp, rfl⟩
      · obtain ⟨z, h1, h2⟩ := tailF_mem h
        exact ⟨z, List.mem_cons_of_mem _ h1, h2⟩
    · cases h
theorem tailR_bd {gen : Int} {q : PSl} : ∀ x ∈ tailR gen q, x.b.length ≤ 488 := by
  intro x hx
  obtain ⟨y, _, rfl⟩ := tailF_mem hx
  exact valS_bd y
theorem tailF_len {gen : Int} : ∀ {q : PSl} {i : Nat}, (tailF gen i q).length ≤ q.length
  | [], _ => Nat.le_refl _
  | y :: q, i => by
    rw [tailF]; split
    · have := tailF_len (gen := gen) (q := q) (i := i + 1); simp only [List.length_cons]; omega
    · exact Nat.zero_le _
/-! what opening gives -/
structure Opn where
  made : Bool
  x : Wk
  y : Dk
  b : List (BitVec 8)
  rs : PSl
  e : Int
def opn0 (y : Dk) : Wk := ⟨(ploN y.n).s, (ploN y.n).f, (ploN y.n).l, 0, markOf okS valS (secD y) + 1, 0, false⟩
def pgA (y : Dk) (g : Int) : List Page := pagesOf okS valS (partR y.n (secD y) g)
def opnG (y : Dk) : Int := betG (pgA y 0) (pgA y 1)
def opnR (y : Dk) : PSl × Nat := recF (tailR (opnG y) ((secD y).drop (ploN y.n).f.toNat))
def openX (y : Dk) : Opn :=
  if y.n < 6 ∨ y.n > 1024 then ⟨false, opn0 y, y, [], [], 1⟩ else if offD y = true then ⟨false, opn0 y, y, [], [], 7⟩
  else if markOf okS valS (secD y) + 1 > 2147483648 then ⟨true, opn0 y, y, [], [], 4⟩
  else if betOK (pgA y 0) (pgA y 1) = true then ⟨true, { opn0 y with gen := opnG y, next := ((opnR y).2 : Int) }, y, betB (pgA y 0) (pgA y 1), (opnR y).1, 0⟩
  else if freshR y.n (secD y) = true then ⟨true, (turX (opn0 y) y []).1, (turX (opn0 y) y []).2.1, [], [], (turX (opn0 y) y []).2.2⟩
  else ⟨true, opn0 y, y, [], [], 8⟩
section
variable {y : Dk}
theorem open_1 (h : y.n < 6 ∨ y.n > 1024) : openX y = ⟨false, opn0 y, y, [], [], 1⟩ := if_pos h
theorem open_2 (h : ¬ (y.n < 6 ∨ y.n > 1024)) (h2 : offD y = true) : openX y = ⟨false, opn0 y, y, [], [], 7⟩ := by rw [openX, if_neg h, if_pos h2]
theorem open_3 (h : ¬ (y.n < 6 ∨ y.n > 1024)) (h2 : offD y = false) (h3 : markOf okS valS (secD y) + 1 > 2147483648) : openX y = ⟨true, opn0 y, y, [], [], 4⟩ := by rw [openX, if_neg h, if_neg (by rw [h2]; decide), if_pos h3]
theorem open_4 (h : ¬ (y.n < 6 ∨ y.n > 1024)) (h2 : offD y = false) (h3 : ¬ markOf okS valS (secD y) + 1 > 2147483648) (h4 : betOK (pgA y 0) (pgA y 1) = true) :
    openX y = ⟨true, { opn0 y with gen := opnG y, next := ((opnR y).2 : Int) }, y, betB (pgA y 0) (pgA y 1), (opnR y).1, 0⟩ := by rw [openX, if_neg h, if_neg (by rw [h2]; decide), if_neg h3, if_pos h4]
theorem open_5 (h : ¬ (y.n < 6 ∨ y.n > 1024)) (h2 : offD y = false) (h3 : ¬ markOf okS valS (secD y) + 1 > 2147483648) (h4 : betOK (pgA y 0) (pgA y 1) = false) (h5 : freshR y.n (secD y) = true) :
    openX y = ⟨true, (turX (opn0 y) y []).1, (turX (opn0 y) y []).2.1, [], [], (turX (opn0 y) y []).2.2⟩ := by rw [openX, if_neg h, if_neg (by rw [h2]; decide), if_neg h3, if_neg (by rw [h4]; decide), if_pos h5]
theorem open_6 (h : ¬ (y.n < 6 ∨ y.n > 1024)) (h2 : offD y = false) (h3 : ¬ markOf okS valS (secD y) + 1 > 2147483648) (h4 : betOK (pgA y 0) (pgA y 1) = false) (h5 : freshR y.n (secD y) = false) :
    openX y = ⟨true, opn0 y, y, [], [], 8⟩ := by rw [openX, if_neg h, if_neg (by rw [h2]; decide), if_neg h3, if_neg (by rw [h4]; decide), if_neg (by rw [h5]; decide)]
end
theorem opn0_ok {y : Dk} (h : 6 ≤ y.n ∧ y.n ≤ 1024) (h3 : ¬ markOf okS valS (secD y) + 1 > 2147483648) : WOK (opn0 y) y.n := by
  have pb := pl_bd h
  have := mark_nn (secD y)
  exact ⟨h, rfl, rfl, rfl, by show (0 : Int) ≤ 0 ∧ (0 : Int) ≤ 2147483648; decide, by show 0 ≤ markOf okS valS (secD y) + 1 ∧ markOf okS valS (secD y) + 1 ≤ 2147483648; omega, by show (0 : Int) ≤ 0 ∧ (0 : Int) ≤ (ploN y.n).l; omega⟩
theorem hasD_app {G c : List (List AV)} {d is iw : Nat} {y : Dk} (h : HasD G d is iw y) : HasD (G ++ c) d is iw y := by
  have l1 := (List.getElem?_eq_some_iff.1 h.hd).1
  have l2 := (List.getElem?_eq_some_iff.1 h.hs).1
  have l3 := (List.getElem?_eq_some_iff.1 h.hw).1
  exact ⟨by rw [List.getElem?_append_left l1]; exact h.hd, by rw [List.getElem?_append_left l2]; exact h.hs, by rw [List.getElem?_append_left l3]; exact h.hw, h.ni⟩
theorem opn_has {G : List (List AV)} {d is iw : Nat} {y : Dk} (h : HasD G d is iw y) : HasB (G ++ [[.gp d 0, i64 (ploN y.n).s, i64 (ploN y.n).f, i64 (ploN y.n).l, i64 0, i64 (markOf okS valS (secD y) + 1), i64 0, .b false]]) G.length d is iw (opn0 y) y :=
  ⟨by rw [List.getElem?_append_right (Nat.le_refl _), Nat.sub_self]; rfl, hasD_app h⟩
def outG (G : List (List AV)) (d is iw : Nat) (y : Dk) : List (List AV) := if (openX y).made = true then wrB (G ++ [wkC d (opn0 y)]) G.length d is iw (openX y).x (openX y).y else G
def outP (n : Nat) (e : Int) : AV := if e = 0 then .gp n 0 else .base (.pointer none)
theorem eOf_ne {n : Int} (h : eOf n ≠ 0) : n < 6 ∨ n > 1024 := by
  rw [eOf] at h
  split at h
  · assumption
  · exact absurd rfl h
theorem outP_0 (n : Nat) : outP n 0 = .gp n 0 := if_pos rfl
theorem outP_n {n : Nat} {e : Int} (h : e ≠ 0) : outP n e = .base (.pointer none) := if_neg h
section
variable {G : List (List AV)} {d is iw : Nat} {y : Dk}
theorem out_no (h : (openX y).made = false) : outG G d is iw y = G := by rw [outG, h]; rfl
theorem out_self (hD : HasD G d is iw y) (h : (openX y).made = true) (h1 : (openX y).x = opn0 y) (h2 : (openX y).y = y) : outG G d is iw y = G ++ [wkC d (opn0 y)] := by
  rw [outG, h, if_pos rfl, h1, h2]; exact wb_self (opn_has hD)
theorem out_set (hD : HasD G d is iw y) {z : Wk} (h : (openX y).made = true) (h1 : (openX y).x = z) (h2 : (openX y).y = y) : outG G d is iw y = (G ++ [wkC d (opn0 y)]).set G.length (wkC d z) := by
  rw [outG, h, if_pos rfl, h1, h2, wrB, wr_self (hasD_app hD)]
theorem out_tur {x' : Wk} {y' : Dk} (h : (openX y).made = true) (h1 : (openX y).x = x') (h2 : (openX y).y = y') : outG G d is iw y = wrB (G ++ [wkC d (opn0 y)]) G.length d is iw x' y' := by
  rw [outG, h, if_pos rfl, h1, h2]
end
end Go.Vai.WK
namespace Go.Vai.WK
open Go.Proofs Go.Vai Go.Vai.DK Go.Vai.G Go.Vai.L Go.Vai.MP Go.Vai.O Go.Vai.RC Go.Vai.S7 Go.Vai.U Go.Vai.V Go.Vai.Z
set_option linter.unusedSimpArgs false
set_option linter.unusedVariables false
set_option maxHeartbeats 4000000
set_option maxRecDepth 100000
open Go.Vai.DK Go.Vai.U Go.Vai.V Go.Vai.S7 Go.Vai.RC Go.Vai.G
attribute [simp] noPtr_ps noPtrL_ps
theorem set_app {α : Type} (G : List α) (a b : α) : (G ++ [a]).set G.length b = G ++ [b] := by simp
theorem good_OpenW (G : List (List AV)) (d is iw : Nat) (y : Dk) (hD : HasD G d is iw y) (hF : Fine y) : Good Tryz.prog 9 [(.gp d 0, false)] G [(outP G.length (openX y).e, false), (.sl 1 (openX y).b.isEmpty (bsl (openX y).b), false), (.sl 1 (openX y).rs.isEmpty ((openX y).rs.map pslice), false), (i64 (openX y).e, false)] (outG G d is iw y) := by
  refine good_of_body2 91 Tryz.func9 rfl rfl rfl (by simp) ?_
  intro s m ha hr hv hG
  have f0 : s 0 = .v (.gp d 0) := ha 0 _ rfl
  clear ha
  have hc : True := trivial
  have F := (And.intro f0 hG)
  have hn1 := hF.n1
  have hn2 := hF.n2
  have hok := secD_ok hF.w
  refine AW.seq ?_
  refine AW.region (cfg := cfgB) ?_
  iterate 4 refine stp (fun _ h => s0 h) ?_
  refine aops_nil ?_
  refine AW.seq ?_
  refine AW.region (cfg := cfgB) ?_
  refine stp (fun _ h => s0 h) ?_
  refine stp (fun _ h => cg (w := good_SizeD G d is iw y hD) (x := h)) ?_
  refine stp (fun _ h => cr (w := good_MakeP y.n (by omega)) (x := h)) ?_
  iterate 3 refine stp (fun _ h => s0 h) ?_
  refine stp (fun _ h => sd h) ?_
  refine stp0 (fun _ h => ss h) ?_
  refine stp (fun _ h => s0 h) ?_
  refine aops_nil ?_
  refine AW.seq ?_
  refine AW.seq ?_
  refine AW.region (cfg := cfgB) ?_
  iterate 3 refine stp (fun _ h => s0 h) ?_
  iterate 2 refine mrg wa (fun hc _ h => s0 h) ?_
  refine stp (fun _ h => s0 h) ?_
  refine aops_nil ?_
  refine cnd (fun hb => ?ht1) (fun hb => ?hf1)
  case ht1 =>
    have hw26 := hb
    try simp only [bo1, bo2, bo3, bo4, bo5, bo6] at hb
    have hbt26 := hb
    refine AW.seq ?_
    refine AW.region (cfg := cfgB) ?_
    iterate 4 refine stp (fun _ h => s0 h) ?_
    refine aops_nil ?_
    refine AW.ret ?_
    refine ⟨.inr rfl, ?_⟩
    refine leaves_mwp2 (rs := [.tmp 2, .tmp 3, .tmp 4, .tmp 5]) rfl ?_
    simp (config := {failIfUnchanged := false}) [giveL, srcOne, rehome, freezeN, sub, upd, opn, aLoad, loadL, giveOne, reify, reifyL, readL, readOne, Mwp, M.bind, Mem.set, setAt, cellsL, hG, f0]
    skip
    all_goals (have eo := open_1 (eOf_ne hbt26); have e1 := congrArg Opn.e eo; have e2 := congrArg Opn.b eo; have e3 := congrArg Opn.rs eo; have e4 := congrArg Opn.made eo; have e5 := congrArg Opn.x eo; have e6 := congrArg Opn.y eo; simp only at e1 e2 e3 e4 e5 e6; exact ⟨⟨by rw [e1]; exact (outP_n (by decide)).symm, e2, e3, e1.symm⟩, (out_no e4).symm⟩)
  case hf1 =>
    have hw26 := hb
    try simp only [bo1, bo2, bo3, bo4, bo5, bo6] at hb
    have hbt26 := hb
    refine AW.skip ?_
    refine AW.seq ?_
    have hn : 6 ≤ y.n ∧ y.n ≤ 1024 := by (have h9 : ¬ (y.n < 6 ∨ y.n > 1024) := (fun h => by (rw [eOf, if_pos h] at hbt26; simp at hbt26)); omega)
    have pb := pl_bd hn
    have hn9 : ¬ (y.n < 6 ∨ y.n > 1024) := by omega
    refine AW.region (cfg := cfgB) ?_
    refine stp (fun _ h => s0 h) ?_
    refine stp (fun _ h => cg (w := good_sectorsB G d is iw y hD hF) (x := h)) ?_
    iterate 5 refine stp (fun _ h => s0 h) ?_
    refine aops_nil ?_
    refine AW.seq ?_
    refine AW.seq ?_
    refine AW.region (cfg := cfgB) ?_
    iterate 2 refine stp (fun _ h => s0 h) ?_
    refine aops_nil ?_
    refine cnd (fun hb => ?ht2) (fun hb => ?hf2)
    case ht2 =>
      have hw33 := hb
      try simp only [bo1, bo2, bo3, bo4, bo5, bo6] at hb
      have hbt33 := hb
      refine AW.seq ?_
      refine AW.region (cfg := cfgB) ?_
      iterate 5 refine stp (fun _ h => s0 h) ?_
      refine aops_nil ?_
      refine AW.ret ?_
      refine ⟨.inr rfl, ?_⟩
      refine leaves_mwp2 (rs := [.tmp 2, .tmp 3, .tmp 4, .tmp 5]) rfl ?_
      simp (config := {failIfUnchanged := false}) [giveL, srcOne, rehome, freezeN, sub, upd, opn, aLoad, loadL, giveOne, reify, reifyL, readL, readOne, Mwp, M.bind, Mem.set, setAt, cellsL, hG, f0]
      skip
      all_goals (have hof : offD y = true := (by cases e : offD y with | true => rfl | false => (rw [e] at hbt33; simp at hbt33)); have eo := open_2 hn9 hof; have e1 := congrArg Opn.e eo; have e2 := congrArg Opn.b eo; have e3 := congrArg Opn.rs eo; have e4 := congrArg Opn.made eo; have e5 := congrArg Opn.x eo; have e6 := congrArg Opn.y eo; simp only at e1 e2 e3 e4 e5 e6; exact ⟨⟨by rw [e1]; exact (outP_n (by decide)).symm, e2, e3, by rw [e1, hof]; rfl⟩, (out_no e4).symm⟩)
    case hf2 =>
      have hw33 := hb
      try simp only [bo1, bo2, bo3, bo4, bo5, bo6] at hb
      have hbt33 := hb
      refine AW.skip ?_
      refine AW.seq ?_
      have ho : offD y = false := by (cases e : offD y with | false => rfl | true => (rw [e] at hbt33; simp at hbt33))
      have hlen : ((secD y).length : Int) = y.n := by (rw [secD_yes ho, WK.secR_len]; omega)
      have mn := mark_nn (secD y)
      have mu := mark_up (secD y)
      have hpl : ∀ x ∈ secD y, x.2.length ≤ 140737488355000 ∧ (x.1 = true → x.2 = []) := fun x hx => by (have := hok x hx; exact ⟨by omega, this.2⟩)
      refine AW.draw (cfg := cfgB) (by kernel_rfl) (by kernel_rfl) (by kernel_rfl) ?_
      refine dstp (fun _ h => s0 h) ?_
      refine dstp (fun _ h => sl h) ?_
      refine dstp (fun _ h => s0 h) ?_
      refine dstp (fun _ h => cs (w := good_Mark _ (secD y) (by omega) hpl) (x := h)) ?_
      refine dstp (fun _ h => sd h) ?_
      refine dstp (fun _ h => su h) ?_
      refine dstp (fun _ h => sbg h) ?_
      refine dstp (fun _ h => s0 h) ?_
      refine adraw_nil (by kernel_rfl) ?_
      refine AW.seq ?_
      refine AW.seq ?_
      have hB := opn_has hD
      have gx := hB.hx
      refine AW.region (cfg := cfgB) ?_
      refine stp (fun _ h => s0 h) ?_
      refine stp (fun _ h => sd h) ?_
      refine stp (fun _ h => sx h) ?_
      refine stp (fun _ h => sl h) ?_
      refine stp (fun _ h => s0 h) ?_
      refine aops_nil ?_
      refine cnd (fun hb => ?ht3) (fun hb => ?hf3)
      case ht3 =>
        have hw46 := hb
        try simp only [bo1, bo2, bo3, bo4, bo5, bo6] at hb
        have hbt46 := hb
        refine AW.seq ?_
        refine AW.region (cfg := cfgB) ?_
        iterate 4 refine stp (fun _ h => s0 h) ?_
        refine aops_nil ?_
        refine AW.ret ?_
        refine ⟨.inr rfl, ?_⟩
        refine leaves_mwp2 (rs := [.tmp 2, .tmp 3, .tmp 4, .tmp 5]) rfl ?_
        simp (config := {failIfUnchanged := false}) [giveL, srcOne, rehome, freezeN, sub, upd, opn, aLoad, loadL, giveOne, reify, reifyL, readL, readOne, Mwp, M.bind, Mem.set, setAt, cellsL, hG, f0]
        skip
        all_goals (have eo := open_3 hn9 ho hbt46; have e1 := congrArg Opn.e eo; have e2 := congrArg Opn.b eo; have e3 := congrArg Opn.rs eo; have e4 := congrArg Opn.made eo; have e5 := congrArg Opn.x eo; have e6 := congrArg Opn.y eo; simp only at e1 e2 e3 e4 e5 e6; exact ⟨⟨by rw [e1]; exact (outP_n (by decide)).symm, e2, e3, e1.symm⟩, (out_self hD e4 e5 e6).symm⟩)
      case hf3 =>
        have hw46 := hb
        try simp only [bo1, bo2, bo3, bo4, bo5, bo6] at hb
        have hbt46 := hb
        refine AW.skip ?_
        refine AW.seq ?_
        have hpp : ∀ g, ∀ x ∈ partR y.n (secD y) g, x.2.length ≤ 140737488355000 ∧ (x.1 = true → x.2 = []) := fun g x hx => hpl x (List.mem_of_mem_drop (List.mem_of_mem_take hx))
        have hpn : ∀ g, (partR y.n (secD y) g).length ≤ 1000000 := fun g => by (rw [partR, List.length_take]; omega)
        have hO := opn0_ok hn hbt46
        refine AW.draw (cfg := cfgB) (by kernel_rfl) (by kernel_rfl) (by kernel_rfl) ?_
        refine dstp (fun _ h => sl h) ?_
        refine dstp (fun _ h => s0 h) ?_
        refine dstp (fun _ h => cr (w := good_partW y.n hn _ (secD y) hlen 0 (by decide)) (x := h)) ?_
        refine dstp (fun _ h => sl h) ?_
        refine dstp (fun _ h => s0 h) ?_
        refine dstp (fun _ h => cr (w := good_partW y.n hn _ (secD y) hlen 1 (by decide)) (x := h)) ?_
        refine dstp (fun _ h => cr (w := good_Better _ (partR y.n (secD y) 0) (hpn 0) (hpp 0) _ (partR y.n (secD y) 1) (hpn 1) (hpp 1)) (x := h)) ?_
        iterate 3 refine dstp (fun _ h => s0 h) ?_
        refine dstp (fun _ h => sd h) ?_
        refine dstp0 (fun _ h => ss h) ?_
        refine dstp (fun _ h => s0 h) ?_
        refine adraw_nil (by kernel_rfl) ?_
        refine AW.seq ?_
        refine AW.seq ?_
        refine AW.region (cfg := cfgB) ?_
        iterate 2 refine stp (fun _ h => s0 h) ?_
        refine aops_nil ?_
        refine cnd (fun hb => ?ht4) (fun hb => ?hf4)
        case ht4 =>
          have hw58 := hb
          try simp only [bo1, bo2, bo3, bo4, bo5, bo6] at hb
          have hbt58 := hb
          refine AW.seq ?_
          refine AW.seq ?_
          refine AW.region (cfg := cfgB) ?_
          refine stp (fun _ h => sl h) ?_
          refine stp (fun _ h => s0 h) ?_
          refine stp (fun _ h => cs (w := good_fresh y.n hn _ (secD y) hlen hpl) (x := h)) ?_
          refine stp (fun _ h => s0 h) ?_
          refine aops_nil ?_
          refine cnd (fun hb => ?ht5) (fun hb => ?hf5)
          case ht5 =>
            have hw62 := hb
            try simp only [bo1, bo2, bo3, bo4, bo5, bo6] at hb
            have hbt62 := hb
            refine AW.seq ?_
            refine AW.region (cfg := cfgB) ?_
            iterate 4 refine stp (fun _ h => s0 h) ?_
            refine aops_nil ?_
            refine AW.ret ?_
            refine ⟨.inr rfl, ?_⟩
            refine leaves_mwp2 (rs := [.tmp 2, .tmp 3, .tmp 4, .tmp 5]) rfl ?_
            simp (config := {failIfUnchanged := false}) [giveL, srcOne, rehome, freezeN, sub, upd, opn, aLoad, loadL, giveOne, reify, reifyL, readL, readOne, Mwp, M.bind, Mem.set, setAt, cellsL, hG, f0]
            skip
            all_goals (have eo := open_6 hn9 ho hbt46 (by simpa [pgA] using hbt58) (by simpa using hbt62); have e1 := congrArg Opn.e eo; have e2 := congrArg Opn.b eo; have e3 := congrArg Opn.rs eo; have e4 := congrArg Opn.made eo; have e5 := congrArg Opn.x eo; have e6 := congrArg Opn.y eo; simp only at e1 e2 e3 e4 e5 e6; exact ⟨⟨by rw [e1]; exact (outP_n (by decide)).symm, e2, e3, e1.symm⟩, (out_self hD e4 e5 e6).symm⟩)
          case hf5 =>
            have hw62 := hb
            try simp only [bo1, bo2, bo3, bo4, bo5, bo6] at hb
            have hbt62 := hb
            refine AW.skip ?_
            refine AW.seq ?_
            refine AW.seq ?_
            refine AW.region (cfg := cfgB) ?_
            refine stp (fun _ h => s0 h) ?_
            refine stp (fun _ h => cg (w := (good_TurnW (G ++ [[.gp d 0, i64 (ploN y.n).s, i64 (ploN y.n).f, i64 (ploN y.n).l, i64 0, i64 (markOf okS valS (secD y) + 1), i64 0, .b false]]) G.length d is iw (opn0 y) y hB hF hO true [] (by decide) (fun _ => rfl)).nil1 (s' := 0)) (x := h)) ?_
            refine stp (fun _ h => s0 h) ?_
            refine aops_nil ?_
            refine AW.seq ?_
            have hbT := wb_has (x' := (turX (opn0 y) y []).1) (y' := (turX (opn0 y) y []).2.1) hB
            refine AW.region (cfg := cfgB) ?_
            iterate 2 refine stp (fun _ h => s0 h) ?_
            refine aops_nil ?_
            refine cnd (fun hb => ?ht6) (fun hb => ?hf6)
            case ht6 =>
              have hw66 := hb
              try simp only [bo1, bo2, bo3, bo4, bo5, bo6] at hb
              have hbt66 := hb
              refine AW.seq ?_
              refine AW.region (cfg := cfgB) ?_
              iterate 5 refine stp (fun _ h => s0 h) ?_
              refine aops_nil ?_
              refine AW.ret ?_
              refine ⟨.inr rfl, ?_⟩
              refine leaves_mwp2 (rs := [.tmp 2, .tmp 3, .tmp 4, .tmp 5]) rfl ?_
              simp (config := {failIfUnchanged := false}) [giveL, srcOne, rehome, freezeN, sub, upd, opn, aLoad, loadL, giveOne, reify, reifyL, readL, readOne, Mwp, M.bind, Mem.set, setAt, cellsL, hG, f0]
              skip
              all_goals (have eo := open_5 hn9 ho hbt46 (by simpa [pgA] using hbt58) (by simpa using hbt62); have e1 := congrArg Opn.e eo; have e2 := congrArg Opn.b eo; have e3 := congrArg Opn.rs eo; have e4 := congrArg Opn.made eo; have e5 := congrArg Opn.x eo; have e6 := congrArg Opn.y eo; simp only at e1 e2 e3 e4 e5 e6; exact ⟨⟨by rw [e1]; exact (outP_n hbt66).symm, e2, e3, e1.symm⟩, (out_tur e4 e5 e6).symm⟩)
            case hf6 =>
              have hw66 := hb
              try simp only [bo1, bo2, bo3, bo4, bo5, bo6] at hb
              have hbt66 := hb
              refine AW.skip ?_
              refine AW.seq ?_
              refine AW.region (cfg := cfgB) ?_
              iterate 5 refine stp (fun _ h => s0 h) ?_
              refine aops_nil ?_
              refine AW.ret ?_
              refine ⟨.inr rfl, ?_⟩
              refine leaves_mwp2 (rs := [.tmp 2, .tmp 3, .tmp 4, .tmp 5]) rfl ?_
              simp (config := {failIfUnchanged := false}) [giveL, srcOne, rehome, freezeN, sub, upd, opn, aLoad, loadL, giveOne, reify, reifyL, readL, readOne, Mwp, M.bind, Mem.set, setAt, cellsL, hG, f0]
              skip
              all_goals (have eo := open_5 hn9 ho hbt46 (by simpa [pgA] using hbt58) (by simpa using hbt62); have e1 := congrArg Opn.e eo; have e2 := congrArg Opn.b eo; have e3 := congrArg Opn.rs eo; have e4 := congrArg Opn.made eo; have e5 := congrArg Opn.x eo; have e6 := congrArg Opn.y eo; simp only at e1 e2 e3 e4 e5 e6; have e0 := Decidable.not_not.1 hbt66; exact ⟨⟨by rw [e1, e0, outP_0], e2, e3, by rw [e1, e0]⟩, (out_tur e4 e5 e6).symm⟩)
        case hf4 =>
          have hw58 := hb
          try simp only [bo1, bo2, bo3, bo4, bo5, bo6] at hb
          have hbt58 := hb
          refine AW.skip ?_
          refine AW.seq ?_
          have htl : (tailR (opnG y) ((secD y).drop (ploN y.n).f.toNat)).length ≤ 1000000 := by (have := tailF_len (gen := opnG y) (q := ((secD y).drop (ploN y.n).f.toNat)) (i := 0); rw [List.length_drop] at this; exact Nat.le_trans this (by omega))
          refine AW.region (cfg := cfgB) ?_
          refine stp (fun _ h => sl h) ?_
          refine stp (fun _ h => s0 h) ?_
          refine stp (fun _ h => sx h) ?_
          refine stp (fun _ h => sl h) ?_
          refine stp (fun _ h => cr (w := good_tail y.n hn _ (secD y) hlen hpl (opnG y)) (x := h)) ?_
          refine stp (fun _ h => cr (w := good_records _ (tailR (opnG y) ((secD y).drop (ploN y.n).f.toNat)) htl tailR_bd) (x := h)) ?_
          iterate 5 refine stp (fun _ h => s0 h) ?_
          refine aops_nil ?_
          refine AW.seq ?_
          have gx2 : ((G ++ [[.gp d 0, i64 (ploN y.n).s, i64 (ploN y.n).f, i64 (ploN y.n).l, i64 0, i64 (markOf okS valS (secD y) + 1), i64 0, .b false]]).set G.length [.gp d 0, i64 (ploN y.n).s, i64 (ploN y.n).f, i64 (ploN y.n).l, i64 (opnG y), i64 (markOf okS valS (secD y) + 1), i64 0, .b false])[G.length]? = some [.gp d 0, i64 (ploN y.n).s, i64 (ploN y.n).f, i64 (ploN y.n).l, i64 (opnG y), i64 (markOf okS valS (secD y) + 1), i64 0, .b false] := List.getElem?_set_self hB.lt
          refine AW.region (cfg := cfgB) ?_
          iterate 2 refine stp (fun _ h => s0 h) ?_
          refine stp (fun _ h => sx h) ?_
          refine stp (fun _ h => sl h) ?_
          refine stp (fun _ h => s0 h) ?_
          refine stp (fun _ h => sd h) ?_
          refine stp (fun _ h => sx h) ?_
          refine stp0 (fun _ h => ss h) ?_
          refine stp (fun _ h => sd h) ?_
          refine stp (fun _ h => sx h) ?_
          refine stp0 (fun _ h => ss h) ?_
          refine aops_nil ?_
          refine AW.seq ?_
          refine AW.draw (cfg := cfgB) (by kernel_rfl) (by kernel_rfl) (by kernel_rfl) ?_
          refine dstp (fun _ h => s0 h) ?_
          refine dstp (fun _ h => sx h) ?_
          refine dstp (fun _ h => sl h) ?_
          iterate 5 refine dstp (fun _ h => s0 h) ?_
          refine adraw_nil (by kernel_rfl) ?_
          refine AW.ret ?_
          refine ⟨.inr rfl, ?_⟩
          refine leaves_mwp2 (rs := [.tmp 2, .tmp 3, .tmp 4, .tmp 5]) rfl ?_
          simp (config := {failIfUnchanged := false}) [giveL, srcOne, rehome, freezeN, sub, upd, opn, aLoad, loadL, giveOne, reify, reifyL, readL, readOne, Mwp, M.bind, Mem.set, setAt, cellsL, hG, f0]
          skip
          all_goals (have eo := open_4 hn9 ho hbt46 (by simpa [pgA] using hbt58); have e1 := congrArg Opn.e eo; have e2 := congrArg Opn.b eo; have e3 := congrArg Opn.rs eo; have e4 := congrArg Opn.made eo; have e5 := congrArg Opn.x eo; have e6 := congrArg Opn.y eo; simp only at e1 e2 e3 e4 e5 e6; refine ⟨⟨by rw [e1, outP_0], by rw [e2]; exact ⟨rfl, rfl⟩, by rw [e3]; exact ⟨rfl, rfl⟩, e1.symm⟩, ?_⟩; exact (set_app G (wkC d (opn0 y)) _).symm.trans (out_set hD e4 e5 e6).symm)
end Go.Vai.WK
namespace Go.Vai.G
open Go.Proofs Go.Vai Go.Vai.L Go.Vai.O Go.Vai.U Go.Vai.Z
set_option linter.unusedSimpArgs false
set_option linter.unusedVariables false
open Go.Vai.Z (sealS okO okV body seal_open sealS_len ckB)
theorem drop_num {i : List (BitVec 8)} {k : Nat} {n : Int} {w : Nat} {r : List (BitVec 8)} (h : i.drop k = numR n w ++ r) : i.drop (k + w) = r := by
 rw [← List.drop_drop, h, List.drop_left' (numR_length _ _)]
theorem num_at {i : List (BitVec 8)} {k : Nat} {n : Int} {w : Nat} {r : List (BitVec 8)} (hw : 1 ≤ w ∧ w ≤ 8) (h : i.drop k = numR n w ++ r) (hk : k + w ≤ i.length) (hn : 0 ≤ n ∧ n < 2 ^ (8 * w)) : rV i k false w = n := by
 rw [rV_is (by omega) (by omega), h, Int.toNat_natCast, List.take_left' (numR_length _ _), numV_numR hn.1]
 exact Int.emod_eq_of_lt hn.1 hn.2
theorem page_in {p : Page} (h : pageOK p = true) : pgP (pageB p) = ⟨p.kind, p.gen, p.mark, p.idx, p.part, p.parts, false, p.b⟩ ∧ pgN (pageB p) = (p.b.length : Int) ∧ hasP (pageB p) mag = true ∧ ((pageB p).drop (20 + p.b.length)) = List.replicate (488 - p.b.length) 0#8 := by
 obtain ⟨c1, c2, c3, c4, c5, c6, c7⟩ := page_bd h
 have hl := pageB_len c7
 obtain ⟨z, hz⟩ : ∃ z, z = List.replicate (488 - p.b.length) 0#8 := ⟨_, rfl⟩
 have h3 : (pageB p).drop 3 = numR p.kind 1 ++ (numR p.gen 4 ++ (numR p.mark 4 ++ (numR p.idx 4 ++ (numR p.part 1 ++ (numR p.parts 1 ++ (numR (p.b.length : Int) 2 ++ (p.b ++ z))))))) := by
  rw [pageB, pageH, hz]; simp only [List.append_assoc]; rfl
 have h0 : (pageB p).take 3 = mag := by
  rw [pageB, pageH]; simp only [List.append_assoc]; rfl
 have h4 := drop_num h3
 have h8 := drop_num h4
 have h12 := drop_num h8
 have h16 := drop_num h12
 have h17 := drop_num h16
 have h18 := drop_num h17
 have h20 := drop_num h18
 simp only [Nat.reduceAdd] at h4 h8 h12 h16 h17 h18 h20
 have a3 := num_at (by omega) h3 (by omega) (by simp; omega)
 have a4 := num_at (by omega) h4 (by omega) (by simp; omega)
 have a8 := num_at (by omega) h8 (by omega) (by simp; omega)
 have a12 := num_at (by omega) h12 (by omega) (by simp; omega)
 have a16 := num_at (by omega) h16 (by omega) (by simp; omega)
 have a17 := num_at (by omega) h17 (by omega) (by simp; omega)
 have a18 := num_at (by omega) h18 (by omega) (by simp; omega)
 have hN : pgN (pageB p) = (p.b.length : Int) := a18
 have b3 : at1 (pageB p) 3 = p.kind := by rw [at1, ← rV_one (by omega)]; exact a3
 have b16 : at1 (pageB p) 16 = p.part := by rw [at1, ← rV_one (by omega)]; exact a16
 have b17 : at1 (pageB p) 17 = p.parts := by rw [at1, ← rV_one (by omega)]; exact a17
 refine ⟨?_, hN, (hasP_iff hl).2 h0, ?_⟩
 ·rw [pgP, hN, b3, b16, b17, h20, Int.toNat_natCast, List.take_left' rfl]
  simp only [at4, Page.mk.injEq, and_true, true_and]
  exact ⟨a4, a8, a12⟩
 ·rw [← List.drop_drop, h20, List.drop_left' rfl, hz]
theorem okP_nil {p : Page} (h : pageOK p = true) (n : Bool) : pageOK ⟨p.kind, p.gen, p.mark, p.idx, p.part, p.parts, n, p.b⟩ = true := h
theorem page_back {p : Page} (h : pageOK p = true) : pgGood (pgPut p) = true ∧ pgV (pgPut p) = ⟨p.kind, p.gen, p.mark, p.idx, p.part, p.parts, false, p.b⟩ ∧ pgR (pgPut p) = 0 := by
 obtain ⟨e1, e2, e3, e4⟩ := page_in h
 have c7 := (page_bd h).2.2.2.2.2.2
 have hs := seal_open (pageB p)
 have hp : pgPut p = sealS (pageB p) := (pg_ok h).1
 have hk : okO (pgPut p) = true := by rw [hp]; exact hs.1
 have hv : okV (pgPut p) = pageB p := by rw [hp]; exact hs.2
 have hi : (okV (pgPut p)).length = 508 := by rw [hv]; exact pageB_len c7
 have hg : pgGood (pgPut p) = true := by
  rw [good_in hk hi, hv]
  refine in_yes e3 (by rw [e2]; omega) (by rw [e1]; exact okP_nil h false) ?_
  rw [e2, Int.toNat_natCast, e4, any_nz]; simp
 have hP : pgP (pgPut p) = pgP (pageB p) := by rw [← pgP_ok hk hi (by rw [hv, e2]; omega), hv]
 exact ⟨hg, by rw [pgV_is hg, hP, e1], by simp [pgR, hg]⟩
def pa0 : Page := ⟨1, 0, 0, 0, 0, 1, false, [7#8]⟩
theorem zeros_any (n : Nat) : (List.replicate n 0#8).any nz = false := by rw [any_nz]; simp
def blk (l : List (BitVec 8)) (k : Nat) : Bool := decide ((l.length : Int) = 512) && !((l.take k).any nz)
end Go.Vai.G
namespace Go.Vai.WK
open Go.Proofs Go.Vai Go.Vai.DK Go.Vai.G Go.Vai.L Go.Vai.MP Go.Vai.O Go.Vai.RC Go.Vai.S7 Go.Vai.U Go.Vai.V Go.Vai.Z
set_option linter.unusedSimpArgs false
set_option linter.unusedVariables false
open Go.Vai.DK Go.Vai.U Go.Vai.V Go.Vai.S7 Go.Vai.RC Go.Vai.G
theorem take_of {α : Type} {l m : List α} {k : Nat} (h : ∀ i, i < k → l[i]? = m[i]?) : l.take k = m.take k := by
 refine List.ext_getElem? fun i => ?_
 rw [List.getElem?_take, List.getElem?_take]
 split
 ·exact h i (by assumption)
 ·rfl
theorem getD_of {l m : List Page} {i : Nat} (h : l[i]? = m[i]?) : l.getD i page0 = m.getD i page0 := by
 rw [List.getD_eq_getElem?_getD, List.getD_eq_getElem?_getD, h]
theorem len_of {α : Type} {l m : List α} {k : Nat} (h : ∀ i, i < k → l[i]? = m[i]?) (hk : k ≤ l.length) : k ≤ m.length := by
 rcases Nat.eq_zero_or_pos k with h0 | h0
 ·omega
 ·have h1 := h (k - 1) (by omega)
  rw [List.getElem?_eq_getElem (by omega)] at h1
  have := (List.getElem?_eq_some_iff.1 h1.symm).1
  omega
theorem join_loc {l m : List Page} (h : joinOK l = true) (hlm : ∀ i, i < jN l → l[i]? = m[i]?) : joinOK m = true ∧ joinB m = joinB l ∧ joinN m = joinN l ∧ jN m = jN l := by
 have h' := h
 simp only [joinOK, Bool.and_eq_true, decide_eq_true_eq] at h'
 obtain ⟨h1, h2, h3⟩ := h'
 obtain ⟨h4, h5, h6, h7, h8, h9⟩ := head_is h1
 have hm := len_of hlm h7
 have g0 := getD_of (hlm 0 (by omega))
 have hj : jN m = jN l := by rw [jN, jN, ← g0]
 have hB : jB m = jB l := by rw [jB, jB, hj, take_of hlm]
 have hh : headOK m = true := by
  have e1 : m.isEmpty = false := by cases m with | nil => simp at hm; omega | cons _ _ => rfl
  rw [headOK, e1, ← g0, h5]
  have : (l.getD 0 page0).parts ≤ (m.length : Int) := by rw [← h6]; omega
  rw [decide_eq_true this]; rfl
 have hf : allF m (jN m) = true := by
  rw [hj]
  simp only [allF, List.all_eq_true, List.mem_range] at h2 ⊢
  intro i hi
  rw [← g0, ← getD_of (hlm i hi)]
  exact h2 i hi
 have hok : joinOK m = true := by rw [joinOK, hh, hf, hB, hj, h3]; simp
 exact ⟨hok, by rw [joinB, joinB, h, hok, if_pos rfl, if_pos rfl, hB], by rw [joinN, joinN, h, hok, if_pos rfl, if_pos rfl, hj], hj⟩
theorem join_facts {l : List Page} (h : joinOK l = true) : 1 ≤ jN l ∧ jN l ≤ l.length ∧ (jN l : Int) = (l.getD 0 page0).parts ∧ ∀ i, i < jN l → (l.getD i page0).kind = (l.getD 0 page0).kind ∧ (l.getD i page0).gen = (l.getD 0 page0).gen ∧ (l.getD i page0).mark = (l.getD 0 page0).mark ∧ (l.getD i page0).idx - i = (l.getD 0 page0).idx ∧ (l.getD i page0).part = i ∧ (l.getD i page0).parts = (l.getD 0 page0).parts := by
 have h' := h
 simp only [joinOK, Bool.and_eq_true, decide_eq_true_eq] at h'
 obtain ⟨h1, h2, h3⟩ := h'
 obtain ⟨h4, h5, h6, h7, h8, h9⟩ := head_is h1
 refine ⟨h8, h7, h6, fun i hi => ?_⟩
 simp only [allF, List.all_eq_true, List.mem_range] at h2
 obtain ⟨f1, f2, f3, f4, f5, f6, f7, _⟩ := follows_iff.1 (h2 i hi)
 exact ⟨f2, f3, f4, f5, f6, f7⟩
theorem tailF_ge {gen : Int} : ∀ (q : PSl) (s k : Nat), k ≤ (tailF gen s q).length ↔ ∀ i, i < k → ∃ x, q[i]? = some x ∧ tgood gen x (s + i) = true
 | [], s, k => by
  rw [tailF]
  constructor
  ·intro h i hi; simp at h; omega
  ·intro h
   rcases Nat.eq_zero_or_pos k with h0 | h0
   ·omega
   ·obtain ⟨x, hx, _⟩ := h 0 h0; simp at hx
 | x :: q, s, k => by
  rw [tailF]
  constructor
  ·intro h i hi
   split at h
   ·rename_i hx
    cases i with
    | zero => exact ⟨x, by simp, hx⟩
    | succ i =>
     obtain ⟨z, h1, h2⟩ := (tailF_ge (gen := gen) q (s + 1) (k - 1)).1 (by simp only [List.length_cons] at h; omega) i (by omega)
     exact ⟨z, by simpa using h1, by rw [show s + (i + 1) = s + 1 + i by omega]; exact h2⟩
   ·simp at h; omega
  ·intro h
   rcases Nat.eq_zero_or_pos k with h0 | h0
   ·omega
   ·obtain ⟨z, h1, h2⟩ := h 0 h0
    have h1 : x = z := by simpa using h1
    subst h1
    rw [if_pos (show tgood gen x s = true from h2)]
    have := (tailF_ge (gen := gen) q (s + 1) (k - 1)).2 fun i hi => by
     obtain ⟨z, h3, h4⟩ := h (i + 1) (by omega)
     exact ⟨z, by simpa using h3, by rw [show s + 1 + i = s + (i + 1) by omega]; exact h4⟩
    simp only [List.length_cons]; omega
theorem tailF_at {gen : Int} : ∀ (q : PSl) (s i : Nat), i < (tailF gen s q).length → (tailF gen s q)[i]? = (q[i]?).map valS
 | [], s, i, h => by simp [tailF] at h
 | x :: q, s, i, h => by
  rw [tailF] at h ⊢
  split
  ·rename_i hx
   rw [if_pos hx] at h
   cases i with
   | zero => rfl
   | succ i => simpa using tailF_at q (s + 1) i (by simpa using h)
  ·rename_i hx
   rw [if_neg hx] at h
   simp at h
theorem tail_ge {gen : Int} {q : PSl} {k : Nat} : k ≤ (tailR gen q).length ↔ ∀ i, i < k → ∃ x, q[i]? = some x ∧ tgood gen x i = true := by
 rw [tailR, tailF_ge]; simp only [Nat.zero_add]
theorem tail_at {gen : Int} {q : PSl} {i : Nat} (h : i < (tailR gen q).length) : (tailR gen q)[i]? = (q[i]?).map valS := tailF_at q 0 i h
theorem tail_get {gen : Int} {q : PSl} {i : Nat} {p : Page} (h : (tailR gen q)[i]? = some p) : ∃ x, q[i]? = some x ∧ tgood gen x i = true ∧ p = valS x := by
 have hl := (List.getElem?_eq_some_iff.1 h).1
 obtain ⟨x, h1, h2⟩ := tail_ge.1 (show i + 1 ≤ (tailR gen q).length by omega) i (by omega)
 rw [tail_at hl, h1] at h
 exact ⟨x, h1, h2, (Option.some.inj h).symm⟩
theorem tg_is {gen : Int} {x : PS} {i : Nat} (h : tgood gen x i = true) : okS x = true ∧ (valS x).kind = 2 ∧ (valS x).gen = gen ∧ (valS x).idx = (i : Int) := by
 simp only [tgood, Bool.and_eq_true, decide_eq_true_eq] at h
 exact ⟨good_of_R0 h.1, h.2.1, h.2.2.1, h.2.2.2⟩
theorem tail_ext {gen : Int} {q q' : PSl} {k : Nat} (h : ∀ i, i < k → q[i]? = q'[i]?) (hk : k ≤ (tailR gen q).length) : k ≤ (tailR gen q').length ∧ ∀ i, i < k → (tailR gen q)[i]? = (tailR gen q')[i]? := by
 have h1 : k ≤ (tailR gen q').length := tail_ge.2 fun i hi => by rw [← h i hi]; exact tail_ge.1 hk i hi
 exact ⟨h1, fun i hi => by rw [tail_at (by omega), tail_at (by omega), h i hi]⟩
theorem rec_mono {l : List Page} {k : Nat} : ∀ j, (recS l k).2 ≤ (recS l (k + j)).2
 | 0 => Nat.le_refl _
 | j + 1 => by
  have h := rec_mono (l := l) (k := k) j
  refine Nat.le_trans h ?_
  show (recS l (k + j)).2 ≤ (recS l (k + j + 1)).2
  cases e : joinOK (l.drop (recS l (k + j)).2) with
  | true => rw [rec_yes e]; simp only; omega
  | false => rw [rec_no e]; omega
theorem rec_loc {l m : List Page} {N : Nat} (hN : ∀ j, j < N → joinOK (l.drop (recS l j).2) = true) (h : ∀ i, i < (recS l N).2 → l[i]? = m[i]?) : ∀ j, j ≤ N → recS m j = recS l j
 | 0, _ => rfl
 | j + 1, hj => by
  have ih := rec_loc hN h j (by omega)
  have hok := hN j (by omega)
  have h1 := rec_yes hok
  obtain ⟨j1, j2, j3⟩ := join_n hok
  have hm := rec_mono (l := l) (k := j + 1) (N - (j + 1))
  rw [Nat.add_sub_cancel' hj, h1] at hm
  simp only [j1, Int.toNat_natCast] at hm
  obtain ⟨k1, k2, k3, _⟩ := join_loc (m := m.drop (recS l j).2) hok fun i hi => by
   rw [List.getElem?_drop, List.getElem?_drop]; exact h _ (by omega)
  rw [h1, rec_yes (by rw [ih]; exact k1), ih, k2, k3]
theorem rec_same {l m : List Page} {R : PSl} {nx : Nat} (hr : recF l = (R, nx)) (h : ∀ i, i < nx → l[i]? = m[i]?) (hm : nx ≤ m.length) (hj : joinOK (m.drop nx) = false) : recF m = (R, nx) := by
 obtain ⟨N, n1, n2, n3, n4⟩ := rec_end l
 rw [n3] at hr
 have h0 := rec_loc n1 (m := m) (by rw [hr]; exact h) N (Nat.le_refl _)
 have hN := rec_far l N n1
 rw [hr] at hN h0
 obtain ⟨j, e⟩ : ∃ j, m.length + 1 = N + j := ⟨_, (Nat.add_sub_cancel' (by simp only at hN; omega)).symm⟩
 rw [recF, e, rec_stay (by rw [h0]; exact hj), h0]
theorem rec_one {l m : List Page} {R : PSl} {nx : Nat} (hr : recF l = (R, nx)) (h : ∀ i, i < nx → l[i]? = m[i]?) (hm : nx ≤ m.length) (hj : joinOK (m.drop nx) = true) (hj2 : joinOK (m.drop (nx + jN (m.drop nx))) = false) :
  recF m = (R ++ [((joinB (m.drop nx)).isEmpty, joinB (m.drop nx))], nx + jN (m.drop nx)) := by
 obtain ⟨N, n1, n2, n3, n4⟩ := rec_end l
 rw [n3] at hr
 have h0 := rec_loc n1 (m := m) (by rw [hr]; exact h) N (Nat.le_refl _)
 have hN := rec_far l N n1
 rw [hr] at hN h0
 obtain ⟨j1, j2, j3⟩ := join_n hj
 rw [List.length_drop] at j3
 have h1 : recS m (N + 1) = (R ++ [((joinB (m.drop nx)).isEmpty, joinB (m.drop nx))], nx + jN (m.drop nx)) := by
  rw [rec_yes (by rw [h0]; exact hj), h0, j1, Int.toNat_natCast]
 obtain ⟨j, e⟩ : ∃ j, m.length + 1 = N + 1 + j := ⟨_, (Nat.add_sub_cancel' (by simp only at hN; omega)).symm⟩
 rw [recF, e, rec_stay (by rw [h1]; exact hj2), h1]
theorem rec_stop {l : List Page} {R : PSl} {nx : Nat} (hr : recF l = (R, nx)) : joinOK (l.drop nx) = false ∧ nx ≤ l.length := by
 obtain ⟨N, n1, n2, n3, n4⟩ := rec_end l
 rw [n3] at hr
 have := rec_le l N
 rw [hr] at n2 this
 exact ⟨n2, this⟩
end Go.Vai.WK
