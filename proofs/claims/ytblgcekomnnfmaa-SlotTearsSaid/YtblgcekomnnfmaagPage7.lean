import Derived.Test.YtblgcekomnnfmaagPage6
namespace Go.Vai.G
open Go.Proofs Go.Vai Go.Vai.L Go.Vai.O Go.Vai.U Go.Vai.Z
set_option linter.unusedSimpArgs false
set_option linter.unusedVariables false

open Go.Vai.Z (sealS okO okV body seal_open sealS_len ckB)
theorem drop_num {i : List (BitVec 8)} {k : Nat} {n : Int} {w : Nat} {r : List (BitVec 8)} (h : i.drop k = numR n w ++ r) : i.drop (k + w) = r := by
  rw [← List.drop_drop, h, List.drop_left' (numR_length _ _)]
theorem num_at {i : List (BitVec 8)} {k : Nat} {n : Int} {w : Nat} {r : List (BitVec 8)} (hw : 1 ≤ w ∧ w ≤ 8) (h : i.drop k = numR n w ++ r) (hk : k + w ≤ i.length) (hn : 0 ≤ n ∧ n < 2 ^ (8 * w)) : rV i k false w = n := by
  rw [rV_is (by omega) (by omega), h, Int.toNat_natCast, List.take_left' (numR_length _ _), numV_numR hn.1]
  exact Int.emod_eq_of_lt hn.1 hn.2
theorem page_in {p : Page} (h : pageOK p = true) : pgP (pageB p) = ⟨p.kind, p.gen, p.mark, p.idx, p.part, p.parts, false, p.b⟩ ∧ pgN (pageB p) = (p.b.length : Int) ∧ hasP (pageB p) mag = true ∧ ((pageB p).drop (20 + p.b.length)) = List.replicate (488 - p.b.length) 0#8 := by
  obtain ⟨c1, c2, c3, c4, c5, c6, c7⟩ := page_bd h
  have hl := pageB_len c7
  obtain ⟨z, hz⟩ : ∃ z, z = List.replicate (488 - p.b.length) 0#8 := ⟨_, rfl⟩
  have h3 : (pageB p).drop 3 = numR p.kind 1 ++ (numR p.gen 4 ++ (numR p.mark 4 ++ (numR p.idx 4 ++ (numR p.part 1 ++ (numR p.parts 1 ++ (numR (p.b.length : Int) 2 ++ (p.b ++ z))))))) := by
    rw [pageB, pageH, hz]; simp only [List.append_assoc]; rfl
  have h0 : (pageB p).take 3 = mag := by
    rw [pageB, pageH]; simp only [List.append_assoc]; rfl
  have h4 := drop_num h3
  have h8 := drop_num h4
  have h12 := drop_num h8
  have h16 := drop_num h12
  have h17 := drop_num h16
  have h18 := drop_num h17
  have h20 := drop_num h18
  simp only [Nat.reduceAdd] at h4 h8 h12 h16 h17 h18 h20
  have a3 := num_at (by omega) h3 (by omega) (by simp; omega)
  have a4 := num_at (by omega) h4 (by omega) (by simp; omega)
  have a8 := num_at (by omega) h8 (by omega) (by simp; omega)
  have a12 := num_at (by omega) h12 (by omega) (by simp; omega)
  have a16 := num_at (by omega) h16 (by omega) (by simp; omega)
  have a17 := num_at (by omega) h17 (by omega) (by simp; omega)
  have a18 := num_at (by omega) h18 (by omega) (by simp; omega)
  have hN : pgN (pageB p) = (p.b.length : Int) := a18
  have b3 : at1 (pageB p) 3 = p.kind := by rw [at1, ← rV_one (by omega)]; exact a3
  have b16 : at1 (pageB p) 16 = p.part := by rw [at1, ← rV_one (by omega)]; exact a16
  have b17 : at1 (pageB p) 17 = p.parts := by rw [at1, ← rV_one (by omega)]; exact a17
  refine ⟨?_, hN, (hasP_iff hl).2 h0, ?_⟩
  · rw [pgP, hN, b3, b16, b17, h20, Int.toNat_natCast, List.take_left' rfl]
    simp only [at4, Page.mk.injEq, and_true, true_and]
    exact ⟨a4, a8, a12⟩
  · rw [← List.drop_drop, h20, List.drop_left' rfl, hz]
theorem okP_nil {p : Page} (h : pageOK p = true) (n : Bool) : pageOK ⟨p.kind, p.gen, p.mark, p.idx, p.part, p.parts, n, p.b⟩ = true := h
theorem pgPut_len {p : Page} (h : pageOK p = true) : (pgPut p).length = 512 := by
  rw [pgPut, h, if_pos rfl, sealS_len, pageB_len (page_bd h).2.2.2.2.2.2]
theorem page_back {p : Page} (h : pageOK p = true) : pgGood (pgPut p) = true ∧ pgV (pgPut p) = ⟨p.kind, p.gen, p.mark, p.idx, p.part, p.parts, false, p.b⟩ ∧ pgR (pgPut p) = 0 := by
  obtain ⟨e1, e2, e3, e4⟩ := page_in h
  have c7 := (page_bd h).2.2.2.2.2.2
  have hs := seal_open (pageB p)
  have hp : pgPut p = sealS (pageB p) := (pg_ok h).1
  have hk : okO (pgPut p) = true := by rw [hp]; exact hs.1
  have hv : okV (pgPut p) = pageB p := by rw [hp]; exact hs.2
  have hi : (okV (pgPut p)).length = 508 := by rw [hv]; exact pageB_len c7
  have hg : pgGood (pgPut p) = true := by
    rw [good_in hk hi, hv]
    refine in_yes e3 (by rw [e2]; omega) (by rw [e1]; exact okP_nil h false) ?_
    rw [e2, Int.toNat_natCast, e4, any_nz]; simp
  have hP : pgP (pgPut p) = pgP (pageB p) := by rw [← pgP_ok hk hi (by rw [hv, e2]; omega), hv]
  exact ⟨hg, by rw [pgV_is hg, hP, e1], by simp [pgR, hg]⟩
def pa0 : Page := ⟨1, 0, 0, 0, 0, 1, false, [7#8]⟩
def blk (l : List (BitVec 8)) (k : Nat) : Bool := decide ((l.length : Int) = 512) && !((l.take k).any nz)
end Go.Vai.G
