import Derived.Test.YtheihmlgnldijaatOwn2
import Derived.Test.YtheihmlgnldijaaDfPl2
namespace Go.Vai.OW
open Go.Proofs Go.Vai Go.Vai.D Go.Vai.DB Go.Vai.I Go.Vai.L Go.Vai.N Go.Vai.O Go.Vai.S Go.Vai.T
set_option linter.unusedSimpArgs false
set_option linter.unusedVariables false
set_option maxHeartbeats 4000000
set_option maxRecDepth 100000
def cgEq (a b : Cg) : Bool := ((decide (a.kd = b.kd) && lsaEq a.l b.l) && decide (a.n = b.n)) && decide (a.of = b.of)
def rpre (x u : Int) : List Cg := if x > u then [cgU (rW x)] else []
def rS (x u : Int) : Int := if x > u then rW x else u
def rplan (me : Int) (t : List Nr) (x u : Int) : Pl := if x > u ∧ rW x = 0 then ⟨true, [], 0, 0, 0⟩ else ⟨false, rpre x u ++ [cgL (mkF me x t)], x + 1, rS x u, 1⟩
theorem gnil2 {P : Program} {f : FuncId} {a b : AV × Bool} {rest : List (AV × Bool)} {G G' : List (List AV)} {r : List (AV × Bool)} {s s' : Nat} {o : Bool} (h : Good P f (a :: b :: (.sl s true [], o) :: rest) G r G') : Good P f (a :: b :: (.sl s' true [], o) :: rest) G r G' :=
  h.arg_nil rfl fun j x y hx hy => by
    match j with
    | 0 => simp at hx hy; rw [hx] at hy; exact .inl hy
    | 1 => simp at hx hy; rw [hx] at hy; exact .inl hy
    | 2 => simp at hx hy; subst hx hy; exact .inr ⟨s, s', o, rfl, rfl⟩
    | j + 3 => simp at hx hy; rw [hx] at hy; exact .inl (by simpa using hy)
theorem lsaOK_same {me sq : Int} {t : List Nr} (h : tabOK t = true) : lsaOK (mkL me sq t) = lsaOK (mkF me sq t) := by
  show (node me && (decide (1 ≤ sq) && (decide (sq ≤ 4611686018427387904) && (decide ((lkL t).length ≤ 16) && linksOK me 0 (lkL t))))) = _
  rw [lk_same h]; rfl
theorem mk_same {me sq : Int} {t : List Nr} (h : tabOK t = true) : lsaEq (mkL me sq t) (mkF me sq t) = true := by
  rw [lsaEq_nz]
  show (⟨me, sq, true, lkL t⟩ : Lsa) = ⟨me, sq, true, lkF t⟩
  rw [lk_same h]
theorem right_is {me : Int} {t : List Nr} (h : tabOK t = true) : isK Nr.of t me = decide (((gK Nr.of t me).getD default).of > 0) := find_pos h
theorem of_nn {me : Int} {t : List Nr} (h : tabOK t = true) : 0 ≤ ((gK Nr.of t me).getD default).of := by
  cases e : gK Nr.of t me with
  | none => exact Int.le_refl _
  | some x => have := (tab_mem h x (gK_mem e).1).2; simp only [Option.getD_some]; omega
theorem mk_no {me sq : Int} {t : List Nr} (h : (!rightR me t) = true ∨ (!lsaOK (mkF me sq t)) = true) : mkR me sq t = (default, 1) := by
  rw [mkR]
  cases ht : tabOK t with
  | false => rfl
  | true =>
    rw [lsaOK_same ht]
    rcases h with h | h
    · cases hl : lsaOK (mkF me sq t) with
      | false => rw [Bool.and_false]; rfl
      | true =>
        have hb : 1 ≤ me ∧ me ≤ 64 := (lsa_bd hl).1
        have hr : rightR me t = decide (((gK Nr.of t me).getD default).of = 0) := by
          rw [rightR, ht, decide_eq_true (by omega), decide_eq_true hb.2]; rfl
        rw [hr] at h
        have hn := of_nn (me := me) ht
        have : isK Nr.of t me = true := by
          rw [right_is ht]
          simp at h ⊢; omega
        rw [this]; rfl
    · rw [show lsaOK (mkF me sq t) = false by simpa using h, Bool.and_false]; rfl
theorem mk_yes {me sq : Int} {t : List Nr} (h : (!rightR me t) = false ∧ (!lsaOK (mkF me sq t)) = false) : mkR me sq t = (mkL me sq t, 0) ∧ tabOK t = true := by
  have h1 : rightR me t = true := by simpa using h.1
  have h2 : lsaOK (mkF me sq t) = true := by simpa using h.2
  simp only [rightR, Bool.and_eq_true, decide_eq_true_eq] at h1
  have ht := h1.1.2
  have : isK Nr.of t me = false := by rw [right_is ht]; simp; omega
  refine ⟨?_, ht⟩
  rw [mkR, ht, this, lsaOK_same ht, h2]; rfl
theorem must_eq {db : List Lsa} {me : Int} {t : List Nr} {first : Int} (h : dbOK db = true) (h2 : tabOK t = true) (h3 : node me = true) : mustR db me t first = rmustR db me t first := by
  rw [must_yes h h2 h3, rmustR]
  rcases gd_way h me with ⟨g1, i1, _⟩ | ⟨y, g1, i1, s1, o1, b1, _, _⟩
  · rw [i1, gd_def g1]; rfl
  · rw [i1, gd_some g1]
    have e : lsaEq y (mkF me y.s t) = decide (y.ls = lkL t) := by
      rw [lk_same h2, Bool.eq_iff_iff, lsaEq_nz, decide_eq_true_eq]
      refine ⟨fun e => congrArg Lsa.ls e, fun e => ?_⟩
      show (⟨y.o, y.s, true, y.ls⟩ : Lsa) = ⟨me, y.s, true, lkF t⟩
      rw [e, o1]
    rw [e, decide_eq_false (show ¬ y.o = 0 by omega)]; rfl
theorem must_bad {db : List Lsa} {me : Int} {t : List Nr} {first : Int} (h : (((!dbOK db) = true ∨ (!tabOK t) = true) ∨ me < 1) ∨ me > 64) : mustR db me t first = false := by
  rw [mustR]
  rcases h with ((h | h) | h) | h
  · rw [show dbOK db = false by simpa using h]; rfl
  · rw [show tabOK t = false by simpa using h, Bool.and_false]; rfl
  · rw [show node me = false by simp [node]; omega, Bool.and_false]; rfl
  · rw [show node me = false by simp [node]; omega, Bool.and_false]; rfl
def a0 : Lsa := ⟨2, 1, true, []⟩
theorem plan0 : planR [] 2 [] 1 0 = ⟨false, [cgU 8, cgL a0], 2, 8, 0⟩ := by rfl
theorem must0 : mustR [] 2 [] 1 = true := by rfl
end Go.Vai.OW
