/- ChangePuts: the law returns true for every input, and each argument reads behind the call as it read before. No further condition. -/
import Derived.Test.YtompjoadhhjddaaRows
import Derived.Test.YtompjoadhhjddaabLChangePuts
import Derived.WalkKit
import Derived.ProofKit
import Derived.OpenShut
import Derived.ShutString
import Derived.ChangeOld
import Derived.Below
import Derived.SizedLaws
set_option linter.unusedSimpArgs false
set_option linter.unusedVariables false
set_option linter.constructorNameAsVariable false
namespace Go.Proofs.Ytompjoadhhjddaa.changePuts
open Go.ChangeShapes Go.WideShapes Go.ChangeAt Go.RowKit Go.Vai
open Go.ChangeMaps (open_string shut_string)
set_option linter.unusedVariables false
theorem own : ownKnob Try.prog.godebug = none := by kernel_rfl
theorem laidOut : laidOutB Try.prog = true := by kernel_rfl
set_option maxRecDepth 100000 in
theorem lifted (os : Os) (started : os.Started) (H : Type) (enc : TypeId × Value → H) :
    ReturnsInHanded {} Try.checked os 11 .any (Rows.changePutsSpec.pre6 enc Try.prog Try.f11 Rows.changePutsRow.domain false) (Rows.changePutsSpec.post enc Try.prog Try.f11 false true false false) := by
  refine returnsInHanded_of_change_sized (C := Try.checked) own started (by kernel_rfl) Try.func11
    (ChangeSpec.witness6 (enc := enc) (C := Try.checked) false ⟨#[], #[.slice none 0 0, .agg #[.int .i64 0, .int .i64 0, .int .i64 0, .slice none 0 0, .int .i64 0, .int .i64 0], .agg #[.int .i64 0, .int .i64 0, .int .i64 0, .slice none 0 0, .int .i64 0, .int .i64 0]], []⟩ 8 (by kernel_rfl) (by kernel_rfl) (by kernel_rfl) (by kernel_rfl)) ?_
  intro W base args ds gs before hval0 hW hcnd hsz0 _
  have hval : ∀ (j : Nat) t v, Try.f11.params[j]? = some t → args[j]? = some v → Value.okWide Try.prog W .any base t v := hval0
  have hW2 := hW
  obtain ⟨p, q, hA0, hV, rfl, hfz, hnd⟩ := hW
  have hA : DataW.TrodAll enc Try.prog W 0 (fun _ => true) true Try.f11.params.toList args.toList ds p := hA0
  rw [Try.params11] at hA hval
  obtain ⟨v0, vs0, d0, ds0, p0, q0, hargs, rfl, rfl, h0, r0⟩ := trodAll_cons hA
  obtain ⟨v1, vs1, d1, ds1, p1, q1, rfl, rfl, rfl, h1, r1⟩ := trodAll_cons r0
  obtain ⟨v2, vs2, d2, ds2, p2, q2, rfl, rfl, rfl, h2, r2⟩ := trodAll_cons r1
  obtain ⟨rfl, rfl, rfl⟩ := trodAll_nil r2
  obtain rfl : args = #[v0, v1, v2] := by cases args; simp_all
  obtain ⟨rfl, rfl⟩ := trodVars_none hV
  obtain ⟨a0, ⟨nil0, xs0, e0, hn0, hl0, hx0⟩, R0⟩ := open_one (opens_slice (ag := true) Try.underlying65 (opens_struct Try.underlying74 (n := 6) (by kernel_rfl) (opensFs_cons (k := 0) (s := 1) rfl (by kernel_rfl) (opens_int Try.underlying3) (opensFs_cons (k := 1) (s := 3) rfl (by kernel_rfl) (opens_struct Try.underlying24 (n := 3) (by kernel_rfl) (opensFs_cons (k := 0) (s := 1) rfl (by kernel_rfl) (opens_int Try.underlying3) (opensFs_cons (k := 1) (s := 1) rfl (by kernel_rfl) (opens_int Try.underlying3) (opensFs_cons (k := 2) (s := 1) rfl (by kernel_rfl) (opens_slice (ag := true) Try.underlying22 (opens_struct Try.underlying94 (n := 2) (by kernel_rfl) (opensFs_cons (k := 0) (s := 1) rfl (by kernel_rfl) (opens_int Try.underlying3) (opensFs_cons (k := 1) (s := 1) rfl (by kernel_rfl) (opens_int Try.underlying3) (opensFs_nil)))) (sz := 2) (by kernel_rfl) (by decide) (by intro zs h; rfl)) (opensFs_nil))))) (opensFs_cons (k := 4) (s := 1) rfl (by kernel_rfl) (opens_int Try.underlying3) (opensFs_cons (k := 5) (s := 1) rfl (by kernel_rfl) (opens_int Try.underlying3) (opensFs_nil)))))) (sz := 6) (by kernel_rfl) (by decide) (by intro zs h; rfl)) Try.underlying65 rfl (hval 0 65 v0 rfl rfl) h0
  obtain rfl : a0 = .sl 6 nil0 xs0 := by simpa using e0
  obtain ⟨l0, el0, pl0⟩ := lift_list (f := C.chA) (p := fun y => y.l.ls.length ≤ maxLen ∧ (y.l.nil = true → y.l.ls = [])) (xs := xs0) (fun x hx => by (obtain ⟨_, ⟨_, _, rfl, ⟨n0_e_0, rfl, w0_e_0⟩, ⟨_, _, rfl, ⟨_, _, rfl, ⟨n0_e_1_0, rfl, w0_e_1_0⟩, ⟨_, _, rfl, ⟨n0_e_1_1, rfl, w0_e_1_1⟩, ⟨_, _, rfl, ⟨nil0_e_1_2, xs0_e_1_2, rfl, hn0_e_1_2, hl0_e_1_2, hx0_e_1_2⟩, rfl⟩⟩⟩, ⟨_, _, rfl, ⟨n0_e_2, rfl, w0_e_2⟩, ⟨_, _, rfl, ⟨n0_e_3, rfl, w0_e_3⟩, rfl⟩⟩⟩⟩, rfl⟩ := hx0 x hx; obtain ⟨l0_e_1_2, el0_e_1_2, pl0_e_1_2⟩ := lift_list (f := L.linkA) (p := fun y => True) (xs := xs0_e_1_2) (fun x hx => by (obtain ⟨_, ⟨_, _, rfl, ⟨n0_e_1_2_e_0, rfl, w0_e_1_2_e_0⟩, ⟨_, _, rfl, ⟨n0_e_1_2_e_1, rfl, w0_e_1_2_e_1⟩, rfl⟩⟩, rfl⟩ := hx0_e_1_2 x hx; exact ⟨⟨n0_e_1_2_e_0, n0_e_1_2_e_1⟩, rfl, trivial⟩)); subst el0_e_1_2; have hq0_e_1_2 := hl0_e_1_2; rw [List.length_map] at hq0_e_1_2; have hz0_e_1_2 : nil0_e_1_2 = true → l0_e_1_2 = [] := fun h => List.map_eq_nil_iff.1 (hn0_e_1_2 h); exact ⟨⟨n0_e_0, ⟨n0_e_1_0, n0_e_1_1, nil0_e_1_2, l0_e_1_2⟩, n0_e_2, n0_e_3⟩, rfl, ⟨hq0_e_1_2, hz0_e_1_2⟩⟩))
  subst el0
  have hq0 := hl0
  rw [List.length_map] at hq0
  have hz0 : nil0 = true → l0 = [] := fun h => List.map_eq_nil_iff.1 (hn0 h)
  obtain ⟨_, ⟨_, _, rfl, ⟨n1_0, rfl, w1_0⟩, ⟨_, _, rfl, ⟨_, _, rfl, ⟨n1_1_0, rfl, w1_1_0⟩, ⟨_, _, rfl, ⟨n1_1_1, rfl, w1_1_1⟩, ⟨_, _, rfl, ⟨nil1_1_2, xs1_1_2, rfl, hn1_1_2, hl1_1_2, hx1_1_2⟩, rfl⟩⟩⟩, ⟨_, _, rfl, ⟨n1_2, rfl, w1_2⟩, ⟨_, _, rfl, ⟨n1_3, rfl, w1_3⟩, rfl⟩⟩⟩⟩, R1⟩ := open_agg (opens_struct Try.underlying74 (n := 6) (by kernel_rfl) (opensFs_cons (k := 0) (s := 1) rfl (by kernel_rfl) (opens_int Try.underlying3) (opensFs_cons (k := 1) (s := 3) rfl (by kernel_rfl) (opens_struct Try.underlying24 (n := 3) (by kernel_rfl) (opensFs_cons (k := 0) (s := 1) rfl (by kernel_rfl) (opens_int Try.underlying3) (opensFs_cons (k := 1) (s := 1) rfl (by kernel_rfl) (opens_int Try.underlying3) (opensFs_cons (k := 2) (s := 1) rfl (by kernel_rfl) (opens_slice (ag := true) Try.underlying22 (opens_struct Try.underlying94 (n := 2) (by kernel_rfl) (opensFs_cons (k := 0) (s := 1) rfl (by kernel_rfl) (opens_int Try.underlying3) (opensFs_cons (k := 1) (s := 1) rfl (by kernel_rfl) (opens_int Try.underlying3) (opensFs_nil)))) (sz := 2) (by kernel_rfl) (by decide) (by intro zs h; rfl)) (opensFs_nil))))) (opensFs_cons (k := 4) (s := 1) rfl (by kernel_rfl) (opens_int Try.underlying3) (opensFs_cons (k := 5) (s := 1) rfl (by kernel_rfl) (opens_int Try.underlying3) (opensFs_nil)))))) Try.underlying74 rfl (hval 1 74 v1 rfl rfl) h1
  replace R1 : R (gh0 W) W (.agg [.i .i64 n1_0, .i .i64 n1_1_0, .i .i64 n1_1_1, .sl 2 nil1_1_2 xs1_1_2, .i .i64 n1_2, .i .i64 n1_3]) v1 := R1
  obtain ⟨l1_1_2, el1_1_2, pl1_1_2⟩ := lift_list (f := L.linkA) (p := fun y => True) (xs := xs1_1_2) (fun x hx => by (obtain ⟨_, ⟨_, _, rfl, ⟨n1_1_2_e_0, rfl, w1_1_2_e_0⟩, ⟨_, _, rfl, ⟨n1_1_2_e_1, rfl, w1_1_2_e_1⟩, rfl⟩⟩, rfl⟩ := hx1_1_2 x hx; exact ⟨⟨n1_1_2_e_0, n1_1_2_e_1⟩, rfl, trivial⟩))
  subst el1_1_2
  have hq1_1_2 := hl1_1_2
  rw [List.length_map] at hq1_1_2
  have hz1_1_2 : nil1_1_2 = true → l1_1_2 = [] := fun h => List.map_eq_nil_iff.1 (hn1_1_2 h)
  obtain ⟨_, ⟨_, _, rfl, ⟨n2_0, rfl, w2_0⟩, ⟨_, _, rfl, ⟨_, _, rfl, ⟨n2_1_0, rfl, w2_1_0⟩, ⟨_, _, rfl, ⟨n2_1_1, rfl, w2_1_1⟩, ⟨_, _, rfl, ⟨nil2_1_2, xs2_1_2, rfl, hn2_1_2, hl2_1_2, hx2_1_2⟩, rfl⟩⟩⟩, ⟨_, _, rfl, ⟨n2_2, rfl, w2_2⟩, ⟨_, _, rfl, ⟨n2_3, rfl, w2_3⟩, rfl⟩⟩⟩⟩, R2⟩ := open_agg (opens_struct Try.underlying74 (n := 6) (by kernel_rfl) (opensFs_cons (k := 0) (s := 1) rfl (by kernel_rfl) (opens_int Try.underlying3) (opensFs_cons (k := 1) (s := 3) rfl (by kernel_rfl) (opens_struct Try.underlying24 (n := 3) (by kernel_rfl) (opensFs_cons (k := 0) (s := 1) rfl (by kernel_rfl) (opens_int Try.underlying3) (opensFs_cons (k := 1) (s := 1) rfl (by kernel_rfl) (opens_int Try.underlying3) (opensFs_cons (k := 2) (s := 1) rfl (by kernel_rfl) (opens_slice (ag := true) Try.underlying22 (opens_struct Try.underlying94 (n := 2) (by kernel_rfl) (opensFs_cons (k := 0) (s := 1) rfl (by kernel_rfl) (opens_int Try.underlying3) (opensFs_cons (k := 1) (s := 1) rfl (by kernel_rfl) (opens_int Try.underlying3) (opensFs_nil)))) (sz := 2) (by kernel_rfl) (by decide) (by intro zs h; rfl)) (opensFs_nil))))) (opensFs_cons (k := 4) (s := 1) rfl (by kernel_rfl) (opens_int Try.underlying3) (opensFs_cons (k := 5) (s := 1) rfl (by kernel_rfl) (opens_int Try.underlying3) (opensFs_nil)))))) Try.underlying74 rfl (hval 2 74 v2 rfl rfl) h2
  replace R2 : R (gh0 W) W (.agg [.i .i64 n2_0, .i .i64 n2_1_0, .i .i64 n2_1_1, .sl 2 nil2_1_2 xs2_1_2, .i .i64 n2_2, .i .i64 n2_3]) v2 := R2
  obtain ⟨l2_1_2, el2_1_2, pl2_1_2⟩ := lift_list (f := L.linkA) (p := fun y => True) (xs := xs2_1_2) (fun x hx => by (obtain ⟨_, ⟨_, _, rfl, ⟨n2_1_2_e_0, rfl, w2_1_2_e_0⟩, ⟨_, _, rfl, ⟨n2_1_2_e_1, rfl, w2_1_2_e_1⟩, rfl⟩⟩, rfl⟩ := hx2_1_2 x hx; exact ⟨⟨n2_1_2_e_0, n2_1_2_e_1⟩, rfl, trivial⟩))
  subst el2_1_2
  have hq2_1_2 := hl2_1_2
  rw [List.length_map] at hq2_1_2
  have hz2_1_2 : nil2_1_2 = true → l2_1_2 = [] := fun h => List.map_eq_nil_iff.1 (hn2_1_2 h)
  have lt0 : ∀ x ∈ p0, x.block < W.heap.size := by obtain ⟨m, hm⟩ := h0; exact DataW.trod_lt m _ _ _ hm
  have lt1 : ∀ x ∈ p1, x.block < W.heap.size := by obtain ⟨m, hm⟩ := h1; exact DataW.trod_lt m _ _ _ hm
  have lt2 : ∀ x ∈ p2, x.block < W.heap.size := by obtain ⟨m, hm⟩ := h2; exact DataW.trod_lt m _ _ _ hm
  clear hA0 hval0 hsz0
  have good := C.good_ChangePuts nil0 l0 (by have := hq0; unfold maxLen at this; omega) (fun z hz => by have := (pl0 z hz).1; unfold maxLen at this; omega) ⟨n1_0, ⟨n1_1_0, n1_1_1, nil1_1_2, l1_1_2⟩, n1_2, n1_3⟩ (by have := hq1_1_2; unfold maxLen at this; omega) ⟨n2_0, ⟨n2_1_0, n2_1_1, nil2_1_2, l2_1_2⟩, n2_2, n2_3⟩ (by have := hq2_1_2; unfold maxLen at this; omega)
  refine (calls_of_good (avs := [.sl 6 nil0 (l0.map C.chA), .agg [.i .i64 n1_0, .i .i64 n1_1_0, .i .i64 n1_1_1, .sl 2 nil1_1_2 (l1_1_2.map L.linkA), .i .i64 n1_2, .i .i64 n1_3], .agg [.i .i64 n2_0, .i .i64 n2_1_0, .i .i64 n2_1_1, .sl 2 nil2_1_2 (l2_1_2.map L.linkA), .i .i64 n2_2, .i .i64 n2_3]]) (vs := [v0, v1, v2]) good rfl (fun j a v ha hv => ?_)).mono fun e W2 ⟨he, bel⟩ => ?_
  · match j, ha, hv with
    | 0, ha, hv => simp at ha hv; subst ha hv; exact R0
    | 1, ha, hv => simp at ha hv; subst ha hv; exact R1
    | 2, ha, hv => simp at ha hv; subst ha hv; exact R2
    | k + 3, ha, hv => simp at ha
  · subst he
    exact ⟨_, rfl, _, _, _, [], _, [], hW2, trodAll_mk1 (shut_bool Try.underlying4 _), (trodAll_cons_mk (Below.trod laidOut (by kernel_rfl) (of_decide_eq_true (by kernel_rfl)) h0 bel lt0) (trodAll_cons_mk (Below.trod laidOut (by kernel_rfl) (of_decide_eq_true (by kernel_rfl)) h1 bel lt1) (trodAll_cons_mk (Below.trod laidOut (by kernel_rfl) (of_decide_eq_true (by kernel_rfl)) h2 bel lt2) trodAll_mk0))), rfl, bel.frame _, fun h => by cases h⟩
theorem over : Rows.changePutsRow.holds Try.pinned (OpenSpec.ofChange Rows.changePutsSpec) :=
  OpenClaim.holds_of_wide 11 Try.f11 rfl rfl rfl rfl rfl rfl rfl ⟨rfl, rfl, rfl, rfl, rfl⟩ rfl rfl rfl rfl rfl (by kernel_rfl) Try.func11 (by kernel_rfl)
    (of_decide_eq_true (by kernel_rfl)) (by unfold Func.isWrapper; first | (rw [if_pos (by decide +kernel)]; kernel_rfl) | (rw [if_neg (by decide +kernel)]; exact ⟨rfl, rfl⟩))
    (fun os started H enc _ => lifted os started H enc)
theorem proved : Rows.ChangePutsSaid := over
end Go.Proofs.Ytompjoadhhjddaa.changePuts
namespace Go.Proofs.Ytompjoadhhjddaa
/-- The row, under a short name, for the claim. -/
theorem changePuts_holds : Rows.ChangePutsSaid := changePuts.proved
end Go.Proofs.Ytompjoadhhjddaa
