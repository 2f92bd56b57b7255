/- BasePuts: the law returns true for every input, and each argument reads behind the call as it read before. No further condition. -/
import Derived.Test.YtdoomgohnocecaaRows
import Derived.Test.YtdoomgohnocecaaM5
import Derived.WalkKit
import Derived.ProofKit
import Derived.OpenShut
import Derived.ShutString
import Derived.ChangeOld
import Derived.Below
import Derived.SizedLaws
set_option linter.unusedSimpArgs false
set_option linter.unusedVariables false
namespace Go.Proofs.Ytdoomgohnocecaa.basePuts
open Go.ChangeShapes Go.WideShapes Go.ChangeAt Go.RowKit Go.Vai
open Go.ChangeMaps (open_string shut_string)
set_option linter.unusedVariables false
theorem own : ownKnob Try.prog.godebug = none := by kernel_rfl
theorem laidOut : laidOutB Try.prog = true := by kernel_rfl
set_option maxRecDepth 100000 in
theorem lifted (os : Os) (started : os.Started) (H : Type) (enc : TypeId × Value → H) :
  ReturnsInHanded {} Try.checked os 6 .any (Rows.basePutsSpec.pre6 enc Try.prog Try.f6 Rows.basePutsRow.domain false) (Rows.basePutsSpec.post enc Try.prog Try.f6 false true false false) := by
 refine returnsInHanded_of_change_sized (C := Try.checked) own started (by kernel_rfl) Try.func6
  (ChangeSpec.witness6 (enc := enc) (C := Try.checked) false ⟨#[], #[.agg #[.slice none 0 0, .int .i64 0, .int .i64 0, .slice none 0 0], .agg #[.slice none 0 0, .int .i64 0, .int .i64 0, .slice none 0 0]], []⟩ 8 (by kernel_rfl) (by kernel_rfl) (by kernel_rfl) (by kernel_rfl)) ?_
 intro W base args ds gs before hval0 hW hcnd hsz0 _
 have hval : ∀ (j : Nat) t v, Try.f6.params[j]? = some t → args[j]? = some v → Value.okWide Try.prog W .any base t v := hval0
 have hW2 := hW
 obtain ⟨p, q, hA0, hV, rfl, hfz, hnd⟩ := hW
 have hA : DataW.TrodAll enc Try.prog W 0 (fun _ => true) true Try.f6.params.toList args.toList ds p := hA0
 rw [Try.params6] at hA hval
 obtain ⟨v0, vs0, d0, ds0, p0, q0, hargs, rfl, rfl, h0, r0⟩ := trodAll_cons hA
 obtain ⟨v1, vs1, d1, ds1, p1, q1, rfl, rfl, rfl, h1, r1⟩ := trodAll_cons r0
 obtain ⟨rfl, rfl, rfl⟩ := trodAll_nil r1
 obtain rfl : args = #[v0, v1] := by cases args; simp_all
 obtain ⟨rfl, rfl⟩ := trodVars_none hV
 obtain ⟨_, ⟨_, _, rfl, ⟨nil0_0, xs0_0, rfl, hn0_0, hl0_0, hx0_0⟩, ⟨_, _, rfl, ⟨n0_1, rfl, w0_1⟩, ⟨_, _, rfl, ⟨n0_2, rfl, w0_2⟩, ⟨_, _, rfl, ⟨nil0_3, xs0_3, rfl, hn0_3, hl0_3, hx0_3⟩, rfl⟩⟩⟩⟩, R0⟩ := open_agg (opens_struct Try.underlying25 (n := 4) (by kernel_rfl) (opensFs_cons (k := 0) (s := 1) rfl (by kernel_rfl) (opens_slice (ag := true) Try.underlying22 (opens_struct Try.underlying50 (n := 3) (by kernel_rfl) (opensFs_cons (k := 0) (s := 1) rfl (by kernel_rfl) (opens_int Try.underlying3) (opensFs_cons (k := 1) (s := 1) rfl (by kernel_rfl) (opens_int Try.underlying3) (opensFs_cons (k := 2) (s := 1) rfl (by kernel_rfl) (opens_slice (ag := true) Try.underlying48 (opens_struct Try.underlying98 (n := 2) (by kernel_rfl) (opensFs_cons (k := 0) (s := 1) rfl (by kernel_rfl) (opens_int Try.underlying3) (opensFs_cons (k := 1) (s := 1) rfl (by kernel_rfl) (opens_int Try.underlying3) (opensFs_nil)))) (sz := 2) (by kernel_rfl) (by decide) (by intro zs h; rfl)) (opensFs_nil))))) (sz := 3) (by kernel_rfl) (by decide) (by intro zs h; rfl)) (opensFs_cons (k := 1) (s := 1) rfl (by kernel_rfl) (opens_int Try.underlying3) (opensFs_cons (k := 2) (s := 1) rfl (by kernel_rfl) (opens_int Try.underlying3) (opensFs_cons (k := 3) (s := 1) rfl (by kernel_rfl) (opens_slice (ag := true) Try.underlying23 (opens_struct Try.underlying61 (n := 2) (by kernel_rfl) (opensFs_cons (k := 0) (s := 1) rfl (by kernel_rfl) (opens_int Try.underlying3) (opensFs_cons (k := 1) (s := 1) rfl (by kernel_rfl) (opens_int Try.underlying3) (opensFs_nil)))) (sz := 2) (by kernel_rfl) (by decide) (by intro zs h; rfl)) (opensFs_nil)))))) Try.underlying25 rfl (hval 0 25 v0 rfl rfl) h0
 replace R0 : R (gh0 W) W (.agg [.sl 3 nil0_0 xs0_0, .i .i64 n0_1, .i .i64 n0_2, .sl 2 nil0_3 xs0_3]) v0 := R0
 obtain ⟨l0_0, el0_0, pl0_0⟩ := lift_list (f := L.lsaA) (p := fun y => y.ls.length ≤ maxLen ∧ (y.nil = true → y.ls = [])) (xs := xs0_0) (fun x hx => by (obtain ⟨_, ⟨_, _, rfl, ⟨n0_0_e_0, rfl, w0_0_e_0⟩, ⟨_, _, rfl, ⟨n0_0_e_1, rfl, w0_0_e_1⟩, ⟨_, _, rfl, ⟨nil0_0_e_2, xs0_0_e_2, rfl, hn0_0_e_2, hl0_0_e_2, hx0_0_e_2⟩, rfl⟩⟩⟩, rfl⟩ := hx0_0 x hx; obtain ⟨l0_0_e_2, el0_0_e_2, pl0_0_e_2⟩ := lift_list (f := L.linkA) (p := fun y => True) (xs := xs0_0_e_2) (fun x hx => by (obtain ⟨_, ⟨_, _, rfl, ⟨n0_0_e_2_e_0, rfl, w0_0_e_2_e_0⟩, ⟨_, _, rfl, ⟨n0_0_e_2_e_1, rfl, w0_0_e_2_e_1⟩, rfl⟩⟩, rfl⟩ := hx0_0_e_2 x hx; exact ⟨⟨n0_0_e_2_e_0, n0_0_e_2_e_1⟩, rfl, trivial⟩)); subst el0_0_e_2; have hq0_0_e_2 := hl0_0_e_2; rw [List.length_map] at hq0_0_e_2; have hz0_0_e_2 : nil0_0_e_2 = true → l0_0_e_2 = [] := fun h => List.map_eq_nil_iff.1 (hn0_0_e_2 h); exact ⟨⟨n0_0_e_0, n0_0_e_1, nil0_0_e_2, l0_0_e_2⟩, rfl, ⟨hq0_0_e_2, hz0_0_e_2⟩⟩))
 subst el0_0
 have hq0_0 := hl0_0
 rw [List.length_map] at hq0_0
 have hz0_0 : nil0_0 = true → l0_0 = [] := fun h => List.map_eq_nil_iff.1 (hn0_0 h)
 obtain ⟨l0_3, el0_3, pl0_3⟩ := lift_list (f := DB.itA) (p := fun y => True) (xs := xs0_3) (fun x hx => by (obtain ⟨_, ⟨_, _, rfl, ⟨n0_3_e_0, rfl, w0_3_e_0⟩, ⟨_, _, rfl, ⟨n0_3_e_1, rfl, w0_3_e_1⟩, rfl⟩⟩, rfl⟩ := hx0_3 x hx; exact ⟨⟨n0_3_e_0, n0_3_e_1⟩, rfl, trivial⟩))
 subst el0_3
 have hq0_3 := hl0_3
 rw [List.length_map] at hq0_3
 have hz0_3 : nil0_3 = true → l0_3 = [] := fun h => List.map_eq_nil_iff.1 (hn0_3 h)
 obtain ⟨_, ⟨_, _, rfl, ⟨nil1_0, xs1_0, rfl, hn1_0, hl1_0, hx1_0⟩, ⟨_, _, rfl, ⟨n1_1, rfl, w1_1⟩, ⟨_, _, rfl, ⟨n1_2, rfl, w1_2⟩, ⟨_, _, rfl, ⟨nil1_3, xs1_3, rfl, hn1_3, hl1_3, hx1_3⟩, rfl⟩⟩⟩⟩, R1⟩ := open_agg (opens_struct Try.underlying25 (n := 4) (by kernel_rfl) (opensFs_cons (k := 0) (s := 1) rfl (by kernel_rfl) (opens_slice (ag := true) Try.underlying22 (opens_struct Try.underlying50 (n := 3) (by kernel_rfl) (opensFs_cons (k := 0) (s := 1) rfl (by kernel_rfl) (opens_int Try.underlying3) (opensFs_cons (k := 1) (s := 1) rfl (by kernel_rfl) (opens_int Try.underlying3) (opensFs_cons (k := 2) (s := 1) rfl (by kernel_rfl) (opens_slice (ag := true) Try.underlying48 (opens_struct Try.underlying98 (n := 2) (by kernel_rfl) (opensFs_cons (k := 0) (s := 1) rfl (by kernel_rfl) (opens_int Try.underlying3) (opensFs_cons (k := 1) (s := 1) rfl (by kernel_rfl) (opens_int Try.underlying3) (opensFs_nil)))) (sz := 2) (by kernel_rfl) (by decide) (by intro zs h; rfl)) (opensFs_nil))))) (sz := 3) (by kernel_rfl) (by decide) (by intro zs h; rfl)) (opensFs_cons (k := 1) (s := 1) rfl (by kernel_rfl) (opens_int Try.underlying3) (opensFs_cons (k := 2) (s := 1) rfl (by kernel_rfl) (opens_int Try.underlying3) (opensFs_cons (k := 3) (s := 1) rfl (by kernel_rfl) (opens_slice (ag := true) Try.underlying23 (opens_struct Try.underlying61 (n := 2) (by kernel_rfl) (opensFs_cons (k := 0) (s := 1) rfl (by kernel_rfl) (opens_int Try.underlying3) (opensFs_cons (k := 1) (s := 1) rfl (by kernel_rfl) (opens_int Try.underlying3) (opensFs_nil)))) (sz := 2) (by kernel_rfl) (by decide) (by intro zs h; rfl)) (opensFs_nil)))))) Try.underlying25 rfl (hval 1 25 v1 rfl rfl) h1
 replace R1 : R (gh0 W) W (.agg [.sl 3 nil1_0 xs1_0, .i .i64 n1_1, .i .i64 n1_2, .sl 2 nil1_3 xs1_3]) v1 := R1
 obtain ⟨l1_0, el1_0, pl1_0⟩ := lift_list (f := L.lsaA) (p := fun y => y.ls.length ≤ maxLen ∧ (y.nil = true → y.ls = [])) (xs := xs1_0) (fun x hx => by (obtain ⟨_, ⟨_, _, rfl, ⟨n1_0_e_0, rfl, w1_0_e_0⟩, ⟨_, _, rfl, ⟨n1_0_e_1, rfl, w1_0_e_1⟩, ⟨_, _, rfl, ⟨nil1_0_e_2, xs1_0_e_2, rfl, hn1_0_e_2, hl1_0_e_2, hx1_0_e_2⟩, rfl⟩⟩⟩, rfl⟩ := hx1_0 x hx; obtain ⟨l1_0_e_2, el1_0_e_2, pl1_0_e_2⟩ := lift_list (f := L.linkA) (p := fun y => True) (xs := xs1_0_e_2) (fun x hx => by (obtain ⟨_, ⟨_, _, rfl, ⟨n1_0_e_2_e_0, rfl, w1_0_e_2_e_0⟩, ⟨_, _, rfl, ⟨n1_0_e_2_e_1, rfl, w1_0_e_2_e_1⟩, rfl⟩⟩, rfl⟩ := hx1_0_e_2 x hx; exact ⟨⟨n1_0_e_2_e_0, n1_0_e_2_e_1⟩, rfl, trivial⟩)); subst el1_0_e_2; have hq1_0_e_2 := hl1_0_e_2; rw [List.length_map] at hq1_0_e_2; have hz1_0_e_2 : nil1_0_e_2 = true → l1_0_e_2 = [] := fun h => List.map_eq_nil_iff.1 (hn1_0_e_2 h); exact ⟨⟨n1_0_e_0, n1_0_e_1, nil1_0_e_2, l1_0_e_2⟩, rfl, ⟨hq1_0_e_2, hz1_0_e_2⟩⟩))
 subst el1_0
 have hq1_0 := hl1_0
 rw [List.length_map] at hq1_0
 have hz1_0 : nil1_0 = true → l1_0 = [] := fun h => List.map_eq_nil_iff.1 (hn1_0 h)
 obtain ⟨l1_3, el1_3, pl1_3⟩ := lift_list (f := DB.itA) (p := fun y => True) (xs := xs1_3) (fun x hx => by (obtain ⟨_, ⟨_, _, rfl, ⟨n1_3_e_0, rfl, w1_3_e_0⟩, ⟨_, _, rfl, ⟨n1_3_e_1, rfl, w1_3_e_1⟩, rfl⟩⟩, rfl⟩ := hx1_3 x hx; exact ⟨⟨n1_3_e_0, n1_3_e_1⟩, rfl, trivial⟩))
 subst el1_3
 have hq1_3 := hl1_3
 rw [List.length_map] at hq1_3
 have hz1_3 : nil1_3 = true → l1_3 = [] := fun h => List.map_eq_nil_iff.1 (hn1_3 h)
 have lt0 : ∀ x ∈ p0, x.block < W.heap.size := by obtain ⟨m, hm⟩ := h0; exact DataW.trod_lt m _ _ _ hm
 have lt1 : ∀ x ∈ p1, x.block < W.heap.size := by obtain ⟨m, hm⟩ := h1; exact DataW.trod_lt m _ _ _ hm
 clear hA0 hval0 hsz0
 have good := BA.good_BasePuts ⟨nil0_0, l0_0, n0_1, n0_2, nil0_3, l0_3⟩ (by have := hq0_0; unfold maxLen at this; omega) hz0_0 (fun x hx => ⟨by have := (pl0_0 x hx).1; unfold maxLen at this; omega, (pl0_0 x hx).2⟩) (by have := hq0_3; unfold maxLen at this; omega) hz0_3 ⟨nil1_0, l1_0, n1_1, n1_2, nil1_3, l1_3⟩ (by have := hq1_0; unfold maxLen at this; omega) hz1_0 (fun x hx => ⟨by have := (pl1_0 x hx).1; unfold maxLen at this; omega, (pl1_0 x hx).2⟩) (by have := hq1_3; unfold maxLen at this; omega) hz1_3
 refine (calls_of_good (avs := [.agg [.sl 3 nil0_0 (l0_0.map L.lsaA), .i .i64 n0_1, .i .i64 n0_2, .sl 2 nil0_3 (l0_3.map DB.itA)], .agg [.sl 3 nil1_0 (l1_0.map L.lsaA), .i .i64 n1_1, .i .i64 n1_2, .sl 2 nil1_3 (l1_3.map DB.itA)]]) (vs := [v0, v1]) good rfl (fun j a v ha hv => ?_)).mono fun e W2 ⟨he, bel⟩ => ?_
 ·match j, ha, hv with
  | 0, ha, hv => simp at ha hv; subst ha hv; exact R0
  | 1, ha, hv => simp at ha hv; subst ha hv; exact R1
  | k + 2, ha, hv => simp at ha
 ·subst he
  exact ⟨_, rfl, _, _, _, [], _, [], hW2, trodAll_mk1 (shut_bool Try.underlying4 _), (trodAll_cons_mk (Below.trod laidOut (by kernel_rfl) (of_decide_eq_true (by kernel_rfl)) h0 bel lt0) (trodAll_cons_mk (Below.trod laidOut (by kernel_rfl) (of_decide_eq_true (by kernel_rfl)) h1 bel lt1) trodAll_mk0)), rfl, bel.frame _, fun h => by cases h⟩
theorem over : Rows.basePutsRow.holds Try.pinned (OpenSpec.ofChange Rows.basePutsSpec) :=
 OpenClaim.holds_of_wide 6 Try.f6 rfl rfl rfl rfl rfl rfl rfl ⟨rfl, rfl, rfl, rfl, rfl⟩ rfl rfl rfl rfl rfl (by kernel_rfl) Try.func6 (by kernel_rfl)
  (of_decide_eq_true (by kernel_rfl)) (by unfold Func.isWrapper; first | (rw [if_pos (by decide +kernel)]; kernel_rfl) | (rw [if_neg (by decide +kernel)]; exact ⟨rfl, rfl⟩))
  (fun os started H enc _ => lifted os started H enc)
theorem proved : Rows.BasePutsSaid := over
end Go.Proofs.Ytdoomgohnocecaa.basePuts
namespace Go.Proofs.Ytdoomgohnocecaa
theorem basePuts_holds : Rows.BasePutsSaid := basePuts.proved
end Go.Proofs.Ytdoomgohnocecaa
