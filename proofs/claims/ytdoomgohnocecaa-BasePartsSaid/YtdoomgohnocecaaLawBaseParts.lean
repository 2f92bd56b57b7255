/- BaseParts: the law returns true for every input, and each argument reads behind the call as it read before. No further condition. -/
import Derived.Test.YtdoomgohnocecaaRows
import Derived.Test.YtdoomgohnocecaasLBaseParts
import Derived.WalkKit
import Derived.ProofKit
import Derived.OpenShut
import Derived.ShutString
import Derived.ChangeOld
import Derived.Below
import Derived.SizedLaws
set_option linter.unusedSimpArgs false
set_option linter.unusedVariables false
namespace Go.Proofs.Ytdoomgohnocecaa.baseParts
open Go.ChangeShapes Go.WideShapes Go.ChangeAt Go.RowKit Go.Vai
open Go.ChangeMaps (open_string shut_string)
set_option linter.unusedVariables false
theorem own : ownKnob Try.prog.godebug = none := by kernel_rfl
theorem laidOut : laidOutB Try.prog = true := by kernel_rfl
set_option maxRecDepth 100000 in
theorem lifted (os : Os) (started : os.Started) (H : Type) (enc : TypeId × Value → H) :
  ReturnsInHanded {} Try.checked os 4 .any (Rows.basePartsSpec.pre6 enc Try.prog Try.f4 Rows.basePartsRow.domain false) (Rows.basePartsSpec.post enc Try.prog Try.f4 false true false false) := by
 refine returnsInHanded_of_change_sized (C := Try.checked) own started (by kernel_rfl) Try.func4
  (ChangeSpec.witness6 (enc := enc) (C := Try.checked) false ⟨#[], #[.agg #[.slice none 0 0, .int .i64 0, .int .i64 0, .slice none 0 0], .slice none 0 0, .int .u8 0], []⟩ 8 (by kernel_rfl) (by kernel_rfl) (by kernel_rfl) (by kernel_rfl)) ?_
 intro W base args ds gs before hval0 hW hcnd hsz0 _
 have hval : ∀ (j : Nat) t v, Try.f4.params[j]? = some t → args[j]? = some v → Value.okWide Try.prog W .any base t v := hval0
 have hW2 := hW
 obtain ⟨p, q, hA0, hV, rfl, hfz, hnd⟩ := hW
 have hA : DataW.TrodAll enc Try.prog W 0 (fun _ => true) true Try.f4.params.toList args.toList ds p := hA0
 rw [Try.params4] at hA hval
 obtain ⟨v0, vs0, d0, ds0, p0, q0, hargs, rfl, rfl, h0, r0⟩ := trodAll_cons hA
 obtain ⟨v1, vs1, d1, ds1, p1, q1, rfl, rfl, rfl, h1, r1⟩ := trodAll_cons r0
 obtain ⟨v2, vs2, d2, ds2, p2, q2, rfl, rfl, rfl, h2, r2⟩ := trodAll_cons r1
 obtain ⟨rfl, rfl, rfl⟩ := trodAll_nil r2
 obtain rfl : args = #[v0, v1, v2] := by cases args; simp_all
 obtain ⟨rfl, rfl⟩ := trodVars_none hV
 obtain ⟨_, ⟨_, _, rfl, ⟨nil0_0, xs0_0, rfl, hn0_0, hl0_0, hx0_0⟩, ⟨_, _, rfl, ⟨n0_1, rfl, w0_1⟩, ⟨_, _, rfl, ⟨n0_2, rfl, w0_2⟩, ⟨_, _, rfl, ⟨nil0_3, xs0_3, rfl, hn0_3, hl0_3, hx0_3⟩, rfl⟩⟩⟩⟩, R0⟩ := open_agg (opens_struct Try.underlying25 (n := 4) (by kernel_rfl) (opensFs_cons (k := 0) (s := 1) rfl (by kernel_rfl) (opens_slice (ag := true) Try.underlying22 (opens_struct Try.underlying50 (n := 3) (by kernel_rfl) (opensFs_cons (k := 0) (s := 1) rfl (by kernel_rfl) (opens_int Try.underlying3) (opensFs_cons (k := 1) (s := 1) rfl (by kernel_rfl) (opens_int Try.underlying3) (opensFs_cons (k := 2) (s := 1) rfl (by kernel_rfl) (opens_slice (ag := true) Try.underlying48 (opens_struct Try.underlying98 (n := 2) (by kernel_rfl) (opensFs_cons (k := 0) (s := 1) rfl (by kernel_rfl) (opens_int Try.underlying3) (opensFs_cons (k := 1) (s := 1) rfl (by kernel_rfl) (opens_int Try.underlying3) (opensFs_nil)))) (sz := 2) (by kernel_rfl) (by decide) (by intro zs h; rfl)) (opensFs_nil))))) (sz := 3) (by kernel_rfl) (by decide) (by intro zs h; rfl)) (opensFs_cons (k := 1) (s := 1) rfl (by kernel_rfl) (opens_int Try.underlying3) (opensFs_cons (k := 2) (s := 1) rfl (by kernel_rfl) (opens_int Try.underlying3) (opensFs_cons (k := 3) (s := 1) rfl (by kernel_rfl) (opens_slice (ag := true) Try.underlying23 (opens_struct Try.underlying61 (n := 2) (by kernel_rfl) (opensFs_cons (k := 0) (s := 1) rfl (by kernel_rfl) (opens_int Try.underlying3) (opensFs_cons (k := 1) (s := 1) rfl (by kernel_rfl) (opens_int Try.underlying3) (opensFs_nil)))) (sz := 2) (by kernel_rfl) (by decide) (by intro zs h; rfl)) (opensFs_nil)))))) Try.underlying25 rfl (hval 0 25 v0 rfl rfl) h0
 replace R0 : R (gh0 W) W (.agg [.sl 3 nil0_0 xs0_0, .i .i64 n0_1, .i .i64 n0_2, .sl 2 nil0_3 xs0_3]) v0 := R0
 obtain ⟨l0_0, el0_0, pl0_0⟩ := lift_list (f := L.lsaA) (p := fun y => y.ls.length ≤ maxLen ∧ (y.nil = true → y.ls = [])) (xs := xs0_0) (fun x hx => by (obtain ⟨_, ⟨_, _, rfl, ⟨n0_0_e_0, rfl, w0_0_e_0⟩, ⟨_, _, rfl, ⟨n0_0_e_1, rfl, w0_0_e_1⟩, ⟨_, _, rfl, ⟨nil0_0_e_2, xs0_0_e_2, rfl, hn0_0_e_2, hl0_0_e_2, hx0_0_e_2⟩, rfl⟩⟩⟩, rfl⟩ := hx0_0 x hx; obtain ⟨l0_0_e_2, el0_0_e_2, pl0_0_e_2⟩ := lift_list (f := L.linkA) (p := fun y => True) (xs := xs0_0_e_2) (fun x hx => by (obtain ⟨_, ⟨_, _, rfl, ⟨n0_0_e_2_e_0, rfl, w0_0_e_2_e_0⟩, ⟨_, _, rfl, ⟨n0_0_e_2_e_1, rfl, w0_0_e_2_e_1⟩, rfl⟩⟩, rfl⟩ := hx0_0_e_2 x hx; exact ⟨⟨n0_0_e_2_e_0, n0_0_e_2_e_1⟩, rfl, trivial⟩)); subst el0_0_e_2; have hq0_0_e_2 := hl0_0_e_2; rw [List.length_map] at hq0_0_e_2; have hz0_0_e_2 : nil0_0_e_2 = true → l0_0_e_2 = [] := fun h => List.map_eq_nil_iff.1 (hn0_0_e_2 h); exact ⟨⟨n0_0_e_0, n0_0_e_1, nil0_0_e_2, l0_0_e_2⟩, rfl, ⟨hq0_0_e_2, hz0_0_e_2⟩⟩))
 subst el0_0
 have hq0_0 := hl0_0
 rw [List.length_map] at hq0_0
 have hz0_0 : nil0_0 = true → l0_0 = [] := fun h => List.map_eq_nil_iff.1 (hn0_0 h)
 obtain ⟨l0_3, el0_3, pl0_3⟩ := lift_list (f := DB.itA) (p := fun y => True) (xs := xs0_3) (fun x hx => by (obtain ⟨_, ⟨_, _, rfl, ⟨n0_3_e_0, rfl, w0_3_e_0⟩, ⟨_, _, rfl, ⟨n0_3_e_1, rfl, w0_3_e_1⟩, rfl⟩⟩, rfl⟩ := hx0_3 x hx; exact ⟨⟨n0_3_e_0, n0_3_e_1⟩, rfl, trivial⟩))
 subst el0_3
 have hq0_3 := hl0_3
 rw [List.length_map] at hq0_3
 have hz0_3 : nil0_3 = true → l0_3 = [] := fun h => List.map_eq_nil_iff.1 (hn0_3 h)
 obtain ⟨a1, ⟨nil1, xs1, e1, hn1, hl1, hx1⟩, R1⟩ := open_one (opens_slice (ag := true) Try.underlying26 (opens_struct Try.underlying52 (n := 6) (by kernel_rfl) (opensFs_cons (k := 0) (s := 1) rfl (by kernel_rfl) (opens_int Try.underlying3) (opensFs_cons (k := 1) (s := 3) rfl (by kernel_rfl) (opens_struct Try.underlying50 (n := 3) (by kernel_rfl) (opensFs_cons (k := 0) (s := 1) rfl (by kernel_rfl) (opens_int Try.underlying3) (opensFs_cons (k := 1) (s := 1) rfl (by kernel_rfl) (opens_int Try.underlying3) (opensFs_cons (k := 2) (s := 1) rfl (by kernel_rfl) (opens_slice (ag := true) Try.underlying48 (opens_struct Try.underlying98 (n := 2) (by kernel_rfl) (opensFs_cons (k := 0) (s := 1) rfl (by kernel_rfl) (opens_int Try.underlying3) (opensFs_cons (k := 1) (s := 1) rfl (by kernel_rfl) (opens_int Try.underlying3) (opensFs_nil)))) (sz := 2) (by kernel_rfl) (by decide) (by intro zs h; rfl)) (opensFs_nil))))) (opensFs_cons (k := 4) (s := 1) rfl (by kernel_rfl) (opens_int Try.underlying3) (opensFs_cons (k := 5) (s := 1) rfl (by kernel_rfl) (opens_int Try.underlying3) (opensFs_nil)))))) (sz := 6) (by kernel_rfl) (by decide) (by intro zs h; rfl)) Try.underlying26 rfl (hval 1 26 v1 rfl rfl) h1
 obtain rfl : a1 = .sl 6 nil1 xs1 := by simpa using e1
 obtain ⟨l1, el1, pl1⟩ := lift_list (f := C.chA) (p := fun y => y.l.ls.length ≤ maxLen ∧ (y.l.nil = true → y.l.ls = [])) (xs := xs1) (fun x hx => by (obtain ⟨_, ⟨_, _, rfl, ⟨n1_e_0, rfl, w1_e_0⟩, ⟨_, _, rfl, ⟨_, _, rfl, ⟨n1_e_1_0, rfl, w1_e_1_0⟩, ⟨_, _, rfl, ⟨n1_e_1_1, rfl, w1_e_1_1⟩, ⟨_, _, rfl, ⟨nil1_e_1_2, xs1_e_1_2, rfl, hn1_e_1_2, hl1_e_1_2, hx1_e_1_2⟩, rfl⟩⟩⟩, ⟨_, _, rfl, ⟨n1_e_2, rfl, w1_e_2⟩, ⟨_, _, rfl, ⟨n1_e_3, rfl, w1_e_3⟩, rfl⟩⟩⟩⟩, rfl⟩ := hx1 x hx; obtain ⟨l1_e_1_2, el1_e_1_2, pl1_e_1_2⟩ := lift_list (f := L.linkA) (p := fun y => True) (xs := xs1_e_1_2) (fun x hx => by (obtain ⟨_, ⟨_, _, rfl, ⟨n1_e_1_2_e_0, rfl, w1_e_1_2_e_0⟩, ⟨_, _, rfl, ⟨n1_e_1_2_e_1, rfl, w1_e_1_2_e_1⟩, rfl⟩⟩, rfl⟩ := hx1_e_1_2 x hx; exact ⟨⟨n1_e_1_2_e_0, n1_e_1_2_e_1⟩, rfl, trivial⟩)); subst el1_e_1_2; have hq1_e_1_2 := hl1_e_1_2; rw [List.length_map] at hq1_e_1_2; have hz1_e_1_2 : nil1_e_1_2 = true → l1_e_1_2 = [] := fun h => List.map_eq_nil_iff.1 (hn1_e_1_2 h); exact ⟨⟨n1_e_0, ⟨n1_e_1_0, n1_e_1_1, nil1_e_1_2, l1_e_1_2⟩, n1_e_2, n1_e_3⟩, rfl, ⟨hq1_e_1_2, hz1_e_1_2⟩⟩))
 subst el1
 have hq1 := hl1
 rw [List.length_map] at hq1
 have hz1 : nil1 = true → l1 = [] := fun h => List.map_eq_nil_iff.1 (hn1 h)
 obtain ⟨a2, ⟨n2, e2, w2⟩, R2⟩ := open_one (opens_int Try.underlying5) Try.underlying5 rfl (hval 2 5 v2 rfl rfl) h2
 obtain rfl : a2 = .i .u8 n2 := by simpa using e2
 have lt0 : ∀ x ∈ p0, x.block < W.heap.size := by obtain ⟨m, hm⟩ := h0; exact DataW.trod_lt m _ _ _ hm
 have lt1 : ∀ x ∈ p1, x.block < W.heap.size := by obtain ⟨m, hm⟩ := h1; exact DataW.trod_lt m _ _ _ hm
 have lt2 : ∀ x ∈ p2, x.block < W.heap.size := by obtain ⟨m, hm⟩ := h2; exact DataW.trod_lt m _ _ _ hm
 clear hA0 hval0 hsz0
 have good := BA.good_BaseParts ⟨nil0_0, l0_0, n0_1, n0_2, nil0_3, l0_3⟩ (by have := hq0_0; unfold maxLen at this; omega) hz0_0 (fun x hx => ⟨by have := (pl0_0 x hx).1; unfold maxLen at this; omega, (pl0_0 x hx).2⟩) (by have := hq0_3; unfold maxLen at this; omega) hz0_3 nil1 l1 (by have := hq1; unfold maxLen at this; omega) hz1 (fun x hx => ⟨by have := (pl1 x hx).1; unfold maxLen at this; omega, (pl1 x hx).2⟩) n2 (by have := wf_u8 w2; omega)
 refine (calls_of_good (avs := [.agg [.sl 3 nil0_0 (l0_0.map L.lsaA), .i .i64 n0_1, .i .i64 n0_2, .sl 2 nil0_3 (l0_3.map DB.itA)], .sl 6 nil1 (l1.map C.chA), .i .u8 n2]) (vs := [v0, v1, v2]) good rfl (fun j a v ha hv => ?_)).mono fun e W2 ⟨he, bel⟩ => ?_
 ·match j, ha, hv with
  | 0, ha, hv => simp at ha hv; subst ha hv; exact R0
  | 1, ha, hv => simp at ha hv; subst ha hv; exact R1
  | 2, ha, hv => simp at ha hv; subst ha hv; exact R2
  | k + 3, ha, hv => simp at ha
 ·subst he
  exact ⟨_, rfl, _, _, _, [], _, [], hW2, trodAll_mk1 (shut_bool Try.underlying4 _), (trodAll_cons_mk (Below.trod laidOut (by kernel_rfl) (of_decide_eq_true (by kernel_rfl)) h0 bel lt0) (trodAll_cons_mk (Below.trod laidOut (by kernel_rfl) (of_decide_eq_true (by kernel_rfl)) h1 bel lt1) (trodAll_cons_mk (Below.trod laidOut (by kernel_rfl) (of_decide_eq_true (by kernel_rfl)) h2 bel lt2) trodAll_mk0))), rfl, bel.frame _, fun h => by cases h⟩
theorem over : Rows.basePartsRow.holds Try.pinned (OpenSpec.ofChange Rows.basePartsSpec) :=
 OpenClaim.holds_of_wide 4 Try.f4 rfl rfl rfl rfl rfl rfl rfl ⟨rfl, rfl, rfl, rfl, rfl⟩ rfl rfl rfl rfl rfl (by kernel_rfl) Try.func4 (by kernel_rfl)
  (of_decide_eq_true (by kernel_rfl)) (by unfold Func.isWrapper; first | (rw [if_pos (by decide +kernel)]; kernel_rfl) | (rw [if_neg (by decide +kernel)]; exact ⟨rfl, rfl⟩))
  (fun os started H enc _ => lifted os started H enc)
theorem proved : Rows.BasePartsSaid := over
end Go.Proofs.Ytdoomgohnocecaa.baseParts
namespace Go.Proofs.Ytdoomgohnocecaa
theorem baseParts_holds : Rows.BasePartsSaid := baseParts.proved
end Go.Proofs.Ytdoomgohnocecaa
