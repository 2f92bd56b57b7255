/- PacketPuts: the law returns true for every input, and each argument reads behind the call as it read before. No further condition. -/
import Derived.Test.YtblgcekomnnfmaaRows
import Derived.Test.YtblgcekomnnfmaagLPacketPuts
import Derived.WalkKit
import Derived.ProofKit
import Derived.OpenShut
import Derived.ShutString
import Derived.ChangeOld
import Derived.Below
import Derived.SizedLaws
set_option linter.unusedSimpArgs false
set_option linter.unusedVariables false
set_option linter.constructorNameAsVariable false
namespace Go.Proofs.Ytblgcekomnnfmaa.packetPuts
open Go.ChangeShapes Go.WideShapes Go.ChangeAt Go.RowKit Go.Vai
open Go.ChangeMaps (open_string shut_string)
set_option linter.unusedVariables false
theorem own : ownKnob Try.prog.godebug = none := by kernel_rfl
theorem laidOut : laidOutB Try.prog = true := by kernel_rfl
set_option maxRecDepth 100000 in
theorem lifted (os : Os) (started : os.Started) (H : Type) (enc : TypeId × Value → H) :
    ReturnsInHanded {} Try.checked os 8 .any (Rows.packetPutsSpec.pre6 enc Try.prog Try.f8 Rows.packetPutsRow.domain false) (Rows.packetPutsSpec.post enc Try.prog Try.f8 false true false false) := by
  refine returnsInHanded_of_change_sized (C := Try.checked) own started (by kernel_rfl) Try.func8
    (ChangeSpec.witness6 (enc := enc) (C := Try.checked) false ⟨#[], #[.agg #[.int .i64 0, .int .i64 0, .int .i64 0, .int .i64 0, .int .i64 0, .int .i64 0, .int .i64 0, .slice none 0 0, .slice none 0 0, .slice none 0 0], .agg #[.int .i64 0, .int .i64 0, .int .i64 0, .int .i64 0, .int .i64 0, .int .i64 0, .int .i64 0, .slice none 0 0, .slice none 0 0, .slice none 0 0]], []⟩ 8 (by kernel_rfl) (by kernel_rfl) (by kernel_rfl) (by kernel_rfl)) ?_
  intro W base args ds gs before hval0 hW hcnd hsz0 _
  have hval : ∀ (j : Nat) t v, Try.f8.params[j]? = some t → args[j]? = some v → Value.okWide Try.prog W .any base t v := hval0
  have hW2 := hW
  obtain ⟨p, q, hA0, hV, rfl, hfz, hnd⟩ := hW
  have hA : DataW.TrodAll enc Try.prog W 0 (fun _ => true) true Try.f8.params.toList args.toList ds p := hA0
  rw [Try.params8] at hA hval
  obtain ⟨v0, vs0, d0, ds0, p0, q0, hargs, rfl, rfl, h0, r0⟩ := trodAll_cons hA
  obtain ⟨v1, vs1, d1, ds1, p1, q1, rfl, rfl, rfl, h1, r1⟩ := trodAll_cons r0
  obtain ⟨rfl, rfl, rfl⟩ := trodAll_nil r1
  obtain rfl : args = #[v0, v1] := by cases args; simp_all
  obtain ⟨rfl, rfl⟩ := trodVars_none hV
  obtain ⟨_, ⟨_, _, rfl, ⟨n0_0, rfl, w0_0⟩, ⟨_, _, rfl, ⟨n0_1, rfl, w0_1⟩, ⟨_, _, rfl, ⟨n0_2, rfl, w0_2⟩, ⟨_, _, rfl, ⟨n0_3, rfl, w0_3⟩, ⟨_, _, rfl, ⟨n0_4, rfl, w0_4⟩, ⟨_, _, rfl, ⟨n0_5, rfl, w0_5⟩, ⟨_, _, rfl, ⟨n0_6, rfl, w0_6⟩, ⟨_, _, rfl, ⟨nil0_7, xs0_7, rfl, hn0_7, hl0_7, hx0_7⟩, ⟨_, _, rfl, ⟨nil0_8, xs0_8, rfl, hn0_8, hl0_8, hx0_8⟩, ⟨_, _, rfl, ⟨nil0_9, xs0_9, rfl, hn0_9, hl0_9, hx0_9⟩, rfl⟩⟩⟩⟩⟩⟩⟩⟩⟩⟩, R0⟩ := open_agg (opens_struct Try.underlying28 (n := 10) (by kernel_rfl) (opensFs_cons (k := 0) (s := 1) rfl (by kernel_rfl) (opens_int Try.underlying3) (opensFs_cons (k := 1) (s := 1) rfl (by kernel_rfl) (opens_int Try.underlying3) (opensFs_cons (k := 2) (s := 1) rfl (by kernel_rfl) (opens_int Try.underlying3) (opensFs_cons (k := 3) (s := 1) rfl (by kernel_rfl) (opens_int Try.underlying3) (opensFs_cons (k := 4) (s := 1) rfl (by kernel_rfl) (opens_int Try.underlying3) (opensFs_cons (k := 5) (s := 1) rfl (by kernel_rfl) (opens_int Try.underlying3) (opensFs_cons (k := 6) (s := 1) rfl (by kernel_rfl) (opens_int Try.underlying3) (opensFs_cons (k := 7) (s := 1) rfl (by kernel_rfl) (opens_slice (ag := true) Try.underlying24 (opens_struct Try.underlying74 (n := 2) (by kernel_rfl) (opensFs_cons (k := 0) (s := 1) rfl (by kernel_rfl) (opens_int Try.underlying3) (opensFs_cons (k := 1) (s := 1) rfl (by kernel_rfl) (opens_int Try.underlying3) (opensFs_nil)))) (sz := 2) (by kernel_rfl) (by decide) (by intro zs h; rfl)) (opensFs_cons (k := 8) (s := 1) rfl (by kernel_rfl) (opens_slice (ag := true) Try.underlying25 (opens_struct Try.underlying76 (n := 2) (by kernel_rfl) (opensFs_cons (k := 0) (s := 1) rfl (by kernel_rfl) (opens_int Try.underlying3) (opensFs_cons (k := 1) (s := 1) rfl (by kernel_rfl) (opens_int Try.underlying3) (opensFs_nil)))) (sz := 2) (by kernel_rfl) (by decide) (by intro zs h; rfl)) (opensFs_cons (k := 9) (s := 1) rfl (by kernel_rfl) (opens_slice (ag := true) Try.underlying26 (opens_struct Try.underlying79 (n := 3) (by kernel_rfl) (opensFs_cons (k := 0) (s := 1) rfl (by kernel_rfl) (opens_int Try.underlying3) (opensFs_cons (k := 1) (s := 1) rfl (by kernel_rfl) (opens_int Try.underlying3) (opensFs_cons (k := 2) (s := 1) rfl (by kernel_rfl) (opens_slice (ag := true) Try.underlying77 (opens_struct Try.underlying124 (n := 2) (by kernel_rfl) (opensFs_cons (k := 0) (s := 1) rfl (by kernel_rfl) (opens_int Try.underlying3) (opensFs_cons (k := 1) (s := 1) rfl (by kernel_rfl) (opens_int Try.underlying3) (opensFs_nil)))) (sz := 2) (by kernel_rfl) (by decide) (by intro zs h; rfl)) (opensFs_nil))))) (sz := 3) (by kernel_rfl) (by decide) (by intro zs h; rfl)) (opensFs_nil)))))))))))) Try.underlying28 rfl (hval 0 28 v0 rfl rfl) h0
  replace R0 : R (gh0 W) W (.agg [.i .i64 n0_0, .i .i64 n0_1, .i .i64 n0_2, .i .i64 n0_3, .i .i64 n0_4, .i .i64 n0_5, .i .i64 n0_6, .sl 2 nil0_7 xs0_7, .sl 2 nil0_8 xs0_8, .sl 3 nil0_9 xs0_9]) v0 := R0
  obtain ⟨l0_7, el0_7, pl0_7⟩ := lift_list (f := L.linkA) (p := fun y => True) (xs := xs0_7) (fun x hx => by (obtain ⟨_, ⟨_, _, rfl, ⟨n0_7_e_0, rfl, w0_7_e_0⟩, ⟨_, _, rfl, ⟨n0_7_e_1, rfl, w0_7_e_1⟩, rfl⟩⟩, rfl⟩ := hx0_7 x hx; exact ⟨⟨n0_7_e_0, n0_7_e_1⟩, rfl, trivial⟩))
  subst el0_7
  have hq0_7 := hl0_7
  rw [List.length_map] at hq0_7
  have hz0_7 : nil0_7 = true → l0_7 = [] := fun h => List.map_eq_nil_iff.1 (hn0_7 h)
  obtain ⟨l0_8, el0_8, pl0_8⟩ := lift_list (f := L.linkA) (p := fun y => True) (xs := xs0_8) (fun x hx => by (obtain ⟨_, ⟨_, _, rfl, ⟨n0_8_e_0, rfl, w0_8_e_0⟩, ⟨_, _, rfl, ⟨n0_8_e_1, rfl, w0_8_e_1⟩, rfl⟩⟩, rfl⟩ := hx0_8 x hx; exact ⟨⟨n0_8_e_0, n0_8_e_1⟩, rfl, trivial⟩))
  subst el0_8
  have hq0_8 := hl0_8
  rw [List.length_map] at hq0_8
  have hz0_8 : nil0_8 = true → l0_8 = [] := fun h => List.map_eq_nil_iff.1 (hn0_8 h)
  obtain ⟨l0_9, el0_9, pl0_9⟩ := lift_list (f := L.lsaA) (p := fun y => y.ls.length ≤ maxLen ∧ (y.nil = true → y.ls = [])) (xs := xs0_9) (fun x hx => by (obtain ⟨_, ⟨_, _, rfl, ⟨n0_9_e_0, rfl, w0_9_e_0⟩, ⟨_, _, rfl, ⟨n0_9_e_1, rfl, w0_9_e_1⟩, ⟨_, _, rfl, ⟨nil0_9_e_2, xs0_9_e_2, rfl, hn0_9_e_2, hl0_9_e_2, hx0_9_e_2⟩, rfl⟩⟩⟩, rfl⟩ := hx0_9 x hx; obtain ⟨l0_9_e_2, el0_9_e_2, pl0_9_e_2⟩ := lift_list (f := L.linkA) (p := fun y => True) (xs := xs0_9_e_2) (fun x hx => by (obtain ⟨_, ⟨_, _, rfl, ⟨n0_9_e_2_e_0, rfl, w0_9_e_2_e_0⟩, ⟨_, _, rfl, ⟨n0_9_e_2_e_1, rfl, w0_9_e_2_e_1⟩, rfl⟩⟩, rfl⟩ := hx0_9_e_2 x hx; exact ⟨⟨n0_9_e_2_e_0, n0_9_e_2_e_1⟩, rfl, trivial⟩)); subst el0_9_e_2; have hq0_9_e_2 := hl0_9_e_2; rw [List.length_map] at hq0_9_e_2; have hz0_9_e_2 : nil0_9_e_2 = true → l0_9_e_2 = [] := fun h => List.map_eq_nil_iff.1 (hn0_9_e_2 h); exact ⟨⟨n0_9_e_0, n0_9_e_1, nil0_9_e_2, l0_9_e_2⟩, rfl, ⟨hq0_9_e_2, hz0_9_e_2⟩⟩))
  subst el0_9
  have hq0_9 := hl0_9
  rw [List.length_map] at hq0_9
  have hz0_9 : nil0_9 = true → l0_9 = [] := fun h => List.map_eq_nil_iff.1 (hn0_9 h)
  obtain ⟨_, ⟨_, _, rfl, ⟨n1_0, rfl, w1_0⟩, ⟨_, _, rfl, ⟨n1_1, rfl, w1_1⟩, ⟨_, _, rfl, ⟨n1_2, rfl, w1_2⟩, ⟨_, _, rfl, ⟨n1_3, rfl, w1_3⟩, ⟨_, _, rfl, ⟨n1_4, rfl, w1_4⟩, ⟨_, _, rfl, ⟨n1_5, rfl, w1_5⟩, ⟨_, _, rfl, ⟨n1_6, rfl, w1_6⟩, ⟨_, _, rfl, ⟨nil1_7, xs1_7, rfl, hn1_7, hl1_7, hx1_7⟩, ⟨_, _, rfl, ⟨nil1_8, xs1_8, rfl, hn1_8, hl1_8, hx1_8⟩, ⟨_, _, rfl, ⟨nil1_9, xs1_9, rfl, hn1_9, hl1_9, hx1_9⟩, rfl⟩⟩⟩⟩⟩⟩⟩⟩⟩⟩, R1⟩ := open_agg (opens_struct Try.underlying28 (n := 10) (by kernel_rfl) (opensFs_cons (k := 0) (s := 1) rfl (by kernel_rfl) (opens_int Try.underlying3) (opensFs_cons (k := 1) (s := 1) rfl (by kernel_rfl) (opens_int Try.underlying3) (opensFs_cons (k := 2) (s := 1) rfl (by kernel_rfl) (opens_int Try.underlying3) (opensFs_cons (k := 3) (s := 1) rfl (by kernel_rfl) (opens_int Try.underlying3) (opensFs_cons (k := 4) (s := 1) rfl (by kernel_rfl) (opens_int Try.underlying3) (opensFs_cons (k := 5) (s := 1) rfl (by kernel_rfl) (opens_int Try.underlying3) (opensFs_cons (k := 6) (s := 1) rfl (by kernel_rfl) (opens_int Try.underlying3) (opensFs_cons (k := 7) (s := 1) rfl (by kernel_rfl) (opens_slice (ag := true) Try.underlying24 (opens_struct Try.underlying74 (n := 2) (by kernel_rfl) (opensFs_cons (k := 0) (s := 1) rfl (by kernel_rfl) (opens_int Try.underlying3) (opensFs_cons (k := 1) (s := 1) rfl (by kernel_rfl) (opens_int Try.underlying3) (opensFs_nil)))) (sz := 2) (by kernel_rfl) (by decide) (by intro zs h; rfl)) (opensFs_cons (k := 8) (s := 1) rfl (by kernel_rfl) (opens_slice (ag := true) Try.underlying25 (opens_struct Try.underlying76 (n := 2) (by kernel_rfl) (opensFs_cons (k := 0) (s := 1) rfl (by kernel_rfl) (opens_int Try.underlying3) (opensFs_cons (k := 1) (s := 1) rfl (by kernel_rfl) (opens_int Try.underlying3) (opensFs_nil)))) (sz := 2) (by kernel_rfl) (by decide) (by intro zs h; rfl)) (opensFs_cons (k := 9) (s := 1) rfl (by kernel_rfl) (opens_slice (ag := true) Try.underlying26 (opens_struct Try.underlying79 (n := 3) (by kernel_rfl) (opensFs_cons (k := 0) (s := 1) rfl (by kernel_rfl) (opens_int Try.underlying3) (opensFs_cons (k := 1) (s := 1) rfl (by kernel_rfl) (opens_int Try.underlying3) (opensFs_cons (k := 2) (s := 1) rfl (by kernel_rfl) (opens_slice (ag := true) Try.underlying77 (opens_struct Try.underlying124 (n := 2) (by kernel_rfl) (opensFs_cons (k := 0) (s := 1) rfl (by kernel_rfl) (opens_int Try.underlying3) (opensFs_cons (k := 1) (s := 1) rfl (by kernel_rfl) (opens_int Try.underlying3) (opensFs_nil)))) (sz := 2) (by kernel_rfl) (by decide) (by intro zs h; rfl)) (opensFs_nil))))) (sz := 3) (by kernel_rfl) (by decide) (by intro zs h; rfl)) (opensFs_nil)))))))))))) Try.underlying28 rfl (hval 1 28 v1 rfl rfl) h1
  replace R1 : R (gh0 W) W (.agg [.i .i64 n1_0, .i .i64 n1_1, .i .i64 n1_2, .i .i64 n1_3, .i .i64 n1_4, .i .i64 n1_5, .i .i64 n1_6, .sl 2 nil1_7 xs1_7, .sl 2 nil1_8 xs1_8, .sl 3 nil1_9 xs1_9]) v1 := R1
  obtain ⟨l1_7, el1_7, pl1_7⟩ := lift_list (f := L.linkA) (p := fun y => True) (xs := xs1_7) (fun x hx => by (obtain ⟨_, ⟨_, _, rfl, ⟨n1_7_e_0, rfl, w1_7_e_0⟩, ⟨_, _, rfl, ⟨n1_7_e_1, rfl, w1_7_e_1⟩, rfl⟩⟩, rfl⟩ := hx1_7 x hx; exact ⟨⟨n1_7_e_0, n1_7_e_1⟩, rfl, trivial⟩))
  subst el1_7
  have hq1_7 := hl1_7
  rw [List.length_map] at hq1_7
  have hz1_7 : nil1_7 = true → l1_7 = [] := fun h => List.map_eq_nil_iff.1 (hn1_7 h)
  obtain ⟨l1_8, el1_8, pl1_8⟩ := lift_list (f := L.linkA) (p := fun y => True) (xs := xs1_8) (fun x hx => by (obtain ⟨_, ⟨_, _, rfl, ⟨n1_8_e_0, rfl, w1_8_e_0⟩, ⟨_, _, rfl, ⟨n1_8_e_1, rfl, w1_8_e_1⟩, rfl⟩⟩, rfl⟩ := hx1_8 x hx; exact ⟨⟨n1_8_e_0, n1_8_e_1⟩, rfl, trivial⟩))
  subst el1_8
  have hq1_8 := hl1_8
  rw [List.length_map] at hq1_8
  have hz1_8 : nil1_8 = true → l1_8 = [] := fun h => List.map_eq_nil_iff.1 (hn1_8 h)
  obtain ⟨l1_9, el1_9, pl1_9⟩ := lift_list (f := L.lsaA) (p := fun y => y.ls.length ≤ maxLen ∧ (y.nil = true → y.ls = [])) (xs := xs1_9) (fun x hx => by (obtain ⟨_, ⟨_, _, rfl, ⟨n1_9_e_0, rfl, w1_9_e_0⟩, ⟨_, _, rfl, ⟨n1_9_e_1, rfl, w1_9_e_1⟩, ⟨_, _, rfl, ⟨nil1_9_e_2, xs1_9_e_2, rfl, hn1_9_e_2, hl1_9_e_2, hx1_9_e_2⟩, rfl⟩⟩⟩, rfl⟩ := hx1_9 x hx; obtain ⟨l1_9_e_2, el1_9_e_2, pl1_9_e_2⟩ := lift_list (f := L.linkA) (p := fun y => True) (xs := xs1_9_e_2) (fun x hx => by (obtain ⟨_, ⟨_, _, rfl, ⟨n1_9_e_2_e_0, rfl, w1_9_e_2_e_0⟩, ⟨_, _, rfl, ⟨n1_9_e_2_e_1, rfl, w1_9_e_2_e_1⟩, rfl⟩⟩, rfl⟩ := hx1_9_e_2 x hx; exact ⟨⟨n1_9_e_2_e_0, n1_9_e_2_e_1⟩, rfl, trivial⟩)); subst el1_9_e_2; have hq1_9_e_2 := hl1_9_e_2; rw [List.length_map] at hq1_9_e_2; have hz1_9_e_2 : nil1_9_e_2 = true → l1_9_e_2 = [] := fun h => List.map_eq_nil_iff.1 (hn1_9_e_2 h); exact ⟨⟨n1_9_e_0, n1_9_e_1, nil1_9_e_2, l1_9_e_2⟩, rfl, ⟨hq1_9_e_2, hz1_9_e_2⟩⟩))
  subst el1_9
  have hq1_9 := hl1_9
  rw [List.length_map] at hq1_9
  have hz1_9 : nil1_9 = true → l1_9 = [] := fun h => List.map_eq_nil_iff.1 (hn1_9 h)
  have lt0 : ∀ x ∈ p0, x.block < W.heap.size := by obtain ⟨m, hm⟩ := h0; exact DataW.trod_lt m _ _ _ hm
  have lt1 : ∀ x ∈ p1, x.block < W.heap.size := by obtain ⟨m, hm⟩ := h1; exact DataW.trod_lt m _ _ _ hm
  clear hA0 hval0 hsz0
  have good := P.good_PacketPuts ⟨n0_0, n0_1, n0_2, n0_3, n0_4, n0_5, n0_6, nil0_7, l0_7, nil0_8, l0_8, nil0_9, l0_9⟩ (by have := hq0_7; unfold maxLen at this; omega) (by have := hq0_8; unfold maxLen at this; omega) (by have := hq0_9; unfold maxLen at this; omega) (fun z hz => by have := (pl0_9 z hz).1; unfold maxLen at this; omega) ⟨n1_0, n1_1, n1_2, n1_3, n1_4, n1_5, n1_6, nil1_7, l1_7, nil1_8, l1_8, nil1_9, l1_9⟩ (by have := hq1_7; unfold maxLen at this; omega) (by have := hq1_8; unfold maxLen at this; omega) (by have := hq1_9; unfold maxLen at this; omega) (fun z hz => by have := (pl1_9 z hz).1; unfold maxLen at this; omega)
  refine (calls_of_good (avs := [.agg [.i .i64 n0_0, .i .i64 n0_1, .i .i64 n0_2, .i .i64 n0_3, .i .i64 n0_4, .i .i64 n0_5, .i .i64 n0_6, .sl 2 nil0_7 (l0_7.map L.linkA), .sl 2 nil0_8 (l0_8.map L.linkA), .sl 3 nil0_9 (l0_9.map L.lsaA)], .agg [.i .i64 n1_0, .i .i64 n1_1, .i .i64 n1_2, .i .i64 n1_3, .i .i64 n1_4, .i .i64 n1_5, .i .i64 n1_6, .sl 2 nil1_7 (l1_7.map L.linkA), .sl 2 nil1_8 (l1_8.map L.linkA), .sl 3 nil1_9 (l1_9.map L.lsaA)]]) (vs := [v0, v1]) good rfl (fun j a v ha hv => ?_)).mono fun e W2 ⟨he, bel⟩ => ?_
  · match j, ha, hv with
    | 0, ha, hv => simp at ha hv; subst ha hv; exact R0
    | 1, ha, hv => simp at ha hv; subst ha hv; exact R1
    | k + 2, ha, hv => simp at ha
  · subst he
    exact ⟨_, rfl, _, _, _, [], _, [], hW2, trodAll_mk1 (shut_bool Try.underlying4 _), (trodAll_cons_mk (Below.trod laidOut (by kernel_rfl) (of_decide_eq_true (by kernel_rfl)) h0 bel lt0) (trodAll_cons_mk (Below.trod laidOut (by kernel_rfl) (of_decide_eq_true (by kernel_rfl)) h1 bel lt1) trodAll_mk0)), rfl, bel.frame _, fun h => by cases h⟩
theorem over : Rows.packetPutsRow.holds Try.pinned (OpenSpec.ofChange Rows.packetPutsSpec) :=
  OpenClaim.holds_of_wide 8 Try.f8 rfl rfl rfl rfl rfl rfl rfl ⟨rfl, rfl, rfl, rfl, rfl⟩ rfl rfl rfl rfl rfl (by kernel_rfl) Try.func8 (by kernel_rfl)
    (of_decide_eq_true (by kernel_rfl)) (by unfold Func.isWrapper; first | (rw [if_pos (by decide +kernel)]; kernel_rfl) | (rw [if_neg (by decide +kernel)]; exact ⟨rfl, rfl⟩))
    (fun os started H enc _ => lifted os started H enc)
theorem proved : Rows.PacketPutsSaid := over
end Go.Proofs.Ytblgcekomnnfmaa.packetPuts
namespace Go.Proofs.Ytblgcekomnnfmaa
/-- The row, under a short name, for the claim. -/
theorem packetPuts_holds : Rows.PacketPutsSaid := packetPuts.proved
end Go.Proofs.Ytblgcekomnnfmaa
