/- PacketTurns: the law returns true for every input, and each argument reads behind the call as it read before. No further condition. -/
import Derived.Test.YtblgcekomnnfmaaRows
import Derived.Test.YtblgcekomnnfmaagLPacketTurns
import Derived.WalkKit
import Derived.ProofKit
import Derived.OpenShut
import Derived.ShutString
import Derived.ChangeOld
import Derived.Below
import Derived.SizedLaws
set_option linter.unusedSimpArgs false
set_option linter.unusedVariables false
set_option linter.constructorNameAsVariable false
namespace Go.Proofs.Ytblgcekomnnfmaa.packetTurns
open Go.ChangeShapes Go.WideShapes Go.ChangeAt Go.RowKit Go.Vai
open Go.ChangeMaps (open_string shut_string)
set_option linter.unusedVariables false
theorem own : ownKnob Try.prog.godebug = none := by kernel_rfl
theorem laidOut : laidOutB Try.prog = true := by kernel_rfl
set_option maxRecDepth 100000 in
theorem lifted (os : Os) (started : os.Started) (H : Type) (enc : TypeId × Value → H) :
    ReturnsInHanded {} Try.checked os 4 .any (Rows.packetTurnsSpec.pre6 enc Try.prog Try.f4 Rows.packetTurnsRow.domain false) (Rows.packetTurnsSpec.post enc Try.prog Try.f4 false true false false) := by
  refine returnsInHanded_of_change_sized (C := Try.checked) own started (by kernel_rfl) Try.func4
    (ChangeSpec.witness6 (enc := enc) (C := Try.checked) false ⟨#[], #[.agg #[.int .i64 0, .int .i64 0, .int .i64 0, .int .i64 0, .int .i64 0, .int .i64 0, .int .i64 0, .slice none 0 0, .slice none 0 0, .slice none 0 0], .int .u16 0, .int .u32 0], []⟩ 8 (by kernel_rfl) (by kernel_rfl) (by kernel_rfl) (by kernel_rfl)) ?_
  intro W base args ds gs before hval0 hW hcnd hsz0 _
  have hval : ∀ (j : Nat) t v, Try.f4.params[j]? = some t → args[j]? = some v → Value.okWide Try.prog W .any base t v := hval0
  have hW2 := hW
  obtain ⟨p, q, hA0, hV, rfl, hfz, hnd⟩ := hW
  have hA : DataW.TrodAll enc Try.prog W 0 (fun _ => true) true Try.f4.params.toList args.toList ds p := hA0
  rw [Try.params4] at hA hval
  obtain ⟨v0, vs0, d0, ds0, p0, q0, hargs, rfl, rfl, h0, r0⟩ := trodAll_cons hA
  obtain ⟨v1, vs1, d1, ds1, p1, q1, rfl, rfl, rfl, h1, r1⟩ := trodAll_cons r0
  obtain ⟨v2, vs2, d2, ds2, p2, q2, rfl, rfl, rfl, h2, r2⟩ := trodAll_cons r1
  obtain ⟨rfl, rfl, rfl⟩ := trodAll_nil r2
  obtain rfl : args = #[v0, v1, v2] := by cases args; simp_all
  obtain ⟨rfl, rfl⟩ := trodVars_none hV
  obtain ⟨_, ⟨_, _, rfl, ⟨n0_0, rfl, w0_0⟩, ⟨_, _, rfl, ⟨n0_1, rfl, w0_1⟩, ⟨_, _, rfl, ⟨n0_2, rfl, w0_2⟩, ⟨_, _, rfl, ⟨n0_3, rfl, w0_3⟩, ⟨_, _, rfl, ⟨n0_4, rfl, w0_4⟩, ⟨_, _, rfl, ⟨n0_5, rfl, w0_5⟩, ⟨_, _, rfl, ⟨n0_6, rfl, w0_6⟩, ⟨_, _, rfl, ⟨nil0_7, xs0_7, rfl, hn0_7, hl0_7, hx0_7⟩, ⟨_, _, rfl, ⟨nil0_8, xs0_8, rfl, hn0_8, hl0_8, hx0_8⟩, ⟨_, _, rfl, ⟨nil0_9, xs0_9, rfl, hn0_9, hl0_9, hx0_9⟩, rfl⟩⟩⟩⟩⟩⟩⟩⟩⟩⟩, R0⟩ := open_agg (opens_struct Try.underlying28 (n := 10) (by kernel_rfl) (opensFs_cons (k := 0) (s := 1) rfl (by kernel_rfl) (opens_int Try.underlying3) (opensFs_cons (k := 1) (s := 1) rfl (by kernel_rfl) (opens_int Try.underlying3) (opensFs_cons (k := 2) (s := 1) rfl (by kernel_rfl) (opens_int Try.underlying3) (opensFs_cons (k := 3) (s := 1) rfl (by kernel_rfl) (opens_int Try.underlying3) (opensFs_cons (k := 4) (s := 1) rfl (by kernel_rfl) (opens_int Try.underlying3) (opensFs_cons (k := 5) (s := 1) rfl (by kernel_rfl) (opens_int Try.underlying3) (opensFs_cons (k := 6) (s := 1) rfl (by kernel_rfl) (opens_int Try.underlying3) (opensFs_cons (k := 7) (s := 1) rfl (by kernel_rfl) (opens_slice (ag := true) Try.underlying24 (opens_struct Try.underlying74 (n := 2) (by kernel_rfl) (opensFs_cons (k := 0) (s := 1) rfl (by kernel_rfl) (opens_int Try.underlying3) (opensFs_cons (k := 1) (s := 1) rfl (by kernel_rfl) (opens_int Try.underlying3) (opensFs_nil)))) (sz := 2) (by kernel_rfl) (by decide) (by intro zs h; rfl)) (opensFs_cons (k := 8) (s := 1) rfl (by kernel_rfl) (opens_slice (ag := true) Try.underlying25 (opens_struct Try.underlying76 (n := 2) (by kernel_rfl) (opensFs_cons (k := 0) (s := 1) rfl (by kernel_rfl) (opens_int Try.underlying3) (opensFs_cons (k := 1) (s := 1) rfl (by kernel_rfl) (opens_int Try.underlying3) (opensFs_nil)))) (sz := 2) (by kernel_rfl) (by decide) (by intro zs h; rfl)) (opensFs_cons (k := 9) (s := 1) rfl (by kernel_rfl) (opens_slice (ag := true) Try.underlying26 (opens_struct Try.underlying79 (n := 3) (by kernel_rfl) (opensFs_cons (k := 0) (s := 1) rfl (by kernel_rfl) (opens_int Try.underlying3) (opensFs_cons (k := 1) (s := 1) rfl (by kernel_rfl) (opens_int Try.underlying3) (opensFs_cons (k := 2) (s := 1) rfl (by kernel_rfl) (opens_slice (ag := true) Try.underlying77 (opens_struct Try.underlying124 (n := 2) (by kernel_rfl) (opensFs_cons (k := 0) (s := 1) rfl (by kernel_rfl) (opens_int Try.underlying3) (opensFs_cons (k := 1) (s := 1) rfl (by kernel_rfl) (opens_int Try.underlying3) (opensFs_nil)))) (sz := 2) (by kernel_rfl) (by decide) (by intro zs h; rfl)) (opensFs_nil))))) (sz := 3) (by kernel_rfl) (by decide) (by intro zs h; rfl)) (opensFs_nil)))))))))))) Try.underlying28 rfl (hval 0 28 v0 rfl rfl) h0
  replace R0 : R (gh0 W) W (.agg [.i .i64 n0_0, .i .i64 n0_1, .i .i64 n0_2, .i .i64 n0_3, .i .i64 n0_4, .i .i64 n0_5, .i .i64 n0_6, .sl 2 nil0_7 xs0_7, .sl 2 nil0_8 xs0_8, .sl 3 nil0_9 xs0_9]) v0 := R0
  obtain ⟨l0_7, el0_7, pl0_7⟩ := lift_list (f := L.linkA) (p := fun y => True) (xs := xs0_7) (fun x hx => by (obtain ⟨_, ⟨_, _, rfl, ⟨n0_7_e_0, rfl, w0_7_e_0⟩, ⟨_, _, rfl, ⟨n0_7_e_1, rfl, w0_7_e_1⟩, rfl⟩⟩, rfl⟩ := hx0_7 x hx; exact ⟨⟨n0_7_e_0, n0_7_e_1⟩, rfl, trivial⟩))
  subst el0_7
  have hq0_7 := hl0_7
  rw [List.length_map] at hq0_7
  have hz0_7 : nil0_7 = true → l0_7 = [] := fun h => List.map_eq_nil_iff.1 (hn0_7 h)
  obtain ⟨l0_8, el0_8, pl0_8⟩ := lift_list (f := L.linkA) (p := fun y => True) (xs := xs0_8) (fun x hx => by (obtain ⟨_, ⟨_, _, rfl, ⟨n0_8_e_0, rfl, w0_8_e_0⟩, ⟨_, _, rfl, ⟨n0_8_e_1, rfl, w0_8_e_1⟩, rfl⟩⟩, rfl⟩ := hx0_8 x hx; exact ⟨⟨n0_8_e_0, n0_8_e_1⟩, rfl, trivial⟩))
  subst el0_8
  have hq0_8 := hl0_8
  rw [List.length_map] at hq0_8
  have hz0_8 : nil0_8 = true → l0_8 = [] := fun h => List.map_eq_nil_iff.1 (hn0_8 h)
  obtain ⟨l0_9, el0_9, pl0_9⟩ := lift_list (f := L.lsaA) (p := fun y => y.ls.length ≤ maxLen ∧ (y.nil = true → y.ls = [])) (xs := xs0_9) (fun x hx => by (obtain ⟨_, ⟨_, _, rfl, ⟨n0_9_e_0, rfl, w0_9_e_0⟩, ⟨_, _, rfl, ⟨n0_9_e_1, rfl, w0_9_e_1⟩, ⟨_, _, rfl, ⟨nil0_9_e_2, xs0_9_e_2, rfl, hn0_9_e_2, hl0_9_e_2, hx0_9_e_2⟩, rfl⟩⟩⟩, rfl⟩ := hx0_9 x hx; obtain ⟨l0_9_e_2, el0_9_e_2, pl0_9_e_2⟩ := lift_list (f := L.linkA) (p := fun y => True) (xs := xs0_9_e_2) (fun x hx => by (obtain ⟨_, ⟨_, _, rfl, ⟨n0_9_e_2_e_0, rfl, w0_9_e_2_e_0⟩, ⟨_, _, rfl, ⟨n0_9_e_2_e_1, rfl, w0_9_e_2_e_1⟩, rfl⟩⟩, rfl⟩ := hx0_9_e_2 x hx; exact ⟨⟨n0_9_e_2_e_0, n0_9_e_2_e_1⟩, rfl, trivial⟩)); subst el0_9_e_2; have hq0_9_e_2 := hl0_9_e_2; rw [List.length_map] at hq0_9_e_2; have hz0_9_e_2 : nil0_9_e_2 = true → l0_9_e_2 = [] := fun h => List.map_eq_nil_iff.1 (hn0_9_e_2 h); exact ⟨⟨n0_9_e_0, n0_9_e_1, nil0_9_e_2, l0_9_e_2⟩, rfl, ⟨hq0_9_e_2, hz0_9_e_2⟩⟩))
  subst el0_9
  have hq0_9 := hl0_9
  rw [List.length_map] at hq0_9
  have hz0_9 : nil0_9 = true → l0_9 = [] := fun h => List.map_eq_nil_iff.1 (hn0_9 h)
  obtain ⟨a1, ⟨n1, e1, w1⟩, R1⟩ := open_one (opens_int Try.underlying39) Try.underlying39 rfl (hval 1 39 v1 rfl rfl) h1
  obtain rfl : a1 = .i .u16 n1 := by simpa using e1
  obtain ⟨a2, ⟨n2, e2, w2⟩, R2⟩ := open_one (opens_int Try.underlying40) Try.underlying40 rfl (hval 2 40 v2 rfl rfl) h2
  obtain rfl : a2 = .i .u32 n2 := by simpa using e2
  obtain ⟨X2, rfl⟩ := wf_u32 w2
  have lt0 : ∀ x ∈ p0, x.block < W.heap.size := by obtain ⟨m, hm⟩ := h0; exact DataW.trod_lt m _ _ _ hm
  have lt1 : ∀ x ∈ p1, x.block < W.heap.size := by obtain ⟨m, hm⟩ := h1; exact DataW.trod_lt m _ _ _ hm
  have lt2 : ∀ x ∈ p2, x.block < W.heap.size := by obtain ⟨m, hm⟩ := h2; exact DataW.trod_lt m _ _ _ hm
  clear hA0 hval0 hsz0
  have good := P.good_PacketTurns ⟨n0_0, n0_1, n0_2, n0_3, n0_4, n0_5, n0_6, nil0_7, l0_7, nil0_8, l0_8, nil0_9, l0_9⟩ (by have := hq0_7; unfold maxLen at this; omega) (by have := hq0_8; unfold maxLen at this; omega) (by have := hq0_9; unfold maxLen at this; omega) (fun z hz => by have := (pl0_9 z hz).1; unfold maxLen at this; omega) n1 X2 (wf_u16 w1)
  refine (calls_of_good (avs := [.agg [.i .i64 n0_0, .i .i64 n0_1, .i .i64 n0_2, .i .i64 n0_3, .i .i64 n0_4, .i .i64 n0_5, .i .i64 n0_6, .sl 2 nil0_7 (l0_7.map L.linkA), .sl 2 nil0_8 (l0_8.map L.linkA), .sl 3 nil0_9 (l0_9.map L.lsaA)], .i .u16 n1, .i .u32 (X2.toNat : Int)]) (vs := [v0, v1, v2]) good rfl (fun j a v ha hv => ?_)).mono fun e W2 ⟨he, bel⟩ => ?_
  · match j, ha, hv with
    | 0, ha, hv => simp at ha hv; subst ha hv; exact R0
    | 1, ha, hv => simp at ha hv; subst ha hv; exact R1
    | 2, ha, hv => simp at ha hv; subst ha hv; exact R2
    | k + 3, ha, hv => simp at ha
  · subst he
    exact ⟨_, rfl, _, _, _, [], _, [], hW2, trodAll_mk1 (shut_bool Try.underlying4 _), (trodAll_cons_mk (Below.trod laidOut (by kernel_rfl) (of_decide_eq_true (by kernel_rfl)) h0 bel lt0) (trodAll_cons_mk (Below.trod laidOut (by kernel_rfl) (of_decide_eq_true (by kernel_rfl)) h1 bel lt1) (trodAll_cons_mk (Below.trod laidOut (by kernel_rfl) (of_decide_eq_true (by kernel_rfl)) h2 bel lt2) trodAll_mk0))), rfl, bel.frame _, fun h => by cases h⟩
theorem over : Rows.packetTurnsRow.holds Try.pinned (OpenSpec.ofChange Rows.packetTurnsSpec) :=
  OpenClaim.holds_of_wide 4 Try.f4 rfl rfl rfl rfl rfl rfl rfl ⟨rfl, rfl, rfl, rfl, rfl⟩ rfl rfl rfl rfl rfl (by kernel_rfl) Try.func4 (by kernel_rfl)
    (of_decide_eq_true (by kernel_rfl)) (by unfold Func.isWrapper; first | (rw [if_pos (by decide +kernel)]; kernel_rfl) | (rw [if_neg (by decide +kernel)]; exact ⟨rfl, rfl⟩))
    (fun os started H enc _ => lifted os started H enc)
theorem proved : Rows.PacketTurnsSaid := over
end Go.Proofs.Ytblgcekomnnfmaa.packetTurns
namespace Go.Proofs.Ytblgcekomnnfmaa
/-- The row, under a short name, for the claim. -/
theorem packetTurns_holds : Rows.PacketTurnsSaid := packetTurns.proved
end Go.Proofs.Ytblgcekomnnfmaa
