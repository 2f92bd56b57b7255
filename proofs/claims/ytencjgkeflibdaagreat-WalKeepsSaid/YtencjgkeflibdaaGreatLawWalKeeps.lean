/- WalKeeps: the law returns true for every input, and each argument reads behind the call as it read before. No further condition. -/
import Derived.Test.YtencjgkeflibdaaGreatRows
import Derived.Test.YtencjgkeflibdaaGreatwLWalKeeps
import Derived.WalkKit
import Derived.ProofKit
import Derived.OpenShut
import Derived.ShutString
import Derived.ChangeOld
import Derived.Below
import Derived.SizedLaws
set_option linter.unusedSimpArgs false
set_option linter.unusedVariables false
namespace Go.Proofs.YtencjgkeflibdaaGreat.walKeeps
open Go.ChangeShapes Go.WideShapes Go.ChangeAt Go.RowKit Go.Vai
open Go.ChangeMaps (open_string shut_string)
set_option linter.unusedVariables false
theorem own : ownKnob Tryz.prog.godebug = none := by kernel_rfl
theorem laidOut : laidOutB Tryz.prog = true := by kernel_rfl
set_option maxRecDepth 100000 in
theorem lifted (os : Os) (started : os.Started) (H : Type) (enc : TypeId × Value → H) :
  ReturnsInHanded {} Tryz.checked os 6 .any (Rows.walKeepsSpec.pre6 enc Tryz.prog Tryz.f6 Rows.walKeepsRow.domain false) (Rows.walKeepsSpec.post enc Tryz.prog Tryz.f6 false true false false) := by
 refine returnsInHanded_of_change_sized (C := Tryz.checked) own started (by kernel_rfl) Tryz.func6
  (ChangeSpec.witness6 (enc := enc) (C := Tryz.checked) false ⟨#[], #[.slice none 0 0], []⟩ 8 (by kernel_rfl) (by kernel_rfl) (by kernel_rfl) (by kernel_rfl)) ?_
 intro W base args ds gs before hval0 hW hcnd hsz0 _
 have hval : ∀ (j : Nat) t v, Tryz.f6.params[j]? = some t → args[j]? = some v → Value.okWide Tryz.prog W .any base t v := hval0
 have hW2 := hW
 obtain ⟨p, q, hA0, hV, rfl, hfz, hnd⟩ := hW
 have hA : DataW.TrodAll enc Tryz.prog W 0 (fun _ => true) true Tryz.f6.params.toList args.toList ds p := hA0
 rw [Tryz.params6] at hA hval
 obtain ⟨v0, vs0, d0, ds0, p0, q0, hargs, rfl, rfl, h0, r0⟩ := trodAll_cons hA
 obtain ⟨rfl, rfl, rfl⟩ := trodAll_nil r0
 obtain rfl : args = #[v0] := by cases args; simp_all
 obtain ⟨rfl, rfl⟩ := trodVars_none hV
 obtain ⟨a0, ⟨nil0, xs0, e0, hn0, hl0, hx0⟩, R0⟩ := open_one (opens_slice (ag := true) Tryz.underlying45 (opens_struct Tryz.underlying50 (n := 4) (by kernel_rfl) (opensFs_cons (k := 0) (s := 1) rfl (by kernel_rfl) (opens_int Tryz.underlying3) (opensFs_cons (k := 1) (s := 1) rfl (by kernel_rfl) (opens_int Tryz.underlying3) (opensFs_cons (k := 2) (s := 1) rfl (by kernel_rfl) (opens_int Tryz.underlying5) (opensFs_cons (k := 3) (s := 1) rfl (by kernel_rfl) (opens_slice (ag := true) Tryz.underlying48 (opens_struct Tryz.underlying104 (n := 2) (by kernel_rfl) (opensFs_cons (k := 0) (s := 1) rfl (by kernel_rfl) (opens_int Tryz.underlying3) (opensFs_cons (k := 1) (s := 1) rfl (by kernel_rfl) (opens_bytes2 Tryz.underlying22 Tryz.underlying5 (by kernel_rfl)) (opensFs_nil)))) (sz := 2) (by kernel_rfl) (by decide) (by intro zs h; rfl)) (opensFs_nil)))))) (sz := 4) (by kernel_rfl) (by decide) (by intro zs h; rfl)) Tryz.underlying45 rfl (hval 0 45 v0 rfl rfl) h0
 obtain rfl : a0 = .sl 4 nil0 xs0 := by simpa using e0
 obtain ⟨l0, el0, pl0⟩ := lift_list (f := W8.act8A) (p := fun y => y.ts.length ≤ maxLen ∧ (y.tn = true → y.ts = []) ∧ (∀ zy ∈ y.ts, zy.b.length ≤ maxLen ∧ (zy.nl = true → zy.b = []))) (xs := xs0) (fun x hx => by (obtain ⟨_, ⟨_, _, rfl, ⟨n0_e_0, rfl, w0_e_0⟩, ⟨_, _, rfl, ⟨n0_e_1, rfl, w0_e_1⟩, ⟨_, _, rfl, ⟨n0_e_2, rfl, w0_e_2⟩, ⟨_, _, rfl, ⟨nil0_e_3, xs0_e_3, rfl, hn0_e_3, hl0_e_3, hx0_e_3⟩, rfl⟩⟩⟩⟩, rfl⟩ := hx0 x hx; obtain ⟨X0_e_2, rfl⟩ := WK.wf_u8b w0_e_2; obtain ⟨l0_e_3, el0_e_3, pl0_e_3⟩ := lift_list (f := DK.tearA) (p := fun y => y.b.length ≤ maxLen ∧ (y.nl = true → y.b = [])) (xs := xs0_e_3) (fun x hx => by (obtain ⟨_, ⟨_, _, rfl, ⟨n0_e_3_e_0, rfl, w0_e_3_e_0⟩, ⟨_, _, rfl, ⟨nil0_e_3_e_1, l0_e_3_e_1, rfl, hl0_e_3_e_1, hz0_e_3_e_1⟩, rfl⟩⟩, rfl⟩ := hx0_e_3 x hx; exact ⟨⟨n0_e_3_e_0, nil0_e_3_e_1, l0_e_3_e_1⟩, rfl, ⟨hl0_e_3_e_1, hz0_e_3_e_1⟩⟩)); subst el0_e_3; have hq0_e_3 := hl0_e_3; rw [List.length_map] at hq0_e_3; have hz0_e_3 : nil0_e_3 = true → l0_e_3 = [] := fun h => List.map_eq_nil_iff.1 (hn0_e_3 h); exact ⟨⟨n0_e_0, n0_e_1, X0_e_2, nil0_e_3, l0_e_3⟩, rfl, ⟨hq0_e_3, hz0_e_3, pl0_e_3⟩⟩))
 subst el0
 have hq0 := hl0
 rw [List.length_map] at hq0
 have hz0 : nil0 = true → l0 = [] := fun h => List.map_eq_nil_iff.1 (hn0 h)
 have lt0 : ∀ x ∈ p0, x.block < W.heap.size := by obtain ⟨m, hm⟩ := h0; exact DataW.trod_lt m _ _ _ hm
 clear hA0 hval0 hsz0
 have good := WK.good_WalKeeps nil0 l0 (by have := hq0; unfold maxLen at this; omega) (fun a ha => ⟨by have := (pl0 a ha).1; unfold maxLen at this; omega, fun t ht => by have := ((pl0 a ha).2.2 t ht).1; unfold maxLen at this; omega⟩)
 refine (calls_of_good (avs := [.sl 4 nil0 (l0.map W8.act8A)]) (vs := [v0]) good rfl (fun j a v ha hv => ?_)).mono fun e W2 ⟨he, bel⟩ => ?_
 ·match j, ha, hv with
  | 0, ha, hv => simp at ha hv; subst ha hv; exact R0
  | k + 1, ha, hv => simp at ha
 ·subst he
  exact ⟨_, rfl, _, _, _, [], _, [], hW2, trodAll_mk1 (shut_bool Tryz.underlying4 _), (trodAll_cons_mk (Below.trod laidOut (by kernel_rfl) (of_decide_eq_true (by kernel_rfl)) h0 bel lt0) trodAll_mk0), rfl, bel.frame _, fun h => by cases h⟩
theorem over : Rows.walKeepsRow.holds Tryz.pinned (OpenSpec.ofChange Rows.walKeepsSpec) :=
 OpenClaim.holds_of_wide 6 Tryz.f6 rfl rfl rfl rfl rfl rfl rfl ⟨rfl, rfl, rfl, rfl, rfl⟩ rfl rfl rfl rfl rfl (by kernel_rfl) Tryz.func6 (by kernel_rfl)
  (of_decide_eq_true (by kernel_rfl)) (by unfold Func.isWrapper; first | (rw [if_pos (by decide +kernel)]; kernel_rfl) | (rw [if_neg (by decide +kernel)]; exact ⟨rfl, rfl⟩))
  (fun os started H enc _ => lifted os started H enc)
theorem proved : Rows.WalKeepsSaid := over
end Go.Proofs.YtencjgkeflibdaaGreat.walKeeps
namespace Go.Proofs.YtencjgkeflibdaaGreat
theorem walKeeps_holds : Rows.WalKeepsSaid := walKeeps.proved
end Go.Proofs.YtencjgkeflibdaaGreat
