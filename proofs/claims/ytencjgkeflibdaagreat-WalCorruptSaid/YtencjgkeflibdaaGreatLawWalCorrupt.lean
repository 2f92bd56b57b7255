/- WalCorrupt: the law returns true for every input, and each argument reads behind the call as it read before. No further condition. -/
import Derived.Test.YtencjgkeflibdaaGreatRows
import Derived.Test.YtencjgkeflibdaaGreatwLWalCorrupt
import Derived.WalkKit
import Derived.ProofKit
import Derived.OpenShut
import Derived.ShutString
import Derived.ChangeOld
import Derived.Below
import Derived.SizedLaws
set_option linter.unusedSimpArgs false
set_option linter.unusedVariables false
namespace Go.Proofs.YtencjgkeflibdaaGreat.walCorrupt
open Go.ChangeShapes Go.WideShapes Go.ChangeAt Go.RowKit Go.Vai
open Go.ChangeMaps (open_string shut_string)
set_option linter.unusedVariables false
theorem own : ownKnob Tryz.prog.godebug = none := by kernel_rfl
theorem laidOut : laidOutB Tryz.prog = true := by kernel_rfl
set_option maxRecDepth 100000 in
theorem lifted (os : Os) (started : os.Started) (H : Type) (enc : TypeId × Value → H) :
  ReturnsInHanded {} Tryz.checked os 3 .any (Rows.walCorruptSpec.pre6 enc Tryz.prog Tryz.f3 Rows.walCorruptRow.domain false) (Rows.walCorruptSpec.post enc Tryz.prog Tryz.f3 false true false false) := by
 refine returnsInHanded_of_change_sized (C := Tryz.checked) own started (by kernel_rfl) Tryz.func3
  (ChangeSpec.witness6 (enc := enc) (C := Tryz.checked) false ⟨#[], #[.slice none 0 0, .int .u8 0], []⟩ 8 (by kernel_rfl) (by kernel_rfl) (by kernel_rfl) (by kernel_rfl)) ?_
 intro W base args ds gs before hval0 hW hcnd hsz0 _
 have hval : ∀ (j : Nat) t v, Tryz.f3.params[j]? = some t → args[j]? = some v → Value.okWide Tryz.prog W .any base t v := hval0
 have hW2 := hW
 obtain ⟨p, q, hA0, hV, rfl, hfz, hnd⟩ := hW
 have hA : DataW.TrodAll enc Tryz.prog W 0 (fun _ => true) true Tryz.f3.params.toList args.toList ds p := hA0
 rw [Tryz.params3] at hA hval
 obtain ⟨v0, vs0, d0, ds0, p0, q0, hargs, rfl, rfl, h0, r0⟩ := trodAll_cons hA
 obtain ⟨v1, vs1, d1, ds1, p1, q1, rfl, rfl, rfl, h1, r1⟩ := trodAll_cons r0
 obtain ⟨rfl, rfl, rfl⟩ := trodAll_nil r1
 obtain rfl : args = #[v0, v1] := by cases args; simp_all
 obtain ⟨rfl, rfl⟩ := trodVars_none hV
 obtain ⟨a0, ⟨nil0, l0, e0, hl0, hz0⟩, R0⟩ := open_one (opens_bytes2 Tryz.underlying22 Tryz.underlying5 (by kernel_rfl)) Tryz.underlying22 rfl (hval 0 22 v0 rfl rfl) h0
 obtain rfl : a0 = .sl 1 nil0 (bsl l0) := by simpa using e0
 obtain ⟨a1, ⟨n1, e1, w1⟩, R1⟩ := open_one (opens_int Tryz.underlying5) Tryz.underlying5 rfl (hval 1 5 v1 rfl rfl) h1
 obtain rfl : a1 = .i .u8 n1 := by simpa using e1
 obtain ⟨X1, rfl⟩ := WK.wf_u8b w1
 have lt0 : ∀ x ∈ p0, x.block < W.heap.size := by obtain ⟨m, hm⟩ := h0; exact DataW.trod_lt m _ _ _ hm
 have lt1 : ∀ x ∈ p1, x.block < W.heap.size := by obtain ⟨m, hm⟩ := h1; exact DataW.trod_lt m _ _ _ hm
 clear hA0 hval0 hsz0
 have good := WK.good_WalCorrupt nil0 l0 (by have := hl0; unfold maxLen at this; omega) X1
 refine (calls_of_good (avs := [.sl 1 nil0 (bsl l0), .i .u8 (X1.toNat : Int)]) (vs := [v0, v1]) good rfl (fun j a v ha hv => ?_)).mono fun e W2 ⟨he, bel⟩ => ?_
 ·match j, ha, hv with
  | 0, ha, hv => simp at ha hv; subst ha hv; exact R0
  | 1, ha, hv => simp at ha hv; subst ha hv; exact R1
  | k + 2, ha, hv => simp at ha
 ·subst he
  exact ⟨_, rfl, _, _, _, [], _, [], hW2, trodAll_mk1 (shut_bool Tryz.underlying4 _), (trodAll_cons_mk (Below.trod laidOut (by kernel_rfl) (of_decide_eq_true (by kernel_rfl)) h0 bel lt0) (trodAll_cons_mk (Below.trod laidOut (by kernel_rfl) (of_decide_eq_true (by kernel_rfl)) h1 bel lt1) trodAll_mk0)), rfl, bel.frame _, fun h => by cases h⟩
theorem over : Rows.walCorruptRow.holds Tryz.pinned (OpenSpec.ofChange Rows.walCorruptSpec) :=
 OpenClaim.holds_of_wide 3 Tryz.f3 rfl rfl rfl rfl rfl rfl rfl ⟨rfl, rfl, rfl, rfl, rfl⟩ rfl rfl rfl rfl rfl (by kernel_rfl) Tryz.func3 (by kernel_rfl)
  (of_decide_eq_true (by kernel_rfl)) (by unfold Func.isWrapper; first | (rw [if_pos (by decide +kernel)]; kernel_rfl) | (rw [if_neg (by decide +kernel)]; exact ⟨rfl, rfl⟩))
  (fun os started H enc _ => lifted os started H enc)
theorem proved : Rows.WalCorruptSaid := over
end Go.Proofs.YtencjgkeflibdaaGreat.walCorrupt
namespace Go.Proofs.YtencjgkeflibdaaGreat
theorem walCorrupt_holds : Rows.WalCorruptSaid := walCorrupt.proved
end Go.Proofs.YtencjgkeflibdaaGreat
