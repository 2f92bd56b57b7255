import Derived.Test.YtmjnimnnlogomaaDfPl
set_option linter.unusedSimpArgs false
set_option linter.unusedVariables false
namespace Go.Vai.D
open Go.Vai.I Go.Vai.L
def nz (x : Lsa) : Lsa := ⟨x.o, x.s, true, x.ls⟩
theorem gd_way {l : List Lsa} (h : dbOK l = true) (t : Int) : (gK Lsa.o l t = none ∧ isK Lsa.o l t = false ∧ sqL l t = 0) ∨ ∃ x, gK Lsa.o l t = some x ∧ isK Lsa.o l t = true ∧ sqL l t = x.s ∧ x.o = t ∧ (1 ≤ t ∧ t ≤ 64) ∧ 1 ≤ x.s ∧ x ∈ l := by
 rw [isK_gK]
 cases hg : gK Lsa.o l t with
 | none => exact .inl ⟨rfl, rfl, sqL_none hg⟩
 | some x =>
  have hm := gK_mem hg
  have hb := lsa_bd (db_mem h x hm.1)
  refine .inr ⟨x, rfl, rfl, sqL_some hg, hm.2, ?_, hb.2.1.1, hm.1⟩
  rw [← hm.2]; exact hb.1
theorem gK_rg {f : Nat → Option Lsa} (hf : ∀ i x, f i = some x → x.o = (i : Int) + 1) : Srt Lsa.o (rgF f 64) ∧ ∀ t, gK Lsa.o (rgF f 64) t = if 1 ≤ t ∧ t ≤ (64 : Nat) then f (t - 1).toNat else none := gK_range hf 64
theorem toN {t : Int} (h : 1 ≤ t) : (((t - 1).toNat : Nat) : Int) + 1 = t := by omega
theorem gd_o {l : List Lsa} {t : Int} (h : (gD l t).o > 0) : (gD l t).o = t := by
 unfold gD at h ⊢
 cases hg : gK Lsa.o l t with
 | none => rw [hg] at h; exact absurd h (by decide)
 | some x => exact (gK_mem hg).2
theorem merge_ref {a b : List Lsa} (ha : dbOK a = true) (hb : dbOK b = true) : xS a (fA a b) (fA a b).length = rgF (mgI a b) 64 := by
 obtain ⟨h1, h2⟩ := gK_rg (f := mgI a b) (fun i x hx => by
  rw [mgI] at hx
  split at hx
  ·rename_i h3
   have e := Option.some.inj hx
   rw [← e]
   by_cases h4 : (gD b ((i : Int) + 1)).s > (gD a ((i : Int) + 1)).s
   ·rw [mgX, if_pos h4] at h3 ⊢; exact gd_o h3
   ·rw [mgX, if_neg h4] at h3 ⊢; exact gd_o h3
  ·cases hx)
 have hX := xS_ok ha (fun y hy => (fA_mem ha hb hy).2.1) (fA a b).length
 refine srt_ext (db_srt hX) h1 fun t => ?_
 rw [xS_fin ha hb, h2]
 rcases gd_way ha t with ⟨ga, _, sa⟩ | ⟨x, ga, _, sa, oa, ta, pa, _⟩
 ·rcases gd_way hb t with ⟨gb, _, sb⟩ | ⟨y, gb, _, sb, ob, tb, pb, _⟩
  ·rw [if_neg (by omega), ga]
   split
   ·rename_i h; unfold mgI mgX gD; rw [toN h.1, ga, gb]; rfl
   ·rfl
  ·rw [if_pos (by omega), if_pos ⟨tb.1, by omega⟩, gb]
   unfold mgI mgX gD
   rw [toN tb.1, ga, gb]
   simp only [Option.getD_some, Option.getD_none]
   rw [if_pos (show y.s > (default : Lsa).s from by show y.s > 0; omega), if_pos (by omega)]
 ·rcases gd_way hb t with ⟨gb, _, sb⟩ | ⟨y, gb, _, sb, ob, tb, pb, _⟩
  ·rw [if_neg (by omega), if_pos ⟨ta.1, by omega⟩, ga]
   unfold mgI mgX gD
   rw [toN ta.1, ga, gb]
   simp only [Option.getD_some, Option.getD_none]
   rw [if_neg (show ¬ (default : Lsa).s > x.s from by show ¬ 0 > x.s; omega), if_pos (by omega)]
  ·rw [if_pos (c := 1 ≤ t ∧ t ≤ (64 : Nat)) ⟨ta.1, by omega⟩, ga, gb]
   unfold mgI mgX gD
   rw [toN ta.1, ga, gb, sa, sb]
   simp only [Option.getD_some]
   by_cases h : y.s > x.s
   ·rw [if_pos h, if_pos h, if_pos (by omega)]
   ·rw [if_neg h, if_neg h, if_pos (by omega)]
theorem sq_M {a b : List Lsa} (ha : dbOK a = true) (hb : dbOK b = true) (t : Int) : sqL (xS a (fA a b) (fA a b).length) t = if sqL a t < sqL b t then sqL b t else sqL a t := by
 rw [sqL, xS_fin ha hb]; split <;> rfl
theorem assoc {a b c x v : List Lsa} (ha : dbOK a = true) (hb : dbOK b = true) (hc : dbOK c = true) (hx : x = xS a (fA a b) (fA a b).length) (hv : v = xS b (fA b c) (fA b c).length) : xS x (fA x c) (fA x c).length = xS a (fA a v) (fA a v).length := by
 have hX : dbOK x = true := by rw [hx]; exact xS_ok ha (fun y hy => (fA_mem ha hb hy).2.1) _
 have hV : dbOK v = true := by rw [hv]; exact xS_ok hb (fun y hy => (fA_mem hb hc hy).2.1) _
 have h1 := xS_ok hX (fun y hy => (fA_mem hX hc hy).2.1) (fA x c).length
 have h2 := xS_ok ha (fun y hy => (fA_mem ha hV hy).2.1) (fA a v).length
 refine srt_ext (db_srt h1) (db_srt h2) fun t => ?_
 rw [xS_fin hX hc, xS_fin ha hV, hx, hv, sq_M ha hb, sq_M hb hc, xS_fin ha hb, xS_fin hb hc]
 by_cases e1 : sqL a t < sqL b t
 ·by_cases e2 : sqL b t < sqL c t
  ·simp only [e1, e2, if_true]; rw [if_pos (by omega)]
  ·simp only [e1, e2, if_true, if_false]
 ·by_cases e2 : sqL b t < sqL c t
  ·simp only [e1, e2, if_true, if_false]
  ·simp only [e1, e2, if_false]; rw [if_neg (by omega)]
end Go.Vai.D
