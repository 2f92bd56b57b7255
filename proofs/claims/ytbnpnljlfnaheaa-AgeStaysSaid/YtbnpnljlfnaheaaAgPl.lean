import Derived.Test.YtbnpnljlfnaheaaItPl
set_option linter.unusedSimpArgs false
set_option linter.unusedVariables false
namespace Go.Vai.Y
open Go.Vai.I
structure Ag where
 o : Int
 s : Int
 ag : Int
 go : Bool
 deriving DecidableEq
instance : Inhabited Ag := ⟨⟨0, 0, 0, false⟩⟩
def agok (x : Ag) : Bool := (((((decide (x.o ≥ 1) && decide (x.o ≤ 64)) && decide (x.s ≥ 1)) && decide (x.s ≤ 4611686018427387904)) && decide (x.ag ≥ 0)) && decide (x.ag ≤ 60)) && (!x.go || decide (x.ag = 60))
def agOK (l : List Ag) : Bool := chn agok Ag.o 0 l
def agE (l : List Ag) : Int := if agOK l then 0 else 1
theorem agE_0 {l : List Ag} (h : ¬ agE l ≠ 0) : agOK l = true := by
 cases e : agOK l with
 | true => rfl
 | false => rw [agE, e] at h; simp at h
theorem agE_1 {l : List Ag} (h : agE l ≠ 0) : agOK l = false := by
 cases e : agOK l with
 | false => rfl
 | true => rw [agE, e] at h; simp at h
def lastA (ls : List Ag) (k : Nat) : Int := if k = 0 then 0 else (ls.getD ((k : Int) - 1).toNat default).o
theorem lastA_succ {ls : List Ag} {k : Nat} (h : k < ls.length) : lastA ls (k + 1) = ls[k].o := by
 rw [lastA, if_neg (by omega), show (((k + 1 : Nat) : Int) - 1).toNat = k by omega, List.getD_eq_getElem?_getD, List.getElem?_eq_getElem h]; rfl
theorem agok_o {x : Ag} (h : agok x = true) : 1 ≤ x.o := by
 simp only [agok, Bool.and_eq_true, decide_eq_true_eq] at h; omega
theorem agok_ag {x : Ag} (h : agok x = true) : 0 ≤ x.ag ∧ x.ag ≤ 60 := by
 simp only [agok, Bool.and_eq_true, decide_eq_true_eq] at h; omega
theorem ag_bad {l : List Ag} {k : Nat} (h : chn agok Ag.o 0 l = chn agok Ag.o (lastA l k) (l.drop k)) (hk : k < l.length)
  (h2 : (!agok l[k]) = true ∨ ((k : Int) > 0 ∧ (l.getD ((k : Int) - 1).toNat default).o ≥ l[k].o)) : agE l = 1 := by
 have : agOK l = false := by
  refine chn_no h hk ?_
  rcases h2 with h2 | ⟨h2, h3⟩
  ·exact .inl (by simpa using h2)
  ·right
   unfold lastA
   rw [if_neg (by omega)]; omega
 rw [agE, this]; rfl
theorem ag_go {l : List Ag} {k : Nat} (h : chn agok Ag.o 0 l = chn agok Ag.o (lastA l k) (l.drop k)) (hk : k < l.length)
  (h2 : (!agok l[k]) = false ∧ (¬ (k : Int) > 0 ∨ ¬ (l.getD ((k : Int) - 1).toNat default).o ≥ l[k].o)) : chn agok Ag.o 0 l = chn agok Ag.o (lastA l (k + 1)) (l.drop (k + 1)) := by
 have h3 : agok l[k] = true := by simpa using h2.1
 rw [lastA_succ hk]
 refine chn_go h hk h3 ?_
 have := agok_o h3
 unfold lastA
 split <;> omega
theorem ag_end {l : List Ag} (h : chn agok Ag.o 0 l = chn agok Ag.o (lastA l l.length) (l.drop l.length)) : agE l = 0 := by
 rw [agE, agOK, h, chn_end]; rfl
theorem ag_srt {l : List Ag} (h : agOK l = true) : Srt Ag.o l := chn_srt h
def tickF (x : Ag) : Ag := if x.ag = 60 then ⟨x.o, x.s, x.ag, true⟩ else ⟨x.o, x.s, x.ag + 1, x.go⟩
def tickS (l : List Ag) (k : Nat) : List Ag := (l.take k).map tickF ++ l.drop k
theorem tickS_len (l : List Ag) (k : Nat) : (tickS l k).length = l.length := by
 rw [tickS, List.length_append, List.length_map, List.length_take, List.length_drop]; omega
theorem tickS_at {l : List Ag} {k : Nat} (hk : k < l.length) : (tickS l k)[k]'(by rw [tickS_len]; exact hk) = l[k] := by
 simp only [tickS]
 rw [List.getElem_append_right (by simp; omega)]
 simp [show k - min k l.length = 0 by omega]
theorem tickS_succ {l : List Ag} {k : Nat} (hk : k < l.length) : tickS l (k + 1) = (tickS l k).set k (tickF l[k]) := by
 have e : (l.take k).map tickF ++ l.drop k = (l.take k).map tickF ++ (l[k] :: l.drop (k + 1)) := by rw [← List.drop_eq_getElem_cons hk]
 have e2 : k - ((l.take k).map tickF).length = 0 := by simp; omega
 rw [tickS, tickS, e, List.set_append_right _ _ (by simp; omega), e2, List.take_succ_eq_append_getElem hk, List.map_append, List.append_assoc]
 rfl
theorem tickS_all (l : List Ag) : tickS l l.length = l.map tickF := by rw [tickS, List.take_length, List.drop_length, List.append_nil]
def tickR (nil : Bool) (l : List Ag) : Bool × List Ag × Int := if agOK l then (nil, l.map tickF, 0) else (true, [], 1)
def fresh (x : It) : Ag := ⟨x.o, x.s, 0, false⟩
def comF (l : List Ag) (x : It) : List Ag := match gK Ag.o l x.o with
 | none => insP Ag.o l (fresh x)
 | some a => if x.s > a.s then insP Ag.o l (fresh x) else if (decide (x.s = a.s) && !a.go) = true then insP Ag.o l ⟨a.o, a.s, 0, a.go⟩ else l
def comR (l : List Ag) (x : It) : Bool × List Ag × Int := if agOK l && agok (fresh x) then (false, comF l x, 0) else (true, [], 1)
theorem comF_new {l : List Ag} {x : It} (h : agOK l = true) (hn : isK Ag.o l x.o = false) : comF l x = l.take (posK Ag.o l x.o) ++ [fresh x] ++ l.drop (posK Ag.o l x.o) := by
 have hg : gK Ag.o l x.o = none := by rwa [isK_gK, Option.isSome_eq_false_iff, Option.isNone_iff_eq_none] at hn
 rw [comF, hg]
 exact (ins_new (ag_srt h) (x := fresh x) hn).symm
theorem comF_set {l : List Ag} {x : It} (h : agOK l = true) (hn : isK Ag.o l x.o = true) (h2 : x.s > (l[posK Ag.o l x.o]'(pos_lt (ag_srt h) hn)).s) : comF l x = l.set (posK Ag.o l x.o) (fresh x) := by
 have := (pos_at (ag_srt h) hn).2
 rw [comF, this]
 simp only
 rw [if_pos h2]
 exact (ins_old (ag_srt h) (x := fresh x) hn).symm
theorem comF_zero {l : List Ag} {x : It} (h : agOK l = true) (hn : isK Ag.o l x.o = true) (h2 : ¬ x.s > (l[posK Ag.o l x.o]'(pos_lt (ag_srt h) hn)).s) (h3 : (decide (x.s = (l[posK Ag.o l x.o]'(pos_lt (ag_srt h) hn)).s) && !(l[posK Ag.o l x.o]'(pos_lt (ag_srt h) hn)).go) = true) :
  comF l x = l.set (posK Ag.o l x.o) ⟨(l[posK Ag.o l x.o]'(pos_lt (ag_srt h) hn)).o, (l[posK Ag.o l x.o]'(pos_lt (ag_srt h) hn)).s, 0, (l[posK Ag.o l x.o]'(pos_lt (ag_srt h) hn)).go⟩ := by
 obtain ⟨p1, this⟩ := pos_at (ag_srt h) hn
 rw [comF, this]
 simp only
 rw [if_neg h2, if_pos h3]
 have := ins_old (ag_srt h) (x := (⟨(l[posK Ag.o l x.o]'(pos_lt (ag_srt h) hn)).o, (l[posK Ag.o l x.o]'(pos_lt (ag_srt h) hn)).s, 0, (l[posK Ag.o l x.o]'(pos_lt (ag_srt h) hn)).go⟩ : Ag)) (by simp only [p1]; exact hn)
 simp only [p1] at this ⊢
 exact this.symm
theorem comF_same {l : List Ag} {x : It} (h : agOK l = true) (hn : isK Ag.o l x.o = true) (h2 : ¬ x.s > (l[posK Ag.o l x.o]'(pos_lt (ag_srt h) hn)).s) (h3 : (decide (x.s = (l[posK Ag.o l x.o]'(pos_lt (ag_srt h) hn)).s) && !(l[posK Ag.o l x.o]'(pos_lt (ag_srt h) hn)).go) = false) : comF l x = l := by
 have := (pos_at (ag_srt h) hn).2
 rw [comF, this]
 simp only
 rw [if_neg h2, if_neg (by rw [h3]; simp)]
def thL (p : Ag → Bool) (l : List Ag) : List Int := (l.filter p).map Ag.o
def thR (p : Ag → Bool) (l : List Ag) : List Int := if agOK l then thL p l else []
theorem th_yes {p : Ag → Bool} {l : List Ag} {k : Nat} (hk : k < l.length) (h : p l[k] = true) : thL p (l.take (k + 1)) = thL p (l.take k) ++ [l[k].o] := by
 rw [thL, thL, List.take_succ_eq_append_getElem hk, List.filter_append, List.map_append]; simp [h]
theorem th_no {p : Ag → Bool} {l : List Ag} {k : Nat} (hk : k < l.length) (h : p l[k] = false) : thL p (l.take (k + 1)) = thL p (l.take k) := by
 rw [thL, thL, List.take_succ_eq_append_getElem hk, List.filter_append, List.map_append]; simp [h]
theorem th_le (p : Ag → Bool) (l : List Ag) (k : Nat) : (thL p (l.take k)).length ≤ k := by
 rw [thL, List.length_map]
 exact Nat.le_trans (List.length_filter_le _ _) (by simp; omega)
def tk (x : It) (n : Nat) : Ag := ⟨x.o, x.s, if n ≤ 60 then n else 60, decide (n > 60)⟩
theorem tk_0 (x : It) : tk x 0 = fresh x := rfl
theorem tk_succ (x : It) (n : Nat) : tickF (tk x n) = tk x (n + 1) := by
 unfold tickF tk
 simp only
 by_cases h : n < 60
 ·rw [if_pos (show n ≤ 60 by omega), if_neg (by omega), if_pos (show n + 1 ≤ 60 by omega)]
  rw [decide_eq_false (show ¬ n > 60 by omega), decide_eq_false (show ¬ n + 1 > 60 by omega)]; simp
 ·by_cases h2 : n = 60
  ·subst h2; simp
  ·rw [if_neg (show ¬ n ≤ 60 by omega), if_pos rfl, if_neg (show ¬ n + 1 ≤ 60 by omega), decide_eq_true (show n + 1 > 60 by omega)]
theorem tk_le {x : It} {n : Nat} (h : n ≤ 60) : tk x n = ⟨x.o, x.s, n, false⟩ := by rw [tk, if_pos h, decide_eq_false (by omega)]
theorem tk_gt {x : It} {n : Nat} (h : n > 60) : tk x n = ⟨x.o, x.s, 60, true⟩ := by rw [tk, if_neg (by omega), decide_eq_true h]
theorem tk_ok {x : It} (h : it1 x = true) (n : Nat) : agok (tk x n) = true := by
 simp only [it1, Bool.and_eq_true, decide_eq_true_eq] at h
 have := itok_of h.1
 by_cases hn : n ≤ 60
 ·rw [tk_le hn]; simp [agok]; omega
 ·rw [tk_gt (by omega)]; simp [agok]; omega
theorem tk_OK {x : It} (h : it1 x = true) (n : Nat) : agOK [tk x n] = true := by
 have h1 := agok_o (tk_ok h n)
 simp only [agOK, chn, Bool.and_true, Bool.and_eq_true, decide_eq_true_eq]
 exact ⟨tk_ok h n, by omega⟩
theorem tick_one {x : It} (h : it1 x = true) (n : Nat) : tickR false [tk x n] = (false, [tk x (n + 1)], 0) := by
 rw [tickR, tk_OK h, ← tk_succ]; rfl
theorem com_nil {x : It} (h : it1 x = true) : comR [] x = (false, [tk x 0], 0) := by
 rw [comR, ← tk_0, tk_ok h]; rfl
theorem com_one {x : It} (h : it1 x = true) {n : Nat} (hn : n ≤ 60) : comR [tk x n] x = (false, [tk x 0], 0) := by
 have hk := tk_ok h 0
 rw [tk_0] at hk
 rw [comR, tk_OK h, hk]
 have hg : gK Ag.o [tk x n] x.o = some (tk x n) := by rw [gK_cons]; exact if_pos rfl
 have hgo : (tk x n).go = false := decide_eq_false (by omega)
 have hs : ¬ x.s > (tk x n).s := by show ¬ x.s > x.s; omega
 have hb : (decide (x.s = (tk x n).s) && !(tk x n).go) = true := by rw [hgo]; simp [tk]
 simp only [Bool.and_self, if_true, comF, hg]
 rw [if_neg hs, if_pos hb, hgo]
 simp [insP, tk]
def isGo (x : Ag) : Bool := x.go
def isDue (x : Ag) : Bool := decide (x.ag ≥ 30) && !x.go
theorem due_one {x : It} (h : it1 x = true) (n : Nat) : ((thR isDue [tk x n]).length = 1 ↔ (30 ≤ n ∧ n ≤ 60)) := by
 rw [thR, tk_OK h]
 simp only [if_true, thL, List.length_map]
 have hd : isDue (tk x n) = decide (30 ≤ n ∧ n ≤ 60) := by
  by_cases hn : n ≤ 60
  ·rw [tk_le hn]; simp [isDue, hn]; omega
  ·rw [tk_gt (by omega)]; simp [isDue]; omega
 rw [List.filter_cons, hd]
 by_cases hc : 30 ≤ n ∧ n ≤ 60
 ·simp [hc]
 ·simp [hc]
end Go.Vai.Y
