import Derived.Test.YtencjgkeflibdaaGreatM1
import Derived.Test.YtencjgkeflibdaaGreatVaiD
namespace Go.Vai.Z
open Go.Proofs Go.Vai Go.Vai.O Go.Vai.U
set_option linter.unusedSimpArgs false
set_option linter.unusedVariables false
set_option maxHeartbeats 4000000
set_option maxRecDepth 100000
open Go.Vai.U (ofS refS pslice ref_of)
attribute [go_sem] conv_32_8
theorem good_Seal (nil : Bool) (l : List (BitVec 8)) (hl : l.length ≤ 900000) : Good Tryz.prog 86 [(.sl 1 nil (bsl l), false)] [] [(.sl 1 false (bsl (sealS l)), true)] [] := by
  refine good_of_body2 10 Tryz.func86 rfl rfl rfl (by simp) ?_
  intro s m ha hr hv hG
  have f0 : s 0 = .v (.sl 1 nil (bsl l)) := ha 0 _ rfl
  clear ha
  have hc : True := trivial
  have F := (And.intro f0 hG)
  refine AW.seq ?_
  refine AW.region (cfg := cfg) ?_
  refine stp (fun _ h => s0 h) ?_
  refine aops_nil ?_
  refine AW.seq ?_
  have e1 : ofS [(nil, l)] = refS l := (ref_of nil l).symm
  have e2 : catBytes [(nil, l), (false, ckB (refS l))] = sealS l := by simp [catBytes, sealS]
  have e3 : (!decide (((sealS l).length : Int) > 0)) = false := by simp [sealS_len]; omega
  have F := And.intro e1 F
  have F := And.intro e2 F
  have F := And.intro e3 F
  refine AW.region (cfg := cfg) ?_
  iterate 2 refine stp (fun _ h => s0 h) ?_
  refine stp (fun _ h => sq h) ?_
  refine stp (fun _ h => cs (w := U.good_Of false [(nil, l)] (by simp) (by simp; omega)) (x := h)) ?_
  refine stp (fun _ h => cr (w := good_bytes (refS l)) (x := h)) ?_
  refine stp (fun _ h => sq h) ?_
  refine stp (fun _ h => co1 (w := good_ConcatBytes false [(nil, l), (false, ckB (refS l))] (by simp) (by rw [e2, sealS_len]; omega)) (x := h)) ?_
  refine stp (fun _ h => st h) ?_
  refine aops_nil ?_
  refine AW.ret ?_
  refine ⟨.inr rfl, ?_⟩
  refine leaves_own1 2 rfl (by simp (disch := first | omega | decide) only [go_sem, F, aIndex_map] <;> rfl) (by simp (disch := first | omega | decide) only [go_sem, F, aIndex_map] <;> rfl) (by decide) (by rw [sub_full (by simp)]) (by exact hG)
def body (l : List (BitVec 8)) : List (BitVec 8) := l.take (l.length - 4)
def okO (l : List (BitVec 8)) : Bool := decide (4 ≤ l.length) && decide (ckB (refS (body l)) = l.drop (l.length - 4))
def okV (l : List (BitVec 8)) : List (BitVec 8) := if okO l then body l else []
theorem body_int {l : List (BitVec 8)} (h : ¬ (l.length : Int) - 4 < 0) : l.take ((l.length : Int) - 4).toNat = body l := by
  rw [body, show ((l.length : Int) - 4).toNat = l.length - 4 by omega]
theorem tail_int {l : List (BitVec 8)} (h : ¬ (l.length : Int) - 4 < 0) : l.drop ((l.length : Int) - 4).toNat = l.drop (l.length - 4) := by
  rw [show ((l.length : Int) - 4).toNat = l.length - 4 by omega]
theorem ok_no {l : List (BitVec 8)} (h : (l.length : Int) - 4 < 0) : okO l = false ∧ okV l = [] := by
  have : okO l = false := by simp [okO]; omega
  exact ⟨this, by simp [okV, this]⟩
theorem ok_is {l : List (BitVec 8)} (h : ¬ (l.length : Int) - 4 < 0) : okO l = decide (ckB (refS (body l)) = l.drop (l.length - 4)) := by
  simp only [okO]; rw [decide_eq_true (by omega)]; rfl
theorem ok_ref {l : List (BitVec 8)} (h : ¬ (l.length : Int) - 4 < 0) : decide (sealS (body l) = l) = okO l := by
  rw [ok_is h]
  apply decide_eq_decide.2
  have e : l = body l ++ l.drop (l.length - 4) := by simp [body]
  constructor
  · intro h1
    have h2 : body l ++ ckB (refS (body l)) = body l ++ l.drop (l.length - 4) := by rw [← e]; exact h1
    exact List.append_cancel_left h2
  · intro h1
    rw [sealS, h1]; exact e.symm
theorem seal_open (l : List (BitVec 8)) : okO (sealS l) = true ∧ okV (sealS l) = l := by
  have hb : body (sealS l) = l := by simp [body, sealS_len]; simp [sealS]
  have hd : (sealS l).drop ((sealS l).length - 4) = ckB (refS l) := by rw [sealS_len]; simp [sealS]
  have h1 : okO (sealS l) = true := by
    simp only [okO, hb, hd, Bool.and_eq_true, decide_eq_true_eq, and_true]
    rw [sealS_len]; omega
  exact ⟨h1, by rw [okV, h1, if_pos rfl, hb]⟩
attribute [go_sem] pick_t pick_f
theorem good_Open (nil : Bool) (l : List (BitVec 8)) (hl : l.length ≤ 140737488355000) (hz : nil = true → l = []) : Good Tryz.prog 101 [(.sl 1 nil (bsl l), false)] [] [(.sl 1 (if okO l then nil else true) (bsl (okV l)), false), (.b (okO l), false)] [] := by
  refine good_of_body3 27 Tryz.func101 rfl rfl rfl (by simp) ?_
  intro s m ha hr hv hG
  have f0 : s 0 = .v (.sl 1 nil (bsl l)) := ha 0 _ rfl
  clear ha
  have hc : True := trivial
  have F := (And.intro f0 hG)
  refine AW.seq ?_
  refine AW.region (cfg := cfg) ?_
  iterate 2 refine stp (fun _ h => s0 h) ?_
  refine aops_nil ?_
  refine AW.seq ?_
  refine AW.region (cfg := cfg) ?_
  refine stp (fun _ h => s0 h) ?_
  iterate 2 refine stp (fun _ h => sd h) ?_
  refine stp (fun _ h => s0 h) ?_
  refine aops_nil ?_
  refine AW.seq ?_
  refine AW.seq ?_
  by_cases hsp : (l.length : Int) - 4 < 0
  · have hd := decide_eq_true hsp
    have b1 := trivial
    have b2 := trivial
    have b3 := trivial
    have b4 := trivial
    have F := And.intro hd F
    have F := And.intro b1 F
    have F := And.intro b2 F
    have F := And.intro b3 F
    have F := And.intro b4 F
    refine AW.draw (cfg := cfg) (by kernel_rfl) (by kernel_rfl) (by kernel_rfl) ?_
    iterate 3 refine dstp (fun _ h => s0 h) ?_
    iterate 11 refine dskp ?_
    refine dstp (fun _ h => s0 h) ?_
    refine adraw_nil (by kernel_rfl) ?_
    refine cnd (fun hb => ?ht1) (fun hb => ?hf1)
    case hf1 => simp at hb
    case ht1 =>
    have hbt22 := hb
    refine AW.seq ?_
    refine AW.region (cfg := cfg) ?_
    iterate 2 refine stp (fun _ h => s0 h) ?_
    refine aops_nil ?_
    refine AW.ret ?_
    refine ⟨.inr rfl, ?_⟩
    all_goals (have z : (l.length : Int) - 4 < 0 := hsp; obtain ⟨e1, e2⟩ := ok_no z; rw [e1, e2, if_neg (by simp)]; refine ⟨_, nilEq_nil (s := 1) (nilEq_refl _), ?_⟩; refine leaves_mwp2 (rs := [.tmp 2, .tmp 3]) rfl ?_; simp (config := {failIfUnchanged := false}) [giveL, srcOne, rehome, freezeN, sub, upd, opn, aLoad, loadL, giveOne, reify, reifyL, readL, readOne, Mwp, M.bind, Mem.set, setAt, cellsL, hG, f0, hd, b1, b2, b3, b4]; done)
  · have hd := decide_eq_false hsp
    have b1 := body_int hsp
    have b2 := tail_int hsp
    have b3 : ofS [(nil, body l)] = refS (body l) := (ref_of nil (body l)).symm
    have b4 := (ok_is hsp).symm
    have F := And.intro hd F
    have F := And.intro b1 F
    have F := And.intro b2 F
    have F := And.intro b3 F
    have F := And.intro b4 F
    refine AW.draw (cfg := cfg) (by kernel_rfl) (by kernel_rfl) (by kernel_rfl) ?_
    iterate 5 refine dstp (fun _ h => s0 h) ?_
    refine dstp (fun _ h => sd h) ?_
    refine dstp (fun _ h => sq h) ?_
    refine dstp (fun _ h => cs (w := U.good_Of false [(nil, body l)] (by simp) (by simp [body]; omega)) (x := h)) ?_
    refine dstp (fun _ h => cr (w := good_bytes (refS (body l))) (x := h)) ?_
    iterate 2 refine dstp (fun _ h => s0 h) ?_
    refine dstp (fun _ h => sd h) ?_
    refine dstp (fun _ h => cs (w := good_Equal _ _ _ _ (by simp [ckB_len]) (by simp; omega)) (x := h)) ?_
    iterate 2 refine dstp (fun _ h => s0 h) ?_
    refine adraw_nil (by kernel_rfl) ?_
    refine cnd (fun hb => ?ht2) (fun hb => ?hf2)
    case ht2 =>
      have hw22 := hb
      try simp only [bo1, bo2, bo3, bo4, bo5, bo6] at hb
      have hbt22 := hb
      refine AW.seq ?_
      refine AW.region (cfg := cfg) ?_
      iterate 2 refine stp (fun _ h => s0 h) ?_
      refine aops_nil ?_
      refine AW.ret ?_
      refine ⟨.inr rfl, ?_⟩
      all_goals (have e1 : okO l = false := (by simpa using hbt22); have e2 : okV l = [] := (by simp [okV, e1]); rw [e1, e2, if_neg (by simp)]; refine ⟨_, nilEq_nil (s := 1) (nilEq_refl _), ?_⟩; refine leaves_mwp2 (rs := [.tmp 2, .tmp 3]) rfl ?_; simp (config := {failIfUnchanged := false}) [giveL, srcOne, rehome, freezeN, sub, upd, opn, aLoad, loadL, giveOne, reify, reifyL, readL, readOne, Mwp, M.bind, Mem.set, setAt, cellsL, hG, f0, hd, b1, b2, b3, b4]; done)
    case hf2 =>
      have hw22 := hb
      try simp only [bo1, bo2, bo3, bo4, bo5, bo6] at hb
      have hbt22 := hb
      refine AW.skip ?_
      refine AW.seq ?_
      refine AW.region (cfg := cfg) ?_
      iterate 2 refine stp (fun _ h => s0 h) ?_
      refine stp (fun _ h => sd h) ?_
      refine stp (fun _ h => co1 (w := O.good_Clone nil (body l) (by simp [body]; omega) (fun h => by rw [hz h]; rfl)) (x := h)) ?_
      refine stp (fun _ h => st h) ?_
      refine stp (fun _ h => s0 h) ?_
      refine aops_nil ?_
      refine AW.ret ?_
      refine ⟨.inr rfl, ?_⟩
      all_goals (have e1 : okO l = true := (by simpa using hbt22); have e2 : okV l = body l := (by simp [okV, e1]); rw [e1, e2, if_pos rfl]; refine leavesN ?_; refine leaves_mwp2 (rs := [.tmp 2, .tmp 3]) rfl ?_; simp (config := {failIfUnchanged := false}) [giveL, srcOne, rehome, freezeN, sub, upd, opn, aLoad, loadL, giveOne, reify, reifyL, readL, readOne, Mwp, M.bind, Mem.set, setAt, cellsL, hG, f0, hd, b1, b2, b3, b4]; (simp [List.take_of_length_le]; done))
end Go.Vai.Z
set_option linter.unusedSimpArgs false
set_option linter.unusedVariables false
namespace Go.Vai.L
open Go.Vai.O
structure LinkS where
 to : Int
 co : Int
 deriving DecidableEq, Inhabited
structure Lsa where
 o : Int
 s : Int
 nil : Bool
 ls : List LinkS
def linkA (x : LinkS) : AV := .agg [.i .i64 x.to, .i .i64 x.co]
@[simp] theorem noPtrL_links (ls : List LinkS) : noPtrL (ls.map linkA) = true := noPtrL_map (fun _ => rfl) _
def node (n : Int) : Bool := decide (n ≥ 1) && decide (n ≤ 64)
def linkOK (o last : Int) (x : LinkS) : Bool := node x.to && (decide (last < x.to) && (!decide (x.to = o) && (decide (1 ≤ x.co) && decide (x.co ≤ 1073741824))))
def linksOK (o : Int) : Int → List LinkS → Bool
 | _, [] => true
 | last, x :: r => linkOK o last x && linksOK o x.to r
def lsaOK (l : Lsa) : Bool := node l.o && (decide (1 ≤ l.s) && (decide (l.s ≤ 4611686018427387904) && (decide (l.ls.length ≤ 16) && linksOK l.o 0 l.ls)))
def lsaE (l : Lsa) : Int := if lsaOK l then 0 else 1
def lastOf (ls : List LinkS) (k : Nat) : Int := if k = 0 then 0 else (ls.getD ((k : Int) - 1).toNat default).to
def linkB (x : LinkS) : List (BitVec 8) := numR x.to 1 ++ numR x.co 4
def linksB (ls : List LinkS) : List (BitVec 8) := ls.flatMap linkB
def lsaB (l : Lsa) : List (BitVec 8) := numR l.o 1 ++ (numR l.s 8 ++ (numR (l.ls.length : Int) 1 ++ linksB l.ls))
theorem numR_one (n : Int) : numR n 1 = [BitVec.ofInt 8 n] := by simp [numR, byteAt]
def lsaS (l : Lsa) : List (BitVec 8) := if lsaOK l then lsaB l else []
theorem numS1 (n : Int) : numS 1 n = numR n 1 := by rw [show numS 1 n = numB 1 n 1 from by simp [numS, mayW]]; exact numB_numR n 1
theorem numS4 (n : Int) : numS 4 n = numR n 4 := by rw [show numS 4 n = numB 4 n 4 from by simp [numS, mayW]]; exact numB_numR n 4
theorem nm1 (nil : Bool) : (nil && !mayW 1) = false := by cases nil <;> decide
theorem nm4 (nil : Bool) : (nil && !mayW 4) = false := by cases nil <;> decide
def rdStep (p : List LinkS × List (BitVec 8) × Bool) : List LinkS × List (BitVec 8) × Bool :=
 if p.2.2 then p else
  let l1 := rnL p.2.1 p.2.2 1
  let w1 := rnW p.2.1 p.2.2 1
  (p.1 ++ [⟨rnV p.2.1 p.2.2 1, rnV l1 w1 4⟩], rnL l1 w1 4, rnW l1 w1 4)
def rdLinks (l : List (BitVec 8)) (w : Bool) : Nat → List LinkS × List (BitVec 8) × Bool
 | 0 => ([], l, w)
 | k + 1 => rdStep (rdLinks l w k)
def lsaA (l : Lsa) : AV := .agg [.i .i64 l.o, .i .i64 l.s, .sl 2 l.nil (l.ls.map linkA)]
def lsa0 : Lsa := ⟨0, 0, true, []⟩
def hdL (l : List (BitVec 8)) (w : Bool) : List (BitVec 8) := rnL (rnL (rnL l w 1) (rnW l w 1) 8) (rnW (rnL l w 1) (rnW l w 1) 8) 1
def hdW (l : List (BitVec 8)) (w : Bool) : Bool := rnW (rnL (rnL l w 1) (rnW l w 1) 8) (rnW (rnL l w 1) (rnW l w 1) 8) 1
def hdN (l : List (BitVec 8)) (w : Bool) : Int := rnV (rnL (rnL l w 1) (rnW l w 1) 8) (rnW (rnL l w 1) (rnW l w 1) 8) 1
def rdP (l : List (BitVec 8)) (w : Bool) := rdLinks (hdL l w) (hdW l w) (hdN l w).toNat
def rdRaw (l : List (BitVec 8)) (w : Bool) : Lsa := ⟨rnV l w 1, IntKind.i64.wrap (rnV (rnL l w 1) (rnW l w 1) 8), (rdP l w).1.isEmpty, (rdP l w).1⟩
def rdR (l : List (BitVec 8)) (w : Bool) : List (BitVec 8) := (rdP l w).2.1
def rdW (l : List (BitVec 8)) (w : Bool) : Bool := (rdP l w).2.2
def rdOK (l : List (BitVec 8)) (w : Bool) : Bool := !rdW l w && lsaOK (rdRaw l w)
def rdL (l : List (BitVec 8)) (w : Bool) : Lsa := if rdOK l w then rdRaw l w else lsa0
def rfB (l : List (BitVec 8)) : Nat := (l.getD 9 default).toNat
def rfShort (l : List (BitVec 8)) : Bool := decide (l.length < 10) || decide ((l.length : Int) < 10 + 5 * (rfB l : Int))
def rfLink (l : List (BitVec 8)) (k : Nat) : LinkS := ⟨((l.getD (10 + 5 * k) default).toNat : Int), rV l (11 + 5 * k) false 4⟩
def rfLinks (l : List (BitVec 8)) (k : Nat) : List LinkS := (List.range k).map (rfLink l)
def rfRaw (l : List (BitVec 8)) : Lsa := ⟨((l.getD 0 default).toNat : Int), IntKind.i64.wrap (rV l 1 false 8), (rfLinks l (rfB l)).isEmpty, rfLinks l (rfB l)⟩
def rfOK (l : List (BitVec 8)) : Bool := !rfShort l && lsaOK (rfRaw l)
def rfL (l : List (BitVec 8)) : Lsa := if rfOK l then rfRaw l else lsa0
def rfN (l : List (BitVec 8)) : Int := if rfOK l then 10 + 5 * (rfB l : Int) else 0
theorem rV_range4 (l : List (BitVec 8)) (at_ : Nat) (w : Bool) : 0 ≤ rV l at_ w 4 ∧ rV l at_ w 4 < 4294967296 := by
 unfold rV
 split
 ·omega
 ·obtain ⟨h1, h2⟩ := numV_range _ ((l.drop at_).take (4 : Int).toNat) rfl
  refine ⟨h1, Int.lt_of_lt_of_le h2 (Int.le_trans (pow256 (b := 4) ?_) (by decide))⟩
  simp; omega
theorem getD_get {l : List (BitVec 8)} {k : Nat} (h : k < l.length) : l[k] = l.getD k default := by rw [List.getD_eq_getElem?_getD, List.getElem?_eq_getElem h]; rfl
end Go.Vai.L
set_option linter.unusedSimpArgs false
set_option linter.unusedVariables false
namespace Go.Vai.L
open Go.Vai.O
def lsaEq (a b : Lsa) : Bool := decide (a.o = b.o) && (decide (a.s = b.s) && decide (a.ls = b.ls))
def newer (a b : Lsa) : Bool := decide (a.o = b.o) && decide (a.s > b.s)
def costOf (ls : List LinkS) (to : Int) : Int := match ls.find? (fun x => decide (x.to = to)) with | some x => x.co | none => 0
end Go.Vai.L
set_option linter.unusedSimpArgs false
set_option linter.unusedVariables false
namespace Go.Vai.O
structure PutS where
 nb : Bool
 b : List (BitVec 8)
 w : Int
 n : Int
 nt : Bool
 t : List (BitVec 8)
def putA (p : PutS) : AV := .agg [.sl 1 p.nb (bsl p.b), .i .i64 p.w, .i .u64 p.n, .sl 1 p.nt (bsl p.t)]
def okPut (p : PutS) : Prop := 1 ≤ p.w ∧ p.w ≤ 8 ∧ p.t.length ≤ 300
def enc1 (p : PutS) : List (BitVec 8) := numR p.n p.w.toNat ++ (numR (p.t.length : Int) 2 ++ p.t)
def enc (l : List PutS) : List (BitVec 8) := l.flatMap enc1
theorem byteAt_toNat (n : Int) (i : Nat) : ((byteAt n i).toNat : Int) = n / 2 ^ (8 * i) % 256 := by
 unfold byteAt
 rw [BitVec.toNat_ofInt]
 have h := Int.emod_nonneg (n / 2 ^ (8 * i)) (show (256 : Int) ≠ 0 by decide)
 show ((((n / 2 ^ (8 * i)) % 256).toNat : Nat) : Int) = _
 omega
theorem numV_cons (c : BitVec 8) : ∀ (b : List (BitVec 8)), numV (c :: b) = (c.toNat : Int) * 256 ^ b.length + numV b := by
 have key : ∀ (b : List (BitVec 8)) (a : Int), b.foldl (fun a c => a * 256 + (c.toNat : Int)) a = a * 256 ^ b.length + b.foldl (fun a c => a * 256 + (c.toNat : Int)) 0 := by
  intro b
  induction b with
  | nil => intro a; simp
  | cons x b ih =>
   intro a
   simp only [List.foldl_cons, List.length_cons]
   rw [ih, ih (0 * 256 + (x.toNat : Int)), Int.pow_succ, Int.add_mul, Int.add_mul]
   simp only [Int.zero_mul, Int.zero_add]
   rw [Int.mul_assoc, Int.mul_comm 256, Int.add_assoc]
 intro b
 simp only [numV, List.foldl_cons]
 rw [key]
 simp
theorem pow_256 (k : Nat) : (2 : Int) ^ (8 * k) = 256 ^ k := by
 rw [Int.pow_mul]; rfl
theorem numV_numR {n : Int} (hn : 0 ≤ n) : ∀ k, numV (numR n k) = n % 2 ^ (8 * k)
 | 0 => by simp [numR, numV, Int.emod_one]
 | k + 1 => by
  rw [numR, numV_cons, numV_numR hn k, numR_length, byteAt_toNat, pow_256, pow_256, Int.pow_succ]
  obtain ⟨m, rfl⟩ := Int.eq_ofNat_of_zero_le hn
  have h1 := congrArg (fun z : Nat => (z : Int)) (Nat.mod_mul (x := m) (a := 256 ^ k) (b := 256))
  simp only [Int.natCast_add, Int.natCast_mul, Int.natCast_emod, Int.natCast_ediv, Int.natCast_pow] at h1
  show (m : Int) / 256 ^ k % 256 * 256 ^ k + (m : Int) % 256 ^ k = (m : Int) % (256 ^ k * 256)
  have h2 : ((256 : Nat) : Int) = 256 := rfl
  rw [h2] at h1
  rw [h1, Int.mul_comm (256 ^ k), Int.add_comm]
end Go.Vai.O
set_option linter.unusedSimpArgs false
set_option linter.unusedVariables false
namespace Go.Vai.L
open Go.Vai.O
theorem rA_ok {l : List (BitVec 8)} {a : Nat} {k : Int} (hk : 1 ≤ k ∧ k ≤ 8) (h : (a : Int) + k ≤ l.length) : rBad l a false k = false ∧ rA l a false k = a + k.toNat := by
 have : rBad l a false k = false := by simp [rBad]; omega
 exact ⟨this, by simp [rA, this]⟩
theorem rV_one {l : List (BitVec 8)} {a : Nat} (h : a < l.length) : rV l a false 1 = ((l.getD a default).toNat : Int) := by
 obtain ⟨e, _⟩ := rA_ok (l := l) (a := a) (k := 1) (by omega) (by omega)
 rw [rV, e, if_neg (by decide)]
 have : (l.drop a).take (1 : Int).toNat = [l[a]] := by
  rw [show (1 : Int).toNat = 1 from rfl, List.drop_eq_getElem_cons h]; rfl
 rw [this, ← getD_get h]
 simp [numV]
theorem drop_nums {l : List (BitVec 8)} {a : Nat} {k : Int} (hk : 1 ≤ k ∧ k ≤ 8) (h : (a : Int) + k ≤ l.length) : rnV (l.drop a) false k = rV l a false k ∧ rnL (l.drop a) false k = l.drop (a + k.toNat) ∧ rnW (l.drop a) false k = false := by
 obtain ⟨e1, e2, e3⟩ := num_ok (l := l) (a := a) (by omega) false k
 obtain ⟨f1, f2⟩ := rA_ok hk h
 rw [e1, e2, e3, f1, f2]; exact ⟨rfl, rfl, rfl⟩
end Go.Vai.L
namespace Go.Vai.L
open Go.Vai.O
end Go.Vai.L
set_option linter.unusedSimpArgs false
set_option linter.unusedVariables false
namespace Go.Vai.G
open Go.Vai.O Go.Vai.L
structure Page where
 kind : Int
 gen : Int
 mark : Int
 idx : Int
 part : Int
 parts : Int
 nil : Bool
 b : List (BitVec 8)
def pageA (p : Page) : AV := .agg [.i .i64 p.kind, .i .i64 p.gen, .i .i64 p.mark, .i .i64 p.idx, .i .i64 p.part, .i .i64 p.parts, .sl 1 p.nil (bsl p.b)]
theorem cellsOf_page (p : Page) : cellsOf (pageA p) = [.i .i64 p.kind, .i .i64 p.gen, .i .i64 p.mark, .i .i64 p.idx, .i .i64 p.part, .i .i64 p.parts, .sl 1 p.nil (bsl p.b)] := rfl
@[simp] theorem noPtr_page (p : Page) : noPtr (pageA p) = true := by simp [pageA, noPtr, noPtrL, noPtrL_bsl]
@[simp] theorem noPtrL_pages (ps : List Page) : noPtrL (ps.map pageA) = true := noPtrL_map noPtr_page _
def page0 : Page := ⟨0, 0, 0, 0, 0, 0, true, []⟩
def wi (n lo hi : Int) : Bool := decide (n ≥ lo) && decide (n ≤ hi)
def pageOK (p : Page) : Bool := wi p.kind 1 9 && (wi p.gen 0 2147483648 && (wi p.mark 0 2147483648 && (wi p.idx 0 2147483648 && (wi p.parts 1 16 && (wi p.part 0 (p.parts - 1) && decide ((p.b.length : Int) ≤ 488))))))
def inn (n most : Int) : Bool := decide (n ≥ 0) && decide (n ≤ most)
def pageEq (p q : Page) : Bool := decide (p.kind = q.kind) && (decide (p.gen = q.gen) && (decide (p.mark = q.mark) && (decide (p.idx = q.idx) && (decide (p.part = q.part) && (decide (p.parts = q.parts) && decide (p.b = q.b))))))
theorem page_bd {p : Page} (h : pageOK p = true) : (1 ≤ p.kind ∧ p.kind ≤ 9) ∧ (0 ≤ p.gen ∧ p.gen ≤ 2147483648) ∧ (0 ≤ p.mark ∧ p.mark ≤ 2147483648) ∧ (0 ≤ p.idx ∧ p.idx ≤ 2147483648) ∧ (1 ≤ p.parts ∧ p.parts ≤ 16) ∧ (0 ≤ p.part ∧ p.part < p.parts) ∧ p.b.length ≤ 488 := by
 simp only [pageOK, wi, Bool.and_eq_true, decide_eq_true_eq] at h
 omega
def pageH (p : Page) : List (BitVec 8) := [87#8, 65#8, 89#8] ++ (numR p.kind 1 ++ (numR p.gen 4 ++ (numR p.mark 4 ++ (numR p.idx 4 ++ (numR p.part 1 ++ (numR p.parts 1 ++ (numR (p.b.length : Int) 2 ++ p.b)))))))
def pageB (p : Page) : List (BitVec 8) := pageH p ++ List.replicate (488 - p.b.length) 0#8
theorem pageH_len (p : Page) : (pageH p).length = 20 + p.b.length := by
 simp only [pageH, List.length_append, numR_length, List.length_cons, List.length_nil]; omega
theorem pageB_len {p : Page} (h : p.b.length ≤ 488) : (pageB p).length = 508 := by
 simp only [pageB, List.length_append, pageH_len, List.length_replicate]; omega
end Go.Vai.G
set_option linter.unusedSimpArgs false
set_option linter.unusedVariables false
namespace Go.Vai.G
open Go.Vai.O Go.Vai.L
theorem numV_inj : ∀ (n : Nat) (a b : List (BitVec 8)), a.length = n → b.length = n → numV a = numV b → a = b
 | 0, a, b, ha, hb, _ => by rw [List.eq_nil_of_length_eq_zero ha, List.eq_nil_of_length_eq_zero hb]
 | n + 1, a, b, ha, hb, h => by
  have ea : a = a.take n ++ [a[n]] := by rw [← List.take_succ_eq_append_getElem (by omega), List.take_of_length_le (by omega)]
  have eb : b = b.take n ++ [b[n]] := by rw [← List.take_succ_eq_append_getElem (by omega), List.take_of_length_le (by omega)]
  rw [ea, eb, numV_snoc, numV_snoc] at h
  have h1 := (a[n]).isLt
  have h2 := (b[n]).isLt
  have h3 := numV_inj n (a.take n) (b.take n) (by simp; omega) (by simp; omega) (by omega)
  have h4 : a[n] = b[n] := BitVec.eq_of_toNat_eq (by omega)
  rw [ea, eb, h3, h4]
theorem numR_numV {k : Nat} {x : List (BitVec 8)} (h : x.length = k) : numR (numV x) k = x := by
 obtain ⟨h1, h2⟩ := numV_range k x h
 refine numV_inj k _ _ (numR_length _ _) h ?_
 rw [numV_numR h1, pow_256]
 exact Int.emod_eq_of_lt h1 h2
def at1 (i : List (BitVec 8)) (k : Nat) : Int := ((i.getD k default).toNat : Int)
def at4 (i : List (BitVec 8)) (k : Nat) : Int := rV i k false 4
def pgN (i : List (BitVec 8)) : Int := rV i 18 false 2
def pgP (i : List (BitVec 8)) : Page := ⟨at1 i 3, at4 i 4, at4 i 8, at4 i 12, at1 i 16, at1 i 17, false, (i.drop 20).take (pgN i).toNat⟩
theorem rV_is {l : List (BitVec 8)} {a : Nat} {k : Int} (hk : 1 ≤ k ∧ k ≤ 8) (h : (a : Int) + k ≤ l.length) : rV l a false k = numV ((l.drop a).take k.toNat) := by
 rw [rV, (rA_ok hk h).1, if_neg (by decide)]
theorem cut_add {α : Type} (l : List α) (a k : Nat) : l.drop a = (l.drop a).take k ++ l.drop (a + k) := by
 rw [← List.drop_drop, List.take_append_drop]
theorem pg_split {i : List (BitVec 8)} (h : i.length = 508) : pageH (pgP i) = [87#8, 65#8, 89#8] ++ ((i.drop 3).take 17 ++ (i.drop 20).take (pgN i).toNat) ∨ ¬ pgN i ≤ 488 := by
 by_cases hn : pgN i ≤ 488
 ·left
  have n0 : 0 ≤ pgN i := (rV_range i 18 false 2).1
  have hl : ((i.drop 20).take (pgN i).toNat).length = (pgN i).toNat := by simp; omega
  have e1 : ∀ k, k < 508 → numR (at1 i k) 1 = (i.drop k).take 1 := fun k hk => by
   rw [at1, ← rV_one (by omega), rV_is (by omega) (by omega)]
   exact numR_numV (by simp; omega)
  have e4 : ∀ k, k + 4 ≤ 508 → numR (at4 i k) 4 = (i.drop k).take 4 := fun k hk => by
   rw [at4, rV_is (by omega) (by omega)]
   exact numR_numV (by simp; omega)
  have e2 : numR (pgN i) 2 = (i.drop 18).take 2 := by
   rw [pgN, rV_is (by omega) (by omega)]
   exact numR_numV (by simp; omega)
  have hb : (((pgP i).b.length : Nat) : Int) = pgN i := by
   show ((((i.drop 20).take (pgN i).toNat).length : Nat) : Int) = pgN i
   rw [hl]; omega
  rw [pageH, hb]
  show [87#8, 65#8, 89#8] ++ (numR (at1 i 3) 1 ++ (numR (at4 i 4) 4 ++ (numR (at4 i 8) 4 ++ (numR (at4 i 12) 4 ++ (numR (at1 i 16) 1 ++ (numR (at1 i 17) 1 ++ (numR (pgN i) 2 ++ (i.drop 20).take (pgN i).toNat))))))) = _
  rw [e1 3 (by omega), e4 4 (by omega), e4 8 (by omega), e4 12 (by omega), e1 16 (by omega), e1 17 (by omega), e2]
  have c : ∀ a b : Nat, (i.drop 3).take (a + b) = (i.drop 3).take a ++ (i.drop (3 + a)).take b := fun a b => by
   rw [List.take_add, List.drop_drop]
  rw [show (17 : Nat) = 1 + (4 + (4 + (4 + (1 + (1 + 2))))) from rfl]
  have d : ∀ a b k : Nat, (i.drop k).take (a + b) = (i.drop k).take a ++ (i.drop (k + a)).take b := fun a b k => by
   rw [List.take_add, List.drop_drop]
  rw [d, d, d, d, d, d]
  simp only [List.append_assoc, Nat.reduceAdd]
 ·exact .inr hn
theorem pg_whole {i : List (BitVec 8)} (h : i.length = 508) (hn : pgN i ≤ 488) : pageB (pgP i) = i ↔ i.take 3 = [87#8, 65#8, 89#8] ∧ i.drop (20 + (pgN i).toNat) = List.replicate (488 - (pgN i).toNat) 0#8 := by
 have hs := (pg_split h).resolve_right (fun f => f hn)
 have n0 : 0 ≤ pgN i := (rV_range i 18 false 2).1
 have hl : ((i.drop 20).take (pgN i).toNat).length = (pgN i).toNat := by simp; omega
 have hi : i = i.take 3 ++ ((i.drop 3).take 17 ++ ((i.drop 20).take (pgN i).toNat ++ i.drop (20 + (pgN i).toNat))) := by
  rw [← cut_add, ← cut_add i 3 17, List.take_append_drop]
 have hb : pageB (pgP i) = [87#8, 65#8, 89#8] ++ ((i.drop 3).take 17 ++ ((i.drop 20).take (pgN i).toNat ++ List.replicate (488 - (pgN i).toNat) 0#8)) := by
  rw [pageB, hs]
  show _ ++ List.replicate (488 - ((i.drop 20).take (pgN i).toNat).length) 0#8 = _
  rw [hl]; simp only [List.append_assoc]
 constructor
 ·intro e
  rw [hb] at e
  have e' := e.trans hi
  have l3 : ([87#8, 65#8, 89#8] : List (BitVec 8)).length = (i.take 3).length := by simp; omega
  obtain ⟨a1, a2⟩ := List.append_inj e' l3
  obtain ⟨_, a3⟩ := List.append_inj a2 rfl
  obtain ⟨_, a4⟩ := List.append_inj a3 rfl
  exact ⟨a1.symm, a4.symm⟩
 ·rintro ⟨a1, a2⟩
  rw [hb]
  conv => rhs; rw [hi]
  rw [a1, a2]
end Go.Vai.G
namespace Go.Vai.G
open Go.Proofs Go.Vai Go.Vai.L Go.Vai.O Go.Vai.U Go.Vai.Z
set_option linter.unusedSimpArgs false
set_option linter.unusedVariables false
set_option maxHeartbeats 4000000
set_option maxRecDepth 100000
attribute [go_sem] cellsOf_page
attribute [go_sem] strL_bsl bin_eql_str
theorem cellsOf_u8 (x : BitVec 8) : cellsOf (u8 x) = [u8 x] := rfl
def hasP (a b : List (BitVec 8)) : Bool := decide ((a.length : Int) ≥ (b.length : Int)) && decide (a.take b.length = b)
def nz (x : BitVec 8) : Bool := decide ((x.toNat : Int) ≠ 0)
theorem take_ofNat {α : Type} (l : List α) (n : Nat) : l.take ((n : Int)).toNat = l.take n := by rw [Int.toNat_natCast]
theorem good_BEqual (na nb : Bool) (a b : List (BitVec 8)) (ha : a.length ≤ 9223372036854775807) (hb : b.length ≤ 9223372036854775807) : Good Tryz.prog 131 [(.sl 1 na (bsl a), false), (.sl 1 nb (bsl b), false)] [] [(.b (decide (a = b)), false)] [] := by
  refine good_of_body2 10 Tryz.func131 rfl rfl rfl (by simp) ?_
  intro s m ha hr hv hG
  have f0 : s 0 = .v (.sl 1 na (bsl a)) := ha 0 _ rfl
  have f1 : s 1 = .v (.sl 1 nb (bsl b)) := ha 1 _ rfl
  clear ha
  have hc : True := trivial
  have F := (And.intro f0 (And.intro f1 hG))
  refine AW.seq ?_
  refine AW.region (cfg := cfg) ?_
  refine stp (fun _ h => s0 h) ?_
  refine aops_nil ?_
  refine AW.seq ?_
  refine AW.region (cfg := cfg) ?_
  refine stp (fun _ h => s0 h) ?_
  iterate 2 refine stp (fun _ h => s0 h) ?_
  iterate 3 refine stp (fun _ h => s0 h) ?_
  refine aops_nil ?_
  refine AW.ret ?_
  refine ⟨.inr rfl, ?_⟩
  refine leaves_tmp1 4 rfl ?_ (by exact hG)
  simp (disch := first | omega | decide) only [go_sem, F, aIndex_map]
  all_goals first | done | rfl | trace_state
attribute [go_sem] take_ofNat
theorem good_HasPrefix (na nb : Bool) (a b : List (BitVec 8)) (ha : a.length ≤ 9223372036854775807) (hb : b.length ≤ 9223372036854775807) : Good Tryz.prog 102 [(.sl 1 na (bsl a), false), (.sl 1 nb (bsl b), false)] [] [(.b (hasP a b), false)] [] := by
  refine good_of_body2 18 Tryz.func102 rfl rfl rfl (by simp) ?_
  intro s m ha hr hv hG
  have f0 : s 0 = .v (.sl 1 na (bsl a)) := ha 0 _ rfl
  have f1 : s 1 = .v (.sl 1 nb (bsl b)) := ha 1 _ rfl
  clear ha
  have hc : True := trivial
  have F := (And.intro f0 (And.intro f1 hG))
  refine AW.seq ?_
  refine AW.region (cfg := cfg) ?_
  refine stp (fun _ h => s0 h) ?_
  refine aops_nil ?_
  refine AW.seq ?_
  refine AW.region (cfg := cfg) ?_
  refine stp (fun _ h => s0 h) ?_
  refine stp (fun _ h => sd h) ?_
  refine stp (fun _ h => s0 h) ?_
  refine stp (fun _ h => sd h) ?_
  iterate 2 refine stp (fun _ h => s0 h) ?_
  iterate 2 refine mrg wa (fun hc _ h => s0 h) ?_
  iterate 2 refine mrg wa (fun hc _ h => sd h) ?_
  refine mrg wa (fun hc _ h => s0 h) ?_
  refine mrg wa (fun hc _ h => cs (w := good_BEqual na nb (a.take b.length) b (by simp; omega) (by omega)) (x := h)) ?_
  iterate 2 refine stp (fun _ h => s0 h) ?_
  refine aops_nil ?_
  refine AW.ret ?_
  refine ⟨.inr rfl, ?_⟩
  refine leaves_tmp1 4 rfl ?_ (by exact hG)
  simp (disch := first | omega | decide) only [go_sem, F, aIndex_map]
  all_goals rfl
attribute [go_sem] cellsOf_u8
theorem good_IndexFuncByte (nil : Bool) (l : List (BitVec 8)) (f : FuncId) (caps : List AV) (p : (BitVec 8) → Bool) (hl : l.length ≤ 9223372036854775807) (hcn : noPtrL caps = true) (hpu : cfg.pure f = true) (hsc : cfg.scalar f = true) (hxf : cfg.xfer f = false) (hp : ∀ x ∈ l, Good Tryz.prog f (([u8 x] ++ caps).map fun a => (a, false)) [] [(.b (p x), false)] []) : Good Tryz.prog 133 [(.sl 1 nil (l.map u8), false), (.clo f caps, false)] [] [(i64 (findI p l), false)] [] := by
  refine good_of_body2 19 Tryz.func133 rfl rfl rfl (by simp) ?_
  intro s m ha hr hv hG
  have f0 : s 0 = .v (.sl 1 nil (l.map u8)) := ha 0 _ rfl
  have f1 : s 1 = .v (.clo f caps) := ha 1 _ rfl
  clear ha
  have hc : True := trivial
  have F := (And.intro f0 (And.intro f1 hG))
  refine AW.seq ?_
  refine AW.region (cfg := cfg) ?_
  refine stp (fun _ h => s0 h) ?_
  refine aops_nil ?_
  refine AW.seq ?_
  refine AW.seq ?_
  refine AW.region (cfg := cfg) ?_
  refine stp (fun _ h => s0 h) ?_
  refine stp (fun _ h => sd h) ?_
  refine stp (fun _ h => s0 h) ?_
  refine aops_nil ?_
  refine AW.block ?_
  refine AW.forN (fun k σ => ∃ s m, σ = ⟨19, s, m⟩ ∧ s 0 = .v (.sl 1 nil (l.map u8)) ∧ s 1 = .v (.clo f caps) ∧ s 7 = .v (i64 (l.length : Int)) ∧ s 8 = .v (i64 (k : Int)) ∧ (∀ x ∈ l.take k, p x = false) ∧ m.G = []) (l.length) ?_ ?_ ?_
  · refine ⟨_, _, rfl, ?_, ?_, ?_, ?_, ?_, (by exact hG)⟩ <;> try simp (disch := first | omega | decide) only [go_sem, F, aIndex_map]
    all_goals first | rfl | (simp; done)
  · clear F f0 f1 hG
    rintro k σ hk ⟨s, m, rfl, f0, f1, f7, f8, mo0, hG⟩
    have F := (And.intro f0 (And.intro f1 (And.intro f7 (And.intro f8 hG))))
    refine AW.seq ?_
    refine AW.region (cfg := cfg) ?_
    refine stp (fun _ h => s0 h) ?_
    refine aops_nil ?_
    refine AW.seq ?_
    refine cnd (fun hb => ?ht1) (fun hb => ?hf1)
    case hf1 => (simp at hb; omega)
    case ht1 =>
    have hbt9 := hb
    refine AW.skip ?_
    refine AW.seq ?_
    refine AW.block ?_
    refine AW.seq ?_
    refine AW.region (cfg := cfg) ?_
    iterate 2 refine stp (fun _ h => s0 h) ?_
    refine aops_nil ?_
    refine AW.seq ?_
    refine AW.region (cfg := cfg) ?_
    iterate 3 refine stp (fun _ h => s0 h) ?_
    refine stp (fun _ h => si h) ?_
    refine stp (fun _ h => sl h) ?_
    apply aops_step (by decide) rfl
    · intro K hK
      simp (disch := first | omega | decide) only [go_sem, F, aIndex_map, act_callv, List.map]
      apply mwp_call_sc hpu hxf hsc
      · intro Q hQ
        simp (disch := first | omega | decide) only [go_sem, F, aIndex_map, peekL, reifyL_nil, reifyL_cons, reify_v]
        exact hQ
      · exact hp l[k] (List.getElem_mem hk)
      · simp [noPtrL, noPtr, u8, hcn]
      · rfl
      · exact hK _
    refine aops_nil ?_
    refine cnd (fun hb => ?ht2) (fun hb => ?hf2)
    case ht2 =>
      have hw16 := hb
      try simp only [bo1, bo2, bo3, bo4, bo5, bo6] at hb
      have hbt16 := hb
      refine AW.seq ?_
      refine AW.region (cfg := cfg) ?_
      iterate 2 refine stp (fun _ h => s0 h) ?_
      refine aops_nil ?_
      refine AW.ret ?_
      refine ⟨.inr rfl, ?_⟩
      refine leaves_tmp1 4 rfl ?_ (by exact hG)
      simp (disch := first | omega | decide) only [go_sem, F, aIndex_map]
      all_goals (rw [findI_at hk mo0 hb]; done)
    case hf2 =>
      have hw16 := hb
      try simp only [bo1, bo2, bo3, bo4, bo5, bo6] at hb
      have hbt16 := hb
      refine AW.skip ?_
      refine AW.region (cfg := cfg) ?_
      refine stp (fun _ h => sd h) ?_
      refine stp (fun _ h => s0 h) ?_
      refine aops_nil ?_
      refine ⟨_, _, rfl, ?_, ?_, ?_, ?_, ?_, (by exact hG)⟩ <;> try simp (disch := first | omega | decide) only [go_sem, F, aIndex_map]
      all_goals first | rfl | skip
      all_goals (intro x hx; rw [List.take_succ_eq_append_getElem hk] at hx; rcases List.mem_append.1 hx with h | h; exact mo0 x h; rw [List.mem_singleton.1 h]; exact hb)
  · clear F f0 f1 hG
    rintro σ ⟨s, m, rfl, f0, f1, f7, f8, mo0, hG⟩
    have F := (And.intro f0 (And.intro f1 (And.intro f7 (And.intro f8 hG))))
    refine AW.seq ?_
    refine AW.region (cfg := cfg) ?_
    refine stp (fun _ h => s0 h) ?_
    refine aops_nil ?_
    refine AW.seq ?_
    refine cnd (fun hb => ?ht3) (fun hb => ?hf3)
    case ht3 => (simp at hb; done)
    case hf3 =>
    have hbt9 := hb
    refine AW.exit ?_
    refine AW.seq ?_
    refine AW.region (cfg := cfg) ?_
    refine stp (fun _ h => s0 h) ?_
    refine aops_nil ?_
    refine AW.ret ?_
    refine ⟨.inr rfl, ?_⟩
    refine leaves_tmp1 4 rfl ?_ (by exact hG)
    simp (disch := first | omega | decide) only [go_sem, F, aIndex_map]
    all_goals (rw [findI_none (by simpa using mo0)]; done)
theorem good_ContainsFuncByte (nil : Bool) (l : List (BitVec 8)) (f : FuncId) (caps : List AV) (p : (BitVec 8) → Bool) (hl : l.length ≤ 9223372036854775807) (hcn : noPtrL caps = true) (hpu : cfg.pure f = true) (hsc : cfg.scalar f = true) (hxf : cfg.xfer f = false) (hp : ∀ x ∈ l, Good Tryz.prog f (([u8 x] ++ caps).map fun a => (a, false)) [] [(.b (p x), false)] []) : Good Tryz.prog 107 [(.sl 1 nil (l.map u8), false), (.clo f caps, false)] [] [(.b (l.any p), false)] [] := by
  refine good_of_body2 9 Tryz.func107 rfl rfl rfl (by simp) ?_
  intro s m ha hr hv hG
  have f0 : s 0 = .v (.sl 1 nil (l.map u8)) := ha 0 _ rfl
  have f1 : s 1 = .v (.clo f caps) := ha 1 _ rfl
  clear ha
  have hc : True := trivial
  have F := (And.intro f0 (And.intro f1 hG))
  have F := And.intro hcn F
  refine AW.seq ?_
  refine AW.region (cfg := cfg) ?_
  refine stp (fun _ h => s0 h) ?_
  refine aops_nil ?_
  refine AW.seq ?_
  refine AW.region (cfg := cfg) ?_
  iterate 2 refine stp (fun _ h => s0 h) ?_
  refine stp (fun _ h => cs (w := good_IndexFuncByte nil l f caps p hl hcn hpu hsc hxf hp) (x := h)) ?_
  iterate 2 refine stp (fun _ h => s0 h) ?_
  refine aops_nil ?_
  refine AW.ret ?_
  refine ⟨.inr rfl, ?_⟩
  refine leaves_tmp1 4 rfl ?_ (by exact hG)
  simp (disch := first | omega | decide) only [go_sem, F, aIndex_map]
  all_goals (rw [findI_any]; done)
theorem good_nzG (x : BitVec 8) : Good Tryz.prog 109 [(u8 x, false)] [] [(.b (nz x), false)] [] := by
  refine good_of_body2 5 Tryz.func109 rfl rfl rfl (by simp) ?_
  intro s m ha hr hv hG
  have f0 : s 0 = .v (u8 x) := ha 0 _ rfl
  clear ha
  have hc : True := trivial
  have F := (And.intro f0 hG)
  refine AW.seq ?_
  refine AW.region (cfg := cfg) ?_
  refine stp (fun _ h => s0 h) ?_
  refine aops_nil ?_
  refine AW.seq ?_
  refine AW.region (cfg := cfg) ?_
  iterate 3 refine stp (fun _ h => s0 h) ?_
  refine aops_nil ?_
  refine AW.ret ?_
  refine ⟨.inr rfl, ?_⟩
  refine leaves_tmp1 2 rfl ?_ (by exact hG)
  simp (disch := first | omega | decide) only [go_sem, F, aIndex_map]
  all_goals rfl
theorem good_nzB (x : BitVec 8) : Good Tryz.prog 113 [(u8 x, false)] [] [(.b (nz x), false)] [] := by
  refine good_of_body2 5 Tryz.func113 rfl rfl rfl (by simp) ?_
  intro s m ha hr hv hG
  have f0 : s 0 = .v (u8 x) := ha 0 _ rfl
  clear ha
  have hc : True := trivial
  have F := (And.intro f0 hG)
  refine AW.seq ?_
  refine AW.region (cfg := cfg) ?_
  refine stp (fun _ h => s0 h) ?_
  refine aops_nil ?_
  refine AW.seq ?_
  refine AW.region (cfg := cfg) ?_
  iterate 3 refine stp (fun _ h => s0 h) ?_
  refine aops_nil ?_
  refine AW.ret ?_
  refine ⟨.inr rfl, ?_⟩
  refine leaves_tmp1 2 rfl ?_ (by exact hG)
  simp (disch := first | omega | decide) only [go_sem, F, aIndex_map]
  all_goals rfl
theorem good_withinP (n lo hi : Int) : Good Tryz.prog 115 [(i64 n, false), (i64 lo, false), (i64 hi, false)] [] [(.b (wi n lo hi), false)] [] := by
  refine good_of_body2 15 Tryz.func115 rfl rfl rfl (by simp) ?_
  intro s m ha hr hv hG
  have f0 : s 0 = .v (i64 n) := ha 0 _ rfl
  have f1 : s 1 = .v (i64 lo) := ha 1 _ rfl
  have f2 : s 2 = .v (i64 hi) := ha 2 _ rfl
  clear ha
  have hc : True := trivial
  have F := (And.intro f0 (And.intro f1 (And.intro f2 hG)))
  refine AW.seq ?_
  refine AW.region (cfg := cfg) ?_
  refine stp (fun _ h => s0 h) ?_
  refine aops_nil ?_
  refine AW.seq ?_
  refine AW.region (cfg := cfg) ?_
  iterate 4 refine stp (fun _ h => s0 h) ?_
  iterate 3 refine mrg wa (fun hc _ h => s0 h) ?_
  iterate 2 refine stp (fun _ h => s0 h) ?_
  refine aops_nil ?_
  refine AW.ret ?_
  refine ⟨.inr rfl, ?_⟩
  refine leaves_tmp1 6 rfl ?_ (by exact hG)
  simp (disch := first | omega | decide) only [go_sem, F, aIndex_map]
  all_goals rfl
theorem wrap_p {p : Page} : (wi p.kind 1 9 && wi p.gen 0 2147483648 && wi p.mark 0 2147483648 && wi p.idx 0 2147483648 && wi p.parts 1 16 && wi p.part 0 (IntKind.i64.wrap (p.parts - 1)) && decide ((p.b.length : Int) ≤ 488)) = pageOK p := by
  rw [Bool.eq_iff_iff]
  simp only [pageOK, wi, inn, Bool.and_eq_true, decide_eq_true_eq]
  constructor
  · intro h
    have e : IntKind.i64.wrap (p.parts - 1) = p.parts - 1 := wrap64 (by omega)
    rw [e] at h; omega
  · intro h
    have e : IntKind.i64.wrap (p.parts - 1) = p.parts - 1 := wrap64 (by omega)
    rw [e]; omega
theorem ok_ref {p : Page} : ((((((((((decide (p.kind ≥ 1) && decide (p.kind ≤ 9)) && inn p.gen 2147483648) && inn p.mark 2147483648) && inn p.idx 2147483648) && decide (p.parts ≥ 1)) && decide (p.parts ≤ 16)) && decide (p.part ≥ 0)) && decide (p.part < p.parts)) && decide ((p.b.length : Int) ≤ 488))) = pageOK p := by
  rw [Bool.eq_iff_iff]
  simp only [pageOK, wi, inn, Bool.and_eq_true, decide_eq_true_eq]
  omega
theorem good_mayP (p : Page) (hp : p.b.length ≤ 9223372036854775807) : Good Tryz.prog 83 [(pageA p, false)] [] [(.b (pageOK p), false)] [] := by
  refine good_of_body2 40 Tryz.func83 rfl rfl rfl (by simp) ?_
  intro s m ha hr hv hG
  have f0 : s 0 = .v (.agg [i64 p.kind, i64 p.gen, i64 p.mark, i64 p.idx, i64 p.part, i64 p.parts, .sl 1 p.nil (bsl p.b)]) := ha 0 _ rfl
  clear ha
  have hc : True := trivial
  have F := (And.intro f0 hG)
  refine AW.seq ?_
  refine AW.region (cfg := cfg) ?_
  refine stp (fun _ h => sb h) ?_
  refine stp (fun _ h => s0 h) ?_
  refine aops_nil ?_
  refine AW.seq ?_
  refine AW.region (cfg := cfg) ?_
  refine stp (fun _ h => sx h) ?_
  refine stp (fun _ h => sl h) ?_
  refine stp (fun _ h => cs (w := good_withinP _ _ _) (x := h)) ?_
  refine stp (fun _ h => s0 h) ?_
  refine mrg wa (fun hc _ h => sx h) ?_
  refine mrg wa (fun hc _ h => sl h) ?_
  refine mrg wa (fun hc _ h => cs (w := good_withinP _ _ _) (x := h)) ?_
  iterate 2 refine stp (fun _ h => s0 h) ?_
  refine mrg wa (fun hc _ h => sx h) ?_
  refine mrg wa (fun hc _ h => sl h) ?_
  refine mrg wa (fun hc _ h => cs (w := good_withinP _ _ _) (x := h)) ?_
  iterate 2 refine stp (fun _ h => s0 h) ?_
  refine mrg wa (fun hc _ h => sx h) ?_
  refine mrg wa (fun hc _ h => sl h) ?_
  refine mrg wa (fun hc _ h => cs (w := good_withinP _ _ _) (x := h)) ?_
  iterate 2 refine stp (fun _ h => s0 h) ?_
  refine mrg wa (fun hc _ h => sx h) ?_
  refine mrg wa (fun hc _ h => sl h) ?_
  refine mrg wa (fun hc _ h => cs (w := good_withinP _ _ _) (x := h)) ?_
  iterate 2 refine stp (fun _ h => s0 h) ?_
  refine mrg wa (fun hc _ h => sx h) ?_
  refine mrg wa (fun hc _ h => sl h) ?_
  refine mrg wa (fun hc _ h => sx h) ?_
  refine mrg wa (fun hc _ h => sl h) ?_
  refine mrg wa (fun hc _ h => sd h) ?_
  refine mrg wa (fun hc _ h => cs (w := good_withinP _ _ _) (x := h)) ?_
  iterate 2 refine stp (fun _ h => s0 h) ?_
  refine mrg wa (fun hc _ h => sx h) ?_
  refine mrg wa (fun hc _ h => sl h) ?_
  refine mrg wa (fun hc _ h => sd h) ?_
  refine mrg wa (fun hc _ h => s0 h) ?_
  iterate 2 refine stp (fun _ h => s0 h) ?_
  refine aops_nil ?_
  refine AW.ret ?_
  refine ⟨.inr rfl, ?_⟩
  refine leaves_tmp1 2 rfl ?_ (by exact hG)
  simp (disch := first | omega | decide) only [go_sem, F, aIndex_map]
  all_goals (rw [wrap_p]; done)
end Go.Vai.G
namespace Go.Vai.G
open Go.Proofs Go.Vai Go.Vai.L Go.Vai.O Go.Vai.U Go.Vai.Z
set_option linter.unusedSimpArgs false
set_option linter.unusedVariables false
set_option maxHeartbeats 4000000
set_option maxRecDepth 100000
open Go.Vai.Z (sealS okO okV body seal_open)
def magK (p : Page) : List (BitVec 8) := [87#8, 65#8, 89#8] ++ numR p.kind 1
def three (p : Page) : List Int := [p.gen, p.mark, p.idx]
def gmi (p : Page) (k : Nat) : List (BitVec 8) := ((three p).take k).flatMap fun x => numR x 4
theorem gmi_succ {p : Page} {k : Nat} (h : k < 3) : gmi p (k + 1) = gmi p k ++ numR ((three p)[k]'h) 4 := by
  unfold gmi
  rw [List.take_succ_eq_append_getElem h]; simp only [List.flatMap_append, List.flatMap_cons, List.flatMap_nil, List.append_nil]
@[simp] theorem gmi_len (p : Page) (k : Nat) (h : k ≤ 3) : (gmi p k).length = 4 * k := by
  have : k = 0 ∨ k = 1 ∨ k = 2 ∨ k = 3 := by omega
  rcases this with rfl | rfl | rfl | rfl <;> simp [gmi, three, numR_length]
theorem three_bd {p : Page} (h : pageOK p = true) {k : Nat} (hk : k < 3) : 0 ≤ (three p)[k]'hk ∧ (three p)[k]'hk ≤ 2147483648 := by
  have b := page_bd h
  have : k = 0 ∨ k = 1 ∨ k = 2 := by omega
  rcases this with rfl | rfl | rfl <;> simp [three] <;> omega
@[simp] theorem three_len (p : Page) : (three p).length = 3 := rfl
def pgPut (p : Page) : List (BitVec 8) := if pageOK p then sealS (pageB p) else []
def pgE (p : Page) : Int := if pageOK p then 0 else 1
theorem pageH_is (p : Page) : pageH p = (((magK p ++ gmi p 3) ++ numR p.part 1) ++ numR p.parts 1) ++ (numR (p.b.length : Int) 2 ++ p.b) := by
  simp [pageH, magK, gmi, three]
theorem pg_ok {p : Page} (h : pageOK p = true) : pgPut p = sealS (pageB p) ∧ pgE p = 0 := by simp [pgPut, pgE, h]
theorem pg_no {p : Page} (h : pageOK p = false) : pgPut p = [] ∧ pgE p = 1 := by simp [pgPut, pgE, h]
theorem pgE_ok (p : Page) : decide (pgE p = 0) = pageOK p := by cases h : pageOK p <;> simp [pgE, h]
@[simp] theorem magK_len (p : Page) : (magK p).length = 4 := by simp [magK, numR_length]
attribute [go_sem] numS1 numS4 nm1 nm4 Bool.false_and List.append_assoc Nat.zero_add Int.toNat_natCast
theorem good_PutP (p : Page) (hp : p.b.length ≤ 9223372036854775807) : Good Tryz.prog 46 [(pageA p, false)] [] [(.sl 1 (!pageOK p) (bsl (pgPut p)), true), (i64 (pgE p), false)] [] := by
  refine good_of_body3 55 Tryz.func46 rfl rfl rfl (by simp) ?_
  intro s m ha hr hv hG
  have f0 : s 0 = .v (.agg [i64 p.kind, i64 p.gen, i64 p.mark, i64 p.idx, i64 p.part, i64 p.parts, .sl 1 p.nil (bsl p.b)]) := ha 0 _ rfl
  clear ha
  have hc : True := trivial
  have F := (And.intro f0 hG)
  refine AW.seq ?_
  refine AW.region (cfg := cfg4) ?_
  refine stp (fun _ h => sb h) ?_
  iterate 2 refine stp (fun _ h => s0 h) ?_
  refine aops_nil ?_
  refine AW.seq ?_
  refine AW.seq ?_
  refine AW.region (cfg := cfg4) ?_
  refine stp (fun _ h => sl h) ?_
  refine stp (fun _ h => cs (w := good_mayP _ (by omega)) (x := h)) ?_
  refine stp (fun _ h => s0 h) ?_
  refine aops_nil ?_
  refine cnd (fun hb => ?ht1) (fun hb => ?hf1)
  case ht1 =>
    have hw9 := hb
    try simp only [bo1, bo2, bo3, bo4, bo5, bo6] at hb
    have hbt9 := hb
    refine AW.seq ?_
    refine AW.region (cfg := cfg4) ?_
    iterate 2 refine stp (fun _ h => s0 h) ?_
    refine aops_nil ?_
    refine AW.ret ?_
    refine ⟨.inr rfl, ?_⟩
    all_goals (have z : pageOK p = false := (by simpa using hbt9); obtain ⟨e1, e2⟩ := pg_no z; rw [z, e1, e2]; refine leavesN (leaves_own2 2 3 rfl (by simp (disch := first | omega | decide) only [go_sem, F, aIndex_map] <;> rfl) (by simp (disch := first | omega | decide) only [go_sem, F, aIndex_map] <;> rfl) (by simp (disch := first | omega | decide) only [go_sem, F, aIndex_map] <;> rfl) (by decide) (by simp [sub]) (by exact hG)))
  case hf1 =>
    have hw9 := hb
    try simp only [bo1, bo2, bo3, bo4, bo5, bo6] at hb
    have hbt9 := hb
    refine AW.skip ?_
    refine AW.seq ?_
    have hok : pageOK p = true := by simpa using hbt9
    obtain ⟨c1, c2, c3, c4, c5, c6, c7⟩ := page_bd hok
    have e1 : [87#8, 65#8, 89#8] ++ numR p.kind 1 = magK p := rfl
    have F := And.intro e1 F
    refine AW.region (cfg := cfg4) ?_
    refine stp (fun _ h => sq h) ?_
    refine stp (fun _ h => sc h) ?_
    refine stp (fun _ h => sx h) ?_
    refine stp (fun _ h => sl h) ?_
    refine stp (fun _ h => sd h) ?_
    refine stp (fun _ h => co1 (w := good_Num false [87#8, 65#8, 89#8] (by simp) (by simp) 1 p.kind (by omega)) (x := h)) ?_
    refine stp (fun _ h => st h) ?_
    refine aops_nil ?_
    refine AW.seq ?_
    refine AW.seq ?_
    refine AW.region (cfg := cfg4) ?_
    refine stp (fun _ h => sx h) ?_
    refine stp (fun _ h => sl h) ?_
    refine stp (fun _ h => sx h) ?_
    refine stp (fun _ h => sl h) ?_
    refine stp (fun _ h => sx h) ?_
    refine stp (fun _ h => sl h) ?_
    refine stp (fun _ h => sq h) ?_
    refine stp (fun _ h => sn h) ?_
    refine stp (fun _ h => s0 h) ?_
    refine aops_nil ?_
    refine AW.block ?_
    refine AW.forN (fun k σ => ∃ s m, σ = ⟨55, s, m⟩ ∧ s 1 = .lptr (.tmp 1 0) (m.objs (.tmp 1 0)).1 0 ∧ (m.objs (.tmp 1 0)).2 = .box [.v (i64 p.kind), .v (i64 p.gen), .v (i64 p.mark), .v (i64 p.idx), .v (i64 p.part), .v (i64 p.parts), .v (.sl 1 p.nil (bsl p.b))] ∧ s 4 = .own (.var 4) (m.objs (.var 4)).1 0 (4 + 4 * k) ∧ (m.objs (.var 4)).2 = .arr false 1 (bsl (magK p ++ gmi p k)) ∧ s 22 = .own (.tmp 22 0) (m.objs (.tmp 22 0)).1 0 (3) ∧ (m.objs (.tmp 22 0)).2 = .arr false 1 ((three p).map i64) ∧ s 23 = .v (i64 3) ∧ s 24 = .v (i64 (k : Int)) ∧ (pageOK p = true) ∧ (∀ i, (m.objs (.res i)).2 = .dead) ∧ m.G = []) (3) ?_ ?_ ?_
    · refine ⟨_, _, rfl, ?_, ?_, ?_, ?_, ?_, ?_, ?_, ?_, ?_, (by intro i; simp [Mem.set, hr]), (by exact hG)⟩ <;> try simp (disch := first | omega | decide) only [go_sem, F, aIndex_map]
      all_goals first | rfl | assumption
    · clear F f0 hr hG
      rintro k σ hk ⟨s, m, rfl, f1, o1, f4, o4, f22, o22, f23, f24, mo0, hr, hG⟩
      obtain ⟨g1, o1⟩ : ∃ g, m.objs (.tmp 1 0) = (g, .box [.v (i64 p.kind), .v (i64 p.gen), .v (i64 p.mark), .v (i64 p.idx), .v (i64 p.part), .v (i64 p.parts), .v (.sl 1 p.nil (bsl p.b))]) := ⟨_, Prod.ext rfl o1⟩
      rw [o1] at f1
      obtain ⟨g4, o4⟩ : ∃ g, m.objs (.var 4) = (g, .arr false 1 (bsl (magK p ++ gmi p k))) := ⟨_, Prod.ext rfl o4⟩
      rw [o4] at f4
      obtain ⟨g22, o22⟩ : ∃ g, m.objs (.tmp 22 0) = (g, .arr false 1 ((three p).map i64)) := ⟨_, Prod.ext rfl o22⟩
      rw [o22] at f22
      have F := (And.intro f1 (And.intro f4 (And.intro f22 (And.intro f23 (And.intro f24 (And.intro o1 (And.intro o4 (And.intro o22 (And.intro e1 hG)))))))))
      refine AW.seq ?_
      refine AW.region (cfg := cfg4) ?_
      refine stp (fun _ h => s0 h) ?_
      refine aops_nil ?_
      refine AW.seq ?_
      refine cnd (fun hb => ?ht2) (fun hb => ?hf2)
      case hf2 => (simp at hb; omega)
      case ht2 =>
      have hbt25 := hb
      refine AW.skip ?_
      refine AW.seq ?_
      refine AW.block ?_
      refine AW.seq ?_
      refine AW.region (cfg := cfg4) ?_
      refine stp (fun _ h => si h) ?_
      refine stp (fun _ h => sl h) ?_
      refine stp (fun _ h => s0 h) ?_
      refine aops_nil ?_
      have c8 := three_bd hok hk
      have c9 := gmi_len p k (by omega)
      refine AW.region (cfg := cfg4) ?_
      iterate 2 refine stp (fun _ h => s0 h) ?_
      refine stp (fun _ h => sd h) ?_
      refine stp (fun _ h => co1 (w := good_Num false (magK p ++ gmi p k) (by simp [magK_len, c9]; omega) (by simp [magK]) 4 _ (by omega)) (x := h)) ?_
      refine stp (fun _ h => st h) ?_
      refine aops_nil ?_
      refine AW.region (cfg := cfg4) ?_
      refine stp (fun _ h => sd h) ?_
      refine stp (fun _ h => s0 h) ?_
      refine aops_nil ?_
      refine ⟨_, _, rfl, ?_, ?_, ?_, ?_, ?_, ?_, ?_, ?_, ?_, (by intro i; simp [Mem.set, hr]), (by exact hG)⟩ <;> try simp (disch := first | omega | decide) only [go_sem, F, aIndex_map]
      all_goals first | rfl | assumption | (rw [gmi_succ hk]; rfl) | (simp [magK_len, numR_length, c9]; omega)
    · clear F f0 hr hG
      rintro σ ⟨s, m, rfl, f1, o1, f4, o4, f22, o22, f23, f24, mo0, hr, hG⟩
      obtain ⟨g1, o1⟩ : ∃ g, m.objs (.tmp 1 0) = (g, .box [.v (i64 p.kind), .v (i64 p.gen), .v (i64 p.mark), .v (i64 p.idx), .v (i64 p.part), .v (i64 p.parts), .v (.sl 1 p.nil (bsl p.b))]) := ⟨_, Prod.ext rfl o1⟩
      rw [o1] at f1
      obtain ⟨g4, o4⟩ : ∃ g, m.objs (.var 4) = (g, .arr false 1 (bsl (magK p ++ gmi p 3))) := ⟨_, Prod.ext rfl o4⟩
      rw [o4] at f4
      obtain ⟨g22, o22⟩ : ∃ g, m.objs (.tmp 22 0) = (g, .arr false 1 ((three p).map i64)) := ⟨_, Prod.ext rfl o22⟩
      rw [o22] at f22
      have F := (And.intro f1 (And.intro f4 (And.intro f22 (And.intro f23 (And.intro f24 (And.intro o1 (And.intro o4 (And.intro o22 (And.intro e1 hG)))))))))
      refine AW.seq ?_
      refine AW.region (cfg := cfg4) ?_
      refine stp (fun _ h => s0 h) ?_
      refine aops_nil ?_
      refine AW.seq ?_
      refine cnd (fun hb => ?ht3) (fun hb => ?hf3)
      case ht3 => (simp at hb; done)
      case hf3 =>
      have hbt25 := hb
      refine AW.exit ?_
      refine AW.seq ?_
      have c9 := gmi_len p 3 (by omega)
      refine AW.draw (cfg := cfg4) (by kernel_rfl) (by kernel_rfl) (by kernel_rfl) ?_
      refine dstp (fun _ h => s0 h) ?_
      refine dstp (fun _ h => sx h) ?_
      refine dstp (fun _ h => sl h) ?_
      refine dstp (fun _ h => sd h) ?_
      refine dstp (fun _ h => co1 (w := good_Num false (magK p ++ gmi p 3) (by simp [magK_len, c9]) (by simp [magK]) 1 p.part (by omega)) (x := h)) ?_
      refine dstp (fun _ h => sx h) ?_
      refine dstp (fun _ h => sl h) ?_
      refine dstp (fun _ h => sd h) ?_
      refine dstp (fun _ h => co1 (w := good_Num false ((magK p ++ gmi p 3) ++ numR p.part 1) (by simp [magK_len, c9, numR_length]) (by simp [magK]) 1 p.parts (by omega)) (x := h)) ?_
      refine dstp (fun _ h => st h) ?_
      refine adraw_nil (by kernel_rfl) ?_
      refine AW.seq ?_
      have tr := txR_ok (l := magK p ++ (gmi p 3 ++ (numR p.part 1 ++ numR p.parts 1))) (t := p.b) (by omega)
      have to := txO_ok (t := p.b) (by omega)
      have e2 : (((magK p ++ (gmi p 3 ++ (numR p.part 1 ++ (numR p.parts 1 ++ (numR (p.b.length : Int) 2 ++ p.b))))).length : Nat) : Int) = 20 + (p.b.length : Int) := by (simp [magK_len, c9, numR_length]; omega)
      have e3 : magK p ++ (gmi p 3 ++ (numR p.part 1 ++ (numR p.parts 1 ++ (numR (p.b.length : Int) 2 ++ p.b)))) ++ List.replicate (508 - (20 + (p.b.length : Int))).toNat 0#8 = pageB p := by (rw [pageB, pageH_is, show (508 - (20 + (p.b.length : Int))).toNat = 488 - p.b.length by omega]; simp only [List.append_assoc])
      have e6 := pageB_len (p := p) (by omega)
      have F := And.intro tr F
      have F := And.intro to F
      have F := And.intro e2 F
      refine AW.region (cfg := cfg4) ?_
      refine stp (fun _ h => s0 h) ?_
      refine stp (fun _ h => sx h) ?_
      refine stp (fun _ h => sl h) ?_
      refine stp (fun _ h => co2 (w := O.good_Text false (magK p ++ (gmi p 3 ++ (numR p.part 1 ++ numR p.parts 1))) p.nil p.b (by simp [magK_len, c9, numR_length]) (by simp [magK]) (by simp [magK_len, c9, numR_length]; omega)) (x := h)) ?_
      iterate 3 refine stp (fun _ h => s0 h) ?_
      refine stp (fun _ h => st h) ?_
      refine aops_nil ?_
      refine AW.seq ?_
      refine AW.region (cfg := cfg4) ?_
      iterate 2 refine stp (fun _ h => s0 h) ?_
      refine stp (fun _ h => sn h) ?_
      refine stp (fun _ h => sd h) ?_
      refine stp (fun _ h => kab h) ?_
      refine stp (fun _ h => co1 (w := Z.good_Seal false _ ((show ∀ x : List (BitVec 8), x = pageB p → x.length ≤ 900000 from fun x h => by rw [h]; omega) _ (by simpa only [List.append_assoc] using e3))) (x := h)) ?_
      refine stp (fun _ h => st h) ?_
      refine stp (fun _ h => s0 h) ?_
      refine aops_nil ?_
      refine AW.ret ?_
      refine ⟨.inr rfl, ?_⟩
      all_goals (obtain ⟨e4, e5⟩ := pg_ok hok; rw [hok, e4, e5, ← e3]; refine leavesN (leaves_own2 2 3 rfl (by simp (disch := first | omega | decide) only [go_sem, F, aIndex_map] <;> rfl) (by simp (disch := first | omega | decide) only [go_sem, F, aIndex_map] <;> rfl) (by simp (disch := first | omega | decide) only [go_sem, F, aIndex_map] <;> rfl) (by decide) (by simp [sub, List.take_of_length_le]) (by exact hG)))
end Go.Vai.G
namespace Go.Vai.G
open Go.Proofs Go.Vai Go.Vai.L Go.Vai.O Go.Vai.U Go.Vai.Z
set_option linter.unusedSimpArgs false
set_option linter.unusedVariables false
set_option maxHeartbeats 4000000
set_option maxRecDepth 100000
attribute [simp] pageH_len
open Go.Vai.Z (sealS okO okV body seal_open sealS_len ckB)
theorem mag4 (k : Int) : ([.base (.int .u8 87), .base (.int .u8 65), .base (.int .u8 89), .base (.int .u8 ((BitVec.ofInt 8 k).toNat : Int))] : List AV) = ([87#8, 65#8, 89#8] ++ numR k 1).map u8 := by rw [numR_one]; rfl
theorem two1 (a b : Int) : ([.base (.int .u8 ((BitVec.ofInt 8 a).toNat : Int)), .base (.int .u8 ((BitVec.ofInt 8 b).toNat : Int))] : List AV) = (numR a 1 ++ numR b 1).map u8 := by rw [numR_one, numR_one]; rfl
theorem zer1 : ([.base (.int .u8 0)] : List AV) = [0#8].map u8 := rfl
def pgGood (b : List (BitVec 8)) : Bool := decide (b.length = 512) && (decide (pgN b ≤ 488) && (pageOK (pgP b) && decide (pgPut (pgP b) = b)))
def pgV (b : List (BitVec 8)) : Page := if pgGood b then pgP b else page0
def pgR (b : List (BitVec 8)) : Int := if pgGood b then 0 else 2
attribute [go_sem] getD_get Int.toNat_zero Int.toNat_one
attribute [go_sem] mag4 two1 zer1
end Go.Vai.G
namespace Go.Vai.G
open Go.Proofs Go.Vai Go.Vai.L Go.Vai.O Go.Vai.U Go.Vai.Z
set_option linter.unusedSimpArgs false
set_option linter.unusedVariables false
set_option maxHeartbeats 4000000
set_option maxRecDepth 100000
open Go.Vai.Z (sealS okO okV body seal_open sealS_len ckB)
theorem pgV_no {l : List (BitVec 8)} (h : pgGood l = false) : pgV l = page0 := by rw [pgV, h]; rfl
theorem pgV_is {l : List (BitVec 8)} (h : pgGood l = true) : pgV l = pgP l := by rw [pgV, h]; rfl
attribute [go_sem] Bool.not_true Bool.not_false Bool.true_or
end Go.Vai.G
namespace Go.Vai.G
open Go.Proofs Go.Vai Go.Vai.L Go.Vai.O Go.Vai.U Go.Vai.Z
set_option linter.unusedSimpArgs false
set_option linter.unusedVariables false
open Go.Vai.Z (sealS okO okV body seal_open sealS_len ckB)
def mag : List (BitVec 8) := [87#8, 65#8, 89#8]
theorem three_way (l : List (BitVec 8)) : (okO l = true ∧ (okV l).length = 508) ∨ (okO l = true ∧ ¬ (okV l).length = 508) ∨ okO l = false := by
 cases okO l with
 | false => exact .inr (.inr rfl)
 | true =>
   by_cases h : (okV l).length = 508
   ·exact .inl ⟨rfl, h⟩
   ·exact .inr (.inl ⟨rfl, h⟩)
theorem okV_is {l : List (BitVec 8)} (h : okO l = true) (h2 : (okV l).length = 508) : okV l = l.take 508 ∧ l.length = 512 := by
 have e : okV l = body l := by rw [okV, h, if_pos rfl]
 have h3 : 4 ≤ l.length := by
  simp only [okO, Bool.and_eq_true, decide_eq_true_eq] at h; exact h.1
 rw [e, body] at h2
 have : l.length = 512 := by simp at h2; omega
 exact ⟨by rw [e, body, this], this⟩
theorem rd3 {i : List (BitVec 8)} (h : i.length = 508) (k : Nat) (w : Int) (hw : 1 ≤ w ∧ w ≤ 8) (hk : (k : Int) + w ≤ 508) : rnV (i.drop k) false w = rV i k false w ∧ rnL (i.drop k) false w = i.drop (k + w.toNat) ∧ rnW (i.drop k) false w = false := drop_nums hw (by omega)
theorem sB_iff {i : List (BitVec 8)} (h : i.length = 508) : sBad i 18 false = decide (pgN i > 488) := by
 obtain ⟨e1, e2⟩ := rA_ok (l := i) (a := 18) (k := 2) (by omega) (by omega)
 simp only [sBad, e1, e2, Bool.false_or, pgN]
 exact decide_eq_decide.2 (by rw [h]; first | (simp; done) | (simp; omega))
theorem sV_is {i : List (BitVec 8)} (h : i.length = 508) (hb : sBad i 18 false = false) : sV i 18 false = (i.drop 20).take (pgN i).toNat ∧ sA i 18 false = 20 + (pgN i).toNat ∧ pgN i ≤ 488 := by
 obtain ⟨e1, e2⟩ := rA_ok (l := i) (a := 18) (k := 2) (by omega) (by omega)
 refine ⟨?_, ?_, ?_⟩
 ·rw [sV, hb, e2]; rfl
 ·rw [sA, hb, e2]; rfl
 ·rw [sB_iff h] at hb; simpa using hb
def pgIn (i : List (BitVec 8)) : Bool := hasP i mag && (decide (pgN i ≤ 488) && (pageOK (pgP i) && !((i.drop (20 + (pgN i).toNat)).any nz)))
theorem any_nz : ∀ (l : List (BitVec 8)), (l.any nz) = false ↔ l = List.replicate l.length 0#8
 | [] => by simp
 | x :: l => by
  rw [List.any_cons, Bool.or_eq_false_iff, any_nz l, List.length_cons, List.replicate_succ, List.cons.injEq]
  have : nz x = false ↔ x = 0#8 := by
   simp only [nz, decide_eq_false_iff_not, ne_eq, Decidable.not_not]
   constructor
   ·intro h; apply BitVec.eq_of_toNat_eq; simpa using h
   ·intro h; rw [h]; rfl
  rw [this]
theorem pgP_take {l : List (BitVec 8)} (h : l.length = 512) : pgP (l.take 508) = pgP l ∨ ¬ pgN l ≤ 488 := by
 have r : ∀ (k : Nat) (w : Int), 1 ≤ w ∧ w ≤ 8 → (k : Int) + w ≤ 508 → rV (l.take 508) k false w = rV l k false w := fun k w hw hk => by
  rw [rV_is hw (by simp; omega), rV_is hw (by omega)]
  congr 1
  rw [List.drop_take, List.take_take, Nat.min_eq_left (by omega)]
 have g : ∀ k, k < 508 → (l.take 508).getD k default = l.getD k default := fun k hk => by
  simp [List.getD_eq_getElem?_getD, List.getElem?_take, hk]
 have hN : pgN (l.take 508) = pgN l := r 18 2 (by omega) (by omega)
 by_cases hn : pgN l ≤ 488
 ·left
  have n0 : 0 ≤ pgN l := (rV_range l 18 false 2).1
  have hb : ((l.take 508).drop 20).take (pgN l).toNat = (l.drop 20).take (pgN l).toNat := by
   rw [List.drop_take, List.take_take, Nat.min_eq_left (by omega)]
  simp only [pgP, at1, at4, hN, hb, g 3 (by omega), g 16 (by omega), g 17 (by omega), r 4 4 (by omega) (by omega), r 8 4 (by omega) (by omega), r 12 4 (by omega) (by omega)]
 ·exact .inr hn
theorem pgN_take {l : List (BitVec 8)} (h : l.length = 512) : pgN (l.take 508) = pgN l := by
 unfold pgN
 rw [rV_is (by omega) (by simp; omega), rV_is (by omega) (by omega)]
 congr 1
 rw [List.drop_take, List.take_take]; rfl
theorem hasP_iff {i : List (BitVec 8)} (h : i.length = 508) : hasP i mag = true ↔ i.take 3 = mag := by
 have : decide ((i.length : Int) ≥ ((mag.length : Nat) : Int)) = true := by rw [decide_eq_true_eq, h]; decide
 simp only [hasP, this, Bool.true_and, decide_eq_true_eq]; rfl
theorem good_in {l : List (BitVec 8)} (h : okO l = true) (h2 : (okV l).length = 508) : pgGood l = pgIn (okV l) := by
 obtain ⟨e1, e2⟩ := okV_is h h2
 have hi : (l.take 508).length = 508 := by simp; omega
 have hN := pgN_take e2
 rw [e1]
 by_cases hn : pgN l ≤ 488
 ·have hP := (pgP_take e2).resolve_right (fun f => f hn)
  have n0 : 0 ≤ pgN l := (rV_range l 18 false 2).1
  rw [Bool.eq_iff_iff]
  simp only [pgGood, pgIn, Bool.and_eq_true, decide_eq_true_eq, hN, hP, e2, hn, true_and, Bool.not_eq_true', any_nz]
  have hw := pg_whole hi (by rw [hN]; exact hn)
  rw [hP, hN] at hw
  have hlen : ((l.take 508).drop (20 + (pgN l).toNat)).length = 488 - (pgN l).toNat := by simp; omega
  rw [hlen]
  have hs : pageOK (pgP l) = true → (pgPut (pgP l) = l ↔ pageB (pgP l) = l.take 508) := fun hok => by
   rw [pgPut, hok, if_pos rfl]
   have hso := seal_open (pageB (pgP l))
   constructor
   ·intro e
    rw [e] at hso
    have := hso.2
    rw [e1] at this; exact this.symm
   ·intro e
    have : body l = pageB (pgP l) := by rw [body, e2, e]
    have h3 := Z.ok_ref (l := l) (by omega)
    rw [this, h, decide_eq_true_eq] at h3
    exact h3
  constructor
  ·rintro ⟨a1, a2⟩
   obtain ⟨b1, b2⟩ := hw.1 ((hs a1).1 a2)
   exact ⟨(hasP_iff hi).2 b1, a1, b2⟩
  ·rintro ⟨a1, a2, a3⟩
   exact ⟨a2, (hs a2).2 (hw.2 ⟨(hasP_iff hi).1 a1, a3⟩)⟩
 ·have d1 : decide (pgN l ≤ 488) = false := decide_eq_false hn
  simp [pgGood, pgIn, hN, d1]
theorem good_512 {l : List (BitVec 8)} (h : pgGood l = true) : okO l = true ∧ (okV l).length = 508 := by
 simp only [pgGood, Bool.and_eq_true, decide_eq_true_eq] at h
 obtain ⟨h1, h2, h3, h4⟩ := h
 rw [pgPut, h3, if_pos rfl] at h4
 have hso := seal_open (pageB (pgP l))
 rw [h4] at hso
 refine ⟨hso.1, ?_⟩
 rw [hso.2, pageB_len]
 show ((l.drop 20).take (pgN l).toNat).length ≤ 488
 have n0 : 0 ≤ pgN l := (rV_range l 18 false 2).1
 simp; omega
theorem good_f {l : List (BitVec 8)} (h : ¬ (okO l = true ∧ (okV l).length = 508)) : pgGood l = false := by
 cases hg : pgGood l with
 | false => rfl
 | true => exact absurd (good_512 hg) h
theorem pgR_no {l : List (BitVec 8)} (h : pgGood l = false) : pgV l = page0 ∧ pgR l = 2 := ⟨pgV_no h, by simp [pgR, h]⟩
theorem pgR_is {l : List (BitVec 8)} (h : pgGood l = true) : pgV l = pgP l ∧ pgR l = 0 := ⟨pgV_is h, by simp [pgR, h]⟩
end Go.Vai.G
namespace Go.Vai.G
open Go.Proofs Go.Vai Go.Vai.L Go.Vai.O Go.Vai.U Go.Vai.Z
set_option linter.unusedSimpArgs false
set_option linter.unusedVariables false
set_option maxHeartbeats 4000000
set_option maxRecDepth 100000
theorem d00 : decide ((0 : Int) = 0) = true := rfl
open Go.Vai.Z (sealS okO okV body seal_open sealS_len ckB)
theorem pg_left {i : List (BitVec 8)} (h : i.length = 508) (h2 : pgN i ≤ 488) : 508 - (((i.drop (20 + (pgN i).toNat)).length : Nat) : Int) = ((20 + (pgN i).toNat : Nat) : Int) := by
  have n0 : 0 ≤ pgN i := (rV_range i 18 false 2).1
  simp; omega
theorem in_no0 {i : List (BitVec 8)} (h : hasP i mag = false) : pgIn i = false := by rw [pgIn, h, Bool.false_and]
theorem in_no1 {i : List (BitVec 8)} (h : i.length = 508) (hw : sBad i 18 false = true) : pgIn i = false := by
  rw [sB_iff h, decide_eq_true_eq] at hw
  have : decide (pgN i ≤ 488) = false := decide_eq_false (by omega)
  rw [pgIn, this, Bool.false_and, Bool.and_false]
theorem in_no2 {i : List (BitVec 8)} (h : pageOK (pgP i) = false) : pgIn i = false := by rw [pgIn, h]; simp
theorem in_no3 {i : List (BitVec 8)} (h : ((i.drop (20 + (pgN i).toNat)).any nz) = true) : pgIn i = false := by rw [pgIn, h]; simp
theorem in_yes {i : List (BitVec 8)} (h0 : hasP i mag = true) (h1 : pgN i ≤ 488) (h2 : pageOK (pgP i) = true) (h3 : ((i.drop (20 + (pgN i).toNat)).any nz) = false) : pgIn i = true := by
  rw [pgIn, h0, h2, h3, decide_eq_true h1]; rfl
theorem pgP_ok {l : List (BitVec 8)} (hk : okO l = true) (hi : (okV l).length = 508) (h1 : pgN (okV l) ≤ 488) : pgP (okV l) = pgP l := by
  obtain ⟨e1, e2⟩ := okV_is hk hi
  rw [e1, pgN_take e2] at h1
  rw [e1]; exact (pgP_take e2).resolve_right (fun f => f h1)
theorem pgA_is (i : List (BitVec 8)) : AV.agg [.i .i64 (at1 i 3), .i .i64 (at4 i 4), .i .i64 (at4 i 8), .i .i64 (at4 i 12), .i .i64 (at1 i 16), .i .i64 (at1 i 17), .sl 1 false (List.take (pgN i).toNat (List.drop 20 (List.map u8 i)))] = pageA (pgP i) := by
  rw [← List.map_drop, ← List.map_take]; rfl
theorem at1_bd (i : List (BitVec 8)) (k : Nat) : 0 ≤ at1 i k ∧ at1 i k < 256 := by have := (i.getD k default).isLt; unfold at1; omega
theorem at4_bd (i : List (BitVec 8)) (k : Nat) : 0 ≤ at4 i k ∧ at4 i k < 4294967296 := rV_range4 i k false
theorem good_rd1 {i : List (BitVec 8)} (h : i.length = 508) (k : Nat) (hk : k + 1 ≤ 508) : Good Tryz.prog 104 [(.gp 0 0, false), (i64 1, false)] [[.sl 1 false (bsl (i.drop k)), .b false]] [(.i .u64 (at1 i k), false)] [[.sl 1 false (bsl (i.drop (k + 1))), .b false]] := by
  obtain ⟨e1, e2, e3⟩ := rd3 h k 1 (by omega) (by omega)
  have g := O.good_NumR false (i.drop k) false (by simp; omega) (by simp) 1
  rw [e1, e2, e3, rV_one (by omega)] at g; exact g
theorem good_rd4 {i : List (BitVec 8)} (h : i.length = 508) (k : Nat) (hk : k + 4 ≤ 508) : Good Tryz.prog 104 [(.gp 0 0, false), (i64 4, false)] [[.sl 1 false (bsl (i.drop k)), .b false]] [(.i .u64 (at4 i k), false)] [[.sl 1 false (bsl (i.drop (k + 4))), .b false]] := by
  obtain ⟨e1, e2, e3⟩ := rd3 h k 4 (by omega) (by omega)
  have g := O.good_NumR false (i.drop k) false (by simp; omega) (by simp) 4
  rw [e1, e2, e3] at g; exact g
theorem good_rdT {i : List (BitVec 8)} (h : i.length = 508) : Good Tryz.prog 105 [(.gp 0 0, false)] [[.sl 1 false (bsl (i.drop 18)), .b false]] [(.sl 1 (sBad i 18 false) (bsl (sV i 18 false)), false)] [[.sl 1 false (bsl (i.drop (sA i 18 false))), .b (sBad i 18 false)]] := by
  obtain ⟨e1, e2, e3⟩ := text_ok (l := i) (a := 18) (by omega) false
  have g := O.good_TextR false (i.drop 18) false (by simp; omega) (by simp)
  have e4 : txF false (i.drop 18) false = sBad i 18 false := by rw [txF, e3]; cases sBad i 18 false <;> rfl
  rw [e1, e2, e3, e4] at g; exact g
theorem pg_way (i : List (BitVec 8)) : sBad i 18 false = true ∨ (sBad i 18 false = false ∧ pageOK (pgP i) = false) ∨ (sBad i 18 false = false ∧ pageOK (pgP i) = true) := by
  cases sBad i 18 false <;> cases pageOK (pgP i) <;> simp
theorem good_Blank (nil : Bool) (l : List (BitVec 8)) (hl : l.length ≤ 9223372036854775807) : Good Tryz.prog 80 [(.sl 1 nil (bsl l), false)] [] [(.b (decide ((l.length : Int) = 512) && !(l.any nz)), false)] [] := by
  refine good_of_body2 11 Tryz.func80 rfl rfl rfl (by simp) ?_
  intro s m ha hr hv hG
  have f0 : s 0 = .v (.sl 1 nil (bsl l)) := ha 0 _ rfl
  clear ha
  have hc : True := trivial
  have F := (And.intro f0 hG)
  refine AW.seq ?_
  refine AW.region (cfg := cfg) ?_
  refine stp (fun _ h => s0 h) ?_
  refine aops_nil ?_
  refine AW.seq ?_
  refine AW.region (cfg := cfg) ?_
  refine stp (fun _ h => s0 h) ?_
  refine stp (fun _ h => sd h) ?_
  iterate 2 refine stp (fun _ h => s0 h) ?_
  refine mrg wa (fun hc _ h => s0 h) ?_
  refine mrg wa (fun hc _ h => cs (w := good_ContainsFuncByte nil l 113 [] nz (by omega) rfl rfl rfl rfl (fun x _ => good_nzB x)) (x := h)) ?_
  refine mrg wa (fun hc _ h => s0 h) ?_
  iterate 2 refine stp (fun _ h => s0 h) ?_
  refine aops_nil ?_
  refine AW.ret ?_
  refine ⟨.inr rfl, ?_⟩
  refine leaves_tmp1 2 rfl ?_ (by exact hG)
  simp (disch := first | omega | decide) only [go_sem, F, aIndex_map]
  all_goals first | done | rfl | trace_state
attribute [go_sem] List.drop_drop Nat.reduceAdd Bool.or_false Bool.or_true
theorem good_GetP (nil : Bool) (l : List (BitVec 8)) (hl : l.length ≤ 140737488355000) (hz : nil = true → l = []) : Good Tryz.prog 75 [(.sl 1 nil (bsl l), false)] [] [(pageA (pgV l), false), (i64 (pgR l), false)] [] := by
  refine good_of_body4 69 Tryz.func75 rfl rfl rfl (by simp) (by simp) (by simp [noPtrL, noPtr]) (by simp [noPtrL, noPtr]) ?_
  intro s m ha hr hv hG
  have f0 : s 0 = .v (.sl 1 nil (bsl l)) := ha 0 _ rfl
  clear ha
  have hc : True := trivial
  have F := (And.intro f0 hG)
  refine AW.seq ?_
  refine AW.region (cfg := cfg) ?_
  refine stp (fun _ h => sd h) ?_
  refine stp (fun _ h => s0 h) ?_
  refine aops_nil ?_
  refine AW.seq ?_
  refine AW.region (cfg := cfg) ?_
  refine stp (fun _ h => s0 h) ?_
  refine stp (fun _ h => cr (w := Z.good_Open nil l (by omega) hz) (x := h)) ?_
  iterate 5 refine stp (fun _ h => s0 h) ?_
  refine aops_nil ?_
  refine AW.seq ?_
  refine AW.seq ?_
  rcases three_way l with ⟨hk, hi⟩ | ⟨hk, hi⟩ | hk
  · skip
    have h508 : ((okV l).length : Int) = 508 := by omega
    obtain ⟨k1, k2⟩ := okV_is hk hi
    obtain rfl : nil = false := by cases nil <;> simp_all
    have hki : (if okO l = true then false else true) = false := by rw [hk]; rfl
    have hzd : (false : Bool) = true → ∀ k : Nat, (okV l).drop k = [] := fun h => by cases h
    have hd := d00
    have F := And.intro hk F
    have F := And.intro h508 F
    have F := And.intro hki F
    refine AW.region (cfg := cfg) ?_
    iterate 4 refine stp (fun _ h => s0 h) ?_
    refine stp (fun _ h => sd h) ?_
    iterate 4 refine stp (fun _ h => s0 h) ?_
    refine stp (fun _ h => sq h) ?_
    refine stp (fun _ h => sc h) ?_
    refine stp (fun _ h => cs (w := good_HasPrefix false false (okV l) mag (by omega) (by decide)) (x := h)) ?_
    iterate 2 refine stp (fun _ h => s0 h) ?_
    refine aops_nil ?_
    refine cnd (fun hb => ?ht1) (fun hb => ?hf1)
    case ht1 =>
      have hw26 := hb
      try simp only [bo1, bo2, bo3, bo4, bo5, bo6] at hb
      have hbt26 := hb
      refine AW.seq ?_
      refine AW.region (cfg := cfg) ?_
      refine stp (fun _ h => su h) ?_
      refine stp0 (fun _ h => ss h) ?_
      refine stp (fun _ h => s0 h) ?_
      refine aops_nil ?_
      refine AW.ret ?_
      refine ⟨.inr rfl, ?_⟩
      apply Exists.intro
      refine leaves_mwp2 (rs := [.cell 2 89, .tmp 3]) rfl ?_
      simp (config := {failIfUnchanged := false}) [giveL, srcOne, rehome, freezeN, sub, ti89, upd, opn, aLoad, loadL, giveOne, reify, reifyL, readL, readOne, Mwp, M.bind, Mem.set, setAt, cellsL, hG, f0, hk, h508, hki]
      (have z : pgGood l = false := (by (rw [good_in hk hi]; exact in_no0 (by simpa using hbt26))); obtain ⟨e1, e2⟩ := pgR_no z; refine ⟨⟨?_, ?_⟩, rfl⟩; rw [e1]; rfl; rw [e2])
    case hf1 =>
      have hw26 := hb
      try simp only [bo1, bo2, bo3, bo4, bo5, bo6] at hb
      have hbt26 := hb
      refine AW.skip ?_
      refine AW.seq ?_
      refine AW.region (cfg := cfg) ?_
      refine stp (fun _ h => s0 h) ?_
      refine stp (fun _ h => sd h) ?_
      refine stp (fun _ h => cg (w := O.good_Read false ((okV l).drop 3) (by simp; omega) (by simp)) (x := h)) ?_
      refine stp (fun _ h => s0 h) ?_
      refine aops_nil ?_
      refine AW.seq ?_
      have q3 := at1_bd (okV l) 3
      have q16 := at1_bd (okV l) 16
      have q17 := at1_bd (okV l) 17
      have q4 := at4_bd (okV l) 4
      have q8 := at4_bd (okV l) 8
      have q12 := at4_bd (okV l) 12
      refine AW.region (cfg := cfg) ?_
      refine stp (fun _ h => s0 h) ?_
      refine stp (fun _ h => cg (w := good_rd1 hi 3 (by omega)) (x := h)) ?_
      refine stp (fun _ h => sd h) ?_
      refine stp (fun _ h => s0 h) ?_
      refine stp (fun _ h => cg (w := good_rd4 hi 4 (by omega)) (x := h)) ?_
      refine stp (fun _ h => sd h) ?_
      refine stp (fun _ h => s0 h) ?_
      refine stp (fun _ h => cg (w := good_rd4 hi 8 (by omega)) (x := h)) ?_
      refine stp (fun _ h => sd h) ?_
      refine stp (fun _ h => s0 h) ?_
      refine stp (fun _ h => cg (w := good_rd4 hi 12 (by omega)) (x := h)) ?_
      refine stp (fun _ h => sd h) ?_
      refine stp (fun _ h => s0 h) ?_
      refine stp (fun _ h => cg (w := good_rd1 hi 16 (by omega)) (x := h)) ?_
      refine stp (fun _ h => sd h) ?_
      refine stp (fun _ h => s0 h) ?_
      refine stp (fun _ h => cg (w := good_rd1 hi 17 (by omega)) (x := h)) ?_
      refine stp (fun _ h => sd h) ?_
      refine stp (fun _ h => s0 h) ?_
      refine stp (fun _ h => cg (w := good_rdT hi) (x := h)) ?_
      refine stp (fun _ h => su h) ?_
      refine stp (fun _ h => sd h) ?_
      refine stp0 (fun _ h => ss h) ?_
      refine aops_nil ?_
      refine AW.seq ?_
      refine AW.seq ?_
      rcases pg_way (okV l) with hw | ⟨hw, hp⟩ | ⟨hw, hp⟩
      · skip
        have hv1 := d00
        have hv2 := d00
        have hv3 := d00
        have hp := d00
        have F := And.intro hw F
        have F := And.intro hp F
        have F := And.intro hv1 F
        have F := And.intro hv2 F
        have F := And.intro hv3 F
        refine AW.region (cfg := cfg) ?_
        refine stp (fun _ h => s0 h) ?_
        refine stp (fun _ h => cg (w := O.good_Wrong false _ _ (by simp; omega) (by simp)) (x := h)) ?_
        refine stp (fun _ h => s0 h) ?_
        iterate 3 refine skp ?_
        iterate 2 refine stp (fun _ h => s0 h) ?_
        iterate 6 refine skp ?_
        refine stp (fun _ h => s0 h) ?_
        refine aops_nil ?_
        refine cnd (fun hb => ?ht2) (fun hb => ?hf2)
        case hf2 => simp at hb
        case ht2 =>
        have hbt66 := hb
        refine AW.seq ?_
        refine AW.region (cfg := cfg) ?_
        refine stp (fun _ h => su h) ?_
        refine stp0 (fun _ h => ss h) ?_
        refine stp (fun _ h => s0 h) ?_
        refine aops_nil ?_
        refine AW.ret ?_
        refine ⟨.inr rfl, ?_⟩
        apply Exists.intro
        refine leaves_mwp2 (rs := [.cell 2 89, .tmp 3]) rfl ?_
        simp (config := {failIfUnchanged := false}) [giveL, srcOne, rehome, freezeN, sub, ti89, upd, opn, aLoad, loadL, giveOne, reify, reifyL, readL, readOne, Mwp, M.bind, Mem.set, setAt, cellsL, hG, f0, hk, h508, hki, hw, hp, hv1, hv2, hv3]
        (have z : pgGood l = false := (by (rw [good_in hk hi]; exact in_no1 hi hw)); obtain ⟨e1, e2⟩ := pgR_no z; refine ⟨⟨?_, ?_⟩, rfl⟩; rw [e1]; rfl; rw [e2])
      · skip
        obtain ⟨hv1, hv2, hv5⟩ := sV_is hi hw
        have hv3 := pg_left hi hv5
        have hbl : (pgP (okV l)).b.length ≤ 508 := by (show (((okV l).drop 20).take _).length ≤ 508; simp; omega)
        have F := And.intro hw F
        have F := And.intro hp F
        have F := And.intro hv1 F
        have F := And.intro hv2 F
        have F := And.intro hv3 F
        refine AW.region (cfg := cfg) ?_
        refine stp (fun _ h => s0 h) ?_
        refine stp (fun _ h => cg (w := O.good_Wrong false _ _ (by simp; omega) (by simp)) (x := h)) ?_
        refine stp (fun _ h => s0 h) ?_
        refine stp (fun _ h => sl h) ?_
        refine stp (fun _ h => cs (w := good_mayP (pgP (okV l)) (by omega)) (x := h)) ?_
        iterate 3 refine stp (fun _ h => s0 h) ?_
        iterate 6 refine skp ?_
        refine stp (fun _ h => s0 h) ?_
        refine aops_nil ?_
        refine cnd (fun hb => ?ht3) (fun hb => ?hf3)
        case hf3 => simp at hb
        case ht3 =>
        have hbt66 := hb
        refine AW.seq ?_
        refine AW.region (cfg := cfg) ?_
        refine stp (fun _ h => su h) ?_
        refine stp0 (fun _ h => ss h) ?_
        refine stp (fun _ h => s0 h) ?_
        refine aops_nil ?_
        refine AW.ret ?_
        refine ⟨.inr rfl, ?_⟩
        apply Exists.intro
        refine leaves_mwp2 (rs := [.cell 2 89, .tmp 3]) rfl ?_
        simp (config := {failIfUnchanged := false}) [giveL, srcOne, rehome, freezeN, sub, ti89, upd, opn, aLoad, loadL, giveOne, reify, reifyL, readL, readOne, Mwp, M.bind, Mem.set, setAt, cellsL, hG, f0, hk, h508, hki, hw, hp, hv1, hv2, hv3]
        (have z : pgGood l = false := (by (rw [good_in hk hi]; exact in_no2 hp)); obtain ⟨e1, e2⟩ := pgR_no z; refine ⟨⟨?_, ?_⟩, rfl⟩; rw [e1]; rfl; rw [e2])
      · skip
        obtain ⟨hv1, hv2, hv5⟩ := sV_is hi hw
        have hv3 := pg_left hi hv5
        have hbl : (pgP (okV l)).b.length ≤ 508 := by (show (((okV l).drop 20).take _).length ≤ 508; simp; omega)
        have F := And.intro hw F
        have F := And.intro hp F
        have F := And.intro hv1 F
        have F := And.intro hv2 F
        have F := And.intro hv3 F
        refine AW.region (cfg := cfg) ?_
        refine stp (fun _ h => s0 h) ?_
        refine stp (fun _ h => cg (w := O.good_Wrong false _ _ (by simp; omega) (by simp)) (x := h)) ?_
        refine stp (fun _ h => s0 h) ?_
        refine stp (fun _ h => sl h) ?_
        refine stp (fun _ h => cs (w := good_mayP (pgP (okV l)) (by omega)) (x := h)) ?_
        iterate 5 refine stp (fun _ h => s0 h) ?_
        refine stp (fun _ h => cg (w := O.good_Left false _ _ (by simp; omega) (by simp)) (x := h)) ?_
        iterate 2 refine stp (fun _ h => sd h) ?_
        refine stp (fun _ h => cs (w := good_ContainsFuncByte false _ 109 [] nz (by simp; omega) rfl rfl rfl rfl (fun x _ => good_nzG x)) (x := h)) ?_
        refine stp (fun _ h => s0 h) ?_
        refine aops_nil ?_
        refine cnd (fun hb => ?ht4) (fun hb => ?hf4)
        case ht4 =>
          have hw66 := hb
          try simp only [bo1, bo2, bo3, bo4, bo5, bo6] at hb
          have hbt66 := hb
          refine AW.seq ?_
          refine AW.region (cfg := cfg) ?_
          refine stp (fun _ h => su h) ?_
          refine stp0 (fun _ h => ss h) ?_
          refine stp (fun _ h => s0 h) ?_
          refine aops_nil ?_
          refine AW.ret ?_
          refine ⟨.inr rfl, ?_⟩
          apply Exists.intro
          refine leaves_mwp2 (rs := [.cell 2 89, .tmp 3]) rfl ?_
          simp (config := {failIfUnchanged := false}) [giveL, srcOne, rehome, freezeN, sub, ti89, upd, opn, aLoad, loadL, giveOne, reify, reifyL, readL, readOne, Mwp, M.bind, Mem.set, setAt, cellsL, hG, f0, hk, h508, hki, hw, hp, hv1, hv2, hv3]
          (have z : pgGood l = false := (by (rw [good_in hk hi]; exact in_no3 hbt66)); obtain ⟨e1, e2⟩ := pgR_no z; refine ⟨⟨?_, ?_⟩, rfl⟩; rw [e1]; rfl; rw [e2])
        case hf4 =>
          have hw66 := hb
          try simp only [bo1, bo2, bo3, bo4, bo5, bo6] at hb
          have hbt66 := hb
          refine AW.skip ?_
          refine AW.seq ?_
          refine AW.region (cfg := cfg) ?_
          refine stp (fun _ h => sl h) ?_
          refine stp0 (fun _ h => ss h) ?_
          refine stp (fun _ h => s0 h) ?_
          refine aops_nil ?_
          refine AW.ret ?_
          refine ⟨.inr rfl, ?_⟩
          apply Exists.intro
          refine leaves_mwp2 (rs := [.cell 2 89, .tmp 3]) rfl ?_
          simp (config := {failIfUnchanged := false}) [giveL, srcOne, rehome, freezeN, sub, ti89, upd, opn, aLoad, loadL, giveOne, reify, reifyL, readL, readOne, Mwp, M.bind, Mem.set, setAt, cellsL, hG, f0, hk, h508, hki, hw, hp, hv1, hv2, hv3]
          (have z : pgGood l = true := (by rw [good_in hk hi]; exact in_yes (by simpa using hbt26) hv5 hp hbt66); obtain ⟨e1, e2⟩ := pgR_is z; refine ⟨⟨?_, ?_⟩, rfl⟩; rw [e1, ← pgP_ok hk hi hv5]; exact pgA_is _; rw [e2])
  · skip
    have h508 : decide (((okV l).length : Int) ≠ 508) = true := decide_eq_true (by omega)
    have hki := d00
    have hd := d00
    have F := And.intro hk F
    have F := And.intro h508 F
    have F := And.intro hki F
    refine AW.region (cfg := cfg) ?_
    iterate 4 refine stp (fun _ h => s0 h) ?_
    refine stp (fun _ h => sd h) ?_
    iterate 3 refine stp (fun _ h => s0 h) ?_
    iterate 5 refine skp ?_
    refine stp (fun _ h => s0 h) ?_
    refine aops_nil ?_
    refine cnd (fun hb => ?ht5) (fun hb => ?hf5)
    case hf5 => simp at hb
    case ht5 =>
    have hbt26 := hb
    refine AW.seq ?_
    refine AW.region (cfg := cfg) ?_
    refine stp (fun _ h => su h) ?_
    refine stp0 (fun _ h => ss h) ?_
    refine stp (fun _ h => s0 h) ?_
    refine aops_nil ?_
    refine AW.ret ?_
    refine ⟨.inr rfl, ?_⟩
    apply Exists.intro
    refine leaves_mwp2 (rs := [.cell 2 89, .tmp 3]) rfl ?_
    simp (config := {failIfUnchanged := false}) [giveL, srcOne, rehome, freezeN, sub, ti89, upd, opn, aLoad, loadL, giveOne, reify, reifyL, readL, readOne, Mwp, M.bind, Mem.set, setAt, cellsL, hG, f0, hk, h508, hki]
    (have z : pgGood l = false := (by exact good_f (fun h => hi h.2)); obtain ⟨e1, e2⟩ := pgR_no z; refine ⟨⟨?_, ?_⟩, rfl⟩; rw [e1]; rfl; rw [e2])
  · skip
    have h508 := d00
    have hki := d00
    have hd := d00
    have F := And.intro hk F
    have F := And.intro h508 F
    have F := And.intro hki F
    refine AW.region (cfg := cfg) ?_
    iterate 3 refine stp (fun _ h => s0 h) ?_
    iterate 3 refine skp ?_
    iterate 2 refine stp (fun _ h => s0 h) ?_
    iterate 5 refine skp ?_
    refine stp (fun _ h => s0 h) ?_
    refine aops_nil ?_
    refine cnd (fun hb => ?ht6) (fun hb => ?hf6)
    case hf6 => simp at hb
    case ht6 =>
    have hbt26 := hb
    refine AW.seq ?_
    refine AW.region (cfg := cfg) ?_
    refine stp (fun _ h => su h) ?_
    refine stp0 (fun _ h => ss h) ?_
    refine stp (fun _ h => s0 h) ?_
    refine aops_nil ?_
    refine AW.ret ?_
    refine ⟨.inr rfl, ?_⟩
    apply Exists.intro
    refine leaves_mwp2 (rs := [.cell 2 89, .tmp 3]) rfl ?_
    simp (config := {failIfUnchanged := false}) [giveL, srcOne, rehome, freezeN, sub, ti89, upd, opn, aLoad, loadL, giveOne, reify, reifyL, readL, readOne, Mwp, M.bind, Mem.set, setAt, cellsL, hG, f0, hk, h508, hki]
    (have z : pgGood l = false := (by exact good_f (fun h => Bool.false_ne_true (hk.symm.trans h.1))); obtain ⟨e1, e2⟩ := pgR_no z; refine ⟨⟨?_, ?_⟩, rfl⟩; rw [e1]; rfl; rw [e2])
end Go.Vai.G
set_option linter.unusedSimpArgs false
set_option linter.unusedVariables false
namespace Go.Vai.RC
open Go.Vai.O Go.Vai.L Go.Vai.G
def parts (n : Int) : Int := if n < 0 ∨ n > 7808 then 0 else if n ≤ 488 then 1 else (n + 487) / 488
theorem parts_no {n : Int} (h : n < 0 ∨ n > 7808) : parts n = 0 := if_pos h
theorem parts_is {n : Int} (h : ¬ (n < 0 ∨ n > 7808)) : 1 ≤ parts n ∧ parts n ≤ 16 ∧ n ≤ 488 * parts n ∧ (2 ≤ parts n → 488 * (parts n - 1) < n) := by
 unfold parts; rw [if_neg h]; split <;> omega
theorem parts_max {n : Int} (h : ¬ (n < 0 ∨ n > 7808)) : (if (n + 487) / 488 > 1 then (n + 487) / 488 else 1) = parts n := by
 unfold parts; rw [if_neg h]; split <;> split <;> omega
def chunk (b : List (BitVec 8)) (i : Nat) : List (BitVec 8) := (b.drop (488 * i)).take 488
def pageAt (p : Page) (nil : Bool) (b : List (BitVec 8)) (n : Int) (i : Nat) : Page := ⟨p.kind, p.gen, p.mark, p.idx + i, i, n, nil, chunk b i⟩
def splitP (p : Page) (nil : Bool) (b : List (BitVec 8)) (k : Nat) : List Page := (List.range k).map (pageAt p nil b (parts b.length))
theorem splitP_succ (p : Page) (nil : Bool) (b : List (BitVec 8)) (k : Nat) : splitP p nil b (k + 1) = splitP p nil b k ++ [pageAt p nil b (parts b.length) k] := by simp [splitP, List.range_succ]
theorem splitP_len (p : Page) (nil : Bool) (b : List (BitVec 8)) (k : Nat) : (splitP p nil b k).length = k := by simp [splitP]
theorem splitP_get {p : Page} {nil : Bool} {b : List (BitVec 8)} {k i : Nat} (h : i < k) : (splitP p nil b k)[i]'(by rw [splitP_len]; exact h) = pageAt p nil b (parts b.length) i := by simp [splitP]
def catB (l : List Page) : List (BitVec 8) := l.flatMap (·.b)
theorem catB_succ {l : List Page} {k : Nat} (h : k < l.length) : catB (l.take (k + 1)) = catB (l.take k) ++ l[k].b := by
 rw [List.take_succ_eq_append_getElem h]; simp only [catB, List.flatMap_append, List.flatMap_cons, List.flatMap_nil, List.append_nil]
def follows (f p : Page) (i : Int) : Bool := pageOK p && (decide (p.kind = f.kind) && (decide (p.gen = f.gen) && (decide (p.mark = f.mark) && (decide (p.idx - i = f.idx) && (decide (p.part = i) && (decide (p.parts = f.parts) && (decide (i = f.parts - 1) || decide ((p.b.length : Int) = 488))))))))
theorem follows_iff {f p : Page} {i : Int} : follows f p i = true ↔ pageOK p = true ∧ p.kind = f.kind ∧ p.gen = f.gen ∧ p.mark = f.mark ∧ p.idx - i = f.idx ∧ p.part = i ∧ p.parts = f.parts ∧ (i = f.parts - 1 ∨ (p.b.length : Int) = 488) := by
 simp only [follows, Bool.and_eq_true, Bool.or_eq_true, decide_eq_true_eq]
def allF (l : List Page) (k : Nat) : Bool := (List.range k).all fun i => follows (l.getD 0 page0) (l.getD i page0) i
theorem allF_succ (l : List Page) (k : Nat) : allF l (k + 1) = (allF l k && follows (l.getD 0 page0) (l.getD k page0) k) := by simp [allF, List.range_succ]
def headOK (l : List Page) : Bool := !l.isEmpty && (pageOK (l.getD 0 page0) && decide ((l.getD 0 page0).parts ≤ (l.length : Int)))
def jN (l : List Page) : Nat := (l.getD 0 page0).parts.toNat
def jB (l : List Page) : List (BitVec 8) := catB (l.take (jN l))
def joinOK (l : List Page) : Bool := headOK l && (allF l (jN l) && decide (parts ((jB l).length : Int) = (jN l : Int)))
def joinB (l : List Page) : List (BitVec 8) := if joinOK l then jB l else []
def joinN (l : List Page) : Int := if joinOK l then (jN l : Int) else 0
def allPages (l : List Page) : Bool := l.all pageOK
def refOK (l : List Page) : Bool := headOK l && ((decide (parts ((jB l).length : Int) = (jN l : Int)) && allPages (l.take (jN l))) && (List.range (jN l)).all fun i => pageEq ((splitP (l.getD 0 page0) false (jB l) (jN l)).getD i page0) (l.getD i page0))
theorem head_is {l : List Page} (h : headOK l = true) : 0 < l.length ∧ pageOK (l.getD 0 page0) = true ∧ (jN l : Int) = (l.getD 0 page0).parts ∧ jN l ≤ l.length ∧ 1 ≤ jN l ∧ jN l ≤ 16 := by
 simp only [headOK, Bool.and_eq_true, decide_eq_true_eq, Bool.not_eq_true', List.isEmpty_eq_false_iff] at h
 obtain ⟨h1, h2, h3⟩ := h
 have := page_bd h2
 have hl : 0 < l.length := List.length_pos_iff.2 h1
 unfold jN
 exact ⟨hl, h2, by omega, by omega, by omega, by omega⟩
end Go.Vai.RC
namespace Go.Vai.RC
open Go.Proofs Go.Vai Go.Vai.G Go.Vai.L Go.Vai.O Go.Vai.U Go.Vai.Z
set_option linter.unusedSimpArgs false
set_option linter.unusedVariables false
set_option maxHeartbeats 4000000
set_option maxRecDepth 100000
theorem par_q {n : Int} (h : ¬ n < 0 ∧ ¬ n > 7808) : (if (n + 488 - 1) / 488 > 1 then (n + 488 - 1) / 488 else 1) = parts n := by
  rw [← parts_max (n := n) (by omega), show n + 488 - 1 = n + 487 by omega]
def splitOK (p : Page) (b : List (BitVec 8)) : Bool := decide (parts (b.length : Int) ≠ 0) && allPages (splitP p false b (parts (b.length : Int)).toNat)
def splitL (p : Page) (nil : Bool) (b : List (BitVec 8)) : List Page := if splitOK p b then splitP p nil b (parts (b.length : Int)).toNat else []
def splitE (p : Page) (b : List (BitVec 8)) : Int := if parts (b.length : Int) = 0 then 5 else if splitOK p b then 0 else 1
theorem allP_succ (p : Page) (b : List (BitVec 8)) (k : Nat) : allPages (splitP p false b (k + 1)) = (allPages (splitP p false b k) && pageOK (pageAt p false b (parts (b.length : Int)) k)) := by
  rw [splitP_succ]; simp [allPages, List.all_append]
theorem allP_stop {p : Page} {b : List (BitVec 8)} {k : Nat} (hk : pageOK (pageAt p false b (parts (b.length : Int)) k) = false) : ∀ {n : Nat}, k < n → allPages (splitP p false b n) = false
  | 0, h => by omega
  | n + 1, h => by
    rw [allP_succ]
    by_cases e : k = n
    · subst e; rw [hk, Bool.and_false]
    · rw [allP_stop hk (by omega), Bool.false_and]
theorem split_no0 {p : Page} {nil : Bool} {b : List (BitVec 8)} (h : parts (b.length : Int) = 0) : splitOK p b = false ∧ splitL p nil b = [] ∧ splitE p b = 5 := by
  have : splitOK p b = false := by rw [splitOK, h]; rfl
  exact ⟨this, by rw [splitL, this]; rfl, by rw [splitE, if_pos h]⟩
theorem split_no1 {p : Page} {nil : Bool} {b : List (BitVec 8)} {k : Nat} (h : parts (b.length : Int) ≠ 0) (hk : k < (parts (b.length : Int)).toNat) (h2 : pageOK (pageAt p false b (parts (b.length : Int)) k) = false) : splitOK p b = false ∧ splitL p nil b = [] ∧ splitE p b = 1 := by
  have : splitOK p b = false := by rw [splitOK, allP_stop h2 hk, Bool.and_false]
  exact ⟨this, by rw [splitL, this]; rfl, by rw [splitE, if_neg h, this]; rfl⟩
theorem split_yes {p : Page} {nil : Bool} {b : List (BitVec 8)} (h : parts (b.length : Int) ≠ 0) (h2 : allPages (splitP p false b (parts (b.length : Int)).toNat) = true) : splitOK p b = true ∧ splitL p nil b = splitP p nil b (parts (b.length : Int)).toNat ∧ splitE p b = 0 := by
  have : splitOK p b = true := by rw [splitOK, h2, decide_eq_true h]; rfl
  exact ⟨this, by rw [splitL, this]; rfl, by rw [splitE, if_neg h, this]; rfl⟩
theorem okAt_nil (p : Page) (nil : Bool) (b : List (BitVec 8)) (n : Int) (k : Nat) : pageOK (pageAt p nil b n k) = pageOK (pageAt p false b n k) := rfl
theorem chunk_is {b : List (BitVec 8)} {k : Nat} : (b.drop (488 * k)).take (if ((b.drop (488 * k)).length : Int) < 488 then ((b.drop (488 * k)).length : Int) else 488).toNat = chunk b k := by
  unfold chunk
  split
  · rw [Int.toNat_natCast, List.take_of_length_le (Nat.le_refl _), List.take_of_length_le (by omega)]
  · rfl
theorem chunk_next {b : List (BitVec 8)} {k : Nat} : (b.drop (488 * k)).drop (if ((b.drop (488 * k)).length : Int) < 488 then ((b.drop (488 * k)).length : Int) else 488).toNat = b.drop (488 * (k + 1)) := by
  rw [List.drop_drop]
  split
  · rename_i h
    rw [Int.toNat_natCast]
    simp at h ⊢
    omega
  · rfl
theorem good_Parts (n : Int) (hn : -9223372036854775808 ≤ n ∧ n ≤ 9223372036854775807) : Good Tryz.prog 49 [(i64 n, false)] [] [(i64 (parts n), false)] [] := by
  refine good_of_body2 14 Tryz.func49 rfl rfl rfl (by simp) ?_
  intro s m ha hr hv hG
  have f0 : s 0 = .v (i64 n) := ha 0 _ rfl
  clear ha
  have hc : True := trivial
  have F := (And.intro f0 hG)
  refine AW.seq ?_
  refine AW.region (cfg := cfg) ?_
  refine stp (fun _ h => s0 h) ?_
  refine aops_nil ?_
  refine AW.seq ?_
  refine AW.seq ?_
  refine AW.region (cfg := cfg) ?_
  iterate 3 refine stp (fun _ h => s0 h) ?_
  iterate 2 refine mrg wa (fun hc _ h => s0 h) ?_
  refine stp (fun _ h => s0 h) ?_
  refine aops_nil ?_
  refine cnd (fun hb => ?ht1) (fun hb => ?hf1)
  case ht1 =>
    have hw8 := hb
    try simp only [bo1, bo2, bo3, bo4, bo5, bo6] at hb
    have hbt8 := hb
    refine AW.seq ?_
    refine AW.region (cfg := cfg) ?_
    refine stp (fun _ h => s0 h) ?_
    refine aops_nil ?_
    refine AW.ret ?_
    refine ⟨.inr rfl, ?_⟩
    refine leaves_tmp1 2 rfl ?_ (by exact hG)
    simp (disch := first | omega | decide) only [go_sem, F, aIndex_map]
    all_goals (rw [parts_no (by omega)]; done)
  case hf1 =>
    have hw8 := hb
    try simp only [bo1, bo2, bo3, bo4, bo5, bo6] at hb
    have hbt8 := hb
    refine AW.skip ?_
    refine AW.seq ?_
    refine AW.region (cfg := cfg) ?_
    refine stp (fun _ h => s0 h) ?_
    iterate 4 refine stp (fun _ h => sd h) ?_
    refine stp (fun _ h => s0 h) ?_
    refine aops_nil ?_
    refine AW.ret ?_
    refine ⟨.inr rfl, ?_⟩
    refine leaves_tmp1 2 rfl ?_ (by exact hG)
    simp (disch := first | omega | decide) only [go_sem, F, aIndex_map]
    all_goals (rw [par_q (by omega)]; done)
theorem good_right (p : Page) (hp : p.b.length ≤ 9223372036854775807) : Good Tryz.prog 82 [(pageA p, false)] [] [(.b (pageOK p), false)] [] := by
  refine good_of_body2 12 Tryz.func82 rfl rfl rfl (by simp) ?_
  intro s m ha hr hv hG
  have f0 : s 0 = .v (.agg [i64 p.kind, i64 p.gen, i64 p.mark, i64 p.idx, i64 p.part, i64 p.parts, .sl 1 p.nil (bsl p.b)]) := ha 0 _ rfl
  clear ha
  have hc : True := trivial
  have F := (And.intro f0 hG)
  refine AW.seq ?_
  refine AW.region (cfg := cfg) ?_
  refine stp (fun _ h => sb h) ?_
  refine stp (fun _ h => s0 h) ?_
  refine aops_nil ?_
  refine AW.seq ?_
  refine AW.region (cfg := cfg) ?_
  refine stp (fun _ h => sl h) ?_
  refine stp (fun _ h => co2 (w := good_PutP p (by omega)) (x := h)) ?_
  iterate 3 refine stp (fun _ h => s0 h) ?_
  refine stp (fun _ h => st h) ?_
  refine stp (fun _ h => s0 h) ?_
  refine aops_nil ?_
  refine AW.seq ?_
  refine AW.region (cfg := cfg) ?_
  iterate 3 refine stp (fun _ h => s0 h) ?_
  refine aops_nil ?_
  refine AW.ret ?_
  refine ⟨.inr rfl, ?_⟩
  refine leaves_tmp1 2 rfl ?_ (by exact hG)
  simp (disch := first | omega | decide) only [go_sem, F, aIndex_map]
  all_goals (rw [pgE_ok]; done)
theorem good_follows (f : Page) (hf : f.b.length ≤ 9223372036854775807)(p : Page) (hp : p.b.length ≤ 9223372036854775807) (i : Int) (hi : 0 ≤ i ∧ i ≤ 16) : Good Tryz.prog 114 [(pageA f, false), (pageA p, false), (i64 i, false)] [] [(.b (follows f p i), false)] [] := by
  refine good_of_body2 65 Tryz.func114 rfl rfl rfl (by simp) ?_
  intro s m ha hr hv hG
  have f0 : s 0 = .v (.agg [i64 f.kind, i64 f.gen, i64 f.mark, i64 f.idx, i64 f.part, i64 f.parts, .sl 1 f.nil (bsl f.b)]) := ha 0 _ rfl
  have f1 : s 1 = .v (.agg [i64 p.kind, i64 p.gen, i64 p.mark, i64 p.idx, i64 p.part, i64 p.parts, .sl 1 p.nil (bsl p.b)]) := ha 1 _ rfl
  have f2 : s 2 = .v (i64 i) := ha 2 _ rfl
  clear ha
  have hc : True := trivial
  have F := (And.intro f0 (And.intro f1 (And.intro f2 hG)))
  refine AW.seq ?_
  refine AW.region (cfg := cfg) ?_
  iterate 2 refine stp (fun _ h => sb h) ?_
  refine stp (fun _ h => s0 h) ?_
  refine aops_nil ?_
  refine AW.seq ?_
  by_cases hsp : pageOK p = true
  · have hd := decide_eq_true hsp
    obtain ⟨c1, c2, c3, c4, c5, c6, c7⟩ := page_bd hsp
    have hso := hsp
    have F := And.intro hd F
    have F := And.intro hso F
    refine AW.region (cfg := cfg) ?_
    refine stp (fun _ h => sl h) ?_
    refine stp (fun _ h => cs (w := good_right p (by omega)) (x := h)) ?_
    refine stp (fun _ h => s0 h) ?_
    refine mrg wa (fun hc _ h => sx h) ?_
    refine mrg wa (fun hc _ h => sl h) ?_
    refine mrg wa (fun hc _ h => sx h) ?_
    refine mrg wa (fun hc _ h => sl h) ?_
    refine mrg wa (fun hc _ h => s0 h) ?_
    iterate 2 refine stp (fun _ h => s0 h) ?_
    refine mrg wa (fun hc _ h => sx h) ?_
    refine mrg wa (fun hc _ h => sl h) ?_
    refine mrg wa (fun hc _ h => sx h) ?_
    refine mrg wa (fun hc _ h => sl h) ?_
    refine mrg wa (fun hc _ h => s0 h) ?_
    iterate 2 refine stp (fun _ h => s0 h) ?_
    refine mrg wa (fun hc _ h => sx h) ?_
    refine mrg wa (fun hc _ h => sl h) ?_
    refine mrg wa (fun hc _ h => sx h) ?_
    refine mrg wa (fun hc _ h => sl h) ?_
    refine mrg wa (fun hc _ h => s0 h) ?_
    iterate 2 refine stp (fun _ h => s0 h) ?_
    refine mrg wa (fun hc _ h => sx h) ?_
    refine mrg wa (fun hc _ h => sl h) ?_
    refine mrg wa (fun hc _ h => s0 h) ?_
    refine mrg wa (fun hc _ h => sd h) ?_
    refine mrg wa (fun hc _ h => sx h) ?_
    refine mrg wa (fun hc _ h => sl h) ?_
    refine mrg wa (fun hc _ h => s0 h) ?_
    iterate 2 refine stp (fun _ h => s0 h) ?_
    refine mrg wa (fun hc _ h => sx h) ?_
    refine mrg wa (fun hc _ h => sl h) ?_
    iterate 2 refine mrg wa (fun hc _ h => s0 h) ?_
    iterate 2 refine stp (fun _ h => s0 h) ?_
    refine mrg wa (fun hc _ h => sx h) ?_
    refine mrg wa (fun hc _ h => sl h) ?_
    refine mrg wa (fun hc _ h => sx h) ?_
    refine mrg wa (fun hc _ h => sl h) ?_
    refine mrg wa (fun hc _ h => s0 h) ?_
    iterate 2 refine stp (fun _ h => s0 h) ?_
    refine mrg wa (fun hc _ h => s0 h) ?_
    refine mrg wa (fun hc _ h => sx h) ?_
    refine mrg wa (fun hc _ h => sl h) ?_
    refine mrg wa (fun hc _ h => sd h) ?_
    iterate 2 refine mrg wa (fun hc _ h => s0 h) ?_
    refine mrg wa (fun hc _ h => sx h) ?_
    refine mrg wa (fun hc _ h => sl h) ?_
    refine mrg wa (fun hc _ h => sd h) ?_
    iterate 2 refine mrg wa (fun hc _ h => s0 h) ?_
    iterate 2 refine stp (fun _ h => s0 h) ?_
    refine aops_nil ?_
    refine AW.ret ?_
    refine ⟨.inr rfl, ?_⟩
    refine leaves_tmp1 6 rfl ?_ (by exact hG)
    simp (disch := first | omega | decide) only [go_sem, F, aIndex_map]
    all_goals (simp only [follows, hso, Bool.true_and, Bool.and_assoc]; done)
  · have hd := decide_eq_false hsp
    have hsp := Bool.eq_false_iff.2 hsp
    have hso := hsp
    have F := And.intro hd F
    have F := And.intro hso F
    refine AW.region (cfg := cfg) ?_
    refine stp (fun _ h => sl h) ?_
    refine stp (fun _ h => cs (w := good_right p (by omega)) (x := h)) ?_
    refine stp (fun _ h => s0 h) ?_
    iterate 5 refine skp ?_
    iterate 2 refine stp (fun _ h => s0 h) ?_
    iterate 5 refine skp ?_
    iterate 2 refine stp (fun _ h => s0 h) ?_
    iterate 5 refine skp ?_
    iterate 2 refine stp (fun _ h => s0 h) ?_
    iterate 7 refine skp ?_
    iterate 2 refine stp (fun _ h => s0 h) ?_
    iterate 4 refine skp ?_
    iterate 2 refine stp (fun _ h => s0 h) ?_
    iterate 5 refine skp ?_
    iterate 2 refine stp (fun _ h => s0 h) ?_
    iterate 11 refine skp ?_
    iterate 2 refine stp (fun _ h => s0 h) ?_
    refine aops_nil ?_
    refine AW.ret ?_
    refine ⟨.inr rfl, ?_⟩
    refine leaves_tmp1 6 rfl ?_ (by exact hG)
    simp (disch := first | omega | decide) only [go_sem, F, aIndex_map]
    all_goals (simp only [follows, hso, Bool.false_and]; done)
end Go.Vai.RC
