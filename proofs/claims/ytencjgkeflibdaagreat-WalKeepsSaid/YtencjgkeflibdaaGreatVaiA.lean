import Derived.Below
import Derived.Orders
import Derived.Laws.AppendOwn
set_option linter.unusedSimpArgs false
set_option linter.unusedVariables false
set_option linter.constructorNameAsVariable false
namespace Go.Vai
inductive AV where
 | base (v : Value)
 | sl (sz : Nat) (nil : Bool) (xs : List AV)
 | agg (fs : List AV)
 | tup (fs : List AV)
 | iptr (cells : List AV) (off : Nat)
 | clo (f : FuncId) (caps : List AV)
 | gp (id off : Nat)
 | gm (id : Nat)
 | mp (f : Int → Option AV)
 deriving Inhabited
abbrev AV.i (k : IntKind) (n : Int) : AV := .base (.int k n)
abbrev AV.b (x : Bool) : AV := .base (.bool x)
def cellsOf : AV → List AV
 | .agg fs => fs
 | x => [x]
inductive Nm where
 | tmp (t i : Nat)
 | var (t : Nat)
 | cell (t j : Nat)
 | res (i : Nat)
 deriving DecidableEq, Inhabited
inductive LV where
 | dead
 | v (a : AV)
 | own (n : Nm) (g lo hi : Nat)
 | lptr (n : Nm) (g off : Nat)
 | eptr (n : Nm) (g i off : Nat)
 | agg (fs : List LV)
 | tup (fs : List LV)
 | cond (c : Bool) (x : LV)
 deriving Inhabited
inductive Obj where
 | dead
 | box (cells : List LV)
 | fbox (cells : List AV)
 | arr (nil : Bool) (sz : Nat) (xs : List AV)
 | frz (nil : Bool) (sz : Nat) (xs : List AV)
 deriving Inhabited
structure Mem where
 objs : Nm → Nat × Obj
 G : List (List AV)
def Mem.set (m : Mem) (n : Nm) (x : Nat × Obj) : Mem := { m with objs := fun k => if k = n then x else m.objs k }
structure St where
 n : Nat
 slots : Nat → LV
 mem : Mem
def upd (f : Nat → LV) (d : Nat) (x : LV) : Nat → LV := fun t => if t = d then x else f t
def St.put (σ : St) (dst : Option Tmp) (x : LV) : St :=
 match dst with
 | some d => { σ with slots := upd σ.slots d x }
 | none => σ
structure Fp where
 ns : List Nm := []
 ws : List Nm := []
 g : Bool := false
 gw : Bool := false
 h : Bool := false
def Fp.addN (f : Fp) (n : Nm) : Fp := { f with ns := n :: f.ns }
def Fp.addW (f : Fp) (n : Nm) : Fp := { f with ns := n :: f.ns, ws := n :: f.ws }
def Fp.addG (f : Fp) : Fp := { f with g := true }
def Fp.addGW (f : Fp) : Fp := { f with g := true, gw := true }
def Fp.disj (x y : Fp) : Bool := (x.ws.all (fun n => !y.ns.contains n) && y.ws.all (fun n => !x.ns.contains n)) && (!(x.gw && y.g) && !(x.g && y.gw)) && (!x.h && !y.h)
abbrev Contract := FuncId → List (AV × Bool) → List (List AV) → List (AV × Bool) → List (List AV) → Prop
inductive M (α : Type) where
 | ret (a : α)
 | fail
 | getO (n : Nm) (k : Nat × Obj → M α)
 | setO (n : Nm) (x : Nat × Obj) (k : M α)
 | getG (k : List (List AV) → M α)
 | setG (g : List (List AV)) (k : M α)
 | call (f : FuncId) (args : List (AV × Bool)) (k : List (AV × Bool) → M α)
 | pcall (f : FuncId) (args : List (AV × Bool)) (k : List (AV × Bool) → M α)
namespace M
def bind {α β : Type} : M α → (α → M β) → M β
 | .ret a, f => f a
 | .fail, _ => .fail
 | .getO n k, f => .getO n fun x => (k x).bind f
 | .setO n x k, f => .setO n x (k.bind f)
 | .getG k, f => .getG fun x => (k x).bind f
 | .setG g k, f => .setG g (k.bind f)
 | .call g args k, f => .call g args fun x => (k x).bind f
 | .pcall g args k, f => .pcall g args fun x => (k x).bind f
instance : Monad M where
 pure := M.ret
 bind := M.bind
def gObj (n : Nm) : M (Nat × Obj) := .getO n .ret
def sObj (n : Nm) (x : Nat × Obj) : M Unit := .setO n x (.ret ())
end M
inductive Run (C : Contract) {α : Type} : M α → Mem → α → Mem → Fp → Prop where
 | ret {a m} : Run C (.ret a) m a m {}
 | getO {n k m a m' f} : Run C (k (m.objs n)) m a m' f → Run C (.getO n k) m a m' (f.addN n)
 | setO {n x k m a m' f} : Run C k (m.set n x) a m' f → Run C (.setO n x k) m a m' (f.addW n)
 | getG {k m a m' f} : Run C (k m.G) m a m' f → Run C (.getG k) m a m' f.addG
 | setG {g k m a m' f} : Run C k { m with G := g } a m' f → Run C (.setG g k) m a m' f.addGW
 | call {g args k m r G' a m' f} : C g args m.G r G' → Run C (k r) { m with G := G' } a m' f → Run C (.call g args k) m a m' f.addGW
 | pcall {g args k m r a m' f} : C g args [] r [] → Run C (k r) m a m' f → Run C (.pcall g args k) m a m' f
def Mwp (C : Contract) {α : Type} : M α → Mem → Fp → (α → Mem → Fp → Prop) → Prop
 | .ret a, m, f, Q => Q a m f
 | .fail, _, _, _ => False
 | .getO n k, m, f, Q => Mwp C (k (m.objs n)) m (f.addN n) Q
 | .setO n x k, m, f, Q => Mwp C k (m.set n x) (f.addW n) Q
 | .getG k, m, f, Q => Mwp C (k m.G) m f.addG Q
 | .setG g k, m, f, Q => Mwp C k { m with G := g } f.addGW Q
 | .call g args k, m, f, Q => ∃ r G', C g args m.G r G' ∧ Mwp C (k r) { m with G := G' } f.addGW Q
 | .pcall g args k, m, f, Q => ∃ r, C g args [] r [] ∧ Mwp C (k r) m f Q
def Same (x y : Fp) : Prop := (∀ n, n ∈ x.ns ↔ n ∈ y.ns) ∧ (∀ n, n ∈ x.ws ↔ n ∈ y.ws) ∧ x.g = y.g ∧ x.gw = y.gw ∧ x.h = y.h
def Fp.app (x y : Fp) : Fp := ⟨x.ns ++ y.ns, x.ws ++ y.ws, x.g || y.g, x.gw || y.gw, x.h || y.h⟩
theorem run_of_mwp {C : Contract} {α : Type} (p : M α) : ∀ (m : Mem) (f : Fp) (Q : α → Mem → Fp → Prop), Mwp C p m f Q →
  ∃ a m' f', Run C p m a m' f' ∧ ∃ f'', Q a m' f'' ∧ Same f'' (f.app f') := by
 induction p with
 | ret a => exact fun m f Q h => ⟨a, m, {}, .ret, f, h, by simp [Same, Fp.app]⟩
 | fail => exact fun _ _ _ h => h.elim
 | getO n k ih =>
  intro m f Q h
  obtain ⟨a, m', f', hr, f'', hq, h1, h2, h3, h4, h5⟩ := ih _ m _ Q h
  refine ⟨a, m', _, .getO hr, f'', hq, fun x => ?_, fun x => ?_, ?_, ?_, ?_⟩
  ·rw [h1]; simp only [Fp.addN, Fp.app, List.mem_append, List.mem_cons]; grind
  ·rw [h2]; simp only [Fp.addN, Fp.app]
  ·rw [h3]; rfl
  ·rw [h4]; rfl
  ·rw [h5]; rfl
 | setO n x k ih =>
  intro m f Q h
  obtain ⟨a, m', f', hr, f'', hq, h1, h2, h3, h4, h5⟩ := ih _ _ Q h
  refine ⟨a, m', _, .setO hr, f'', hq, fun x => ?_, fun x => ?_, ?_, ?_, ?_⟩
  ·rw [h1]; simp only [Fp.addW, Fp.app, List.mem_append, List.mem_cons]; grind
  ·rw [h2]; simp only [Fp.addW, Fp.app, List.mem_append, List.mem_cons]; grind
  ·rw [h3]; rfl
  ·rw [h4]; rfl
  ·rw [h5]; rfl
 | getG k ih =>
  intro m f Q h
  obtain ⟨a, m', f', hr, f'', hq, h1, h2, h3, h4, h5⟩ := ih _ m _ Q h
  exact ⟨a, m', _, .getG hr, f'', hq, h1, h2, by rw [h3]; simp [Fp.addG, Fp.app], by rw [h4]; rfl, by rw [h5]; rfl⟩
 | setG g k ih =>
  intro m f Q h
  obtain ⟨a, m', f', hr, f'', hq, h1, h2, h3, h4, h5⟩ := ih _ _ Q h
  exact ⟨a, m', _, .setG hr, f'', hq, h1, h2, by rw [h3]; simp [Fp.addGW, Fp.app], by rw [h4]; simp [Fp.addGW, Fp.app], by rw [h5]; rfl⟩
 | call g args k ih =>
  intro m f Q ⟨r, G', hc, h⟩
  obtain ⟨a, m', f', hr, f'', hq, h1, h2, h3, h4, h5⟩ := ih _ _ _ Q h
  exact ⟨a, m', _, .call hc hr, f'', hq, h1, h2, by rw [h3]; simp [Fp.addGW, Fp.app], by rw [h4]; simp [Fp.addGW, Fp.app], by rw [h5]; rfl⟩
 | pcall g args k ih =>
  intro m f Q ⟨r, hc, h⟩
  obtain ⟨a, m', f', hr, f'', hq, h1⟩ := ih _ m _ Q h
  exact ⟨a, m', _, .pcall hc hr, f'', hq, h1⟩
theorem Run.frame {C : Contract} {α : Type} {p : M α} {m : Mem} {a : α} {m' : Mem} {f : Fp} (h : Run C p m a m' f) :
  ((∀ n, n ∉ f.ws → m'.objs n = m.objs n) ∧ (f.gw = false → m'.G = m.G)) ∧ ((∀ n, n ∈ f.ws → n ∈ f.ns) ∧ (f.gw = true → f.g = true)) ∧
  ∀ m2 : Mem, (∀ n ∈ f.ns, m2.objs n = m.objs n) → (f.g = true → m2.G = m.G) →
   Run C p m2 a ⟨fun n => if n ∈ f.ws then m'.objs n else m2.objs n, if f.gw then m'.G else m2.G⟩ f := by
 induction h with
 | ret => exact ⟨⟨fun _ _ => rfl, fun _ => rfl⟩, ⟨fun _ h => h, fun h => h⟩, fun m2 _ _ => by simpa using Run.ret⟩
 | @getO n k m a m' f h ih =>
  obtain ⟨i1, ⟨i2, i4⟩, i3⟩ := ih
  refine ⟨i1, ⟨fun x hx => by simp [Fp.addN, i2 x hx], i4⟩, fun m2 h1 h2 => ?_⟩
  have hn : m2.objs n = m.objs n := h1 n (by simp [Fp.addN])
  have := i3 m2 (fun x hx => h1 x (by simp [Fp.addN, hx])) h2
  rw [← hn] at this
  exact Run.getO this
 | @setO n x k m a m' f h ih =>
  obtain ⟨⟨i1, i5⟩, ⟨i2, i4⟩, i3⟩ := ih
  refine ⟨⟨fun y hy => ?_, i5⟩, ⟨fun y hy => ?_, i4⟩, fun m2 h1 h2 => ?_⟩
  ·simp [Fp.addW] at hy
   rw [i1 y hy.2]; simp [Mem.set, hy.1]
  ·simp only [Fp.addW, List.mem_cons] at hy ⊢
   rcases hy with h | h
   ·exact .inl h
   ·exact .inr (i2 y h)
  ·have := i3 (m2.set n x) (fun y hy => by
    by_cases e : y = n
    ·simp [Mem.set, e]
    ·simp [Mem.set, e]; exact h1 y (by simp [Fp.addW, hy])) h2
   have h3 := Run.setO this
   refine (congrArg (fun z => Run C (.setO n x k) m2 a z (f.addW n)) ?_).mp h3
   show Mem.mk _ _ = Mem.mk _ _
   congr 1
   funext y
   by_cases hy : y = n
   ·subst hy
    by_cases hf : y ∈ f.ws
    ·simp [Fp.addW, hf]
    ·simp [Fp.addW, hf, i1 y hf, Mem.set]
   ·simp [Fp.addW, hy, Mem.set]
 | @getG k m a m' f h ih =>
  obtain ⟨i1, ⟨i2, i4⟩, i3⟩ := ih
  refine ⟨i1, ⟨i2, fun h => rfl⟩, fun m2 h1 h2 => ?_⟩
  have hG : m2.G = m.G := h2 rfl
  have := i3 m2 h1 (fun _ => hG)
  rw [← hG] at this
  exact Run.getG this
 | @setG g k m a m' f h ih =>
  obtain ⟨⟨i1, i5⟩, ⟨i2, i4⟩, i3⟩ := ih
  refine ⟨⟨i1, fun h => by simp [Fp.addGW] at h⟩, ⟨i2, fun _ => rfl⟩, fun m2 h1 h2 => ?_⟩
  have := i3 { m2 with G := g } h1 (fun _ => rfl)
  have h3 := Run.setG this
  refine (congrArg (fun z => Run C (.setG g k) m2 a z f.addGW) ?_).mp h3
  show Mem.mk _ _ = Mem.mk _ _
  congr 1
  cases hf : f.gw
  ·simp [Fp.addGW, i5 hf]
  ·simp [Fp.addGW]
 | @call g args k m r G' a m' f hc h ih =>
  obtain ⟨⟨i1, i5⟩, ⟨i2, i4⟩, i3⟩ := ih
  refine ⟨⟨i1, fun h => by simp [Fp.addGW] at h⟩, ⟨i2, fun _ => rfl⟩, fun m2 h1 h2 => ?_⟩
  have hG : m2.G = m.G := h2 rfl
  have := i3 { m2 with G := G' } h1 (fun _ => rfl)
  have h3 := Run.call (g := g) (args := args) (m := m2) (by rw [hG]; exact hc) this
  refine (congrArg (fun z => Run C (.call g args k) m2 a z f.addGW) ?_).mp h3
  show Mem.mk _ _ = Mem.mk _ _
  congr 1
  cases hf : f.gw
  ·simp [Fp.addGW, i5 hf]
  ·simp [Fp.addGW]
 | @pcall g args k m r a m' f hc h ih =>
  obtain ⟨i1, i2, i3⟩ := ih
  exact ⟨i1, i2, fun m2 h1 h2 => .pcall hc (i3 m2 h1 h2)⟩
end Go.Vai
namespace Go.Vai
def opn : LV → LV
 | .cond c x => if c then opn x else .dead
 | x => x
def ofCell : Value → AV
 | .slice none 0 0 => .sl 0 true []
 | v => .base v
def ofConst : Value → AV
 | .agg cs => .agg (cs.toList.map ofCell)
 | v => ofCell v
def St.raw (σ : St) : Operand → LV
 | .tmp t => σ.slots t
 | .const v => .v (ofConst v)
 | .func f => .v (.clo f [])
 | .global _ => .dead
structure TI where
 sz : Nat
 bytes : Nat
 zero : List AV
 agg : Bool
def isAggD : TypeDesc → Bool
 | .struct _ => true
 | .array _ _ => true
 | _ => false
def szOf (P : Program) (t : TypeId) : Nat :=
 match P.underlying t with
 | some (.slice e) => match P.info? e with
  | some i => i.size
  | none => 0
 | _ => 0
def cellSz (P : Program) : Nat → TypeId → List Nat
 | 0, _ => []
 | d + 1, t => match P.underlying t with
  | some (.struct fs) => fs.toList.flatMap fun f => cellSz P d f.type
  | some (.array n e) => (List.replicate n (cellSz P d e)).flatten
  | _ => [szOf P t]
def ofCellS (s : Nat) : Value → AV
 | .slice none 0 0 => .sl s true []
 | v => .base v
def zeroL : List Nat → List Value → List AV
 | _, [] => []
 | [], v :: vs => ofCell v :: zeroL [] vs
 | s :: ss, v :: vs => ofCellS s v :: zeroL ss vs
def tiOf (P : Program) (t : TypeId) : Option TI :=
 match P.info? t, P.underlying t with
 | some i, some d => match i.zero with
  | some z => if (i.size ≠ 0 ∧ i.bytes ≠ 0) ∧ z.cells.size = i.size ∧ (isAggD d || i.size == 1) = true ∧ z.cells.toList.all (·.oneCell') = true then some ⟨i.size, i.bytes, zeroL (cellSz P 6 t) z.cells.toList, isAggD d⟩ else none
  | none => none
 | _, _ => none
def elOf (P : Program) (t : TypeId) : Option TypeId :=
 match P.underlying t with
 | some (.slice e) => some e
 | _ => none
def TI.mk1 (ti : TI) (cs : List AV) : AV := if ti.agg then .agg cs else cs.headD default
def TI.z (ti : TI) : AV := ti.mk1 ti.zero
structure Cfg where
 pure : FuncId → Bool
 xfer : FuncId → Bool
 scalar : FuncId → Bool
 glob : Tmp → Bool := fun _ => false
 move : Tmp → Bool := fun _ => false
mutual
def noPtr : AV → Bool
 | .base _ => true
 | .sl _ _ xs => noPtrL xs
 | .agg xs => noPtrL xs
 | .tup xs => noPtrL xs
 | .iptr xs _ => noPtrL xs
 | .clo _ xs => noPtrL xs
 | .gp _ _ => false
 | .gm _ => false
 | .mp _ => false
def noPtrL : List AV → Bool
 | [] => true
 | x :: xs => noPtr x && noPtrL xs
end
def cellsL : LV → List LV
 | .v a => (cellsOf a).map .v
 | .agg fs => fs
 | x => [x]
def cellishAV : AV → Bool
 | .base v => v.oneCell'
 | .agg _ => false
 | .tup _ => false
 | .mp _ => false
 | _ => true
def sub (xs : List AV) (lo hi : Nat) : List AV := (xs.take hi).drop lo
def freezeN (n : Nm) (g lo hi : Nat) : M AV :=
 .getO n fun x => if x.1 = g then
  match x.2 with
  | .arr nil sz xs => .setO n (g, .frz nil sz xs) (.ret (.sl sz nil (sub xs lo hi)))
  | .frz nil sz xs => .ret (.sl sz nil (sub xs lo hi))
  | _ => .fail
 else .fail
def peekN (n : Nm) (g lo hi : Nat) : M AV :=
 .getO n fun x => if x.1 = g then
  match x.2 with
  | .arr nil sz xs => .ret (.sl sz nil (sub xs lo hi))
  | .frz nil sz xs => .ret (.sl sz nil (sub xs lo hi))
  | _ => .fail
 else .fail
mutual
def reify : LV → M AV
 | .v a => .ret a
 | .own n g lo hi => freezeN n g lo hi
 | .agg fs => (reifyL fs).bind fun l => .ret (.agg l)
 | _ => .fail
def reifyL : List LV → M (List AV)
 | [] => .ret []
 | x :: xs => (reify x).bind fun a => (reifyL xs).bind fun l => .ret (a :: l)
end
mutual
def peek : LV → M AV
 | .v a => .ret a
 | .own n g lo hi => peekN n g lo hi
 | .agg fs => (peekL fs).bind fun l => .ret (.agg l)
 | _ => .fail
def peekL : List LV → M (List AV)
 | [] => .ret []
 | x :: xs => (peek x).bind fun a => (peekL xs).bind fun l => .ret (a :: l)
end
def rehome (n : Nm) (g lo hi : Nat) (home : Nm) : M LV :=
 .getO n fun x => if x.1 = g then
  match x.2 with
  | .arr nil sz xs => .getO home fun y => .setO home (y.1 + 1, .arr nil sz xs) (.setO n (g + 1, .dead) (.ret (.own home (y.1 + 1) lo hi)))
  | .frz nil sz xs => .ret (.v (.sl sz nil (sub xs lo hi)))
  | _ => .fail
 else .fail
def settle (home : Nm) : LV → M LV
 | .own (.tmp t i) g lo hi => rehome (.tmp t i) g lo hi home
 | .own n g lo hi => if n = home then
   .getO n fun x => if x.1 = g then match x.2 with | .arr .. => .ret (.own n g lo hi) | .frz .. => .ret (.own n g lo hi) | _ => .fail else .fail
  else (freezeN n g lo hi).bind fun a => .ret (.v a)
 | .v a => if cellishAV a then .ret (.v a) else .fail
 | .lptr n g o => .getO n fun x => if x.1 = g then match x.2 with | .box _ => .ret (.lptr n g o) | .fbox _ => .ret (.lptr n g o) | _ => .fail else .fail
 | .eptr n g i o => .getO n fun x => if x.1 = g then match x.2 with | .arr .. => .ret (.eptr n g i o) | .frz .. => .ret (.eptr n g i o) | _ => .fail else .fail
 | _ => .fail
def newNil (home : Nm) (sz : Nat) : M LV :=
 .getO home fun y => .setO home (y.1 + 1, .arr true sz []) (.ret (.own home (y.1 + 1) 0 0))
def settleL (b : Nat) : Nat → List LV → M (List LV)
 | _, [] => .ret []
 | j, x :: xs => (settle (.cell b j) x).bind fun y => (settleL b (j + 1) xs).bind fun l => .ret (y :: l)
def newBox (t : Nat) (cells : List LV) : M LV :=
 .getO (.tmp t 0) fun x => .setO (.tmp t 0) (x.1 + 1, .box cells) (.ret (.lptr (.tmp t 0) (x.1 + 1) 0))
def newG (cells : List AV) : M LV :=
 .getG fun G => .setG (G ++ [cells]) (.ret (.v (.gp G.length 0)))
def newArr (t i : Nat) (nil : Bool) (sz : Nat) (xs : List AV) (hi : Nat) : M LV :=
 .getO (.tmp t i) fun x => .setO (.tmp t i) (x.1 + 1, .arr nil sz xs) (.ret (.own (.tmp t i) (x.1 + 1) 0 hi))
def setAt {α : Type} (l : List α) (off : Nat) : List α → List α
 | [] => l
 | x :: xs => setAt (l.set off x) (off + 1) xs
def loadL (ti : TI) (cells : List LV) (off : Nat) : M LV :=
 if off + ti.sz ≤ cells.length then
  if ti.agg then .ret (.agg ((cells.drop off).take ti.sz))
  else match cells[off]? with
   | some x => if ti.sz = 1 then .ret x else .fail
   | none => .fail
 else .fail
def aLoad (ti : TI) : LV → M LV
 | .lptr n g off => .getO n fun x => if x.1 = g then
   match x.2 with
   | .box cells => loadL ti cells off
   | .fbox cells => loadL ti (cells.map .v) off
   | _ => .fail
  else .fail
 | .eptr n g i off => .getO n fun x => if x.1 = g then
   match x.2 with
   | .arr _ _ xs => match xs[i]? with | some e => loadL ti ((cellsOf e).map .v) off | none => .fail
   | .frz _ _ xs => match xs[i]? with | some e => loadL ti ((cellsOf e).map .v) off | none => .fail
   | _ => .fail
  else .fail
 | .v (.iptr cells off) => loadL ti (cells.map .v) off
 | .v (.gp id off) => .getG fun G => match G[id]? with | some cells => if cells.all cellishAV = true then loadL ti (cells.map .v) off else .fail | none => .fail
 | _ => .fail
def setCells (e : AV) (off : Nat) (cs : List AV) : AV :=
 match e with
 | .agg fs => .agg (setAt fs off cs)
 | x => match cs with | c :: _ => c | [] => x
def aStore (ti : TI) : LV → LV → M Unit
 | .lptr (.tmp t i) g off, x => (settleL t off (cellsL x)).bind fun cs => .getO (.tmp t i) fun y =>
   if y.1 = g ∧ cs.length = ti.sz then
    match y.2 with
    | .box cells => if off + ti.sz ≤ cells.length then .setO (.tmp t i) (g, .box (setAt cells off cs)) (.ret ()) else .fail
    | _ => .fail
   else .fail
 | .eptr n g i off, x => (reifyL (cellsL x)).bind fun cs => .getO n fun y =>
   if y.1 = g ∧ cs.length = ti.sz ∧ cs.all cellishAV = true then
    match y.2 with
    | .arr nil sz xs => match xs[i]? with
     | some e => if off + ti.sz ≤ sz ∧ (cellsOf e).length = sz then .setO n (g, .arr nil sz (xs.set i (setCells e off cs))) (.ret ()) else .fail
     | none => .fail
    | _ => .fail
   else .fail
 | .v (.gp id off), x => (reifyL (cellsL x)).bind fun cs => .getG fun G =>
   match G[id]? with
   | some cells => if (off + ti.sz ≤ cells.length ∧ cs.length = ti.sz ∧ cs.all cellishAV = true) ∧ cells.all cellishAV = true then .setG (G.set id (setAt cells off cs)) (.ret ()) else .fail
   | none => .fail
 | _, _ => .fail
def newM : M LV := .getG fun G => .setG (G ++ [[.mp fun _ => none]]) (.ret (.v (.gm G.length)))
def mapAt (G : List (List AV)) (id : Nat) : Option (Int → Option AV) := match G[id]? with
 | some [.mp f] => some f
 | _ => none
def keyOf : LV → Option Int
 | .v (.base (.int .i64 n)) => some n
 | _ => none
def updM (f : Int → Option AV) (k : Int) (a : Option AV) : Int → Option AV := fun j => if j = k then a else f j
def lkp (z : AV) (ok : Bool) (r : Option AV) : LV := if ok then .v (.tup [r.getD z, .b r.isSome]) else .v (r.getD z)
def aLookup (z : AV) (ok : Bool) (k : Int) : LV → M LV
 | .v (.gm id) => .getG fun G => match mapAt G id with
  | some f => .ret (lkp z ok (f k))
  | none => .fail
 | .v (.base (.map none)) => .ret (lkp z ok none)
 | _ => .fail
def aMapSet (k : Int) (a : Option AV) : LV → M Unit
 | .v (.gm id) => .getG fun G => match mapAt G id with
  | some f => .setG (G.set id [.mp (updM f k a)]) (.ret ())
  | none => .fail
 | _ => .fail
def aMapClear : LV → M Unit
 | .v (.gm id) => .getG fun G => match mapAt G id with
  | some _ => .setG (G.set id [.mp fun _ => none]) (.ret ())
  | none => .fail
 | .v (.base (.map none)) => .ret ()
 | _ => .fail
def mapEl (P : Program) (t : TypeId) : Option TypeId := match P.underlying t with
 | some (.map kt et) => match P.underlying kt with
  | some (.int .i64) => some et
  | _ => none
 | _ => none
def zeroOf (P : Program) (t : TypeId) : Option AV := match P.info? t with
 | some i => match i.zero with
  | some z => match z with
   | .agg _ => none
   | z => some (ofCellS (szOf P t) z)
  | none => none
 | none => none
def fieldOf (P : Program) (t : TypeId) (f : Nat) : Option (Nat × Nat) :=
 match P.underlying t with
 | some (.struct fs) => match fs[f]? with
  | some f => match P.info? f.type with | some i => if i.size = 0 then none else some (f.offset, i.size) | none => none
  | none => none
 | _ => none
def Obj.isBox : Obj → Bool
 | .box _ => true
 | .fbox _ => true
 | _ => false
def Obj.isArr : Obj → Bool
 | .arr .. => true
 | .frz .. => true
 | _ => false
def aFieldAddr (off : Nat) : LV → M LV
 | .lptr n g o => .getO n fun x => if x.1 = g ∧ x.2.isBox = true then .ret (.lptr n g (o + off)) else .fail
 | .eptr n g i o => .getO n fun x => if x.1 = g ∧ x.2.isArr = true then .ret (.eptr n g i (o + off)) else .fail
 | .v (.iptr cs o) => .ret (.v (.iptr cs (o + off)))
 | .v (.gp id o) => .ret (.v (.gp id (o + off)))
 | _ => .fail
def aIndex (sz : Nat) (i : Int) : LV → M LV
 | .own n g lo hi => if 0 ≤ i ∧ i.toNat < hi - lo then .getO n fun x => if x.1 = g then
   match x.2 with
   | .arr _ s _ => if s = sz then .ret (.eptr n g (lo + i.toNat) 0) else .fail
   | .frz _ s _ => if s = sz then .ret (.eptr n g (lo + i.toNat) 0) else .fail
   | _ => .fail
  else .fail else .fail
 | .v (.sl s _ xs) => if 0 ≤ i ∧ s = sz then match xs[i.toNat]? with | some e => .ret (.v (.iptr (cellsOf e) 0)) | none => .fail else .fail
 | _ => .fail
def aIndexArr (n sz : Nat) (i : Int) : LV → M LV
 | x => if 0 ≤ i ∧ i.toNat < n then aFieldAddr (i.toNat * sz) x else .fail
def intOf : LV → Option Int
 | .v (.base (.int _ n)) => some n
 | _ => none
def bnd : Option LV → Option (Option Int)
 | none => some none
 | some x => (intOf x).map some
def aBounds (len : Nat) (lo hi mx : Option Int) : Option (Nat × Nat) :=
 let h : Int := hi.getD len
 let m : Int := mx.getD len
 let l : Int := lo.getD 0
 if 0 ≤ l ∧ l ≤ h ∧ h ≤ m ∧ m ≤ len ∧ (mx.isSome = true → hi.isSome = true) then some (l.toNat, h.toNat) else none
def aSlice (sz : Nat) (lo hi mx : Option Int) : LV → M LV
 | .v (.sl s nil xs) => match aBounds xs.length lo hi mx with
  | some (l, h) => if s = sz ∨ xs.isEmpty = true then .ret (.v (.sl s nil (sub xs l h))) else .fail
  | none => .fail
 | .v (.base (.string s)) => match aBounds s.size lo hi none, mx with
  | some (l, h), none => .ret (.v (.base (.string (s.extract l h))))
  | _, _ => .fail
 | .own n g a b => .getO n fun x => if x.1 = g then
   match x.2, mx with
   | .arr _ s xs, none =>
    let l := lo.getD 0; let h := hi.getD ((b - a : Nat) : Int)
    if 0 ≤ l ∧ l ≤ h ∧ a + h.toNat ≤ xs.length ∧ (s = sz ∨ xs.isEmpty = true) ∧ (a = 0 ∨ a < b ∨ h.toNat ≤ l.toNat) then .ret (.own n g (a + l.toNat) (a + h.toNat)) else .fail
   | .arr nil s xs, some mv => match hi with
    | some h => if 0 ≤ lo.getD 0 ∧ lo.getD 0 ≤ h ∧ h ≤ mv ∧ a + mv.toNat = xs.length ∧ s = sz ∧ nil = false ∧ (a = 0 ∨ a < b) then .ret (.own n g (a + (lo.getD 0).toNat) (a + h.toNat)) else .fail
    | none => .fail
   | .frz nil s xs, _ => match aBounds (sub xs a b).length lo hi mx with
    | some (l, h) => if s = sz ∨ (sub xs a b).isEmpty = true then .ret (.v (.sl s nil (sub (sub xs a b) l h))) else .fail
    | none => .fail
   | _, _ => .fail
  else .fail
 | _ => .fail
def intBin (op : BinOp) (k : IntKind) (a b : Int) : Option AV :=
 match op with
 | .add => some (.i k (k.wrap (a + b)))
 | .sub => some (.i k (k.wrap (a - b)))
 | .mul => some (.i k (k.wrap (a * b)))
 | .quo => if b = 0 then none else some (.i k (k.wrap (a.tdiv b)))
 | .rem => if b = 0 then none else some (.i k (a.tmod b))
 | .and => some (.i k (k.wrap ((BitVec.ofInt k.bits a &&& BitVec.ofInt k.bits b).toNat : Int)))
 | .or => some (.i k (k.wrap ((BitVec.ofInt k.bits a ||| BitVec.ofInt k.bits b).toNat : Int)))
 | .xor => some (.i k (k.wrap ((BitVec.ofInt k.bits a ^^^ BitVec.ofInt k.bits b).toNat : Int)))
 | .andNot => some (.i k (k.wrap ((BitVec.ofInt k.bits a &&& ~~~BitVec.ofInt k.bits b).toNat : Int)))
 | .eql => some (.b (a == b))
 | .neq => some (.b (a != b))
 | .lss => some (.b (decide (a < b)))
 | .leq => some (.b (decide (a ≤ b)))
 | .gtr => some (.b (decide (a > b)))
 | .geq => some (.b (decide (a ≥ b)))
 | _ => none
def shiftBin (op : BinOp) (k : IntKind) (a b : Int) : Option AV :=
 if b < 0 then none else
 match op with
 | .shl => some (.i k (k.wrap (a * 2 ^ (min b.toNat k.bits))))
 | .shr => some (.i k (a.fdiv (2 ^ (min b.toNat k.bits))))
 | _ => none
inductive SK where
 | i | b | s
 deriving DecidableEq
def eqScalar : SK → AV → AV → Option Bool
 | .i, .base (.int k a), .base (.int k' b) => if k = k' then some (a == b) else none
 | .b, .base (.bool a), .base (.bool b) => some (a == b)
 | .s, .base (.string a), .base (.string b) => some (a.toList == b.toList)
 | _, _, _ => none
def eqCells : List SK → List AV → List AV → Option Bool
 | [], [], [] => some true
 | k :: ks, x :: xs, y :: ys => match eqScalar k x y, eqCells ks xs ys with
  | some a, some b => some (a && b)
  | _, _ => none
 | _, _, _ => none
def flatFs (P : Program) (rec : TypeId → Option (List SK)) : List SK → List Field → Option (List SK)
 | o, [] => some o
 | o, f :: fs => if f.offset = o.length ∧ f.name ≠ "_" then
   match rec f.type with
   | some m => if (P.info? f.type).map (·.size) = some m.length then flatFs P rec (o ++ m) fs else none
   | none => none
  else none
def flatT (P : Program) : Nat → TypeId → Option (List SK)
 | 0, _ => none
 | d + 1, t =>
  match P.underlying t with
  | some (.int _) => some [.i]
  | some .bool => some [.b]
  | some .string => some [.s]
  | some (.struct fs) => if P.stoodInHeld t then none else flatFs P (flatT P d) [] fs.toList
  | _ => none
def aEq (P : Program) (t : TypeId) (x y : AV) : Option Bool :=
 match P.underlying t with
 | some .bool => match x, y with
  | .base (.bool a), .base (.bool b) => some (a == b)
  | _, _ => none
 | some (.pointer _) => match x, y with
  | .base (.pointer none), .base (.pointer none) => some true
  | .base (.pointer none), .gp _ _ => some false
  | .gp _ _, .base (.pointer none) => some false
  | _, _ => none
 | some (.func _ _ _) => match x, y with
  | .base .nilFunc, .base .nilFunc => some true
  | .base .nilFunc, .clo _ _ => some false
  | .clo _ _, .base .nilFunc => some false
  | _, _ => none
 | some (.slice _) => match x, y with
  | .sl _ n _, .sl _ m _ => if n || m then some (n && m) else none
  | _, _ => none
 | some (.struct _) => match x, y with
  | .agg xs, .agg ys => match flatT P 5 t with
   | some n => if P.eqGuardType P.depth t = false then eqCells n xs ys else none
   | none => none
  | _, _ => none
 | _ => none
def aEql (P : Program) (t : TypeId) (x y : AV) : Option Bool :=
 match x, y with
 | .base (.int k a), .base (.int k' b) => if k = k' then some (a == b) else none
 | .base (.string a), .base (.string b) => some (a.toList == b.toList)
 | x, y => aEq P t x y
def aShift (op : BinOp) : AV → AV → Option AV
 | .base (.int k a), .base (.int _ b) => shiftBin op k a b
 | _, _ => none
def aArith (op : BinOp) : AV → AV → Option AV
 | .base (.int k a), .base (.int k' b) => if k = k' then intBin op k a b else none
 | _, _ => none
def aBin (P : Program) (op : BinOp) (t : TypeId) (x y : AV) : Option AV :=
 match op with
 | .shl => aShift .shl x y
 | .shr => aShift .shr x y
 | .eql => (aEql P t x y).map .b
 | .neq => (aEql P t x y).map fun r => .b (!r)
 | op => aArith op x y
def aUn (op : UnOp) : AV → Option AV
 | .base (.bool b) => match op with | .not => some (.b (!b)) | _ => none
 | .base (.int k n) => match op with
  | .neg => some (.i k (k.wrap (0 - n)))
  | .xor => intBin .xor k (if k.signed then -1 else k.max) n
  | _ => none
 | _ => none
def bytesAV (s : ByteArray) : List AV := s.data.toList.map fun b => .i .u8 b.toNat
def lvOpt : Option AV → M LV
 | some a => .ret (.v a)
 | none => .fail
def pickLV (c : Bool) (x y : LV) : LV := if c then opn x else opn y
def isAggAV : AV → Bool
 | .agg _ => true
 | _ => false
def resOne (d i : Nat) (a : AV) (own : Bool) : M LV :=
 if own then match a with
  | .sl sz nil xs => .getO (.res i) fun x => match x.2 with
   | .dead => newArr d i nil sz xs xs.length
   | _ => .fail
  | _ => .fail
 else .ret (.v a)
def resL (d : Nat) : Nat → List (AV × Bool) → M (List LV)
 | _, [] => .ret []
 | i, (a, own) :: rest =>
  (resOne d i a own).bind fun y => (resL d (i + 1) rest).bind fun l => .ret (y :: l)
def resOf (dst : Option Tmp) (r : List (AV × Bool)) : M LV :=
 match dst with
 | none => .ret .dead
 | some d => (resL d 0 r).bind fun l => match l with
  | [x] => .ret x
  | l => .ret (.tup l)
def scalarAV : AV → Bool
 | .base _ => true
 | _ => false
mutual
def LV.names : LV → List Nm
 | .own n _ _ _ => [n]
 | .agg fs => namesL fs
 | _ => []
def namesL : List LV → List Nm
 | [] => []
 | x :: xs => x.names ++ namesL xs
end
def prep (cfg : Cfg) (f : FuncId) (rest : List LV) : M (List AV) := if cfg.scalar f && cfg.pure f then peekL rest else reifyL rest
def fin (cfg : Cfg) (dst : Option Tmp) (f : FuncId) (hd : List (AV × Bool)) (as : List AV) : M LV :=
 let args := hd ++ as.map fun a => (a, false)
 let k := fun (r : List (AV × Bool)) => if cfg.scalar f then (if r.all (fun x => scalarAV x.1 && !x.2) then resOf dst r else .fail) else resOf dst r
 if cfg.pure f then (if noPtrL (args.map (·.1)) then .pcall f args k else .fail) else .call f args k
def callL (cfg : Cfg) (dst : Option Tmp) (f : FuncId) (caps : List AV) (args : List LV) : M LV :=
 if cfg.xfer f then
  match args with
  | .own n g 0 hi :: rest => if (namesL rest).contains n then .fail else
   (prep cfg f rest).bind fun as => .getO n fun x => if x.1 = g then
    match x.2 with
    | .arr nil sz l => .setO n (g + 1, .dead) (fin cfg dst f [(.sl sz nil (sub l 0 hi), true)] (as ++ caps))
    | _ => .fail
   else .fail
  | _ => .fail
 else (prep cfg f args).bind fun as => fin cfg dst f [] (as ++ caps)
def elems (ti : TI) : List LV → M (List AV)
 | [] => .ret []
 | x :: xs => (reify x).bind fun a => if (cellsOf a).length = ti.sz ∧ ti.agg = isAggAV a ∧ (cellsOf a).all cellishAV = true then (elems ti xs).bind fun l => .ret (a :: l) else .fail
def placesOf (P : Program) (t : TypeId) : Option (List (Nat × Nat)) :=
 match P.underlying t with
 | some (.struct fs) => fs.toList.mapM fun f => (P.info? f.type).map fun i => (f.offset, i.size)
 | _ => none
def okOne : LV → M Unit
 | .v (.agg _) => .ret ()
 | .agg _ => .ret ()
 | .v a => if cellishAV a then .ret () else .fail
 | .own n g _ _ => .getO n fun x => if x.1 = g ∧ x.2.isArr = true then .ret () else .fail
 | .lptr n g _ => .getO n fun x => if x.1 = g ∧ x.2.isBox = true then .ret () else .fail
 | .eptr n g _ _ => .getO n fun x => if x.1 = g ∧ x.2.isArr = true then .ret () else .fail
 | _ => .fail
def fillL (pl : List (Nat × Nat)) : List LV → List (Nat × LV) → M (List LV)
 | cells, [] => .ret cells
 | cells, (i, x) :: rest => (okOne x).bind fun _ => match pl[i]? with
  | some (off, sz) => if (cellsL x).length = sz ∧ off + sz ≤ cells.length then fillL pl (setAt cells off (cellsL x)) rest else .fail
  | none => .fail
def partsOf (z : AV) (len : Nat) : List (Nat × AV) → List AV → Option (List AV)
 | [], xs => some xs
 | (i, a) :: r, xs => if i < len then partsOf z len r (xs.set i a) else none
def roomB : Nat := 140737488355328
def aAppend (d : Nat) (sz bytes : Nat) (ys : List AV) : LV → M LV
 | .own n g 0 hi => .getO n fun x => if x.1 = g then
   match x.2 with
   | .arr nil s xs =>
    if (s = sz ∨ nil = true) ∧ (hi + ys.length) * bytes ≤ roomB ∧ (∀ y ∈ ys, (cellsOf y).length = sz) then
     .setO n (g + 1, .dead) (newArr d 0 (nil && ys.isEmpty) sz
      (if hi + ys.length ≤ xs.length then xs.take hi ++ ys ++ xs.drop (hi + ys.length) else xs.take hi ++ ys) (hi + ys.length))
    else .fail
   | _ => .fail
  else .fail
 | .v (.sl _ true []) =>
   if ys.length * bytes ≤ roomB ∧ (∀ y ∈ ys, (cellsOf y).length = sz) then newArr d 0 ys.isEmpty sz ys ys.length else .fail
 | _ => .fail
def aClear (sz : Nat) (z : AV) : LV → M Unit
 | .own n g lo hi => .getO n fun x => if x.1 = g then
   match x.2 with
   | .arr nil s xs => if s = sz ∧ lo ≤ hi ∧ hi ≤ xs.length then .setO n (g, .arr nil s (xs.take lo ++ List.replicate (hi - lo) z ++ xs.drop hi)) (.ret ()) else if hi ≤ lo then .ret () else .fail
   | .frz .. => if hi ≤ lo then .ret () else .fail
   | _ => .fail
  else .fail
 | .v (.sl _ _ []) => .ret ()
 | _ => .fail
def aCopy (sz : Nat) (ys : List AV) : LV → M LV
 | .own n g lo hi => .getO n fun x => if x.1 = g then
   match x.2 with
   | .arr false s xs => if s = sz ∧ lo ≤ hi ∧ hi ≤ xs.length then .setO n (g, .arr false s (xs.take lo ++ ys.take (hi - lo) ++ xs.drop (lo + (ys.take (hi - lo)).length))) (.ret (.v (.i .i64 (ys.take (hi - lo)).length))) else .fail
   | _ => .fail
  else .fail
 | _ => .fail
def capture : LV → M AV
 | .lptr n g 0 => .getO n fun x => if x.1 = g then
   match x.2 with
   | .box cells => (reifyL cells).bind fun cs => .setO n (g, .fbox cs) (.ret (.iptr cs 0))
   | .fbox cs => .ret (.iptr cs 0)
   | _ => .fail
  else .fail
 | .v (.iptr cs o) => .ret (.iptr cs o)
 | _ => .fail
def captureL : List LV → M (List AV)
 | [] => .ret []
 | x :: xs => (capture x).bind fun a => (captureL xs).bind fun l => .ret (a :: l)
def builtinL (P : Program) (b : Builtin) (argTypes : Array TypeId) (dst : Option Tmp) (args : List LV) : M LV :=
 match b, argTypes.toList, args with
 | .len, [t], [x] => (peek x).bind fun a => match P.underlying t, a with
  | some (.slice _), .sl _ _ xs => .ret (.v (.i .i64 xs.length))
  | some .string, .base (.string s) => .ret (.v (.i .i64 s.size))
  | _, _ => .fail
 | .cap, [t], [x] => (peek x).bind fun a => match P.underlying t, a with
  | some (.slice _), .sl _ true [] => .ret (.v (.i .i64 0))
  | _, _ => .fail
 | .min, _, [.v (.base (.int k a)), .v (.base (.int k' b))] => if k = k' then .ret (.v (.i k (if b < a then b else a))) else .fail
 | .max, _, [.v (.base (.int k a)), .v (.base (.int k' b))] => if k = k' then .ret (.v (.i k (if b > a then b else a))) else .fail
 | .append, [t, xt], [s, x] => match elOf P t, dst with
  | some e, some d => match tiOf P e with
   | some ti => match P.underlying xt, x with
    | some (.int _), .v (.base (.int .i64 n)) => if 0 ≤ n ∧ n * ti.bytes ≤ roomB then aAppend d ti.sz ti.bytes (List.replicate n.toNat ti.z) s else .fail
    | some (.slice _), x => (peek x).bind fun a => match a with | .sl sz _ ys => if sz = ti.sz ∨ ys.isEmpty = true then aAppend d ti.sz ti.bytes ys s else .fail | _ => .fail
    | some .string, .v (.base (.string y)) => if ti.sz = 1 then aAppend d ti.sz ti.bytes (bytesAV y) s else .fail
    | _, _ => .fail
   | none => .fail
  | _, _ => .fail
 | .clear, [t], [x] => match elOf P t with
  | some e => match tiOf P e with
   | some ti => (aClear ti.sz ti.z x).bind fun _ => .ret (.v (.base undef))
   | none => .fail
  | none => match mapEl P t with
   | some _ => (aMapClear x).bind fun _ => .ret (.v (.base undef))
   | none => .fail
 | .copy, [t, xt], [s, x] => match elOf P t with
  | some e => match tiOf P e with
   | some ti => match P.underlying xt with
    | some (.slice _) => (peek x).bind fun a => match a with | .sl sz _ ys => if sz = ti.sz ∨ ys.isEmpty = true then aCopy ti.sz ys s else .fail | _ => .fail
    | _ => .fail
   | none => .fail
  | none => .fail
 | .delete, [t, _], [x, k] => match mapEl P t, keyOf k with
  | some _, some k => (aMapSet k none x).bind fun _ => .ret (.v (.base undef))
  | _, _ => .fail
 | _, _, _ => .fail
def convN (n : Nm) (g lo hi : Nat) : M LV :=
 .getO n fun x => if x.1 = g then
  match x.2 with
  | .arr false sz xs => .setO n (g + 1, .dead) (.ret (.v (.sl sz false (sub xs lo hi))))
  | _ => .fail
 else .fail
def bytesNs : List AV → Option (List Int)
 | [] => some []
 | .base (.int .u8 n) :: r => (bytesNs r).map (n :: ·)
 | _ => none
def strOf (ns : List Int) : ByteArray := ns.foldl (fun r n => r.push (UInt8.ofNat n.toNat)) ByteArray.empty
def strL : AV → M LV
 | .sl _ _ xs => match bytesNs xs with
  | some ns => .ret (.v (.base (.string (strOf ns))))
  | none => .fail
 | _ => .fail
def isNilConst : Operand → Bool
 | .const (.slice none 0 0) => true
 | _ => false
def act (P : Program) (cfg : Cfg) (raw : Operand → LV) (o : Oper) : M LV :=
 let ev := fun x => opn (raw x)
 let u := fun (m : M Unit) => m.bind fun _ => .ret (.v (.base undef))
 match o.op with
 | .move x => .ret (ev x)
 | .assign x => match o.dst with
  | none => .fail
  | some d => if isNilConst x then newNil (.var d) (szOf P o.type) else
   match ev x with
   | .own n g lo hi => if cfg.move d = true ∧ n ≠ .var d then rehome n g lo hi (.var d) else settle (.var d) (.own n g lo hi)
   | y => .ret y
 | .pick c a b => match ev c with
  | .v (.base (.bool c)) => .ret (pickLV c (raw a) (raw b))
  | _ => .fail
 | .alloc e => match tiOf P e, o.dst with
  | some ti, some d => if cfg.glob d then newG ti.zero else newBox d (ti.zero.map .v)
  | _, _ => .fail
 | .box e x => match tiOf P e, o.dst with
  | some ti, some d => if cfg.glob d then (reifyL (cellsL (ev x))).bind fun cs => if cs.length = ti.sz ∧ cs.all cellishAV = true then newG cs else .fail
   else (settleL d 0 (cellsL (ev x))).bind fun cs => if cs.length = ti.sz then newBox d cs else .fail
  | _, _ => .fail
 | .build t parts => match tiOf P t, placesOf P t with
  | some ti, some pl => (fillL pl (ti.zero.map LV.v) (parts.toList.map fun p => (p.1, ev p.2))).bind fun cs => .ret (.agg cs)
  | _, _ => .fail
 | .buildSlice t len parts => match elOf P t, o.dst with
  | some e, some d => match tiOf P e with
   | some ti => if len * ti.sz ≤ 16777216 then
     (elems ti (parts.toList.map fun p => ev p.2)).bind fun as =>
      match partsOf ti.z len ((parts.toList.map (·.1)).zip as) (List.replicate len ti.z) with
      | some xs => newArr d 0 false ti.sz xs len
      | none => .fail
    else .fail
   | none => .fail
  | _, _ => .fail
 | .load t a => match tiOf P t with
  | some ti => aLoad ti (ev a)
  | none => .fail
 | .store t a x => match tiOf P t with
  | some ti => u (aStore ti (ev a) (ev x))
  | none => .fail
 | .nilCheck x => match ev x with
  | .lptr n g off => aFieldAddr 0 (.lptr n g off)
  | .eptr n g i off => aFieldAddr 0 (.eptr n g i off)
  | .v (.gp id off) => .ret (.v (.gp id off))
  | .v (.iptr cs off) => .ret (.v (.iptr cs off))
  | _ => .fail
 | .binOp op t x y _ => (peek (ev x)).bind fun a => (peek (ev y)).bind fun b => lvOpt (aBin P op t a b)
 | .unOp op _ x => (peek (ev x)).bind fun a => lvOpt (aUn op a)
 | .convert src dst x => match P.underlying src, P.underlying dst, ev x with
  | some _, some (.int k), .v (.base (.int _ n)) => .ret (.v (.i k (k.wrap n)))
  | some (.slice _), some (.slice e), .own n g lo hi => match P.underlying e with
   | some (.int .u8) => if src = dst then convN n g lo hi else .fail
   | _ => .fail
  | some (.slice e), some .string, y => match P.underlying e with
   | some (.int .u8) => (peek y).bind strL
   | _ => .fail
  | _, _, _ => .fail
 | .makeFunc fn first captured => match fn, first.toList with
  | .func f, [] => (captureL (captured.toList.map ev)).bind fun cs => .ret (.v (.clo f cs))
  | _, _ => .fail
 | .makeSlice t l c => match elOf P t, o.dst, ev l, ev c with
  | some e, some d, .v (.base (.int .i64 n)), .v (.base (.int .i64 m)) => match tiOf P e with
   | some ti => if 0 ≤ n ∧ n ≤ m ∧ m * ti.bytes ≤ roomB ∧ m < 9223372036854775808 then newArr d 0 false ti.sz (List.replicate m.toNat ti.z) n.toNat else .fail
   | none => .fail
  | _, _, _, _ => .fail
 | .slice t x lo hi mx => match bnd (lo.map ev), bnd (hi.map ev), bnd (mx.map ev) with
  | some l, some h, some m => match P.underlying t with
   | some (.slice e) => match tiOf P e, ev x with
    | some _, .v (.base _) => .fail
    | some ti, y => aSlice ti.sz l h m y
    | none, _ => .fail
   | some .string => match ev x with | .v (.base (.string s)) => aSlice 1 l h m (.v (.base (.string s))) | _ => .fail
   | _ => .fail
  | _, _, _ => .fail
 | .fieldAddr t x f => match fieldOf P t f with
  | some (off, _) => aFieldAddr off (ev x)
  | none => .fail
 | .field t x f => match fieldOf P t f, P.underlying t with
  | some (off, sz), some (.struct fs) => match (fs[f]?).bind fun f => tiOf P f.type with
   | some ti => if ti.sz = sz then (match ev x with | .v (.agg fs) => loadL ti (fs.map .v) off | .agg fs => loadL ti fs off | _ => .fail) else .fail
   | none => .fail
  | _, _ => .fail
 | .indexAddr t x i => match intOf (ev i), P.underlying t with
  | some i, some (.slice e) => match tiOf P e with | some ti => aIndex ti.sz i (ev x) | none => .fail
  | some i, some (.array n e) => match tiOf P e with | some ti => if ti.sz = 0 then .fail else aIndexArr n ti.sz i (ev x) | none => .fail
  | _, _ => .fail
 | .index t x i => match intOf (ev i), P.underlying t, ev x with
  | some i, some .string, .v (.base (.string s)) => if 0 ≤ i then match s[i.toNat]? with | some b => .ret (.v (.i .u8 b.toNat)) | none => .fail else .fail
  | _, _, _ => .fail
 | .extract t ix => match ev t with
  | .tup fs => match fs[ix]? with | some x => .ret x | none => .fail
  | .v (.tup fs) => match fs[ix]? with | some x => .ret (.v x) | none => .fail
  | _ => .fail
 | .makeMap t r => match mapEl P t, r with
  | some _, none => newM
  | _, _ => .fail
 | .lookup t x i ok => match mapEl P t, keyOf (ev i) with
  | some e, some k => match zeroOf P e with
   | some z => aLookup z ok k (ev x)
   | none => .fail
  | _, _ => .fail
 | .mapUpdate t x k y => match mapEl P t, keyOf (ev k) with
  | some _, some k => (reify (ev y)).bind fun a => u (aMapSet k (some a) (ev x))
  | _, _ => .fail
 | .call c => match c.callee with
  | .builtin b => builtinL P b c.argTypes o.dst (c.args.toList.map ev)
  | .value f => match ev f with
   | .v (.clo f caps) => callL cfg o.dst f caps (c.args.toList.map ev)
   | _ => .fail
  | .invoke _ _ => .fail
 | _ => .fail
end Go.Vai
namespace Go.Vai
inductive Role where
 | imm
 | loc (n : Nm)
 | glob (id : Nat)
 | free
 deriving DecidableEq
structure Gh where
 ρ : Nat → Role
 κ : Nm → Nat
 γ : List Nat
abbrev Gh.imm (gh : Gh) (b : Nat) : Prop := gh.ρ b = .imm
inductive R (gh : Gh) (w : World) : AV → Value → Prop where
 | base (v : Value) : R gh w (.base v) v
 | nilsl (sz : Nat) : R gh w (.sl sz true []) (.slice none 0 0)
 | sl (sz : Nat) (xs : List AV) (ad : Addr) (cap : Nat) (f : Nat → Nat → Value) (hI : xs ≠ [] → gh.imm ad.block) (hcap : xs.length ≤ cap)
   (hsz : ∀ i (h : i < xs.length), (cellsOf xs[i]).length = sz)
   (hc : ∀ i j, i < xs.length → j < sz → w.cell? (ad.add (i * sz + j)) = some (f i j))
   (ho : ∀ i j, i < xs.length → j < sz → (f i j).oneCell' = true)
   (hr : ∀ i j (hi : i < xs.length) (hj : j < (cellsOf xs[i]).length), R gh w ((cellsOf xs[i])[j]) (f i j)) :
   R gh w (.sl sz false xs) (.slice (some ad) xs.length cap)
 | agg (fs : List AV) (cs : Array Value) (hl : cs.size = fs.length) (hr : ∀ j (h : j < fs.length), R gh w fs[j] (cs[j]'(hl ▸ h))) : R gh w (.agg fs) (.agg cs)
 | tup (fs : List AV) (cs : Array Value) (hl : cs.size = fs.length) (hr : ∀ j (h : j < fs.length), R gh w fs[j] (cs[j]'(hl ▸ h))) : R gh w (.tup fs) (.tuple cs)
 | iptr (cells : List AV) (off : Nat) (ad : Addr) (f : Nat → Value) (hI : cells ≠ [] → gh.imm ad.block)
   (hc : ∀ j, j < cells.length → w.cell? (ad.add j) = some (f j)) (ho : ∀ j, j < cells.length → (f j).oneCell' = true) (hr : ∀ j (h : j < cells.length), R gh w cells[j] (f j)) :
   R gh w (.iptr cells off) (.pointer (some (ad.add off)))
 | clo (f : FuncId) (caps : List AV) (cs : Array Value) (hl : cs.size = caps.length) (hr : ∀ j (h : j < caps.length), R gh w caps[j] (cs[j]'(hl ▸ h))) :
   R gh w (.clo f caps) (.func (.func f) #[] cs)
 | gp (id off b : Nat) (h : gh.γ[id]? = some b) : R gh w (.gp id off) (.pointer (some ⟨b, off, none⟩))
 | gm (id b : Nat) (h : gh.γ[id]? = some b) : R gh w (.gm id) (.map (some b))
theorem cell_same {w w' : World} {a : Addr} (h : w'.heap[a.block]? = w.heap[a.block]?) : w'.cell? a = w.cell? a := World.cell?_of_block h
theorem add_block (a : Addr) (n : Nat) : (a.add n).block = a.block := by unfold Addr.add; split <;> rfl
theorem add_plain (b j : Nat) : (⟨b, 0, none⟩ : Addr).add j = ⟨b, j, none⟩ := by unfold Addr.add; split <;> simp_all
theorem add_off (b o j : Nat) : (⟨b, o, none⟩ : Addr).add j = ⟨b, o + j, none⟩ := by unfold Addr.add; split <;> simp_all
structure Ext (gh : Gh) (w : World) (gh' : Gh) (w' : World) : Prop where
 os : w'.os = w.os
 tape : w'.tape = w.tape
 output : w'.output = w.output
 size : w.heap.size ≤ w'.heap.size
 imm : ∀ b, gh.imm b → gh'.imm b ∧ w'.heap[b]? = w.heap[b]?
 free : ∀ b, b < w.heap.size → gh.ρ b = .free → gh'.ρ b = .free ∧ w'.heap[b]? = w.heap[b]?
 γ : ∀ (id b : Nat), gh.γ[id]? = some b → gh'.γ[id]? = some b
theorem Ext.refl (gh : Gh) (w : World) : Ext gh w gh w := ⟨rfl, rfl, rfl, Nat.le_refl _, fun _ h => ⟨h, rfl⟩, fun _ _ h => ⟨h, rfl⟩, fun _ _ h => h⟩
theorem Ext.trans {gh w gh1 w1 gh2 w2} (h : Ext gh w gh1 w1) (k : Ext gh1 w1 gh2 w2) : Ext gh w gh2 w2 :=
 ⟨k.os.trans h.os, k.tape.trans h.tape, k.output.trans h.output, Nat.le_trans h.size k.size,
  fun b hb => ⟨(k.imm b (h.imm b hb).1).1, (k.imm b (h.imm b hb).1).2.trans (h.imm b hb).2⟩,
  fun b hb hf => ⟨(k.free b (Nat.lt_of_lt_of_le hb h.size) (h.free b hb hf).1).1, (k.free b (Nat.lt_of_lt_of_le hb h.size) (h.free b hb hf).1).2.trans (h.free b hb hf).2⟩,
  fun id b hb => k.γ id b (h.γ id b hb)⟩
theorem R.mono' {gh : Gh} {w : World} {gh' : Gh} {w' : World} (hi : ∀ b, gh.imm b → gh'.imm b ∧ w'.heap[b]? = w.heap[b]?) (hg : ∀ (id b : Nat), gh.γ[id]? = some b → gh'.γ[id]? = some b)
  {a : AV} {v : Value} (h : R gh w a v) : R gh' w' a v := by
 induction h with
 | base v => exact .base v
 | nilsl sz => exact .nilsl sz
 | sl sz xs ad cap f hI hcap hsz hc ho hr ih =>
  refine .sl sz xs ad cap f (fun h => (hi _ (hI h)).1) hcap hsz (fun i j h1 h2 => ?_) ho ih
  exact (cell_same (w := w) (w' := w') (a := ad.add (i * sz + j)) (by rw [add_block]; exact (hi _ (hI (by intro e; subst e; simp at h1))).2)).trans (hc i j h1 h2)
 | agg fs cs hl hr ih => exact .agg fs cs hl ih
 | tup fs cs hl hr ih => exact .tup fs cs hl ih
 | iptr cells off ad f hI hc ho hr ih =>
  refine .iptr cells off ad f (fun h => (hi _ (hI h)).1) (fun j h1 => ?_) ho ih
  exact (cell_same (w := w) (w' := w') (a := ad.add j) (by rw [add_block]; exact (hi _ (hI (by intro e; subst e; simp at h1))).2)).trans (hc j h1)
 | clo f caps cs hl hr ih => exact .clo f caps cs hl ih
 | gp id off b h => exact .gp id off b (hg _ _ h)
 | gm id b h => exact .gm id b (hg _ _ h)
theorem R.mono {gh : Gh} {w : World} {gh' : Gh} {w' : World} (he : Ext gh w gh' w') {a : AV} {v : Value} (h : R gh w a v) : R gh' w' a v := h.mono' he.imm he.γ
def capOK (w : World) (b k : Nat) : Prop := ∃ (cs : Array Value) (ty : TypeId) (fr : Nat × Nat), w.heap[b]? = some (.cells cs ty fr) ∧ k ≤ cs.size
def ownRel (w : World) (b : Nat) (nil : Bool) (sz len lo hi : Nat) (v : Value) : Prop :=
 lo ≤ hi ∧ hi ≤ len ∧
 if nil then v = .slice none 0 0 else
  ∃ off cap, v = .slice (some ⟨b, off, none⟩) (hi - lo) cap ∧ (lo = 0 ∨ lo < hi → off = lo * sz) ∧ hi - lo ≤ cap ∧ len ≤ lo + cap ∧ capOK w b (off + cap * sz) ∧ cap ≤ maxLen
mutual
def LVRel (gh : Gh) (w : World) (objs : Nm → Nat × Obj) : LV → Value → Prop
 | .dead, _ => True
 | .v a, x => R gh w a x
 | .own n g lo hi, x => g ≤ (objs n).1 ∧ ((objs n).1 = g → match (objs n).2 with
   | .arr nil sz xs => ownRel w (gh.κ n) nil sz xs.length lo hi x
   | .frz nil sz xs => ownRel w (gh.κ n) nil sz xs.length lo hi x
   | .dead => True
   | _ => False)
 | .lptr n g off, x => g ≤ (objs n).1 ∧ ((objs n).1 = g → match (objs n).2 with
   | .box _ => x = .pointer (some ⟨gh.κ n, off, none⟩)
   | .fbox _ => x = .pointer (some ⟨gh.κ n, off, none⟩)
   | .dead => True
   | _ => False)
 | .eptr n g i off, x => g ≤ (objs n).1 ∧ ((objs n).1 = g → match (objs n).2 with
   | .arr _ sz xs => i < xs.length ∧ x = .pointer (some ⟨gh.κ n, i * sz + off, none⟩)
   | .frz _ sz xs => i < xs.length ∧ x = .pointer (some ⟨gh.κ n, i * sz + off, none⟩)
   | .dead => True
   | _ => False)
 | .agg fs, x => ∃ cs, x = .agg cs ∧ LVRels gh w objs fs cs.toList
 | .tup fs, x => ∃ cs, x = .tuple cs ∧ LVRels gh w objs fs cs.toList
 | .cond c y, x => (c = true → LVRel gh w objs y x) ∧ (c = false → x = undef)
def LVRels (gh : Gh) (w : World) (objs : Nm → Nat × Obj) : List LV → List Value → Prop
 | [], vs => vs = []
 | y :: ys, vs => ∃ v r, vs = v :: r ∧ LVRel gh w objs y v ∧ LVRels gh w objs ys r
end
theorem LVRels.length {gh w objs} : ∀ {ys : List LV} {vs : List Value}, LVRels gh w objs ys vs → vs.length = ys.length
 | [], vs, h => by simp only [LVRels] at h; simp [h]
 | y :: ys, vs, h => by
  simp only [LVRels] at h
  obtain ⟨v, r, rfl, _, h⟩ := h
  simp [LVRels.length h]
theorem LVRels.get {gh w objs} : ∀ {ys : List LV} {vs : List Value}, LVRels gh w objs ys vs → ∀ (j : Nat) (y : LV), ys[j]? = some y → ∃ v, vs[j]? = some v ∧ LVRel gh w objs y v
 | [], vs, h, j, y, hy => by simp at hy
 | y :: ys, vs, h, j, z, hz => by
  simp only [LVRels] at h
  obtain ⟨v, r, rfl, h1, h⟩ := h
  cases j with
  | zero => simp at hz; subst hz; exact ⟨v, by simp, h1⟩
  | succ j => simpa using LVRels.get h j z (by simpa using hz)
theorem LVRels.of_get {gh w objs} : ∀ {ys : List LV} {vs : List Value}, vs.length = ys.length → (∀ (j : Nat) (y : LV) (v : Value), ys[j]? = some y → vs[j]? = some v → LVRel gh w objs y v) → LVRels gh w objs ys vs
 | [], vs, h, _ => by simp only [LVRels]; exact List.eq_nil_of_length_eq_zero (by simpa using h)
 | y :: ys, vs, h, k => by
  cases vs with
  | nil => simp at h
  | cons v r =>
   simp only [LVRels]
   exact ⟨v, r, rfl, k 0 y v (by simp) (by simp), LVRels.of_get (by simpa using h) fun j y' v' h1 h2 => k (j + 1) y' v' (by simpa using h1) (by simpa using h2)⟩
def Obj.like : Obj → Obj → Prop
 | _, .dead => True
 | .box _, .box _ => True
 | .box _, .fbox _ => True
 | .fbox _, .fbox _ => True
 | .arr n s xs, .arr n' s' xs' => n = n' ∧ s = s' ∧ xs.length = xs'.length
 | .arr n s xs, .frz n' s' xs' => n = n' ∧ s = s' ∧ xs.length = xs'.length
 | .frz n s xs, .frz n' s' xs' => n = n' ∧ s = s' ∧ xs.length = xs'.length
 | _, _ => False
theorem Obj.like_refl (o : Obj) : o.like o := by cases o <;> simp [Obj.like]
def Obj.solid : Obj → Bool
 | .arr nil _ _ => !nil
 | .frz nil _ _ => !nil
 | _ => false
def Turned (gh : Gh) (w : World) (gh' : Gh) (w' : World) (n : Nm) (x x' : Nat × Obj) : Prop :=
 x.1 < x'.1 ∨ (x'.1 = x.1 ∧ x.2.like x'.2 ∧ (x'.2 ≠ .dead → gh'.κ n = gh.κ n ∧ (x'.2.solid = true → ∀ k, capOK w (gh.κ n) k → capOK w' (gh.κ n) k)))
theorem ownRel.keep {w w' : World} {b b' : Nat} {nil : Bool} {sz len lo hi : Nat} {v : Value} (hb : b' = b) (hc : nil = false → ∀ k, capOK w b k → capOK w' b k)
  (h : ownRel w b nil sz len lo hi v) : ownRel w' b' nil sz len lo hi v := by
 subst hb
 obtain ⟨h1, h2, h3⟩ := h
 refine ⟨h1, h2, ?_⟩
 split
 ·simpa [*] using h3
 ·rename_i hn
  rw [if_neg hn] at h3
  obtain ⟨off, cap, e, h4, h5, h6, h7, h8⟩ := h3
  exact ⟨off, cap, e, h4, h5, h6, hc (by simpa using hn) _ h7, h8⟩
mutual
theorem LVRel.keep {gh : Gh} {w : World} {gh' : Gh} {w' : World} {objs objs' : Nm → Nat × Obj} (hi : ∀ b, gh.imm b → gh'.imm b ∧ w'.heap[b]? = w.heap[b]?) (hg : ∀ (id b : Nat), gh.γ[id]? = some b → gh'.γ[id]? = some b)
  (ht : ∀ n, Turned gh w gh' w' n (objs n) (objs' n)) : ∀ (lv : LV) (v : Value), LVRel gh w objs lv v → LVRel gh' w' objs' lv v
 | .dead, _, _ => by simp [LVRel]
 | .v a, x, h => by simp only [LVRel] at h ⊢; exact h.mono' hi hg
 | .own n g lo hi', x, h => by
  simp only [LVRel] at h ⊢
  obtain ⟨h0, h⟩ := h
  rcases ht n with h1 | ⟨h1, h2, h3⟩
  ·exact ⟨by omega, fun e => by omega⟩
  ·refine ⟨by omega, fun e => ?_⟩
   have h := h (by omega)
   revert h h2 h3
   generalize (objs n).2 = o
   generalize (objs' n).2 = o'
   cases o <;> cases o' <;> simp only [Obj.like] <;> intro h2 h3 h <;> first
    | trivial
    | exact h.elim
    | exact h2.elim
    | (obtain ⟨rfl, rfl, e3⟩ := h2; rw [← e3]; have h3 := h3 (by simp); exact ownRel.keep h3.1 (fun e => h3.2 (by subst e; rfl)) h)
 | .lptr n g off, x, h => by
  simp only [LVRel] at h ⊢
  obtain ⟨h0, h⟩ := h
  rcases ht n with h1 | ⟨h1, h2, h3⟩
  ·exact ⟨by omega, fun e => by omega⟩
  ·refine ⟨by omega, fun e => ?_⟩
   have h := h (by omega)
   revert h h2 h3
   generalize (objs n).2 = o
   generalize (objs' n).2 = o'
   cases o <;> cases o' <;> simp only [Obj.like] <;> intro h2 h3 h <;> first
    | trivial
    | exact h.elim
    | exact h2.elim
    | (have h3 := h3 (by simp); rw [h3.1]; exact h)
 | .eptr n g i off, x, h => by
  simp only [LVRel] at h ⊢
  obtain ⟨h0, h⟩ := h
  rcases ht n with h1 | ⟨h1, h2, h3⟩
  ·exact ⟨by omega, fun e => by omega⟩
  ·refine ⟨by omega, fun e => ?_⟩
   have h := h (by omega)
   revert h h2 h3
   generalize (objs n).2 = o
   generalize (objs' n).2 = o'
   cases o <;> cases o' <;> simp only [Obj.like] <;> intro h2 h3 h <;> first
    | trivial
    | exact h.elim
    | exact h2.elim
    | (obtain ⟨rfl, rfl, e3⟩ := h2; rw [← e3]; have h3 := h3 (by simp); rw [h3.1]; exact h)
 | .agg fs, x, h => by
  simp only [LVRel] at h ⊢
  obtain ⟨cs, e, h⟩ := h
  exact ⟨cs, e, LVRels.keep hi hg ht fs _ h⟩
 | .tup fs, x, h => by
  simp only [LVRel] at h ⊢
  obtain ⟨cs, e, h⟩ := h
  exact ⟨cs, e, LVRels.keep hi hg ht fs _ h⟩
 | .cond c y, x, h => by
  simp only [LVRel] at h ⊢
  exact ⟨fun hc => LVRel.keep hi hg ht y x (h.1 hc), h.2⟩
theorem LVRels.keep {gh : Gh} {w : World} {gh' : Gh} {w' : World} {objs objs' : Nm → Nat × Obj} (hi : ∀ b, gh.imm b → gh'.imm b ∧ w'.heap[b]? = w.heap[b]?) (hg : ∀ (id b : Nat), gh.γ[id]? = some b → gh'.γ[id]? = some b)
  (ht : ∀ n, Turned gh w gh' w' n (objs n) (objs' n)) : ∀ (ys : List LV) (vs : List Value), LVRels gh w objs ys vs → LVRels gh' w' objs' ys vs
 | [], vs, h => by simpa only [LVRels] using h
 | y :: ys, vs, h => by
  simp only [LVRels] at h ⊢
  obtain ⟨v, r, rfl, h1, h2⟩ := h
  exact ⟨v, r, rfl, LVRel.keep hi hg ht y v h1, LVRels.keep hi hg ht ys r h2⟩
end
def rowRel (gh : Gh) (w : World) (cs : Array Value) (sz : Nat) (xs : List AV) : Prop :=
 xs.length * sz ≤ cs.size ∧ ∀ (i : Nat) (x : AV), xs[i]? = some x → (cellsOf x).length = sz ∧ ∀ (j : Nat) (y : AV), (cellsOf x)[j]? = some y → ∃ v : Value, cs[i * sz + j]? = some v ∧ v.oneCell' = true ∧ R gh w y v
def ObjRel (gh : Gh) (w : World) (objs : Nm → Nat × Obj) (n : Nm) : Obj → Prop
 | .dead => True
 | .box cells => gh.ρ (gh.κ n) = .loc n ∧ ∃ (cs : Array Value) (ty : TypeId), w.heap[gh.κ n]? = some (.cells cs ty (0, 0)) ∧ cs.size = cells.length ∧
   ∀ (j : Nat) (x : LV), cells[j]? = some x → ∃ v : Value, cs[j]? = some v ∧ v.oneCell' = true ∧ LVRel gh w objs x v
 | .fbox cells => gh.imm (gh.κ n) ∧ ∃ (cs : Array Value) (ty : TypeId), w.heap[gh.κ n]? = some (.cells cs ty (0, 0)) ∧ cs.size = cells.length ∧
   ∀ (j : Nat) (x : AV), cells[j]? = some x → ∃ v : Value, cs[j]? = some v ∧ v.oneCell' = true ∧ R gh w x v
 | .arr nil sz xs => if nil then xs = [] else gh.ρ (gh.κ n) = .loc n ∧ ∃ (cs : Array Value) (ty : TypeId), w.heap[gh.κ n]? = some (.cells cs ty (0, 0)) ∧ rowRel gh w cs sz xs
 | .frz nil sz xs => if nil then xs = [] else gh.imm (gh.κ n) ∧ ∃ (cs : Array Value) (ty : TypeId), w.heap[gh.κ n]? = some (.cells cs ty (0, 0)) ∧ rowRel gh w cs sz xs
structure MapOK (es : Array MapEntry) (clock : Nat) : Prop where
 int : ∀ e ∈ es.toList, ∃ k, e.key = .int .i64 k
 keys : es.toList.Pairwise fun x y => x.key ≠ y.key
 born : ∀ e ∈ es.toList, e.born < clock
 once : es.toList.Pairwise fun x y => x.born ≠ y.born
def MapHas (T : AV → Value → Prop) (es : Array MapEntry) (f : Int → Option AV) : Prop := ∀ k : Int, match f k with
 | none => ∀ e ∈ es.toList, e.key ≠ .int .i64 k
 | some a => ∃ e ∈ es.toList, e.key = .int .i64 k ∧ T a e.val
def MapRel (gh : Gh) (w : World) (b : Nat) (f : Int → Option AV) : Prop := ∃ es clock, w.heap[b]? = some (.map es clock) ∧ MapOK es clock ∧ MapHas (R gh w) es f
def GRel (gh : Gh) (w : World) (b : Nat) (cells : List AV) : Prop :=
 (∃ (cs : Array Value) (ty : TypeId), w.heap[b]? = some (.cells cs ty (0, 0)) ∧ cs.size = cells.length ∧ ∀ (j : Nat) (x : AV), cells[j]? = some x → ∃ v : Value, cs[j]? = some v ∧ v.oneCell' = true ∧ R gh w x v) ∨
 ∃ f, cells = [.mp f] ∧ MapRel gh w b f
theorem MapHas.mono {T T' : AV → Value → Prop} {es : Array MapEntry} {f : Int → Option AV} (h : MapHas T es f) (hT : ∀ a v, T a v → T' a v) : MapHas T' es f := fun k => by
 have := h k
 revert this
 cases f k with
 | none => exact fun h => h
 | some a => exact fun ⟨e, h1, h2, h3⟩ => ⟨e, h1, h2, hT _ _ h3⟩
theorem MapRel.mono {gh : Gh} {w : World} {gh' : Gh} {w' : World} {b : Nat} {f : Int → Option AV} (h : MapRel gh w b f) (hb : w'.heap[b]? = w.heap[b]?) (hR : ∀ a v, R gh w a v → R gh' w' a v) : MapRel gh' w' b f := by
 obtain ⟨es, clock, h1, h2, h3⟩ := h
 exact ⟨es, clock, by rw [hb]; exact h1, h2, h3.mono hR⟩
theorem GRel.mono {gh : Gh} {w : World} {gh' : Gh} {w' : World} {b : Nat} {cells : List AV} (h : GRel gh w b cells) (hb : w'.heap[b]? = w.heap[b]?) (hR : ∀ a v, R gh w a v → R gh' w' a v) : GRel gh' w' b cells := by
 rcases h with ⟨cs, ty, h4, h5, h6⟩ | ⟨f, e, h⟩
 ·exact .inl ⟨cs, ty, by rw [hb]; exact h4, h5, fun j x hx => let ⟨v, h7, h8, h9⟩ := h6 j x hx; ⟨v, h7, h8, hR _ _ h9⟩⟩
 ·exact .inr ⟨f, e, h.mono hb hR⟩
structure MemRel (gh : Gh) (w : World) (m : Mem) : Prop where
 alloc : ∀ b, gh.ρ b ≠ .free → b < w.heap.size
 objs : ∀ n, ObjRel gh w m.objs n (m.objs n).2
 glen : gh.γ.length = m.G.length
 glob : ∀ (id b : Nat) (cells : List AV), gh.γ[id]? = some b → m.G[id]? = some cells → gh.ρ b = .glob id ∧ GRel gh w b cells
structure Sim (gh : Gh) (σ : St) (a : Act) (w : World) : Prop where
 n : a.tmps.size = σ.n
 defers : a.defers = []
 slots : ∀ t, LVRel gh w σ.mem.objs (σ.slots t) (a.tmps.getD t undef)
 mem : MemRel gh w σ.mem
structure Keeps (gh : Gh) (w : World) (m : Mem) (gh' : Gh) (w' : World) (m' : Mem) : Prop where
 ext : Ext gh w gh' w'
 turned : ∀ n, Turned gh w gh' w' n (m.objs n) (m'.objs n)
theorem Keeps.lv {gh w m gh' w' m'} (h : Keeps gh w m gh' w' m') {lv : LV} {v : Value} (k : LVRel gh w m.objs lv v) : LVRel gh' w' m'.objs lv v :=
 LVRel.keep h.ext.imm h.ext.γ h.turned lv v k
theorem Keeps.lvs {gh w m gh' w' m'} (h : Keeps gh w m gh' w' m') {lv : List LV} {v : List Value} (k : LVRels gh w m.objs lv v) : LVRels gh' w' m'.objs lv v :=
 LVRels.keep h.ext.imm h.ext.γ h.turned lv v k
theorem Turned.refl {gh w} (n : Nm) (x : Nat × Obj) : Turned gh w gh w n x x := .inr ⟨rfl, Obj.like_refl _, fun _ => ⟨rfl, fun _ _ h => h⟩⟩
theorem Keeps.refl (gh : Gh) (w : World) (m : Mem) : Keeps gh w m gh w m := ⟨Ext.refl _ _, fun n => Turned.refl n _⟩
theorem Obj.like_trans {a b c : Obj} (h : a.like b) (k : b.like c) : a.like c := by
 cases a <;> cases b <;> cases c <;> simp_all [Obj.like]
theorem Keeps.trans {gh w m gh1 w1 m1 gh2 w2 m2} (h : Keeps gh w m gh1 w1 m1) (k : Keeps gh1 w1 m1 gh2 w2 m2) : Keeps gh w m gh2 w2 m2 := by
 refine ⟨h.ext.trans k.ext, fun n => ?_⟩
 rcases h.turned n with h1 | ⟨h1, h2, h3⟩
 ·rcases k.turned n with k1 | ⟨k1, _⟩
  ·exact .inl (by omega)
  ·exact .inl (by omega)
 ·rcases k.turned n with k1 | ⟨k1, k2, k3⟩
  ·exact .inl (by omega)
  ·refine .inr ⟨by omega, Obj.like_trans h2 k2, fun hd => ?_⟩
   have k3 := k3 hd
   have hd1 : (m1.objs n).2 ≠ .dead := by
    intro e
    rw [e] at k2
    revert k2 hd
    cases (m2.objs n).2 <;> simp [Obj.like]
   have h3 := h3 hd1
   refine ⟨k3.1.trans h3.1, fun hs j hj => ?_⟩
   have hs1 : (m1.objs n).2.solid = true := by
    revert k2 hs hd1
    cases (m1.objs n).2 <;> cases (m2.objs n).2 <;> simp only [Obj.like, Obj.solid] <;> intro k2 hd1 hs <;> first
     | (simp at hd1; done)
     | exact k2.elim
     | contradiction
     | (obtain ⟨rfl, _⟩ := k2; exact hs)
     | exact hs
   have := k3.2 hs j (by rw [h3.1]; exact h3.2 hs1 j hj)
   rwa [h3.1] at this
theorem rowRel.keep {gh w gh' w'} (he : Ext gh w gh' w') {cs : Array Value} {sz : Nat} {xs : List AV} (h : rowRel gh w cs sz xs) : rowRel gh' w' cs sz xs :=
 ⟨h.1, fun i x hx => ⟨(h.2 i x hx).1, fun j y hy => let ⟨v, h1, h2, h3⟩ := (h.2 i x hx).2 j y hy; ⟨v, h1, h2, h3.mono he⟩⟩⟩
theorem ObjRel.keep {gh w m gh' w' m'} (hk : Keeps gh w m gh' w' m') {n : Nm} {o : Obj} (hκ : gh'.κ n = gh.κ n)
  (hρ : gh.ρ (gh.κ n) = .loc n → gh'.ρ (gh.κ n) = .loc n ∧ w'.heap[gh.κ n]? = w.heap[gh.κ n]?) (h : ObjRel gh w m.objs n o) : ObjRel gh' w' m'.objs n o := by
 cases o with
 | dead => trivial
 | box cells =>
  obtain ⟨h1, cs, ty, h2, h3, h4⟩ := h
  refine ⟨by rw [hκ]; exact (hρ h1).1, cs, ty, by rw [hκ, (hρ h1).2]; exact h2, h3, fun j x hx => ?_⟩
  obtain ⟨v, h5, h6, h7⟩ := h4 j x hx
  exact ⟨v, h5, h6, hk.lv h7⟩
 | fbox cells =>
  obtain ⟨h1, cs, ty, h2, h3, h4⟩ := h
  have hi := hk.ext.imm _ h1
  refine ⟨by rw [hκ]; exact hi.1, cs, ty, by rw [hκ, hi.2]; exact h2, h3, fun j x hx => ?_⟩
  obtain ⟨v, h5, h6, h7⟩ := h4 j x hx
  exact ⟨v, h5, h6, h7.mono hk.ext⟩
 | arr nil sz xs =>
  cases nil with
  | true => simpa only [ObjRel, if_true] using h
  | false =>
   simp only [ObjRel, Bool.false_eq_true, if_false] at h ⊢
   obtain ⟨h1, cs, ty, h2, h3⟩ := h
   exact ⟨by rw [hκ]; exact (hρ h1).1, cs, ty, by rw [hκ, (hρ h1).2]; exact h2, h3.keep hk.ext⟩
 | frz nil sz xs =>
  cases nil with
  | true => simpa only [ObjRel, if_true] using h
  | false =>
   simp only [ObjRel, Bool.false_eq_true, if_false] at h ⊢
   obtain ⟨h1, cs, ty, h2, h3⟩ := h
   have hi := hk.ext.imm _ h1
   exact ⟨by rw [hκ]; exact hi.1, cs, ty, by rw [hκ, hi.2]; exact h2, h3.keep hk.ext⟩
theorem MemRel.step {gh w m gh' w' m'} (hm : MemRel gh w m) (hk : Keeps gh w m gh' w' m') (T : Nm → Prop)
  (ha : ∀ b, gh'.ρ b ≠ .free → b < w'.heap.size)
  (hT : ∀ n, T n → ObjRel gh' w' m'.objs n (m'.objs n).2)
  (hN : ∀ n, ¬ T n → m'.objs n = m.objs n ∧ gh'.κ n = gh.κ n ∧ (gh.ρ (gh.κ n) = .loc n → gh'.ρ (gh.κ n) = .loc n ∧ w'.heap[gh.κ n]? = w.heap[gh.κ n]?))
  (hG : m'.G = m.G) (hγ : gh'.γ = gh.γ) (hgl : ∀ (id b : Nat), gh.γ[id]? = some b → gh.ρ b = .glob id → gh'.ρ b = .glob id ∧ w'.heap[b]? = w.heap[b]?) : MemRel gh' w' m' := by
 refine ⟨ha, fun n => ?_, by rw [hγ, hG]; exact hm.glen, fun id b cells h1 h2 => ?_⟩
 ·by_cases hn : T n
  ·exact hT n hn
  ·obtain ⟨e1, e2, e3⟩ := hN n hn
   rw [e1]
   exact ObjRel.keep hk e2 e3 (hm.objs n)
 ·rw [hγ] at h1
  rw [hG] at h2
  obtain ⟨h3, h4⟩ := hm.glob id b cells h1 h2
  obtain ⟨h7, h8⟩ := hgl id b h1 h3
  exact ⟨h7, h4.mono h8 fun _ _ h => h.mono hk.ext⟩
end Go.Vai
namespace Go.Vai
theorem Run.bind_inv {C : Contract} {α β : Type} {p : M α} : ∀ {q : α → M β} {m : Mem} {b : β} {m' : Mem} {f : Fp}, Run C (p.bind q) m b m' f →
  ∃ a m1 f1 f2, Run C p m a m1 f1 ∧ Run C (q a) m1 b m' f2 := by
 induction p with
 | ret a => exact fun h => ⟨a, _, _, _, .ret, h⟩
 | fail => intro q m b m' f h; cases h
 | getO n k ih =>
  intro q m b m' f h
  cases h with
  | getO h => obtain ⟨a, m1, f1, f2, h1, h2⟩ := ih _ h; exact ⟨a, m1, _, _, .getO h1, h2⟩
 | setO n x k ih =>
  intro q m b m' f h
  cases h with
  | setO h => obtain ⟨a, m1, f1, f2, h1, h2⟩ := ih h; exact ⟨a, m1, _, _, .setO h1, h2⟩
 | getG k ih =>
  intro q m b m' f h
  cases h with
  | getG h => obtain ⟨a, m1, f1, f2, h1, h2⟩ := ih _ h; exact ⟨a, m1, _, _, .getG h1, h2⟩
 | setG g k ih =>
  intro q m b m' f h
  cases h with
  | setG h => obtain ⟨a, m1, f1, f2, h1, h2⟩ := ih h; exact ⟨a, m1, _, _, .setG h1, h2⟩
 | call g args k ih =>
  intro q m b m' f h
  cases h with
  | call hc h => obtain ⟨a, m1, f1, f2, h1, h2⟩ := ih _ h; exact ⟨a, m1, _, _, .call hc h1, h2⟩
 | pcall g args k ih =>
  intro q m b m' f h
  cases h with
  | pcall hc h => obtain ⟨a, m1, f1, f2, h1, h2⟩ := ih _ h; exact ⟨a, m1, _, _, .pcall hc h1, h2⟩
theorem Run.ret_inv {C : Contract} {α : Type} {x : α} {m : Mem} {a : α} {m' : Mem} {f : Fp} (h : Run C (.ret x) m a m' f) : a = x ∧ m' = m := by
 cases h; exact ⟨rfl, rfl⟩
theorem Run.fail_inv {C : Contract} {α : Type} {m : Mem} {a : α} {m' : Mem} {f : Fp} (h : Run C (.fail : M α) m a m' f) : False := by cases h
theorem Run.getO_inv {C : Contract} {α : Type} {n : Nm} {k : Nat × Obj → M α} {m : Mem} {a : α} {m' : Mem} {f : Fp} (h : Run C (.getO n k) m a m' f) : ∃ f1, Run C (k (m.objs n)) m a m' f1 := by
 cases h with | getO h => exact ⟨_, h⟩
theorem Run.setO_inv {C : Contract} {α : Type} {n : Nm} {x : Nat × Obj} {k : M α} {m : Mem} {a : α} {m' : Mem} {f : Fp} (h : Run C (.setO n x k) m a m' f) : ∃ f1, Run C k (m.set n x) a m' f1 := by
 cases h with | setO h => exact ⟨_, h⟩
theorem Run.getG_inv {C : Contract} {α : Type} {k : List (List AV) → M α} {m : Mem} {a : α} {m' : Mem} {f : Fp} (h : Run C (.getG k) m a m' f) : ∃ f1, Run C (k m.G) m a m' f1 := by
 cases h with | getG h => exact ⟨_, h⟩
theorem Run.setG_inv {C : Contract} {α : Type} {g : List (List AV)} {k : M α} {m : Mem} {a : α} {m' : Mem} {f : Fp} (h : Run C (.setG g k) m a m' f) : ∃ f1, Run C k { m with G := g } a m' f1 := by
 cases h with | setG h => exact ⟨_, h⟩
theorem sub_length {xs : List AV} {lo hi : Nat} (h : hi ≤ xs.length) : (sub xs lo hi).length = hi - lo := by
 simp only [sub, List.length_drop, List.length_take]; omega
theorem sub_get {xs : List AV} {lo hi i : Nat} (h : i < hi - lo) : (sub xs lo hi)[i]? = xs[lo + i]? := by
 simp only [sub, List.getElem?_drop, List.getElem?_take]
 rw [if_pos (by omega)]
theorem sub_nil (lo hi : Nat) : sub [] lo hi = [] := by simp [sub]
theorem R_row {gh : Gh} {w : World} {b : Nat} {cs : Array Value} {ty : TypeId} {fr : Nat × Nat} {sz lo hi : Nat} {xs : List AV} {v : Value}
  (hi' : lo < hi → gh.imm b) (hb : w.heap[b]? = some (.cells cs ty fr)) (hr : rowRel gh w cs sz xs) (ho : ownRel w b false sz xs.length lo hi v) : R gh w (.sl sz false (sub xs lo hi)) v := by
 obtain ⟨h1, h2, h3⟩ := ho
 simp only [Bool.false_eq_true, if_false] at h3
 obtain ⟨off, cap, rfl, h4, h5, h6, h7⟩ := h3
 have hl := sub_length (lo := lo) h2
 have hget : ∀ i (h : i < (sub xs lo hi).length), xs[lo + i]? = some ((sub xs lo hi)[i]) := fun i h => by
  rw [← sub_get (xs := xs) (hi := hi) (by omega), List.getElem?_eq_getElem h]
 rw [← hl]
 refine R.sl sz (sub xs lo hi) ⟨b, off, none⟩ cap (fun i j => cs.getD ((lo + i) * sz + j) undef) (fun h => hi' ?_) (by omega) (fun i h => (hr.2 _ _ (hget i h)).1) (fun i j h h' => ?_) (fun i j h h' => ?_) (fun i j h h' => ?_)
 ·have : (sub xs lo hi).length ≠ 0 := by simpa using h
  omega
 ·have hx := hr.2 _ _ (hget i h)
  obtain ⟨v, hv, _⟩ := hx.2 j ((cellsOf (sub xs lo hi)[i])[j]'(by rw [hx.1]; exact h')) (by simp)
  have ho : off = lo * sz := h4 (.inr (by omega))
  rw [add_off, ho, show lo * sz + (i * sz + j) = (lo + i) * sz + j by rw [Nat.add_mul]; omega]
  simp [World.cell?, hb, hv]
 ·have hx := hr.2 _ _ (hget i h)
  obtain ⟨v, hv, ho, _⟩ := hx.2 j ((cellsOf (sub xs lo hi)[i])[j]'(by rw [hx.1]; exact h')) (by simp)
  simpa [hv] using ho
 ·have hx := hr.2 _ _ (hget i h)
  obtain ⟨v, hv, _, hR⟩ := hx.2 j ((cellsOf (sub xs lo hi)[i])[j]'h') (by simp)
  simpa [hv] using hR
theorem R_nil {gh : Gh} {w : World} {b sz len lo hi : Nat} {xs : List AV} {v : Value} (hx : xs = []) (ho : ownRel w b true sz len lo hi v) : R gh w (.sl sz true (sub xs lo hi)) v := by
 obtain ⟨h1, h2, h3⟩ := ho
 simp only [if_true] at h3
 subst hx h3
 rw [sub_nil]
 exact .nilsl sz
theorem Mem.set_same (m : Mem) (n : Nm) (x : Nat × Obj) : (m.set n x).objs n = x := by simp [Mem.set]
theorem Mem.set_ne (m : Mem) {n k : Nm} (x : Nat × Obj) (h : k ≠ n) : (m.set n x).objs k = m.objs k := by simp [Mem.set, h]
@[simp] theorem Mem.set_G (m : Mem) (n : Nm) (x : Nat × Obj) : (m.set n x).G = m.G := rfl
def Gh.setρ (gh : Gh) (b : Nat) (r : Role) : Gh := { gh with ρ := fun k => if k = b then r else gh.ρ k }
def Gh.setκ (gh : Gh) (n : Nm) (b : Nat) : Gh := { gh with κ := fun k => if k = n then b else gh.κ k }
def Gh.frz (gh : Gh) (n : Nm) : Gh := { gh with ρ := fun k => if k = gh.κ n ∧ gh.ρ (gh.κ n) = .loc n then .imm else gh.ρ k }
theorem Gh.frz_imm {gh : Gh} {n : Nm} (h : gh.ρ (gh.κ n) = .loc n) : (gh.frz n).imm (gh.κ n) := by simp [Gh.imm, Gh.frz, h]
theorem Gh.frz_other {gh : Gh} {n : Nm} {b : Nat} (h : gh.ρ b ≠ .loc n) : (gh.frz n).ρ b = gh.ρ b := by
 show (if _ then _ else _) = _
 rw [if_neg]; rintro ⟨rfl, h'⟩; exact h h'
theorem Gh.frz_free {gh : Gh} {n : Nm} {b : Nat} (h : (gh.frz n).ρ b ≠ .free) : gh.ρ b ≠ .free := by
 intro e; rw [Gh.frz_other (by rw [e]; simp)] at h; exact h e
theorem Ext.freeze (gh : Gh) (w : World) (n : Nm) : Ext gh w (gh.frz n) w := by
 refine ⟨rfl, rfl, rfl, Nat.le_refl _, fun k hk => ⟨?_, rfl⟩, fun k _ hk => ⟨?_, rfl⟩, fun _ _ h => h⟩
 ·show (gh.frz n).ρ k = _
  rw [Gh.frz_other (by rw [hk]; simp)]; exact hk
 ·rw [Gh.frz_other (by rw [hk]; simp)]; exact hk
theorem Turned.same {gh w gh' w'} {n : Nm} {x : Nat × Obj} (hκ : gh'.κ n = gh.κ n) (hw : w' = w) : Turned gh w gh' w' n x x :=
 .inr ⟨rfl, Obj.like_refl _, fun _ => ⟨hκ, fun _ _ h => hw ▸ h⟩⟩
structure Frz (gh gh' : Gh) : Prop where
 κ : gh'.κ = gh.κ
 γ : gh'.γ = gh.γ
 ρ : ∀ b, gh'.ρ b = gh.ρ b ∨ ((∃ n, gh.ρ b = .loc n) ∧ gh'.imm b)
theorem Frz.refl (gh : Gh) : Frz gh gh := ⟨rfl, rfl, fun _ => .inl rfl⟩
theorem Frz.trans {a b c : Gh} (h : Frz a b) (k : Frz b c) : Frz a c := by
 refine ⟨k.κ.trans h.κ, k.γ.trans h.γ, fun x => ?_⟩
 rcases h.ρ x with h1 | ⟨⟨n, h1⟩, h2⟩
 ·rcases k.ρ x with k1 | ⟨⟨n, k1⟩, k2⟩
  ·exact .inl (k1.trans h1)
  ·exact .inr ⟨⟨n, h1 ▸ k1⟩, k2⟩
 ·rcases k.ρ x with k1 | ⟨⟨n', k1⟩, k2⟩
  ·exact .inr ⟨⟨n, h1⟩, by rw [Gh.imm, k1]; exact h2⟩
  ·rw [h2] at k1; cases k1
theorem Frz.frz (gh : Gh) (n : Nm) : Frz gh (gh.frz n) := by
 refine ⟨rfl, rfl, fun b => ?_⟩
 by_cases h : b = gh.κ n ∧ gh.ρ (gh.κ n) = .loc n
 ·exact .inr ⟨⟨n, h.1 ▸ h.2⟩, by rw [h.1]; exact Gh.frz_imm h.2⟩
 ·left; show (if _ then _ else _) = _; rw [if_neg h]
theorem MemRel.freeze {gh w m n x} (hm : MemRel gh w m) (hl : (m.objs n).2.like x) (hO : ObjRel (gh.frz n) w (m.set n ((m.objs n).1, x)).objs n x) :
  MemRel (gh.frz n) w (m.set n ((m.objs n).1, x)) ∧ Keeps gh w m (gh.frz n) w (m.set n ((m.objs n).1, x)) := by
 have hk : Keeps gh w m (gh.frz n) w (m.set n ((m.objs n).1, x)) := ⟨Ext.freeze gh w n, fun k => by
  by_cases e : k = n
  ·subst e; rw [Mem.set_same]; exact .inr ⟨rfl, hl, fun _ => ⟨rfl, fun _ _ h => h⟩⟩
  ·rw [Mem.set_ne _ _ e]; exact Turned.same rfl rfl⟩
 refine ⟨hm.step hk (· = n) (fun b hb => hm.alloc b (Gh.frz_free hb)) (fun k e => ?_) (fun k e => ⟨Mem.set_ne _ _ e, rfl, fun h => ⟨?_, rfl⟩⟩) rfl rfl (fun id b _ h => ⟨?_, rfl⟩), hk⟩
 ·subst e; rw [Mem.set_same]; exact hO
 ·rw [Gh.frz_other (by rw [h]; simpa using e)]; exact h
 ·rw [Gh.frz_other (by rw [h]; simp)]; exact h
theorem Mem.set_eta (m : Mem) (n : Nm) : m.set n (m.objs n) = m := by
 cases m; simp only [Mem.set, Mem.mk.injEq, and_true]; funext k; split
 ·rename_i e; rw [e]
 ·rfl
theorem freezeN_sound {C gh w m a m' f n g lo hi} (hr : Run C (freezeN n g lo hi) m a m' f) (hm : MemRel gh w m) :
  ∃ gh', MemRel gh' w m' ∧ Keeps gh w m gh' w m' ∧ (∀ v, LVRel gh w m.objs (.own n g lo hi) v → R gh' w a v) ∧ (gh.ρ (gh.κ n) = .loc n → gh'.imm (gh.κ n)) ∧ Frz gh gh' := by
 unfold freezeN at hr
 obtain ⟨f1, h⟩ := hr.getO_inv
 have hO := hm.objs n
 split at h
 case isFalse => exact h.fail_inv.elim
 rename_i hg
 have hE := Ext.freeze gh w n
 refine ⟨gh.frz n, ?_⟩
 rw [← and_assoc, ← and_assoc]
 refine ⟨?_, Gh.frz_imm, Frz.frz gh n⟩
 revert h
 rcases hx : m.objs n with ⟨g', o⟩
 rw [hx] at hO hg
 simp only at hg hO ⊢
 subst hg
 cases o with
 | arr nil sz xs =>
  intro h
  obtain ⟨f2, h⟩ := h.setO_inv
  obtain ⟨rfl, rfl⟩ := h.ret_inv
  cases nil with
  | true =>
   have hx0 : xs = [] := by simpa [ObjRel] using hO
   have := hm.freeze (n := n) (x := .frz true sz xs) (by rw [hx]; simp [Obj.like]) (by simpa [ObjRel] using hx0)
   rw [hx] at this
   refine ⟨this, fun v hv => ?_⟩
   simp only [LVRel, hx] at hv
   exact R_nil hx0 (hv.2 trivial)
  | false =>
   simp only [ObjRel, Bool.false_eq_true, if_false] at hO
   obtain ⟨h1, cs, ty, h2, h3⟩ := hO
   have := hm.freeze (n := n) (x := .frz false sz xs) (by rw [hx]; simp [Obj.like]) (by
    simp only [ObjRel, Bool.false_eq_true, if_false]
    exact ⟨Gh.frz_imm h1, cs, ty, h2, h3.keep hE⟩)
   rw [hx] at this
   refine ⟨this, fun v hv => ?_⟩
   simp only [LVRel, hx] at hv
   exact R_row (fun _ => Gh.frz_imm h1) h2 (h3.keep hE) (hv.2 trivial)
 | frz nil sz xs =>
  intro h
  obtain ⟨rfl, rfl⟩ := h.ret_inv
  have hO' : ObjRel (gh.frz n) w (m'.set n (g', .frz nil sz xs)).objs n (.frz nil sz xs) := by
   cases nil with
   | true => simpa [ObjRel] using hO
   | false =>
    simp only [ObjRel, Bool.false_eq_true, if_false] at hO ⊢
    obtain ⟨h1, cs, ty, h2, h3⟩ := hO
    exact ⟨(hE.imm _ h1).1, cs, ty, h2, h3.keep hE⟩
  have := hm.freeze (n := n) (x := .frz nil sz xs) (by rw [hx]; exact Obj.like_refl _) (by rw [hx]; exact hO')
  have hs : m'.set n ((m'.objs n).1, .frz nil sz xs) = m' := by
   have := Mem.set_eta m' n
   rw [hx] at this ⊢; exact this
  rw [hs] at this
  refine ⟨this, fun v hv => ?_⟩
  simp only [LVRel, hx] at hv
  cases nil with
  | true => exact R_nil (by simpa [ObjRel] using hO) (hv.2 trivial)
  | false =>
   simp only [ObjRel, Bool.false_eq_true, if_false] at hO
   obtain ⟨h1, cs, ty, h2, h3⟩ := hO
   exact R_row (fun _ => (hE.imm _ h1).1) h2 (h3.keep hE) (hv.2 trivial)
 | dead => intro h; exact h.fail_inv.elim
 | box _ => intro h; exact h.fail_inv.elim
 | fbox _ => intro h; exact h.fail_inv.elim
theorem rehome_sound {C gh w m a m' f n g lo hi home} (hne : n ≠ home) (hr : Run C (rehome n g lo hi home) m a m' f) (hm : MemRel gh w m) :
  ∃ gh', MemRel gh' w m' ∧ Keeps gh w m gh' w m' ∧ (∀ v, LVRel gh w m.objs (.own n g lo hi) v → LVRel gh' w m'.objs a v) := by
 unfold rehome at hr
 obtain ⟨f1, h⟩ := hr.getO_inv
 have hO := hm.objs n
 split at h
 case isFalse => exact h.fail_inv.elim
 rename_i hg
 revert h
 rcases hx : m.objs n with ⟨g', o⟩
 rw [hx] at hO hg
 simp only at hg hO ⊢
 subst hg
 cases o with
 | arr nil sz xs =>
  intro h
  obtain ⟨f2, h⟩ := h.getO_inv
  obtain ⟨f3, h⟩ := h.setO_inv
  obtain ⟨f4, h⟩ := h.setO_inv
  obtain ⟨rfl, rfl⟩ := h.ret_inv
  let gh' : Gh := { gh with ρ := fun k => if k = gh.κ n ∧ nil = false then .loc home else gh.ρ k, κ := fun k => if k = home then gh.κ n else gh.κ k }
  have hloc : nil = false → gh.ρ (gh.κ n) = .loc n := fun e => by
   subst e; simp only [ObjRel, Bool.false_eq_true, if_false] at hO; exact hO.1
  have he : Ext gh w gh' w := by
   refine ⟨rfl, rfl, rfl, Nat.le_refl _, fun k hk => ⟨?_, rfl⟩, fun k _ hk => ⟨?_, rfl⟩, fun _ _ h => h⟩
   ·show (if k = gh.κ n ∧ nil = false then Role.loc home else gh.ρ k) = .imm
    rw [if_neg]; · exact hk
    rintro ⟨e, e2⟩; have := hloc e2; rw [← e, hk] at this; cases this
   ·show (if k = gh.κ n ∧ nil = false then Role.loc home else gh.ρ k) = .free
    rw [if_neg]; · exact hk
    rintro ⟨e, e2⟩; have := hloc e2; rw [← e, hk] at this; cases this
  have hh : (((m.set home ((m.objs home).1 + 1, .arr nil sz xs)).set n (g' + 1, .dead)).objs home) = ((m.objs home).1 + 1, .arr nil sz xs) := by
   rw [Mem.set_ne _ _ (Ne.symm hne), Mem.set_same]
  have hk : Keeps gh w m gh' w ((m.set home ((m.objs home).1 + 1, .arr nil sz xs)).set n (g' + 1, .dead)) := ⟨he, fun k => by
   by_cases e : k = n
   ·subst e; rw [Mem.set_same, hx]; exact .inl (by simp)
   ·rw [Mem.set_ne _ _ e]
    by_cases e2 : k = home
    ·subst e2; rw [Mem.set_same]; exact .inl (by simp)
    ·rw [Mem.set_ne _ _ e2]; exact Turned.same (by simp [gh', e2]) rfl⟩
  refine ⟨gh', hm.step hk (fun k => k = n ∨ k = home) (fun b hb => ?_) (fun k e => ?_) (fun k e => ?_) rfl rfl (fun id b _ h => ⟨?_, rfl⟩), hk, fun v hv => ?_⟩
  ·change (if b = gh.κ n ∧ nil = false then Role.loc home else gh.ρ b) ≠ .free at hb
   split at hb
   ·rename_i e; rw [e.1]; exact hm.alloc _ (by rw [hloc e.2]; simp)
   ·exact hm.alloc _ hb
  ·rcases e with rfl | rfl
   ·rw [Mem.set_same]; trivial
   ·rw [hh]
    cases nil with
    | true => simpa [ObjRel] using hO
    | false =>
     simp only [ObjRel, Bool.false_eq_true, if_false] at hO ⊢
     obtain ⟨h1, cs, ty, h2, h3⟩ := hO
     exact ⟨by simp [gh'], cs, ty, by simpa [gh'] using h2, h3.keep he⟩
  ·simp only [not_or] at e
   refine ⟨by rw [Mem.set_ne _ _ e.1, Mem.set_ne _ _ e.2], by simp [gh', e.2], fun h => ⟨?_, rfl⟩⟩
   show (if gh.κ k = gh.κ n ∧ nil = false then Role.loc home else gh.ρ (gh.κ k)) = _
   rw [if_neg]; · exact h
   rintro ⟨e1, e2⟩; have := hloc e2; rw [← e1, h] at this; simp at this; exact e.1 this
  ·show (if b = gh.κ n ∧ nil = false then Role.loc home else gh.ρ b) = _
   rw [if_neg]; · exact h
   rintro ⟨e1, e2⟩; have := hloc e2; rw [← e1, h] at this; simp at this
  ·simp only [LVRel, hx] at hv
   simp only [LVRel, hh]
   exact ⟨Nat.le_refl _, fun _ => by simpa [gh'] using hv.2 trivial⟩
 | frz nil sz xs =>
  intro h
  obtain ⟨rfl, rfl⟩ := h.ret_inv
  refine ⟨gh, hm, Keeps.refl _ _ _, fun v hv => ?_⟩
  simp only [LVRel, hx] at hv ⊢
  cases nil with
  | true => exact R_nil (by simpa [ObjRel] using hO) (hv.2 trivial)
  | false =>
   simp only [ObjRel, Bool.false_eq_true, if_false] at hO
   obtain ⟨h1, cs, ty, h2, h3⟩ := hO
   exact R_row (fun _ => h1) h2 h3 (hv.2 trivial)
 | dead => intro h; exact h.fail_inv.elim
 | box _ => intro h; exact h.fail_inv.elim
 | fbox _ => intro h; exact h.fail_inv.elim
theorem newNil_sound {C gh w m a m' f home sz} (hr : Run C (newNil home sz) m a m' f) (hm : MemRel gh w m) :
  ∃ gh', MemRel gh' w m' ∧ Keeps gh w m gh' w m' ∧ LVRel gh' w m'.objs a (.slice none 0 0) := by
 unfold newNil at hr
 obtain ⟨f1, h⟩ := hr.getO_inv
 obtain ⟨f2, h⟩ := h.setO_inv
 obtain ⟨rfl, rfl⟩ := h.ret_inv
 have hk : Keeps gh w m gh w (m.set home ((m.objs home).1 + 1, .arr true sz [])) := ⟨Ext.refl _ _, fun k => by
  by_cases e : k = home
  ·subst e; rw [Mem.set_same]; exact .inl (by simp)
  ·rw [Mem.set_ne _ _ e]; exact Turned.refl _ _⟩
 refine ⟨gh, hm.step hk (· = home) hm.alloc (fun k e => ?_) (fun k e => ⟨Mem.set_ne _ _ e, rfl, fun h => ⟨h, rfl⟩⟩) rfl rfl (fun _ _ _ h => ⟨h, rfl⟩), hk, ?_⟩
 ·subst e; rw [Mem.set_same]; simp [ObjRel]
 ·simp only [LVRel, Mem.set_same]
  exact ⟨Nat.le_refl _, fun _ => by simp [ownRel]⟩
mutual
theorem reify_sound {C} : ∀ (lv : LV) {gh w m a m' f}, Run C (reify lv) m a m' f → MemRel gh w m →
  ∃ gh', MemRel gh' w m' ∧ Keeps gh w m gh' w m' ∧ Frz gh gh' ∧ (∀ v, LVRel gh w m.objs lv v → R gh' w a v) ∧ (∀ n ∈ lv.names, gh.ρ (gh.κ n) = .loc n → gh'.imm (gh.κ n))
 | .v x, gh, w, m, a, m', f, hr, hm => by
  simp only [reify] at hr
  obtain ⟨rfl, rfl⟩ := hr.ret_inv
  exact ⟨gh, hm, Keeps.refl _ _ _, Frz.refl _, fun v h => by simpa only [LVRel] using h, by simp [LV.names]⟩
 | .own n g lo hi, gh, w, m, a, m', f, hr, hm => by
  simp only [reify] at hr
  obtain ⟨gh', h1, h2, h3, h4, h5⟩ := freezeN_sound hr hm
  exact ⟨gh', h1, h2, h5, h3, by simpa [LV.names] using h4⟩
 | .agg fs, gh, w, m, a, m', f, hr, hm => by
  simp only [reify] at hr
  obtain ⟨l, m1, f1, f2, h1, h2⟩ := hr.bind_inv
  obtain ⟨rfl, rfl⟩ := h2.ret_inv
  obtain ⟨gh', h3, h4, h5, h6, h7⟩ := reifyL_sound fs h1 hm
  refine ⟨gh', h3, h4, h5, fun v hv => ?_, by simpa only [LV.names] using h7⟩
  simp only [LVRel] at hv
  obtain ⟨cs, rfl, hv⟩ := hv
  obtain ⟨e, hv⟩ := h6 _ hv
  exact .agg l cs (by simpa using e.symm) fun j hj => hv j _ _ (by simp [hj]) (by simp)
 | .dead, _, _, _, _, _, _, hr, _ => by simp only [reify] at hr; exact hr.fail_inv.elim
 | .lptr .., _, _, _, _, _, _, hr, _ => by simp only [reify] at hr; exact hr.fail_inv.elim
 | .eptr .., _, _, _, _, _, _, hr, _ => by simp only [reify] at hr; exact hr.fail_inv.elim
 | .tup .., _, _, _, _, _, _, hr, _ => by simp only [reify] at hr; exact hr.fail_inv.elim
 | .cond .., _, _, _, _, _, _, hr, _ => by simp only [reify] at hr; exact hr.fail_inv.elim
theorem reifyL_sound {C} : ∀ (ys : List LV) {gh w m l m' f}, Run C (reifyL ys) m l m' f → MemRel gh w m →
  ∃ gh', MemRel gh' w m' ∧ Keeps gh w m gh' w m' ∧ Frz gh gh' ∧
   (∀ vs, LVRels gh w m.objs ys vs → l.length = vs.length ∧ ∀ (j : Nat) (x : AV) (v : Value), l[j]? = some x → vs[j]? = some v → R gh' w x v) ∧ (∀ n ∈ namesL ys, gh.ρ (gh.κ n) = .loc n → gh'.imm (gh.κ n))
 | [], gh, w, m, l, m', f, hr, hm => by
  simp only [reifyL] at hr
  obtain ⟨rfl, rfl⟩ := hr.ret_inv
  exact ⟨gh, hm, Keeps.refl _ _ _, Frz.refl _, fun vs h => by simp only [LVRels] at h; subst h; simp, by simp [namesL]⟩
 | y :: ys, gh, w, m, l, m', f, hr, hm => by
  simp only [reifyL] at hr
  obtain ⟨a, m1, f1, f2, h1, h2⟩ := hr.bind_inv
  obtain ⟨r, m2, f3, f4, h3, h4⟩ := h2.bind_inv
  obtain ⟨rfl, rfl⟩ := h4.ret_inv
  obtain ⟨gh1, k1, k2, k3, k4, k5⟩ := reify_sound y h1 hm
  obtain ⟨gh2, j1, j2, j3, j4, j5⟩ := reifyL_sound ys h3 k1
  refine ⟨gh2, j1, k2.trans j2, k3.trans j3, fun vs hv => ?_, fun n hn hl => ?_⟩
  ·simp only [LVRels] at hv
   obtain ⟨v, vs, rfl, hv1, hv2⟩ := hv
   obtain ⟨e, hj⟩ := j4 vs (k2.lvs hv2)
   refine ⟨by simp [e], fun j x v' hx hv' => ?_⟩
   cases j with
   | zero => simp at hx hv'; subst hx hv'; exact (k4 _ hv1).mono j2.ext
   | succ j => exact hj j x v' (by simpa using hx) (by simpa using hv')
  ·simp only [namesL, List.mem_append] at hn
   rcases hn with hn | hn
   ·exact (j2.ext.imm _ (k5 n hn hl)).1
   ·rcases k3.ρ (gh.κ n) with h1 | ⟨_, h1⟩
    ·have := j5 n hn
     rw [k3.κ] at this
     exact this (h1.trans hl)
    ·exact (j2.ext.imm _ h1).1
end
end Go.Vai
namespace Go.Vai
def Gh.lend (gh : Gh) (S : List Nm) : Gh :=
 { gh with ρ := fun b => match gh.ρ b with | .loc n => if n ∈ S ∧ b = gh.κ n then .imm else .free | r => r }
theorem Gh.lend_imm {gh : Gh} {S : List Nm} {b : Nat} (h : gh.imm b) : (gh.lend S).imm b := by
 unfold Gh.imm at h; simp [Gh.imm, Gh.lend, h]
theorem R.lend {gh w S a v} (h : R gh w a v) : R (gh.lend S) w a v := h.mono' (fun _ hb => ⟨Gh.lend_imm hb, rfl⟩) (fun _ _ h => h)
theorem rowRel.lend {gh w S cs sz xs} (h : rowRel gh w cs sz xs) : rowRel (gh.lend S) w cs sz xs :=
 ⟨h.1, fun i x hx => ⟨(h.2 i x hx).1, fun j y hy => let ⟨v, h1, h2, h3⟩ := (h.2 i x hx).2 j y hy; ⟨v, h1, h2, h3.lend⟩⟩⟩
theorem peekN_sound {C m a m' f n g lo hi} (hr : Run C (peekN n g lo hi) m a m' f) :
  m' = m ∧ ∀ gh w S, MemRel gh w m → n ∈ S → ∀ v, LVRel gh w m.objs (.own n g lo hi) v → R (gh.lend S) w a v := by
 unfold peekN at hr
 obtain ⟨f1, h⟩ := hr.getO_inv
 split at h
 case isFalse => exact h.fail_inv.elim
 rename_i hg
 revert h
 rcases hx : m.objs n with ⟨g', o⟩
 rw [hx] at hg
 simp only at hg ⊢
 subst hg
 cases o with
 | arr nil sz xs =>
  intro h
  obtain ⟨rfl, rfl⟩ := h.ret_inv
  refine ⟨rfl, fun gh w S hm hS v hv => ?_⟩
  have hO := hm.objs n
  rw [hx] at hO
  simp only [LVRel, hx] at hv
  cases nil with
  | true => exact R_nil (by simpa [ObjRel] using hO) (hv.2 trivial)
  | false =>
   simp only [ObjRel, Bool.false_eq_true, if_false] at hO
   obtain ⟨h1, cs, ty, h2, h3⟩ := hO
   exact R_row (fun _ => by simp [Gh.imm, Gh.lend, h1, hS]) h2 h3.lend (hv.2 trivial)
 | frz nil sz xs =>
  intro h
  obtain ⟨rfl, rfl⟩ := h.ret_inv
  refine ⟨rfl, fun gh w S hm hS v hv => ?_⟩
  have hO := hm.objs n
  rw [hx] at hO
  simp only [LVRel, hx] at hv
  cases nil with
  | true => exact R_nil (by simpa [ObjRel] using hO) (hv.2 trivial)
  | false =>
   simp only [ObjRel, Bool.false_eq_true, if_false] at hO
   obtain ⟨h1, cs, ty, h2, h3⟩ := hO
   exact R_row (fun _ => Gh.lend_imm h1) h2 h3.lend (hv.2 trivial)
 | dead => intro h; exact h.fail_inv.elim
 | box _ => intro h; exact h.fail_inv.elim
 | fbox _ => intro h; exact h.fail_inv.elim
mutual
theorem peek_sound {C} : ∀ (lv : LV) {m a m' f}, Run C (peek lv) m a m' f →
  m' = m ∧ ∀ gh w S, MemRel gh w m → (∀ n ∈ lv.names, n ∈ S) → ∀ v, LVRel gh w m.objs lv v → R (gh.lend S) w a v
 | .v x, m, a, m', f, hr => by
  simp only [peek] at hr
  obtain ⟨rfl, rfl⟩ := hr.ret_inv
  exact ⟨rfl, fun gh w S _ _ v h => by simp only [LVRel] at h; exact h.lend⟩
 | .own n g lo hi, m, a, m', f, hr => by
  simp only [peek] at hr
  obtain ⟨h1, h2⟩ := peekN_sound hr
  exact ⟨h1, fun gh w S hm hS => h2 gh w S hm (hS n (by simp [LV.names]))⟩
 | .agg fs, m, a, m', f, hr => by
  simp only [peek] at hr
  obtain ⟨l, m1, f1, f2, h1, h2⟩ := hr.bind_inv
  obtain ⟨rfl, rfl⟩ := h2.ret_inv
  obtain ⟨h3, h4⟩ := peekL_sound fs h1
  refine ⟨h3, fun gh w S hm hS v hv => ?_⟩
  simp only [LVRel] at hv
  obtain ⟨cs, rfl, hv⟩ := hv
  obtain ⟨e, hv⟩ := h4 gh w S hm (by simpa only [LV.names] using hS) _ hv
  exact .agg l cs (by simpa using e.symm) fun j hj => hv j _ _ (by simp [hj]) (by simp)
 | .dead, _, _, _, _, hr => by simp only [peek] at hr; exact hr.fail_inv.elim
 | .lptr .., _, _, _, _, hr => by simp only [peek] at hr; exact hr.fail_inv.elim
 | .eptr .., _, _, _, _, hr => by simp only [peek] at hr; exact hr.fail_inv.elim
 | .tup .., _, _, _, _, hr => by simp only [peek] at hr; exact hr.fail_inv.elim
 | .cond .., _, _, _, _, hr => by simp only [peek] at hr; exact hr.fail_inv.elim
theorem peekL_sound {C} : ∀ (ys : List LV) {m l m' f}, Run C (peekL ys) m l m' f →
  m' = m ∧ ∀ gh w S, MemRel gh w m → (∀ n ∈ namesL ys, n ∈ S) → ∀ vs, LVRels gh w m.objs ys vs → l.length = vs.length ∧ ∀ (j : Nat) (x : AV) (v : Value), l[j]? = some x → vs[j]? = some v → R (gh.lend S) w x v
 | [], m, l, m', f, hr => by
  simp only [peekL] at hr
  obtain ⟨rfl, rfl⟩ := hr.ret_inv
  exact ⟨rfl, fun gh w S _ _ vs h => by simp only [LVRels] at h; subst h; simp⟩
 | y :: ys, m, l, m', f, hr => by
  simp only [peekL] at hr
  obtain ⟨a, m1, f1, f2, h1, h2⟩ := hr.bind_inv
  obtain ⟨r, m2, f3, f4, h3, h4⟩ := h2.bind_inv
  obtain ⟨rfl, rfl⟩ := h4.ret_inv
  obtain ⟨k1, k2⟩ := peek_sound y h1
  obtain ⟨j1, j2⟩ := peekL_sound ys h3
  subst k1
  refine ⟨j1, fun gh w S hm hS vs hv => ?_⟩
  simp only [LVRels] at hv
  obtain ⟨v, vs, rfl, hv1, hv2⟩ := hv
  obtain ⟨e, hj⟩ := j2 gh w S hm (fun n hn => hS n (by simp [namesL, hn])) vs hv2
  refine ⟨by simp [e], fun j x v' hx hv' => ?_⟩
  cases j with
  | zero => simp at hx hv'; subst hx hv'; exact k2 gh w S hm (fun n hn => hS n (by simp [namesL, hn])) _ hv1
  | succ j => exact hj j x v' (by simpa using hx) (by simpa using hv')
end
def Spine (gh : Gh) (w : World) (sz : Nat) (nil : Bool) (ys : List AV) (v : Value) : Prop :=
 (nil = true ∧ ys = [] ∧ v = .slice none 0 0) ∨
 (nil = false ∧ ∃ ad cap, v = .slice (some ad) ys.length cap ∧
  ∀ (i : Nat) (x : AV), ys[i]? = some x → (cellsOf x).length = sz ∧ ∀ (j : Nat) (y : AV), (cellsOf x)[j]? = some y → ∃ v : Value, w.cell? (ad.add (i * sz + j)) = some v ∧ v.oneCell' = true ∧ R gh w y v)
theorem spine_of_R {gh w sz nil ys v} (h : R gh w (.sl sz nil ys) v) : Spine gh w sz nil ys v := by
 cases h with
 | nilsl => exact .inl ⟨rfl, rfl, rfl⟩
 | sl _ _ ad cap f hI hcap hsz hc ho hr =>
  refine .inr ⟨rfl, ad, cap, rfl, fun i x hx => ?_⟩
  obtain ⟨hi, rfl⟩ := List.getElem?_eq_some_iff.1 hx
  refine ⟨hsz i hi, fun j y hy => ?_⟩
  obtain ⟨hj, rfl⟩ := List.getElem?_eq_some_iff.1 hy
  rw [hsz i hi] at hj
  exact ⟨f i j, hc i j hi hj, ho i j hi hj, hr i j hi _⟩
theorem spine_of_row {gh w b cs ty fr sz lo hi} {xs : List AV} {v} (hb : w.heap[b]? = some (.cells cs ty fr)) (hr : rowRel gh w cs sz xs)
  (ho : ownRel w b false sz xs.length lo hi v) : Spine gh w sz false (sub xs lo hi) v := by
 obtain ⟨h1, h2, h3⟩ := ho
 simp only [Bool.false_eq_true, if_false] at h3
 obtain ⟨off, cap, rfl, h4, h5, h6, h7⟩ := h3
 have hl := sub_length (lo := lo) h2
 refine .inr ⟨rfl, ⟨b, off, none⟩, cap, by rw [hl], fun i x hx => ?_⟩
 have hi : i < (sub xs lo hi).length := (List.getElem?_eq_some_iff.1 hx).1
 rw [sub_get (by omega)] at hx
 obtain ⟨h8, h9⟩ := hr.2 _ _ hx
 refine ⟨h8, fun j y hy => ?_⟩
 obtain ⟨v, hv, ho1, hR⟩ := h9 j y hy
 refine ⟨v, ?_, ho1, hR⟩
 have ho : off = lo * sz := h4 (.inr (by omega))
 rw [add_off, ho, show lo * sz + (i * sz + j) = (lo + i) * sz + j by rw [Nat.add_mul]; omega]
 simp [World.cell?, hb, hv]
theorem peek_spine {C lv m a m' f sz nil ys} (hr : Run C (peek lv) m a m' f) (ha : a = .sl sz nil ys) :
  m' = m ∧ ∀ gh w, MemRel gh w m → ∀ v, LVRel gh w m.objs lv v → Spine gh w sz nil ys v := by
 subst ha
 cases lv with
 | v x =>
  simp only [peek] at hr
  obtain ⟨rfl, rfl⟩ := hr.ret_inv
  exact ⟨rfl, fun gh w _ v h => spine_of_R (by simpa only [LVRel] using h)⟩
 | own n g lo hi =>
  simp only [peek] at hr
  unfold peekN at hr
  obtain ⟨f1, h⟩ := hr.getO_inv
  split at h
  case isFalse => exact h.fail_inv.elim
  rename_i hg
  revert h
  rcases hx : m.objs n with ⟨g', o⟩
  rw [hx] at hg
  simp only at hg ⊢
  subst hg
  cases o with
  | arr nil' sz' xs =>
   intro h
   obtain ⟨e, rfl⟩ := h.ret_inv
   simp only [AV.sl.injEq] at e
   obtain ⟨rfl, rfl, rfl⟩ := e
   refine ⟨rfl, fun gh w hm v hv => ?_⟩
   have hO := hm.objs n
   rw [hx] at hO
   simp only [LVRel, hx] at hv
   cases nil with
   | true =>
    obtain rfl : xs = [] := by simpa [ObjRel] using hO
    exact .inl ⟨rfl, sub_nil _ _, by have := (hv.2 trivial).2.2; simpa using this⟩
   | false =>
    simp only [ObjRel, Bool.false_eq_true, if_false] at hO
    obtain ⟨h1, cs, ty, h2, h3⟩ := hO
    exact spine_of_row h2 h3 (hv.2 trivial)
  | frz nil' sz' xs =>
   intro h
   obtain ⟨e, rfl⟩ := h.ret_inv
   simp only [AV.sl.injEq] at e
   obtain ⟨rfl, rfl, rfl⟩ := e
   refine ⟨rfl, fun gh w hm v hv => ?_⟩
   have hO := hm.objs n
   rw [hx] at hO
   simp only [LVRel, hx] at hv
   cases nil with
   | true =>
    obtain rfl : xs = [] := by simpa [ObjRel] using hO
    exact .inl ⟨rfl, sub_nil _ _, by have := (hv.2 trivial).2.2; simpa using this⟩
   | false =>
    simp only [ObjRel, Bool.false_eq_true, if_false] at hO
    obtain ⟨h1, cs, ty, h2, h3⟩ := hO
    exact spine_of_row h2 h3 (hv.2 trivial)
  | dead => intro h; exact h.fail_inv.elim
  | box _ => intro h; exact h.fail_inv.elim
  | fbox _ => intro h; exact h.fail_inv.elim
 | agg fs =>
  simp only [peek] at hr
  obtain ⟨l, m1, f1, f2, h1, h2⟩ := hr.bind_inv
  obtain ⟨e, _⟩ := h2.ret_inv
  cases e
 | dead => simp only [peek] at hr; exact hr.fail_inv.elim
 | lptr => simp only [peek] at hr; exact hr.fail_inv.elim
 | eptr => simp only [peek] at hr; exact hr.fail_inv.elim
 | tup => simp only [peek] at hr; exact hr.fail_inv.elim
 | cond => simp only [peek] at hr; exact hr.fail_inv.elim
theorem ownRel_cell {w b nil sz len lo hi v} (h : ownRel w b nil sz len lo hi v) : v.oneCell' = true := by
 obtain ⟨_, _, h⟩ := h
 split at h
 ·subst h; rfl
 ·obtain ⟨off, cap, rfl, _⟩ := h; rfl
theorem cellish_one {gh w a v} (h : cellishAV a = true) (hR : R gh w a v) : v.oneCell' = true := by
 cases hR <;> first | rfl | (simp [cellishAV] at h; done) | exact h
theorem settle_sound {C gh w m a m' f home lv} (hr : Run C (settle home lv) m a m' f) (hm : MemRel gh w m) (hh : ∀ t i, home ≠ .tmp t i) :
  ∃ gh', MemRel gh' w m' ∧ Keeps gh w m gh' w m' ∧ (∀ v, LVRel gh w m.objs lv v → LVRel gh' w m'.objs a v ∧ v.oneCell' = true) := by
 cases lv with
 | own n g lo hi =>
  have fr : ∀ {n' : Nm}, Run C ((freezeN n' g lo hi).bind fun a => .ret (.v a)) m a m' f → ∃ gh', MemRel gh' w m' ∧ Keeps gh w m gh' w m' ∧ (∀ v, LVRel gh w m.objs (.own n' g lo hi) v → LVRel gh' w m'.objs a v ∧ v.oneCell' = true) := by
   intro n' hr
   obtain ⟨x, m1, f1, f2, h1, h2⟩ := hr.bind_inv
   obtain ⟨rfl, rfl⟩ := h2.ret_inv
   obtain ⟨gh', k1, k2, k3, _⟩ := freezeN_sound h1 hm
   refine ⟨gh', k1, k2, fun v hv => ⟨by simp only [LVRel]; exact k3 v hv, ?_⟩⟩
   have hR := k3 v hv
   unfold freezeN at h1
   obtain ⟨f3, h⟩ := h1.getO_inv
   split at h
   case isFalse => exact h.fail_inv.elim
   revert h
   generalize (m.objs n').2 = o
   cases o with
   | arr nil sz xs =>
    intro h
    obtain ⟨f2, h⟩ := h.setO_inv
    obtain ⟨rfl, _⟩ := h.ret_inv
    exact cellish_one rfl hR
   | frz nil sz xs => intro h; obtain ⟨rfl, _⟩ := h.ret_inv; exact cellish_one rfl hR
   | dead => intro h; exact h.fail_inv.elim
   | box _ => intro h; exact h.fail_inv.elim
   | fbox _ => intro h; exact h.fail_inv.elim
  have same : ∀ {n' : Nm}, Run C (.getO n' fun x => if x.1 = g then match x.2 with | .arr .. => .ret (.own n' g lo hi) | .frz .. => .ret (.own n' g lo hi) | _ => .fail else .fail) m a m' f →
    ∃ gh', MemRel gh' w m' ∧ Keeps gh w m gh' w m' ∧ (∀ v, LVRel gh w m.objs (.own n' g lo hi) v → LVRel gh' w m'.objs a v ∧ v.oneCell' = true) := by
   intro n' hr
   obtain ⟨f1, h⟩ := hr.getO_inv
   split at h
   case isFalse => exact h.fail_inv.elim
   rename_i hg
   revert h
   rcases hx : m.objs n' with ⟨g', o⟩
   rw [hx] at hg
   simp only at hg ⊢
   subst hg
   cases o with
   | arr nil sz xs =>
    intro h; obtain ⟨rfl, rfl⟩ := h.ret_inv
    refine ⟨gh, hm, Keeps.refl _ _ _, fun v h => ⟨h, ?_⟩⟩
    simp only [LVRel, hx] at h; exact ownRel_cell (h.2 trivial)
   | frz nil sz xs =>
    intro h; obtain ⟨rfl, rfl⟩ := h.ret_inv
    refine ⟨gh, hm, Keeps.refl _ _ _, fun v h => ⟨h, ?_⟩⟩
    simp only [LVRel, hx] at h; exact ownRel_cell (h.2 trivial)
   | dead => intro h; exact h.fail_inv.elim
   | box _ => intro h; exact h.fail_inv.elim
   | fbox _ => intro h; exact h.fail_inv.elim
  cases n with
  | tmp t i =>
   simp only [settle] at hr
   obtain ⟨gh', k1, k2, k3⟩ := rehome_sound (fun e => hh t i e.symm) hr hm
   refine ⟨gh', k1, k2, fun v hv => ⟨k3 v hv, ?_⟩⟩
   unfold rehome at hr
   obtain ⟨f3, h⟩ := hr.getO_inv
   split at h
   case isFalse => exact h.fail_inv.elim
   rename_i hg
   revert h
   rcases hx : m.objs (.tmp t i) with ⟨g', o⟩
   rw [hx] at hg
   simp only at hg ⊢
   subst hg
   simp only [LVRel, hx] at hv
   cases o with
   | arr nil sz xs => intro _; exact ownRel_cell (hv.2 trivial)
   | frz nil sz xs => intro _; exact ownRel_cell (hv.2 trivial)
   | dead => intro h; exact h.fail_inv.elim
   | box _ => intro h; exact h.fail_inv.elim
   | fbox _ => intro h; exact h.fail_inv.elim
  | var t =>
   simp only [settle] at hr
   split at hr
   ·exact same hr
   ·exact fr hr
  | cell t j =>
   simp only [settle] at hr
   split at hr
   ·exact same hr
   ·exact fr hr
  | res i =>
   simp only [settle] at hr
   split at hr
   ·exact same hr
   ·exact fr hr
 | v a =>
  simp only [settle] at hr
  split at hr
  case isFalse => exact hr.fail_inv.elim
  rename_i hc
  obtain ⟨rfl, rfl⟩ := hr.ret_inv; exact ⟨gh, hm, Keeps.refl _ _ _, fun v h => ⟨h, cellish_one hc (by simpa only [LVRel] using h)⟩⟩
 | lptr n g o =>
  simp only [settle] at hr
  obtain ⟨f1, h⟩ := hr.getO_inv
  split at h
  case isFalse => exact h.fail_inv.elim
  rename_i hg
  revert h
  rcases hx : m.objs n with ⟨g', o'⟩
  rw [hx] at hg
  simp only at hg ⊢
  subst hg
  cases o' with
  | box cells =>
   intro h; obtain ⟨rfl, rfl⟩ := h.ret_inv
   refine ⟨gh, hm, Keeps.refl _ _ _, fun v h => ⟨h, ?_⟩⟩
   simp only [LVRel, hx] at h; rw [h.2 trivial]; rfl
  | fbox cells =>
   intro h; obtain ⟨rfl, rfl⟩ := h.ret_inv
   refine ⟨gh, hm, Keeps.refl _ _ _, fun v h => ⟨h, ?_⟩⟩
   simp only [LVRel, hx] at h; rw [h.2 trivial]; rfl
  | dead => intro h; exact h.fail_inv.elim
  | arr _ _ _ => intro h; exact h.fail_inv.elim
  | frz _ _ _ => intro h; exact h.fail_inv.elim
 | eptr n g i o =>
  simp only [settle] at hr
  obtain ⟨f1, h⟩ := hr.getO_inv
  split at h
  case isFalse => exact h.fail_inv.elim
  rename_i hg
  revert h
  rcases hx : m.objs n with ⟨g', o'⟩
  rw [hx] at hg
  simp only at hg ⊢
  subst hg
  cases o' with
  | arr nil sz xs =>
   intro h; obtain ⟨rfl, rfl⟩ := h.ret_inv
   refine ⟨gh, hm, Keeps.refl _ _ _, fun v h => ⟨h, ?_⟩⟩
   simp only [LVRel, hx] at h; rw [(h.2 trivial).2]; rfl
  | frz nil sz xs =>
   intro h; obtain ⟨rfl, rfl⟩ := h.ret_inv
   refine ⟨gh, hm, Keeps.refl _ _ _, fun v h => ⟨h, ?_⟩⟩
   simp only [LVRel, hx] at h; rw [(h.2 trivial).2]; rfl
  | dead => intro h; exact h.fail_inv.elim
  | box _ => intro h; exact h.fail_inv.elim
  | fbox _ => intro h; exact h.fail_inv.elim
 | dead => simp only [settle] at hr; exact hr.fail_inv.elim
 | agg => simp only [settle] at hr; exact hr.fail_inv.elim
 | tup => simp only [settle] at hr; exact hr.fail_inv.elim
 | cond => simp only [settle] at hr; exact hr.fail_inv.elim
theorem settleL_sound {C b} : ∀ (ys : List LV) {gh w m l m' f j}, Run C (settleL b j ys) m l m' f → MemRel gh w m →
  ∃ gh', MemRel gh' w m' ∧ Keeps gh w m gh' w m' ∧ (∀ vs, LVRels gh w m.objs ys vs → LVRels gh' w m'.objs l vs ∧ ∀ v ∈ vs, v.oneCell' = true)
 | [], gh, w, m, l, m', f, j, hr, hm => by
  simp only [settleL] at hr
  obtain ⟨rfl, rfl⟩ := hr.ret_inv
  exact ⟨gh, hm, Keeps.refl _ _ _, fun vs h => ⟨h, by simp only [LVRels] at h; subst h; simp⟩⟩
 | y :: ys, gh, w, m, l, m', f, j, hr, hm => by
  simp only [settleL] at hr
  obtain ⟨a, m1, f1, f2, h1, h2⟩ := hr.bind_inv
  obtain ⟨r, m2, f3, f4, h3, h4⟩ := h2.bind_inv
  obtain ⟨rfl, rfl⟩ := h4.ret_inv
  obtain ⟨gh1, k1, k2, k3⟩ := settle_sound h1 hm (by simp)
  obtain ⟨gh2, j1, j2, j3⟩ := settleL_sound ys h3 k1
  refine ⟨gh2, j1, k2.trans j2, fun vs hv => ?_⟩
  simp only [LVRels] at hv ⊢
  obtain ⟨v, vs, rfl, hv1, hv2⟩ := hv
  obtain ⟨e1, e2⟩ := k3 v hv1
  obtain ⟨e3, e4⟩ := j3 vs (k2.lvs hv2)
  refine ⟨⟨v, vs, rfl, j2.lv e1, e3⟩, fun u hu => ?_⟩
  rcases List.mem_cons.1 hu with rfl | hu
  ·exact e2
  ·exact e4 u hu
theorem freezeN_box {C m a m' f n g lo hi k} (hr : Run C (freezeN n g lo hi) m a m' f) (hb : ∀ nil sz xs, (m.objs k).2 ≠ .arr nil sz xs) : m'.objs k = m.objs k := by
 unfold freezeN at hr
 obtain ⟨f1, h⟩ := hr.getO_inv
 split at h
 case isFalse => exact h.fail_inv.elim
 revert h
 rcases hx : m.objs n with ⟨g', o⟩
 simp only
 cases o with
 | arr nil sz xs =>
  intro h
  obtain ⟨f2, h⟩ := h.setO_inv
  obtain ⟨_, rfl⟩ := h.ret_inv
  refine Mem.set_ne _ _ fun e => ?_
  subst e
  exact hb nil sz xs (by rw [hx])
 | frz nil sz xs => intro h; obtain ⟨_, rfl⟩ := h.ret_inv; rfl
 | dead => intro h; exact h.fail_inv.elim
 | box _ => intro h; exact h.fail_inv.elim
 | fbox _ => intro h; exact h.fail_inv.elim
mutual
theorem reify_box {C k} : ∀ (lv : LV) {m a m' f}, Run C (reify lv) m a m' f → (∀ nil sz xs, (m.objs k).2 ≠ .arr nil sz xs) → m'.objs k = m.objs k
 | .v x, m, a, m', f, hr, _ => by simp only [reify] at hr; obtain ⟨_, rfl⟩ := hr.ret_inv; rfl
 | .own .., _, _, _, _, hr, hb => by simp only [reify] at hr; exact freezeN_box hr hb
 | .agg fs, m, a, m', f, hr, hb => by
  simp only [reify] at hr
  obtain ⟨l, m1, f1, f2, h1, h2⟩ := hr.bind_inv
  obtain ⟨_, rfl⟩ := h2.ret_inv
  exact reifyL_box fs h1 hb
 | .dead, _, _, _, _, hr, _ => by simp only [reify] at hr; exact hr.fail_inv.elim
 | .lptr .., _, _, _, _, hr, _ => by simp only [reify] at hr; exact hr.fail_inv.elim
 | .eptr .., _, _, _, _, hr, _ => by simp only [reify] at hr; exact hr.fail_inv.elim
 | .tup .., _, _, _, _, hr, _ => by simp only [reify] at hr; exact hr.fail_inv.elim
 | .cond .., _, _, _, _, hr, _ => by simp only [reify] at hr; exact hr.fail_inv.elim
theorem reifyL_box {C k} : ∀ (ys : List LV) {m l m' f}, Run C (reifyL ys) m l m' f → (∀ nil sz xs, (m.objs k).2 ≠ .arr nil sz xs) → m'.objs k = m.objs k
 | [], m, l, m', f, hr, _ => by simp only [reifyL] at hr; obtain ⟨_, rfl⟩ := hr.ret_inv; rfl
 | y :: ys, m, l, m', f, hr, hb => by
  simp only [reifyL] at hr
  obtain ⟨a, m1, f1, f2, h1, h2⟩ := hr.bind_inv
  obtain ⟨r, m2, f3, f4, h3, h4⟩ := h2.bind_inv
  obtain ⟨_, rfl⟩ := h4.ret_inv
  have e := reify_box y h1 hb
  rw [reifyL_box ys h3 (by rw [e]; exact hb), e]
end
theorem capture_sound {C gh w m a m' f lv} (hr : Run C (capture lv) m a m' f) (hm : MemRel gh w m) :
  ∃ gh', MemRel gh' w m' ∧ Keeps gh w m gh' w m' ∧ (∀ v, LVRel gh w m.objs lv v → R gh' w a v) := by
 unfold capture at hr
 split at hr
 ·rename_i n g
  obtain ⟨f1, h⟩ := hr.getO_inv
  split at h
  case isFalse => exact h.fail_inv.elim
  rename_i hg
  revert h
  rcases hx : m.objs n with ⟨g', o⟩
  rw [hx] at hg
  simp only at hg ⊢
  subst hg
  have hO := hm.objs n
  rw [hx] at hO
  cases o with
  | box cells =>
   intro h
   obtain ⟨cs, m1, f1, f2, h1, h2⟩ := h.bind_inv
   obtain ⟨f3, h3⟩ := h2.setO_inv
   obtain ⟨rfl, rfl⟩ := h3.ret_inv
   obtain ⟨gh1, k1, k2, k3, k4, _⟩ := reifyL_sound cells h1 hm
   obtain ⟨hl, vs, ty, hb, hsz, hc⟩ := hO
   have hrel : LVRels gh w m.objs cells vs.toList := LVRels.of_get (by simpa using hsz) fun j y v hy hv => by
    obtain ⟨v', h5, _, h6⟩ := hc j y hy
    simp at hv
    rw [h5] at hv; cases hv; exact h6
   obtain ⟨e1, e2⟩ := k4 _ hrel
   have hn : m1.objs n = (g', .box cells) := by rw [reifyL_box cells h1 (by rw [hx]; simp), hx]
   have hO1 := k1.objs n
   rw [hn] at hO1
   obtain ⟨hl1, vs1, ty1, hb1, hsz1, hc1⟩ := hO1
   have hκ : gh1.κ n = gh.κ n := by rw [k3.κ]
   rw [hκ, hb] at hb1
   simp only [Option.some.injEq, Go.Obj.cells.injEq] at hb1
   obtain ⟨rfl, rfl, _⟩ := hb1
   have hlen : vs.size = cs.length := by simpa using e1.symm
   have hR : ∀ (j : Nat) (x : AV), cs[j]? = some x → ∃ v : Value, vs[j]? = some v ∧ v.oneCell' = true ∧ R gh1 w x v := fun j x hx => by
    have hj := (List.getElem?_eq_some_iff.1 hx).1
    have hjc : j < cells.length := by omega
    obtain ⟨v, h5, h6, _⟩ := hc j _ (List.getElem?_eq_getElem hjc)
    exact ⟨v, h5, h6, e2 j x v hx (by simpa using h5)⟩
   have hk := k1.freeze (n := n) (x := .fbox cs) (by rw [hn]; simp [Obj.like]) ⟨Gh.frz_imm hl1, vs, ty, by show w.heap[gh1.κ n]? = _; rw [hκ]; exact hb, hlen, fun j x hx => by
    obtain ⟨v, h5, h6, h7⟩ := hR j x hx
    exact ⟨v, h5, h6, h7.mono (Ext.freeze gh1 w n)⟩⟩
   rw [hn] at hk
   refine ⟨_, hk.1, k2.trans hk.2, fun v hv => ?_⟩
   simp only [LVRel, hx] at hv
   obtain rfl := hv.2 trivial
   have := R.iptr (gh := gh1.frz n) (w := w) cs 0 ⟨gh.κ n, 0, none⟩ (fun j => vs.getD j undef) (fun _ => by rw [← hκ]; exact Gh.frz_imm hl1) (fun j hj => ?_) (fun j hj => ?_) (fun j hj => ?_)
   ·simpa [Addr.add] using this
   ·obtain ⟨v, h5, _, h6⟩ := hR j _ (List.getElem?_eq_getElem hj)
    rw [add_plain]; simp [World.cell?, hb, h5]
   ·obtain ⟨v, h5, h6, _⟩ := hR j _ (List.getElem?_eq_getElem hj)
    simpa [h5] using h6
   ·obtain ⟨v, h5, _, h6⟩ := hR j _ (List.getElem?_eq_getElem hj)
    simpa [h5] using h6.mono (Ext.freeze gh1 w n)
  | fbox cells =>
   intro h
   obtain ⟨rfl, rfl⟩ := h.ret_inv
   refine ⟨gh, hm, Keeps.refl _ _ _, fun v hv => ?_⟩
   simp only [LVRel, hx] at hv
   obtain rfl := hv.2 trivial
   obtain ⟨hl, vs, ty, hb, hsz, hc⟩ := hO
   have := R.iptr (gh := gh) (w := w) cells 0 ⟨gh.κ n, 0, none⟩ (fun j => vs.getD j undef) (fun _ => hl) (fun j hj => ?_) (fun j hj => ?_) (fun j hj => ?_)
   ·simpa [Addr.add] using this
   ·obtain ⟨v, h5, _, h6⟩ := hc j _ (List.getElem?_eq_getElem hj)
    rw [add_plain]; simp [World.cell?, hb, h5]
   ·obtain ⟨v, h5, h6, _⟩ := hc j _ (List.getElem?_eq_getElem hj)
    simpa [h5] using h6
   ·obtain ⟨v, h5, _, h6⟩ := hc j _ (List.getElem?_eq_getElem hj)
    simpa [h5] using h6
  | dead => intro h; exact h.fail_inv.elim
  | arr _ _ _ => intro h; exact h.fail_inv.elim
  | frz _ _ _ => intro h; exact h.fail_inv.elim
 ·obtain ⟨rfl, rfl⟩ := hr.ret_inv
  exact ⟨gh, hm, Keeps.refl _ _ _, fun v hv => by simpa only [LVRel] using hv⟩
 ·exact hr.fail_inv.elim
theorem captureL_sound {C} : ∀ (ys : List LV) {gh w m l m' f}, Run C (captureL ys) m l m' f → MemRel gh w m →
  ∃ gh', MemRel gh' w m' ∧ Keeps gh w m gh' w m' ∧ ∀ vs, LVRels gh w m.objs ys vs → l.length = vs.length ∧ ∀ (j : Nat) (x : AV) (v : Value), l[j]? = some x → vs[j]? = some v → R gh' w x v
 | [], gh, w, m, l, m', f, hr, hm => by
  simp only [captureL] at hr
  obtain ⟨rfl, rfl⟩ := hr.ret_inv
  exact ⟨gh, hm, Keeps.refl _ _ _, fun vs h => by simp only [LVRels] at h; subst h; simp⟩
 | y :: ys, gh, w, m, l, m', f, hr, hm => by
  simp only [captureL] at hr
  obtain ⟨a, m1, f1, f2, h1, h2⟩ := hr.bind_inv
  obtain ⟨r, m2, f3, f4, h3, h4⟩ := h2.bind_inv
  obtain ⟨rfl, rfl⟩ := h4.ret_inv
  obtain ⟨gh1, k1, k2, k3⟩ := capture_sound h1 hm
  obtain ⟨gh2, j1, j2, j3⟩ := captureL_sound ys h3 k1
  refine ⟨gh2, j1, k2.trans j2, fun vs hv => ?_⟩
  simp only [LVRels] at hv
  obtain ⟨v, vs, rfl, hv1, hv2⟩ := hv
  obtain ⟨e, hj⟩ := j3 vs (k2.lvs hv2)
  refine ⟨by simp [e], fun j x v' hx hv' => ?_⟩
  cases j with
  | zero => simp at hx hv'; subst hx hv'; exact (k3 _ hv1).mono j2.ext
  | succ j => exact hj j x v' (by simpa using hx) (by simpa using hv')
end Go.Vai
namespace Go.Vai
theorem place_obj {gh w m w1 b n} {x : Nat × Obj} (hm : MemRel gh w m)
  (hos : w1.os = w.os) (htape : w1.tape = w.tape) (hout : w1.output = w.output) (hsize : w.heap.size ≤ w1.heap.size) (hb : b < w1.heap.size)
  (hsame : ∀ k, k < w.heap.size → k ≠ b → w1.heap[k]? = w.heap[k]?)
  (hfree : b < w.heap.size → ∃ n0, gh.ρ b = .loc n0 ∧ (m.objs n0).2 = .dead)
  (hcap : ∀ j, capOK w b j → capOK w1 b j) (hgen : (m.objs n).1 < x.1)
  (hO : ∀ gh', Ext gh w gh' w1 → gh'.ρ b = .loc n → gh'.κ n = b → Keeps gh w m gh' w1 (m.set n x) → ObjRel gh' w1 (m.set n x).objs n x.2) :
  ∃ gh', MemRel gh' w1 (m.set n x) ∧ Keeps gh w m gh' w1 (m.set n x) ∧ gh'.κ n = b ∧ ∀ k, k ≠ b → gh'.ρ k = gh.ρ k := by
 let gh' : Gh := { gh with ρ := fun k => if k = b then .loc n else gh.ρ k, κ := fun k => if k = n then b else gh.κ k }
 have hloc : b < w.heap.size → ∃ n0, gh.ρ b = .loc n0 := fun h => let ⟨n0, h1, _⟩ := hfree h; ⟨n0, h1⟩
 have hne : ∀ k, k < w.heap.size → (∀ n0, gh.ρ k ≠ .loc n0) → k ≠ b := fun k hk hn e => by
  subst e; obtain ⟨n0, h⟩ := hloc hk; exact hn n0 h
 have he : Ext gh w gh' w1 := by
  refine ⟨hos, htape, hout, hsize, fun k hk => ?_, fun k h1 hk => ?_, fun _ _ h => h⟩
  ·have h1 : k < w.heap.size := hm.alloc k (by rw [hk]; simp)
   have h2 : k ≠ b := hne k h1 (fun n0 e => by rw [hk] at e; cases e)
   exact ⟨by show (if k = b then _ else _) = _; rw [if_neg h2]; exact hk, hsame k h1 h2⟩
  ·have h2 : k ≠ b := hne k h1 (fun n0 e => by rw [hk] at e; cases e)
   exact ⟨by show (if k = b then _ else _) = _; rw [if_neg h2]; exact hk, hsame k h1 h2⟩
 have hcapAll : ∀ k j, capOK w k j → capOK w1 k j := fun k j h => by
  by_cases e : k = b
  ·subst e; exact hcap j h
  ·obtain ⟨cs, ty, fr, h1, h2⟩ := h
   have hk : k < w.heap.size := (Array.getElem?_eq_some_iff.1 h1).1
   exact ⟨cs, ty, fr, by rw [hsame k hk e]; exact h1, h2⟩
 have hk : Keeps gh w m gh' w1 (m.set n x) := ⟨he, fun k => by
  by_cases e : k = n
  ·subst e; rw [Mem.set_same]; exact .inl hgen
  ·rw [Mem.set_ne _ _ e]
   exact .inr ⟨rfl, Obj.like_refl _, fun _ => ⟨by simp [gh', e], fun _ j h => hcapAll _ j h⟩⟩⟩
 refine ⟨gh', hm.step hk (fun k => k = n ∨ (m.objs k).2 = .dead) (fun k h => ?_) (fun k e => ?_) (fun k e => ?_) rfl rfl (fun id k h h' => ?_), hk, by simp [gh'], fun k hk => by simp [gh', hk]⟩
 ·change (if k = b then Role.loc n else gh.ρ k) ≠ .free at h
  split at h
  ·rename_i e; subst e; exact hb
  ·exact Nat.lt_of_lt_of_le (hm.alloc k h) hsize
 ·rcases e with rfl | e
  ·rw [Mem.set_same]; exact hO gh' he (by simp [gh']) (by simp [gh']) hk
  ·by_cases e2 : k = n
   ·subst e2; rw [Mem.set_same]; exact hO gh' he (by simp [gh']) (by simp [gh']) hk
   ·rw [Mem.set_ne _ _ e2, e]; trivial
 ·simp only [not_or] at e
  refine ⟨Mem.set_ne _ _ e.1, by simp [gh', e.1], fun h => ?_⟩
  have hlt := hm.alloc (gh.κ k) (by rw [h]; simp)
  have hkb : gh.κ k ≠ b := fun e' => by
   rw [e'] at h hlt
   obtain ⟨n0, h1, h2⟩ := hfree hlt
   rw [h] at h1; simp at h1; subst h1; exact e.2 h2
  exact ⟨by show (if gh.κ k = b then _ else _) = _; rw [if_neg hkb]; exact h, hsame _ hlt hkb⟩
 ·have hlt := hm.alloc k (by rw [h']; simp)
  have hkb : k ≠ b := hne k hlt (fun n0 e => by rw [h'] at e; cases e)
  exact ⟨by show (if k = b then _ else _) = _; rw [if_neg hkb]; exact h', hsame k hlt hkb⟩
theorem newArr_run {C m lv m' f t i nil sz xs hi} (hr : Run C (newArr t i nil sz xs hi) m lv m' f) :
  lv = .own (.tmp t i) ((m.objs (.tmp t i)).1 + 1) 0 hi ∧ m' = m.set (.tmp t i) ((m.objs (.tmp t i)).1 + 1, .arr nil sz xs) := by
 unfold newArr at hr
 obtain ⟨f1, h⟩ := hr.getO_inv
 obtain ⟨f2, h⟩ := h.setO_inv
 exact h.ret_inv
theorem newArr_sound {C gh w m w1 b lv m' f t i sz xs hi} {cs : Array Value} {ty : TypeId} (hr : Run C (newArr t i false sz xs hi) m lv m' f) (hm : MemRel gh w m)
  (hos : w1.os = w.os) (htape : w1.tape = w.tape) (hout : w1.output = w.output) (hsize : w.heap.size ≤ w1.heap.size)
  (hsame : ∀ k, k < w.heap.size → k ≠ b → w1.heap[k]? = w.heap[k]?)
  (hfree : b < w.heap.size → ∃ n0, gh.ρ b = .loc n0 ∧ (m.objs n0).2 = .dead)
  (hcap : ∀ j, capOK w b j → capOK w1 b j)
  (hblk : w1.heap[b]? = some (.cells cs ty (0, 0))) (hrow : rowRel gh w cs sz xs) (hhi : hi ≤ xs.length) :
  ∃ gh', MemRel gh' w1 m' ∧ Keeps gh w m gh' w1 m' ∧ (∀ cap, xs.length ≤ cap → cap * sz ≤ cs.size → cap ≤ maxLen → LVRel gh' w1 m'.objs lv (.slice (some ⟨b, 0, none⟩) hi cap)) ∧ ∀ k, k ≠ b → gh'.ρ k = gh.ρ k := by
 obtain ⟨rfl, rfl⟩ := newArr_run hr
 obtain ⟨gh', h1, h2, h3, h4⟩ := place_obj (w1 := w1) (b := b) (n := .tmp t i) (x := ((m.objs (.tmp t i)).1 + 1, .arr false sz xs)) hm hos htape hout hsize
  (Array.getElem?_eq_some_iff.1 hblk).1 hsame hfree hcap (by simp) (fun gh' he hρ hκ _ => by
   simp only [ObjRel, Bool.false_eq_true, if_false]
   exact ⟨by rw [hκ]; exact hρ, cs, ty, by rw [hκ]; exact hblk, hrow.keep he⟩)
 refine ⟨gh', h1, h2, fun cap c1 c2 c3 => ?_, h4⟩
 simp only [LVRel, Mem.set_same]
 refine ⟨Nat.le_refl _, fun _ => ⟨Nat.zero_le _, hhi, ?_⟩⟩
 simp only [Bool.false_eq_true, if_false]
 exact ⟨0, cap, by rw [h3]; rfl, by simp, by omega, by omega, ⟨cs, ty, _, by rw [h3]; exact hblk, by omega⟩, c3⟩
theorem newArr_nil {C gh w m lv m' f t i sz} (hr : Run C (newArr t i true sz [] 0) m lv m' f) (hm : MemRel gh w m) :
  MemRel gh w m' ∧ Keeps gh w m gh w m' ∧ LVRel gh w m'.objs lv (.slice none 0 0) := by
 obtain ⟨rfl, rfl⟩ := newArr_run hr
 have hk : Keeps gh w m gh w (m.set (.tmp t i) ((m.objs (.tmp t i)).1 + 1, .arr true sz [])) := ⟨Ext.refl _ _, fun k => by
  by_cases e : k = .tmp t i
  ·subst e; rw [Mem.set_same]; exact .inl (by simp)
  ·rw [Mem.set_ne _ _ e]; exact Turned.refl _ _⟩
 refine ⟨hm.step hk (· = .tmp t i) hm.alloc (fun k e => ?_) (fun k e => ⟨Mem.set_ne _ _ e, rfl, fun h => ⟨h, rfl⟩⟩) rfl rfl (fun _ _ _ h => ⟨h, rfl⟩), hk, ?_⟩
 ·subst e; rw [Mem.set_same]; simp [ObjRel]
 ·simp only [LVRel, Mem.set_same]
  exact ⟨Nat.le_refl _, fun _ => by simp [ownRel]⟩
theorem alloc_same (w : World) (o : Go.Obj) : ∀ k, k < w.heap.size → k ≠ w.heap.size → (w.alloc o).heap[k]? = w.heap[k]? := fun k h _ => by
 show (w.heap.push o)[k]? = _
 rw [Array.getElem?_push, if_neg (by omega)]
theorem alloc_new (w : World) (o : Go.Obj) : (w.alloc o).heap[w.heap.size]? = some o := by
 show (w.heap.push o)[w.heap.size]? = _
 rw [Array.getElem?_push, if_pos rfl]
theorem capOK_lt {w b j} (h : capOK w b j) : b < w.heap.size := by
 obtain ⟨cs, ty, fr, h, _⟩ := h; exact (Array.getElem?_eq_some_iff.1 h).1
theorem newArr_alloc {C gh w m lv m' f t i sz xs hi} {cs : Array Value} {ty : TypeId} (hr : Run C (newArr t i false sz xs hi) m lv m' f) (hm : MemRel gh w m)
  (hrow : rowRel gh w cs sz xs) (hhi : hi ≤ xs.length) :
  ∃ gh', MemRel gh' (w.alloc (.cells cs ty)) m' ∧ Keeps gh w m gh' (w.alloc (.cells cs ty)) m' ∧
   (∀ cap, xs.length ≤ cap → cap * sz ≤ cs.size → cap ≤ maxLen → LVRel gh' (w.alloc (.cells cs ty)) m'.objs lv (.slice (some ⟨w.heap.size, 0, none⟩) hi cap)) ∧ ∀ k, k ≠ w.heap.size → gh'.ρ k = gh.ρ k :=
 newArr_sound (w1 := w.alloc (.cells cs ty)) (b := w.heap.size) hr hm rfl rfl rfl (by simp) (alloc_same w _) (fun h => absurd h (Nat.lt_irrefl _))
  (fun j h => absurd (capOK_lt h) (Nat.lt_irrefl _)) (alloc_new w _) hrow hhi
theorem newBox_alloc {C gh w m lv m' f t cells} {cs : Array Value} {ty : TypeId} (hr : Run C (newBox t cells) m lv m' f) (hm : MemRel gh w m)
  (h1 : LVRels gh w m.objs cells cs.toList) (h2 : ∀ v ∈ cs.toList, v.oneCell' = true) :
  ∃ gh', MemRel gh' (w.alloc (.cells cs ty)) m' ∧ Keeps gh w m gh' (w.alloc (.cells cs ty)) m' ∧ LVRel gh' (w.alloc (.cells cs ty)) m'.objs lv (.pointer (some ⟨w.heap.size, 0, none⟩)) := by
 unfold newBox at hr
 obtain ⟨f1, h⟩ := hr.getO_inv
 obtain ⟨f2, h⟩ := h.setO_inv
 obtain ⟨rfl, rfl⟩ := h.ret_inv
 obtain ⟨gh', k1, k2, k3, _⟩ := place_obj (w1 := w.alloc (.cells cs ty)) (b := w.heap.size) (n := .tmp t 0) (x := ((m.objs (.tmp t 0)).1 + 1, .box cells)) hm rfl rfl rfl (by simp) (by simp)
  (alloc_same w _) (fun h => absurd h (Nat.lt_irrefl _)) (fun j h => absurd (capOK_lt h) (Nat.lt_irrefl _)) (by simp) (fun gh' he hρ hκ hk => by
   refine ⟨by rw [hκ]; exact hρ, cs, ty, by rw [hκ]; exact alloc_new w _, by simpa using h1.length, fun j x hx => ?_⟩
   obtain ⟨v, h3, h4⟩ := h1.get j x hx
   exact ⟨v, by simpa using h3, h2 v (List.mem_of_getElem? h3), hk.lv h4⟩)
 refine ⟨gh', k1, k2, ?_⟩
 simp only [LVRel, Mem.set_same]
 exact ⟨Nat.le_refl _, fun _ => by rw [k3]⟩
theorem pushG {gh : Gh} {w : World} {m : Mem} {cells : List AV} {o : Go.Obj} (hm : MemRel gh w m)
  (h1 : ∀ gh' w', Ext gh w gh' w' → w'.heap[w.heap.size]? = some o → GRel gh' w' w.heap.size cells) :
  ∃ gh', MemRel gh' (w.alloc o) { m with G := m.G ++ [cells] } ∧ Keeps gh w m gh' (w.alloc o) { m with G := m.G ++ [cells] } ∧ gh'.γ[m.G.length]? = some w.heap.size := by
 let gh' : Gh := { gh with ρ := fun k => if k = w.heap.size then .glob m.G.length else gh.ρ k, γ := gh.γ ++ [w.heap.size] }
 have hlt : ∀ k, gh.ρ k ≠ .free → k ≠ w.heap.size := fun k hk e => by have := hm.alloc k hk; omega
 have he : Ext gh w gh' (w.alloc o) := by
  refine ⟨rfl, rfl, rfl, by simp, fun k hk => ?_, fun k h1 hk => ?_, fun id b h => ?_⟩
  ·have h2 := hlt k (by rw [hk]; simp)
   have h3 := hm.alloc k (by rw [hk]; simp)
   exact ⟨by show (if k = w.heap.size then _ else _) = _; rw [if_neg h2]; exact hk, alloc_same w _ k h3 h2⟩
  ·have h2 : k ≠ w.heap.size := by omega
   exact ⟨by show (if k = w.heap.size then _ else _) = _; rw [if_neg h2]; exact hk, alloc_same w _ k h1 h2⟩
  ·show (gh.γ ++ [w.heap.size])[id]? = some b
   rw [List.getElem?_append_left (List.getElem?_eq_some_iff.1 h).1]; exact h
 have hcap : ∀ k j, capOK w k j → capOK (w.alloc o) k j := fun k j h => by
  have hl := capOK_lt h
  obtain ⟨c, t, fr, h1, h2⟩ := h
  exact ⟨c, t, fr, by rw [alloc_same w _ k hl (by omega)]; exact h1, h2⟩
 have hk : Keeps gh w m gh' (w.alloc o) { m with G := m.G ++ [cells] } := ⟨he, fun n => .inr ⟨rfl, Obj.like_refl _, fun _ => ⟨rfl, fun _ j h => hcap _ j h⟩⟩⟩
 refine ⟨gh', ⟨fun k hk' => ?_, fun n => ?_, ?_, fun id b cl e1 e2 => ?_⟩, hk, ?_⟩
 ·change (if k = w.heap.size then Role.glob m.G.length else gh.ρ k) ≠ .free at hk'
  split at hk'
  ·rename_i e; subst e; simp
  ·exact Nat.lt_of_lt_of_le (hm.alloc k hk') (by simp)
 ·refine ObjRel.keep hk rfl (fun h => ?_) (hm.objs n)
  have h2 := hlt (gh.κ n) (by rw [h]; simp)
  have h3 := hm.alloc (gh.κ n) (by rw [h]; simp)
  exact ⟨by show (if _ = w.heap.size then _ else _) = _; rw [if_neg h2]; exact h, alloc_same w _ _ h3 h2⟩
 ·show (gh.γ ++ [w.heap.size]).length = (m.G ++ [cells]).length
  simp [hm.glen]
 ·change (gh.γ ++ [w.heap.size])[id]? = some b at e1
  change (m.G ++ [cells])[id]? = some cl at e2
  by_cases hid : id < m.G.length
  ·rw [List.getElem?_append_left (by rw [hm.glen]; exact hid)] at e1
   rw [List.getElem?_append_left hid] at e2
   obtain ⟨h3, h4⟩ := hm.glob id b cl e1 e2
   have h2 := hlt b (by rw [h3]; simp)
   have h7 := hm.alloc b (by rw [h3]; simp)
   exact ⟨by show (if b = w.heap.size then _ else _) = _; rw [if_neg h2]; exact h3, h4.mono (alloc_same w _ _ h7 h2) fun _ _ h => h.mono he⟩
  ·have hid2 : id = m.G.length := by
    have := (List.getElem?_eq_some_iff.1 e2).1
    simp at this; omega
   subst hid2
   rw [List.getElem?_append_right (Nat.le_refl _)] at e2
   simp at e2
   subst e2
   rw [← hm.glen, List.getElem?_append_right (Nat.le_refl _)] at e1
   simp at e1
   subst e1
   exact ⟨by show (if w.heap.size = w.heap.size then _ else _) = _; rw [if_pos rfl], h1 gh' _ he (alloc_new w _)⟩
 ·show (gh.γ ++ [w.heap.size])[m.G.length]? = _
  rw [← hm.glen, List.getElem?_append_right (Nat.le_refl _)]; simp
theorem newG_alloc {C gh w m lv m' f} {cells : List AV} {cs : Array Value} {ty : TypeId} (hr : Run C (newG cells) m lv m' f) (hm : MemRel gh w m) (h0 : cs.size = cells.length)
  (h1 : ∀ (j : Nat) (x : AV), cells[j]? = some x → ∃ v : Value, cs[j]? = some v ∧ v.oneCell' = true ∧ R gh w x v) :
  ∃ gh', MemRel gh' (w.alloc (.cells cs ty)) m' ∧ Keeps gh w m gh' (w.alloc (.cells cs ty)) m' ∧ LVRel gh' (w.alloc (.cells cs ty)) m'.objs lv (.pointer (some ⟨w.heap.size, 0, none⟩)) := by
 unfold newG at hr
 obtain ⟨f1, h⟩ := hr.getG_inv
 obtain ⟨f2, h⟩ := h.setG_inv
 obtain ⟨rfl, rfl⟩ := h.ret_inv
 obtain ⟨gh', k1, k2, k3⟩ := pushG (o := .cells cs ty) (cells := cells) hm fun gh' w' he hb =>
  .inl ⟨cs, ty, hb, h0, fun j x hx => let ⟨v, h8, h9, h10⟩ := h1 j x hx; ⟨v, h8, h9, h10.mono he⟩⟩
 exact ⟨gh', k1, k2, by simp only [LVRel]; exact .gp _ 0 _ k3⟩
def CellsAt (gh : Gh) (w : World) (objs : Nm → Nat × Obj) (ad : Addr) (cells : List LV) : Prop :=
 ∀ (j : Nat) (x : LV), cells[j]? = some x → ∃ v : Value, w.cell? (ad.add j) = some v ∧ v.oneCell' = true ∧ LVRel gh w objs x v
theorem zeroL_length : ∀ (vs : List Value) (ss : List Nat), (zeroL ss vs).length = vs.length
 | [], _ => by simp [zeroL]
 | _ :: vs, [] => by simp [zeroL, zeroL_length vs []]
 | _ :: vs, _ :: ss => by simp [zeroL, zeroL_length vs ss]
theorem ofCellS_z (v : Value) : ofCellS 0 v = ofCell v := by unfold ofCellS ofCell; split <;> rfl
theorem zeroL_get : ∀ (vs : List Value) (ss : List Nat) (j : Nat) (y : AV), (zeroL ss vs)[j]? = some y → ∃ s v, vs[j]? = some v ∧ y = ofCellS s v
 | [], _, j, y, h => by simp [zeroL] at h
 | v :: vs, [], j, y, h => by
  cases j with
  | zero => simp only [zeroL, List.getElem?_cons_zero, Option.some.injEq] at h; exact ⟨0, v, by simp, by rw [ofCellS_z]; exact h.symm⟩
  | succ j => simp only [zeroL, List.getElem?_cons_succ] at h; simpa using zeroL_get vs [] j y h
 | v :: vs, s :: ss, j, y, h => by
  cases j with
  | zero => simp only [zeroL, List.getElem?_cons_zero, Option.some.injEq] at h; exact ⟨s, v, by simp, h.symm⟩
  | succ j => simp only [zeroL, List.getElem?_cons_succ] at h; simpa using zeroL_get vs ss j y h
structure TIok (P : Program) (t : TypeId) (ti : TI) : Prop where
 info : ∃ i z d, P.info? t = some i ∧ P.underlying t = some d ∧ i.zero = some z ∧ (i.size ≠ 0 ∧ i.bytes ≠ 0) ∧ z.cells.size = i.size ∧ (ti.agg = true ∨ ti.sz = 1) ∧ ti.sz = i.size ∧ ti.bytes = i.bytes ∧ (∃ ss, ti.zero = zeroL ss z.cells.toList) ∧ ti.agg = isAggD d ∧ ∀ v ∈ z.cells.toList, v.oneCell' = true
theorem tiOf_ok {P t ti} (h : tiOf P t = some ti) : TIok P t ti := by
 unfold tiOf at h
 split at h
 ·rename_i i d h1 h2
  split at h
  ·rename_i z h3
   split at h
   ·rename_i h4
    simp only [Option.some.injEq] at h
    subst h
    exact ⟨i, z, d, h1, h2, h3, h4.1, h4.2.1, by simpa using h4.2.2.1, rfl, rfl, ⟨_, rfl⟩, rfl, fun v hv => List.all_eq_true.1 h4.2.2.2 v hv⟩
   ·cases h
  ·cases h
 ·cases h
theorem run_isAgg {P : Program} {w : World} {t : TypeId} {d : TypeDesc} (h : P.underlying t = some d) : (isAgg t).run P w = .ok (isAggD d) w := by
 simp only [isAgg, underlying, Sem.run_bind, run_program, Result.andThen_ok, h, Sem.run_pure]
 cases d <;> rfl
theorem run_sizeOf {P : Program} {w : World} {t : TypeId} {i : TypeInfo} (h : P.info? t = some i) : (sizeOf t).run P w = .ok i.size w := by
 simp [sizeOf, typeInfo, h]
theorem run_typeInfo {P : Program} {w : World} {t : TypeId} {i : TypeInfo} (h : P.info? t = some i) : (typeInfo t).run P w = .ok i w := by
 simp [typeInfo, h]
theorem run_und {P : Program} {w : World} {t : TypeId} {d : TypeDesc} (h : P.underlying t = some d) : (underlying t).run P w = .ok d w := by
 simp [underlying, h]
theorem loadL_run {C ti cells off m lv m' f} (hr : Run C (loadL ti cells off) m lv m' f) :
  m' = m ∧ off + ti.sz ≤ cells.length ∧ ((ti.agg = true ∧ lv = .agg ((cells.drop off).take ti.sz)) ∨ (ti.agg = false ∧ cells[off]? = some lv ∧ ti.sz = 1)) := by
 unfold loadL at hr
 split at hr
 case isFalse => exact hr.fail_inv.elim
 rename_i h1
 split at hr
 ·rename_i h2
  obtain ⟨rfl, rfl⟩ := hr.ret_inv
  exact ⟨rfl, h1, .inl ⟨h2, rfl⟩⟩
 ·rename_i h2
  split at hr
  ·rename_i x hx
   split at hr
   ·rename_i h3
    obtain ⟨rfl, rfl⟩ := hr.ret_inv
    exact ⟨rfl, h1, .inr ⟨by simpa using h2, hx, h3⟩⟩
   ·exact hr.fail_inv.elim
  ·exact hr.fail_inv.elim
theorem load_sound {P t ti gh w} {objs : Nm → Nat × Obj} {ad : Addr} {cells : List LV} {off : Nat} {lv : LV} (hti : TIok P t ti) (hc : CellsAt gh w objs ad cells) (h1 : off + ti.sz ≤ cells.length)
  (h2 : (ti.agg = true ∧ lv = .agg ((cells.drop off).take ti.sz)) ∨ (ti.agg = false ∧ cells[off]? = some lv ∧ ti.sz = 1)) :
  ∃ v, (loadVar t (ad.add off)).run P w = .ok v w ∧ LVRel gh w objs lv v := by
 obtain ⟨i, z, d, k1, k2, k3, k0, k4, k10, k5, k6, k7, k8, k9⟩ := hti.info
 have hadd : ∀ j, (ad.add off).add j = ad.add (off + j) := fun j => by
  unfold Addr.add
  by_cases h : off = 0
  ·simp [h]
  ·simp only [h, if_false]
   by_cases h' : j = 0
   ·simp [h', h]
   ·simp [h', h, Nat.add_assoc]
 rcases h2 with ⟨h3, rfl⟩ | ⟨h3, h4, h5⟩
 ·have hcell : ∀ j, j < ti.sz → ∃ v, w.cell? ((ad.add off).add j) = some v ∧ LVRel gh w objs (cells.getD (off + j) .dead) v := fun j hj => by
   obtain ⟨v, e1, _, e2⟩ := hc (off + j) (cells.getD (off + j) .dead) (by rw [List.getD_eq_getElem?_getD, List.getElem?_eq_getElem (by omega)]; rfl)
   exact ⟨v, by rw [hadd]; exact e1, e2⟩
  let g : Nat → Value := fun j => (w.cell? ((ad.add off).add j)).getD undef
  have hg : ∀ j, j < ti.sz → w.cell? ((ad.add off).add j) = some (g j) := fun j hj => by
   obtain ⟨v, e1, _⟩ := hcell j hj; simp [g, e1]
  refine ⟨.agg ((List.range ti.sz).map g).toArray, ?_, ?_⟩
  ·have := run_loadCells (P := P) w (ad.add off) ti.sz g hg
   simp only [loadVar, Sem.run_bind, run_isAgg k2, Result.andThen_ok, ← k8, h3, if_true, run_sizeOf k1, ← k5, this, Sem.run_pure]
  ·simp only [LVRel]
   refine ⟨_, rfl, LVRels.of_get (by simp; omega) fun j y v hy hv => ?_⟩
   simp only [List.getElem?_take, List.getElem?_drop] at hy
   split at hy
   ·rename_i hj
    obtain ⟨v', e1, e2⟩ := hcell j hj
    have : v = v' := by
     simp only [List.getElem?_map, List.getElem?_range hj, Option.map_some, Option.some.injEq] at hv
     rw [← hv]; simp [g, e1]
    subst this
    rwa [List.getD_eq_getElem?_getD, hy] at e2
   ·cases hy
 ·obtain ⟨v, e1, e2, e3⟩ := hc off lv h4
  refine ⟨v, ?_, e3⟩
  simp [loadVar, run_isAgg k2, ← k8, h3, e1]
theorem cellsAt_imm {gh w objs cells off ad'} (h : R gh w (.iptr cells off) (.pointer (some ad'))) : ∃ ad : Addr, ad' = ad.add off ∧ CellsAt gh w objs ad (cells.map .v) := by
 cases h with
 | iptr _ _ ad f hI hc ho hr =>
  refine ⟨ad, rfl, fun j x hx => ?_⟩
  simp only [List.getElem?_map, Option.map_eq_some_iff] at hx
  obtain ⟨y, hy, rfl⟩ := hx
  obtain ⟨hj, rfl⟩ := List.getElem?_eq_some_iff.1 hy
  exact ⟨f j, hc j hj, ho j hj, by simpa only [LVRel] using hr j hj⟩
theorem cellsAt_row {gh w objs b sz} {cs : Array Value} {ty : TypeId} {fr : Nat × Nat} {xs : List AV} {i : Nat} {e : AV} (hb : w.heap[b]? = some (.cells cs ty fr)) (hr : rowRel gh w cs sz xs) (he : xs[i]? = some e) :
  CellsAt gh w objs ⟨b, i * sz, none⟩ ((cellsOf e).map .v) := by
 obtain ⟨h1, h2⟩ := hr.2 i e he
 intro j x hx
 simp only [List.getElem?_map, Option.map_eq_some_iff] at hx
 obtain ⟨y, hy, rfl⟩ := hx
 obtain ⟨v, h3, h4, h5⟩ := h2 j y hy
 exact ⟨v, by rw [add_off]; simp [World.cell?, hb, h3], h4, by simpa only [LVRel] using h5⟩
theorem aLoad_sound {C P t ti gh w m x lv m' f} (hti : TIok P t ti) (hr : Run C (aLoad ti x) m lv m' f) (hm : MemRel gh w m) (v : Value) (hv : LVRel gh w m.objs x v) :
  m' = m ∧ ∃ ad u, v = .pointer (some ad) ∧ (loadVar t ad).run P w = .ok u w ∧ LVRel gh w m.objs lv u := by
 unfold aLoad at hr
 split at hr
 ·rename_i n g off
  obtain ⟨f1, h⟩ := hr.getO_inv
  split at h
  case isFalse => exact h.fail_inv.elim
  rename_i hg
  revert h
  rcases hx : m.objs n with ⟨g', o⟩
  rw [hx] at hg
  simp only at hg ⊢
  subst hg
  have hO := hm.objs n
  rw [hx] at hO
  simp only [LVRel, hx] at hv
  cases o with
  | box cells =>
   intro h
   obtain ⟨rfl, h1, h2⟩ := loadL_run h
   obtain rfl := hv.2 trivial
   obtain ⟨_, cs, ty, hb, hsz, hc⟩ := hO
   have hca : CellsAt gh w m'.objs ⟨gh.κ n, 0, none⟩ cells := fun j x hx => by
    obtain ⟨v, e1, e2, e3⟩ := hc j x hx
    exact ⟨v, by rw [add_plain]; simp [World.cell?, hb, e1], e2, e3⟩
   obtain ⟨u, h3, h4⟩ := load_sound hti hca h1 h2
   rw [add_plain] at h3
   exact ⟨rfl, _, u, rfl, h3, h4⟩
  | fbox cells =>
   intro h
   obtain ⟨rfl, h1, h2⟩ := loadL_run h
   obtain rfl := hv.2 trivial
   obtain ⟨_, cs, ty, hb, hsz, hc⟩ := hO
   have hca : CellsAt gh w m'.objs ⟨gh.κ n, 0, none⟩ (cells.map .v) := fun j x hx => by
    simp only [List.getElem?_map, Option.map_eq_some_iff] at hx
    obtain ⟨y, hy, rfl⟩ := hx
    obtain ⟨v, e1, e2, e3⟩ := hc j y hy
    exact ⟨v, by rw [add_plain]; simp [World.cell?, hb, e1], e2, by simpa only [LVRel] using e3⟩
   obtain ⟨u, h3, h4⟩ := load_sound hti hca h1 h2
   rw [add_plain] at h3
   exact ⟨rfl, _, u, rfl, h3, h4⟩
  | dead => intro h; exact h.fail_inv.elim
  | arr _ _ _ => intro h; exact h.fail_inv.elim
  | frz _ _ _ => intro h; exact h.fail_inv.elim
 ·rename_i n g i off
  obtain ⟨f1, h⟩ := hr.getO_inv
  split at h
  case isFalse => exact h.fail_inv.elim
  rename_i hg
  revert h
  rcases hx : m.objs n with ⟨g', o⟩
  rw [hx] at hg
  simp only at hg ⊢
  subst hg
  have hO := hm.objs n
  rw [hx] at hO
  simp only [LVRel, hx] at hv
  cases o with
  | arr nil sz xs =>
   intro h
   simp only at h
   split at h
   case h_2 => exact h.fail_inv.elim
   rename_i e he
   obtain ⟨rfl, h1, h2⟩ := loadL_run h
   obtain ⟨hi, rfl⟩ := hv.2 trivial
   cases nil with
   | true => simp [ObjRel] at hO; subst hO; simp at hi
   | false =>
    simp only [ObjRel, Bool.false_eq_true, if_false] at hO
    obtain ⟨_, cs, ty, hb, hrow⟩ := hO
    obtain ⟨u, h3, h4⟩ := load_sound hti (cellsAt_row (objs := m'.objs) hb hrow he) h1 h2
    rw [add_off] at h3
    exact ⟨rfl, _, u, rfl, h3, h4⟩
  | frz nil sz xs =>
   intro h
   simp only at h
   split at h
   case h_2 => exact h.fail_inv.elim
   rename_i e he
   obtain ⟨rfl, h1, h2⟩ := loadL_run h
   obtain ⟨hi, rfl⟩ := hv.2 trivial
   cases nil with
   | true => simp [ObjRel] at hO; subst hO; simp at hi
   | false =>
    simp only [ObjRel, Bool.false_eq_true, if_false] at hO
    obtain ⟨_, cs, ty, hb, hrow⟩ := hO
    obtain ⟨u, h3, h4⟩ := load_sound hti (cellsAt_row (objs := m'.objs) hb hrow he) h1 h2
    rw [add_off] at h3
    exact ⟨rfl, _, u, rfl, h3, h4⟩
  | dead => intro h; exact h.fail_inv.elim
  | box _ => intro h; exact h.fail_inv.elim
  | fbox _ => intro h; exact h.fail_inv.elim
 ·rename_i cells off
  obtain ⟨rfl, h1, h2⟩ := loadL_run hr
  simp only [LVRel] at hv
  obtain ⟨ad', rfl⟩ : ∃ ad', v = .pointer (some ad') := by cases hv; exact ⟨_, rfl⟩
  obtain ⟨ad, rfl, hca⟩ := cellsAt_imm (objs := m'.objs) hv
  obtain ⟨u, h3, h4⟩ := load_sound hti hca h1 h2
  exact ⟨rfl, _, u, rfl, h3, h4⟩
 ·rename_i id off
  obtain ⟨f1, h⟩ := hr.getG_inv
  split at h
  case h_2 => exact h.fail_inv.elim
  rename_i cells hG
  split at h
  case isFalse => exact h.fail_inv.elim
  rename_i hcel
  obtain ⟨rfl, h1, h2⟩ := loadL_run h
  simp only [LVRel] at hv
  cases hv with
  | gp _ _ b hb =>
   obtain ⟨_, ⟨cs, ty, h5, h6, h7⟩ | ⟨f, e, _⟩⟩ := hm.glob id b cells hb hG
   case inr => subst e; simp [cellishAV] at hcel
   have hca : CellsAt gh w m'.objs ⟨b, 0, none⟩ (cells.map .v) := fun j x hx => by
    simp only [List.getElem?_map, Option.map_eq_some_iff] at hx
    obtain ⟨y, hy, rfl⟩ := hx
    obtain ⟨v, e1, e2, e3⟩ := h7 j y hy
    exact ⟨v, by rw [add_plain]; simp [World.cell?, h5, e1], e2, by simpa only [LVRel] using e3⟩
   obtain ⟨u, h3, h4⟩ := load_sound hti hca h1 h2
   rw [add_plain] at h3
   exact ⟨rfl, _, u, rfl, h3, h4⟩
 ·exact hr.fail_inv.elim
end Go.Vai
namespace Go.Vai
theorem setAt_length {α : Type} : ∀ (ys l : List α) (off : Nat), (setAt l off ys).length = l.length
 | [], l, off => rfl
 | y :: ys, l, off => by simp only [setAt]; rw [setAt_length ys]; simp
theorem setAt_get {α : Type} : ∀ (ys l : List α) (off j : Nat), off + ys.length ≤ l.length →
  (setAt l off ys)[j]? = if off ≤ j ∧ j < off + ys.length then ys[j - off]? else l[j]?
 | [], l, off, j, _ => by rw [if_neg (by simp <;> omega)]; rfl
 | y :: ys, l, off, j, h => by
  simp only [List.length_cons] at h ⊢
  simp only [setAt]
  rw [setAt_get ys _ _ _ (by simp; omega)]
  by_cases h1 : off + 1 ≤ j ∧ j < off + 1 + ys.length
  ·rw [if_pos h1, if_pos (by omega)]
   obtain ⟨k, rfl⟩ : ∃ k, j = off + 1 + k := ⟨j - (off + 1), by omega⟩
   rw [show off + 1 + k - (off + 1) = k by omega, show off + 1 + k - off = k + 1 by omega, List.getElem?_cons_succ]
  ·rw [if_neg h1]
   by_cases h2 : j = off
   ·subst h2
    rw [if_pos (by omega)]
    simp only [Nat.sub_self, List.getElem?_cons_zero]
    rw [List.getElem?_set_self (by omega)]
   ·rw [if_neg (by omega), List.getElem?_set_ne (by omega)]
def spl (cs : Array Value) (o : Nat) (vs : List Value) : Array Value := (cs.toList.take o ++ vs ++ cs.toList.drop (o + vs.length)).toArray
theorem spl_size {cs : Array Value} {o : Nat} {vs : List Value} (h : o + vs.length ≤ cs.size) : (spl cs o vs).size = cs.size := by
 simp [spl]; omega
theorem spl_get {cs : Array Value} {o : Nat} {vs : List Value} (h : o + vs.length ≤ cs.size) (j : Nat) :
  (spl cs o vs)[j]? = if o ≤ j ∧ j < o + vs.length then vs[j - o]? else cs[j]? := by
 simp only [spl, List.getElem?_toArray]
 by_cases h1 : j < o
 ·rw [if_neg (by omega), List.append_assoc, List.getElem?_append_left (by simp; omega)]
  simp [h1]
 ·by_cases h2 : j < o + vs.length
  ·rw [if_pos (by omega), List.getElem?_append_left (by simp; omega), List.getElem?_append_right (by simp; omega)]
   simp only [List.length_take, Array.length_toList]
   rw [show j - min o cs.size = j - o by omega]
  ·rw [if_neg (by omega), List.getElem?_append_right (by simp; omega)]
   simp only [List.length_append, List.length_take, Array.length_toList, List.getElem?_drop, Array.getElem?_toList]
   rw [show o + vs.length + (j - (min o cs.size + vs.length)) = j by omega]
theorem run_storeVar {P : Program} {w : World} {t : TypeId} {ti : TI} (hti : TIok P t ti) {b o : Nat} {v : Value} {cs : Array Value} {ty : TypeId} (hb : w.heap[b]? = some (.cells cs ty (0, 0)))
  (hs : v.cells.size = ti.sz) (h : o + ti.sz ≤ cs.size) (h1 : ∀ u ∈ v.cells.toList, u.oneCell' = true) :
  (storeVar t ⟨b, o, none⟩ v).run P w = .ok () (w.setRow b (spl cs o v.cells.toList)) := by
 obtain ⟨i, z, d, k1, k2, k3, k0, k4, k10, k5, k6, k7, k8, k9⟩ := hti.info
 have hst := run_storeCells_at P b o ty v.cells.toList 0 cs w hb (by simp; omega) h1
 simp only [storeVar, Sem.run_bind, run_sizeOf k1, Result.andThen_ok]
 rw [if_neg (by simp; omega), hst]
 simp [spl]
theorem capOK_setRow {w : World} {b : Nat} {cs cs' : Array Value} {ty : TypeId} {fr : Nat × Nat} (hb : w.heap[b]? = some (.cells cs ty fr)) (hs : cs'.size = cs.size) {k j : Nat} (h : capOK w k j) : capOK (w.setRow b cs') k j := by
 obtain ⟨c, t, f, h1, h2⟩ := h
 by_cases e : k = b
 ·subst e
  rw [hb] at h1
  simp only [Option.some.injEq, Go.Obj.cells.injEq] at h1
  obtain ⟨rfl, rfl, rfl⟩ := h1
  exact ⟨cs', ty, fr, setRow_heap w k cs cs' ty fr hb, by omega⟩
 ·exact ⟨c, t, f, by rw [setRow_other w b k cs' e]; exact h1, h2⟩
theorem touch_obj {gh w m n} {x : Nat × Obj} {cs cs' : Array Value} {ty : TypeId} (hm : MemRel gh w m) (hρ : gh.ρ (gh.κ n) = .loc n) (hb : w.heap[gh.κ n]? = some (.cells cs ty (0, 0))) (hs : cs'.size = cs.size)
  (hg : (m.objs n).1 = x.1) (hl : (m.objs n).2.like x.2)
  (hO : Ext gh w gh (w.setRow (gh.κ n) cs') → Keeps gh w m gh (w.setRow (gh.κ n) cs') (m.set n x) → ObjRel gh (w.setRow (gh.κ n) cs') (m.set n x).objs n x.2) :
  MemRel gh (w.setRow (gh.κ n) cs') (m.set n x) ∧ Keeps gh w m gh (w.setRow (gh.κ n) cs') (m.set n x) := by
 have hne : ∀ k, gh.ρ k ≠ .loc n → (w.setRow (gh.κ n) cs').heap[k]? = w.heap[k]? := fun k hk => setRow_other w _ k cs' (fun e => hk (e ▸ hρ))
 have he : Ext gh w gh (w.setRow (gh.κ n) cs') :=
  ⟨rfl, rfl, rfl, by simp, fun k hk => ⟨hk, hne k (by rw [hk]; simp)⟩, fun k _ hk => ⟨hk, hne k (by rw [hk]; simp)⟩, fun _ _ h => h⟩
 have hk : Keeps gh w m gh (w.setRow (gh.κ n) cs') (m.set n x) := ⟨he, fun k => by
  by_cases e : k = n
  ·subst e; rw [Mem.set_same]; exact .inr ⟨hg.symm, hl, fun _ => ⟨rfl, fun _ j h => capOK_setRow hb hs h⟩⟩
  ·rw [Mem.set_ne _ _ e]; exact .inr ⟨rfl, Obj.like_refl _, fun _ => ⟨rfl, fun _ j h => capOK_setRow hb hs h⟩⟩⟩
 refine ⟨hm.step hk (· = n) (fun b h => by simpa using hm.alloc b h) (fun k e => ?_) (fun k e => ⟨Mem.set_ne _ _ e, rfl, fun h => ⟨h, hne _ (by rw [h]; simpa using e)⟩⟩) rfl rfl (fun id b _ h => ⟨h, hne _ (by rw [h]; simp)⟩), hk⟩
 subst e; rw [Mem.set_same]; exact hO he hk
theorem cells_one {v : Value} (h : v.oneCell' = true) : v.cells = #[v] := by cases v <;> first | rfl | (simp [Value.oneCell'] at h)
theorem settle_cells {C t j x} {gh w m cs m1 f} (hr : Run C (settleL t j (cellsL x)) m cs m1 f) (hm : MemRel gh w m) {v : Value} (hv : LVRel gh w m.objs x v) :
  ∃ gh1, MemRel gh1 w m1 ∧ Keeps gh w m gh1 w m1 ∧ LVRels gh1 w m1.objs cs v.cells.toList ∧ ∀ u ∈ v.cells.toList, u.oneCell' = true := by
 obtain ⟨gh1, k1, k2, k3⟩ := settleL_sound _ hr hm
 have one : ∀ {y : LV}, cellsL x = [y] → LVRel gh w m.objs y v → LVRels gh1 w m1.objs cs v.cells.toList ∧ ∀ u ∈ v.cells.toList, u.oneCell' = true := fun {y} e hy => by
  rw [e] at k3
  have := k3 [v] (by simp only [LVRels]; exact ⟨v, [], rfl, hy, rfl⟩)
  have h1 : v.oneCell' = true := this.2 v (by simp)
  rw [cells_one h1]
  exact this
 have many : ∀ {cs0 : Array Value}, v.cells = cs0 → LVRels gh w m.objs (cellsL x) cs0.toList → LVRels gh1 w m1.objs cs v.cells.toList ∧ ∀ u ∈ v.cells.toList, u.oneCell' = true := fun {cs0} e h => by
  rw [e]; exact k3 _ h
 refine ⟨gh1, k1, k2, ?_⟩
 cases x with
 | v a =>
  simp only [LVRel] at hv
  cases a with
  | agg fs =>
   cases hv with
   | agg _ cs0 hl hrr =>
    refine many (cs0 := cs0) rfl (LVRels.of_get (by simp [cellsL, cellsOf, hl]) fun j y u hy hu => ?_)
    simp only [cellsL, cellsOf, List.getElem?_map, Option.map_eq_some_iff] at hy
    obtain ⟨z, hz, rfl⟩ := hy
    obtain ⟨hj, rfl⟩ := List.getElem?_eq_some_iff.1 hz
    simp only [Array.getElem?_toList] at hu
    obtain ⟨hj', rfl⟩ := Array.getElem?_eq_some_iff.1 hu
    simp only [LVRel]
    exact hrr j hj
  | base _ => exact one (y := .v (.base _)) rfl (by simpa only [LVRel] using hv)
  | sl _ _ _ => exact one (y := .v (.sl _ _ _)) rfl (by simpa only [LVRel] using hv)
  | tup _ => exact one (y := .v (.tup _)) rfl (by simpa only [LVRel] using hv)
  | iptr _ _ => exact one (y := .v (.iptr _ _)) rfl (by simpa only [LVRel] using hv)
  | clo _ _ => exact one (y := .v (.clo _ _)) rfl (by simpa only [LVRel] using hv)
  | gp _ _ => exact one (y := .v (.gp _ _)) rfl (by simpa only [LVRel] using hv)
  | gm _ => exact one (y := .v (.gm _)) rfl (by simpa only [LVRel] using hv)
  | mp _ => exact one (y := .v (.mp _)) rfl (by simpa only [LVRel] using hv)
 | agg fs =>
  simp only [LVRel] at hv
  obtain ⟨cs0, rfl, hv⟩ := hv
  exact many (cs0 := cs0) rfl hv
 | dead => exact one (y := .dead) rfl hv
 | own _ _ _ _ => exact one (y := .own _ _ _ _) rfl hv
 | lptr _ _ _ => exact one (y := .lptr _ _ _) rfl hv
 | eptr _ _ _ _ => exact one (y := .eptr _ _ _ _) rfl hv
 | tup _ => exact one (y := .tup _) rfl hv
 | cond _ _ => exact one (y := .cond _ _) rfl hv
theorem reify_cells {C x} {gh w m cs m1 f} (hr : Run C (reifyL (cellsL x)) m cs m1 f) (hc : cs.all cellishAV = true) (hm : MemRel gh w m) {v : Value} (hv : LVRel gh w m.objs x v) :
  ∃ gh1, MemRel gh1 w m1 ∧ Keeps gh w m gh1 w m1 ∧ Frz gh gh1 ∧ cs.length = v.cells.size ∧ (∀ (j : Nat) (y : AV) (u : Value), cs[j]? = some y → v.cells[j]? = some u → R gh1 w y u) ∧ ∀ u ∈ v.cells.toList, u.oneCell' = true := by
 obtain ⟨gh1, k1, k2, k3, k4, _⟩ := reifyL_sound _ hr hm
 refine ⟨gh1, k1, k2, k3, ?_⟩
 have fin : ∀ {cs0 : Array Value}, v.cells = cs0 → LVRels gh w m.objs (cellsL x) cs0.toList →
   cs.length = v.cells.size ∧ (∀ (j : Nat) (y : AV) (u : Value), cs[j]? = some y → v.cells[j]? = some u → R gh1 w y u) ∧ ∀ u ∈ v.cells.toList, u.oneCell' = true := fun {cs0} e h => by
  obtain ⟨e1, e2⟩ := k4 _ h
  rw [e]
  refine ⟨by simpa using e1, fun j y u hy hu => e2 j y u hy (by simpa using hu), fun u hu => ?_⟩
  obtain ⟨j, hj⟩ := List.mem_iff_getElem?.1 hu
  have hjl : j < cs.length := by rw [e1]; exact (List.getElem?_eq_some_iff.1 hj).1
  exact cellish_one (List.all_eq_true.1 hc _ (List.getElem_mem hjl)) (e2 j _ u (List.getElem?_eq_getElem hjl) hj)
 have one : ∀ {y : LV}, cellsL x = [y] → LVRel gh w m.objs y v → cs.length = v.cells.size ∧ (∀ (j : Nat) (y : AV) (u : Value), cs[j]? = some y → v.cells[j]? = some u → R gh1 w y u) ∧ ∀ u ∈ v.cells.toList, u.oneCell' = true := fun {y} e hy => by
  have hrel : LVRels gh w m.objs (cellsL x) [v] := by rw [e]; simp only [LVRels]; exact ⟨v, [], rfl, hy, rfl⟩
  obtain ⟨e1, e2⟩ := k4 _ hrel
  have h0 : (0 : Nat) < cs.length := by rw [e1]; simp
  have h1 : v.oneCell' = true := cellish_one (List.all_eq_true.1 hc _ (List.getElem_mem h0)) (e2 0 _ v (List.getElem?_eq_getElem h0) (by simp))
  exact fin (cells_one h1) hrel
 cases x with
 | v a =>
  simp only [LVRel] at hv
  cases a with
  | agg fs =>
   cases hv with
   | agg _ cs0 hl hrr =>
    refine fin (cs0 := cs0) rfl (LVRels.of_get (by simp [cellsL, cellsOf, hl]) fun j y u hy hu => ?_)
    simp only [cellsL, cellsOf, List.getElem?_map, Option.map_eq_some_iff] at hy
    obtain ⟨z, hz, rfl⟩ := hy
    obtain ⟨hj, rfl⟩ := List.getElem?_eq_some_iff.1 hz
    simp only [Array.getElem?_toList] at hu
    obtain ⟨hj', rfl⟩ := Array.getElem?_eq_some_iff.1 hu
    simp only [LVRel]
    exact hrr j hj
  | base _ => exact one (y := .v (.base _)) rfl (by simpa only [LVRel] using hv)
  | sl _ _ _ => exact one (y := .v (.sl _ _ _)) rfl (by simpa only [LVRel] using hv)
  | tup _ => exact one (y := .v (.tup _)) rfl (by simpa only [LVRel] using hv)
  | iptr _ _ => exact one (y := .v (.iptr _ _)) rfl (by simpa only [LVRel] using hv)
  | clo _ _ => exact one (y := .v (.clo _ _)) rfl (by simpa only [LVRel] using hv)
  | gp _ _ => exact one (y := .v (.gp _ _)) rfl (by simpa only [LVRel] using hv)
  | gm _ => exact one (y := .v (.gm _)) rfl (by simpa only [LVRel] using hv)
  | mp _ => exact one (y := .v (.mp _)) rfl (by simpa only [LVRel] using hv)
 | agg fs =>
  simp only [LVRel] at hv
  obtain ⟨cs0, rfl, hv⟩ := hv
  exact fin (cs0 := cs0) rfl hv
 | dead => exact one (y := .dead) rfl hv
 | own _ _ _ _ => exact one (y := .own _ _ _ _) rfl hv
 | lptr _ _ _ => exact one (y := .lptr _ _ _) rfl hv
 | eptr _ _ _ _ => exact one (y := .eptr _ _ _ _) rfl hv
 | tup _ => exact one (y := .tup _) rfl hv
 | cond _ _ => exact one (y := .cond _ _) rfl hv
theorem setCells_cells {e : AV} {off : Nat} {cs : List AV} (hc : cs.all cellishAV = true) (h : off + cs.length ≤ (cellsOf e).length) (hp : 0 < cs.length) : cellsOf (setCells e off cs) = setAt (cellsOf e) off cs := by
 have one : ∀ x : AV, cellsOf x = [x] → (cellsOf x).length = (cellsOf e).length → cellsOf e = [e] → (∀ y, setCells e off (y :: []) = y) → cellsOf (setCells e off cs) = setAt (cellsOf e) off cs := fun x _ _ he hs => by
  rw [he] at h ⊢
  simp only [List.length_singleton] at h
  obtain ⟨c, rfl⟩ : ∃ c, cs = [c] := by
   match cs, hp, h with
   | [c], _, _ => exact ⟨c, rfl⟩
   | _ :: _ :: _, _, h => simp at h; omega
  have hoff : off = 0 := by simp at h; exact h
  subst hoff
  rw [hs]
  have : cellishAV c = true := by simpa using hc
  cases c <;> first | rfl | (simp [cellishAV] at this; done)
 cases e with
 | agg fs => rfl
 | base v => exact one (.base v) rfl rfl rfl (fun _ => rfl)
 | sl a b c => exact one (.sl a b c) rfl rfl rfl (fun _ => rfl)
 | tup a => exact one (.tup a) rfl rfl rfl (fun _ => rfl)
 | iptr a b => exact one (.iptr a b) rfl rfl rfl (fun _ => rfl)
 | clo a b => exact one (.clo a b) rfl rfl rfl (fun _ => rfl)
 | gp a b => exact one (.gp a b) rfl rfl rfl (fun _ => rfl)
 | gm a => exact one (.gm a) rfl rfl rfl (fun _ => rfl)
 | mp a => exact one (.mp a) rfl rfl rfl (fun _ => rfl)
theorem setCells_length {e : AV} {off : Nat} {cs : List AV} (hc : cs.all cellishAV = true) (h : off + cs.length ≤ (cellsOf e).length) : cellsOf (setCells e off cs) = setAt (cellsOf e) off cs := by
 rcases Nat.eq_zero_or_pos cs.length with h0 | h0
 ·obtain rfl := List.eq_nil_of_length_eq_zero h0
  cases e <;> rfl
 ·exact setCells_cells hc h h0
theorem rowRel_set {gh w cs sz xs i e off ys} {vs : List Value} (hr : rowRel gh w cs sz xs) (he : xs[i]? = some e) (hc : ys.all cellishAV = true) (hoff : off + ys.length ≤ sz) (hl : ys.length = vs.length)
  (h1 : ∀ u ∈ vs, u.oneCell' = true) (hR : ∀ (j : Nat) (y : AV) (u : Value), ys[j]? = some y → vs[j]? = some u → R gh w y u) :
  rowRel gh w (spl cs (i * sz + off) vs) sz (xs.set i (setCells e off ys)) := by
 have hi : i < xs.length := (List.getElem?_eq_some_iff.1 he).1
 have hsz := hr.1
 have hmul : (i + 1) * sz ≤ xs.length * sz := Nat.mul_le_mul_right _ hi
 rw [Nat.add_mul, Nat.one_mul] at hmul
 have hfit : i * sz + off + vs.length ≤ cs.size := by omega
 have hce := setCells_length (e := e) (off := off) hc (by rw [(hr.2 i e he).1]; omega)
 refine ⟨by rw [spl_size hfit]; simpa using hsz, fun k x hx => ?_⟩
 by_cases e1 : k = i
 ·subst e1
  rw [List.getElem?_set_self hi] at hx
  simp only [Option.some.injEq] at hx
  subst hx
  rw [hce]
  obtain ⟨h2, h3⟩ := hr.2 k e he
  refine ⟨by rw [setAt_length, h2], fun j y hy => ?_⟩
  rw [setAt_get _ _ _ _ (by rw [h2]; omega)] at hy
  rw [spl_get hfit]
  split at hy
  ·rename_i hj
   rw [if_pos (by omega), show k * sz + j - (k * sz + off) = j - off by omega]
   have hjv : j - off < vs.length := by omega
   exact ⟨vs[j - off], List.getElem?_eq_getElem hjv, h1 _ (List.getElem_mem hjv), hR _ y _ hy (List.getElem?_eq_getElem hjv)⟩
  ·rename_i hj
   rw [if_neg (by omega)]
   exact h3 j y hy
 ·rw [List.getElem?_set_ne (Ne.symm e1)] at hx
  obtain ⟨h2, h3⟩ := hr.2 k x hx
  refine ⟨h2, fun j y hy => ?_⟩
  have hj : j < sz := by rw [← h2]; exact (List.getElem?_eq_some_iff.1 hy).1
  rw [spl_get hfit, if_neg ?_]
  ·exact h3 j y hy
  ·rcases Nat.lt_or_ge k i with h4 | h4
   ·have : (k + 1) * sz ≤ i * sz := Nat.mul_le_mul_right _ h4
    rw [Nat.add_mul, Nat.one_mul] at this
    omega
   ·have : (i + 1) * sz ≤ k * sz := Nat.mul_le_mul_right _ (by omega)
    rw [Nat.add_mul, Nat.one_mul] at this
    omega
theorem aStore_sound {C P t ti gh w m a x u m' f} (hti : TIok P t ti) (hr : Run C (aStore ti a x) m u m' f) (hm : MemRel gh w m) (va vx : Value) (ha : LVRel gh w m.objs a va) (hx : LVRel gh w m.objs x vx) :
  ∃ ad w' gh', va = .pointer (some ad) ∧ (storeVar t ad vx).run P w = .ok () w' ∧ MemRel gh' w' m' ∧ Keeps gh w m gh' w' m' := by
 unfold aStore at hr
 split at hr
 ·rename_i t' i' g off
  obtain ⟨cs, m1, f1, f2, h1, h2⟩ := hr.bind_inv
  obtain ⟨gh1, k1, k2, k3, k4⟩ := settle_cells h1 hm hx
  have ha := k2.lv ha
  obtain ⟨f3, h⟩ := h2.getO_inv
  split at h
  case isFalse => exact h.fail_inv.elim
  rename_i hg
  obtain ⟨hg, hlen⟩ := hg
  revert h
  rcases hxx : m1.objs (.tmp t' i') with ⟨g', o⟩
  rw [hxx] at hg
  simp only at hg ⊢
  subst hg
  have hO := k1.objs (.tmp t' i')
  rw [hxx] at hO
  simp only [LVRel, hxx] at ha
  cases o with
  | box cells =>
   intro h
   simp only at h
   split at h
   case isFalse => exact h.fail_inv.elim
   rename_i hfit
   obtain ⟨f4, h⟩ := h.setO_inv
   obtain ⟨_, rfl⟩ := h.ret_inv
   obtain rfl := ha.2 trivial
   obtain ⟨hρ, c0, ty, hb, hsz, hc⟩ := hO
   have hvl := k3.length
   have hvs : vx.cells.size = ti.sz := by rw [← hlen, ← hvl]; simp
   have hst := run_storeVar (P := P) hti hb hvs (o := off) (by omega) k4
   have hfit' : off + vx.cells.toList.length ≤ c0.size := by simp; omega
   refine ⟨_, _, gh1, rfl, hst, ?_⟩
   have := touch_obj (x := (g', .box (setAt cells off cs))) k1 hρ hb (spl_size hfit') (by rw [hxx]) (by rw [hxx]; simp [Obj.like]) (fun he hk => by
    refine ⟨hρ, spl c0 off vx.cells.toList, ty, setRow_heap w _ c0 _ ty _ hb, by rw [spl_size hfit', setAt_length]; exact hsz, fun j y hy => ?_⟩
    rw [setAt_get _ _ _ _ (by omega)] at hy
    rw [spl_get hfit']
    split at hy
    ·rename_i hj
     rw [if_pos (by rw [hvl]; exact hj)]
     obtain ⟨v, e1, e2⟩ := k3.get _ y hy
     exact ⟨v, e1, k4 v (List.mem_of_getElem? e1), hk.lv e2⟩
    ·rename_i hj
     rw [if_neg (by rw [hvl]; exact hj)]
     obtain ⟨v, e1, e2, e3⟩ := hc j y hy
     exact ⟨v, e1, e2, hk.lv e3⟩)
   exact ⟨this.1, k2.trans this.2⟩
  | fbox _ => intro h; exact h.fail_inv.elim
  | dead => intro h; exact h.fail_inv.elim
  | arr _ _ _ => intro h; exact h.fail_inv.elim
  | frz _ _ _ => intro h; exact h.fail_inv.elim
 ·rename_i n g i off
  obtain ⟨cs, m1, f1, f2, h1, h2⟩ := hr.bind_inv
  obtain ⟨f3, h⟩ := h2.getO_inv
  split at h
  case isFalse => exact h.fail_inv.elim
  rename_i hg
  obtain ⟨hg, hlen, hcell⟩ := hg
  obtain ⟨gh1, k1, k2, _, k3, k4, k5⟩ := reify_cells h1 hcell hm hx
  have ha := k2.lv ha
  revert h
  rcases hxx : m1.objs n with ⟨g', o⟩
  rw [hxx] at hg
  simp only at hg ⊢
  subst hg
  have hO := k1.objs n
  rw [hxx] at hO
  simp only [LVRel, hxx] at ha
  cases o with
  | arr nil sz xs =>
   intro h
   simp only at h
   split at h
   case h_2 => exact h.fail_inv.elim
   rename_i e he
   split at h
   case isFalse => exact h.fail_inv.elim
   rename_i hfit
   obtain ⟨f4, h⟩ := h.setO_inv
   obtain ⟨_, rfl⟩ := h.ret_inv
   obtain ⟨hi, rfl⟩ := ha.2 trivial
   cases nil with
   | true => simp [ObjRel] at hO; subst hO; simp at hi
   | false =>
    simp only [ObjRel, Bool.false_eq_true, if_false] at hO
    obtain ⟨hρ, c0, ty, hb, hrow⟩ := hO
    have hmul : (i + 1) * sz ≤ xs.length * sz := Nat.mul_le_mul_right _ hi
    rw [Nat.add_mul, Nat.one_mul] at hmul
    have hsz := hrow.1
    have hst := run_storeVar (P := P) hti hb (v := vx) (o := i * sz + off) (by omega) (by omega) k5
    have hfit' : i * sz + off + vx.cells.toList.length ≤ c0.size := by simp; omega
    refine ⟨_, _, gh1, rfl, hst, ?_⟩
    have := touch_obj (x := (g', .arr false sz (xs.set i (setCells e off cs)))) k1 hρ hb (spl_size hfit') (by rw [hxx]) (by rw [hxx]; simp [Obj.like]) (fun hE hk => by
     simp only [ObjRel, Bool.false_eq_true, if_false]
     refine ⟨hρ, spl c0 (i * sz + off) vx.cells.toList, ty, setRow_heap w _ c0 _ ty _ hb, ?_⟩
     refine (rowRel_set hrow he hcell (by omega) (by simpa using k3) k5 (fun j y v hy hv => k4 j y v hy (by simpa using hv))).keep hE)
    exact ⟨this.1, k2.trans this.2⟩
  | fbox _ => intro h; exact h.fail_inv.elim
  | dead => intro h; exact h.fail_inv.elim
  | box _ => intro h; exact h.fail_inv.elim
  | frz _ _ _ => intro h; exact h.fail_inv.elim
 ·rename_i id off
  obtain ⟨cs, m1, f1, f2, h1, h2⟩ := hr.bind_inv
  obtain ⟨f3, h⟩ := h2.getG_inv
  split at h
  case h_2 => exact h.fail_inv.elim
  rename_i cells hG
  split at h
  case isFalse => exact h.fail_inv.elim
  rename_i hfit
  obtain ⟨⟨hfit, hlen, hcell⟩, hcel⟩ := hfit
  obtain ⟨f4, h⟩ := h.setG_inv
  obtain ⟨_, rfl⟩ := h.ret_inv
  obtain ⟨gh1, k1, k2, _, k3, k4, k5⟩ := reify_cells h1 hcell hm hx
  have ha := k2.lv ha
  simp only [LVRel] at ha
  obtain ⟨b, hb, rfl⟩ : ∃ b, gh1.γ[id]? = some b ∧ va = .pointer (some ⟨b, off, none⟩) := by cases ha with | gp _ _ b hb => exact ⟨b, hb, rfl⟩
  obtain ⟨hρ, ⟨c0, ty, h5, h6, h7⟩ | ⟨f, e, _⟩⟩ := k1.glob id b cells hb hG
  case inr => subst e; simp [cellishAV] at hcel
  have hst := run_storeVar (P := P) hti h5 (v := vx) (o := off) (by omega) (by omega) k5
  have hfit' : off + vx.cells.toList.length ≤ c0.size := by simp; omega
  refine ⟨_, w.setRow b (spl c0 off vx.cells.toList), gh1, rfl, hst, ?_⟩
  have hne : ∀ k, gh1.ρ k ≠ .glob id → (w.setRow b (spl c0 off vx.cells.toList)).heap[k]? = w.heap[k]? := fun k hk => setRow_other w _ k _ (fun e => hk (e ▸ hρ))
  have he : Ext gh1 w gh1 (w.setRow b (spl c0 off vx.cells.toList)) :=
   ⟨rfl, rfl, rfl, by simp, fun k hk => ⟨hk, hne k (by rw [hk]; simp)⟩, fun k _ hk => ⟨hk, hne k (by rw [hk]; simp)⟩, fun _ _ h => h⟩
  have hk : Keeps gh1 w m1 gh1 (w.setRow b (spl c0 off vx.cells.toList)) { m1 with G := m1.G.set id (setAt cells off cs) } := ⟨he, fun k =>
   .inr ⟨rfl, Obj.like_refl _, fun _ => ⟨rfl, fun _ j h => capOK_setRow h5 (spl_size hfit') h⟩⟩⟩
  refine ⟨⟨fun b h => by simpa using k1.alloc b h, fun n => ?_, by simpa using k1.glen, fun id' b' cells' e1 e2 => ?_⟩, k2.trans hk⟩
  ·exact ObjRel.keep hk rfl (fun h => ⟨h, hne _ (by rw [h]; simp)⟩) (k1.objs n)
  ·by_cases e : id' = id
   ·subst e
    rw [hb] at e1
    simp only [Option.some.injEq] at e1
    subst e1
    have hidl : id' < m1.G.length := (List.getElem?_eq_some_iff.1 hG).1
    rw [List.getElem?_set_self hidl] at e2
    simp only [Option.some.injEq] at e2
    subst e2
    refine ⟨hρ, .inl ⟨_, ty, setRow_heap w _ c0 _ ty _ h5, by rw [spl_size hfit', setAt_length]; exact h6, fun j y hy => ?_⟩⟩
    rw [setAt_get _ _ _ _ (by omega)] at hy
    rw [spl_get hfit']
    split at hy
    ·rename_i hj
     rw [if_pos (by simp; omega)]
     have hjv : j - off < vx.cells.toList.length := by simp; omega
     exact ⟨vx.cells.toList[j - off], List.getElem?_eq_getElem hjv, k5 _ (List.getElem_mem hjv), (k4 _ y _ hy (by simp)).mono he⟩
    ·rename_i hj
     rw [if_neg (by simp; omega)]
     obtain ⟨v, e3, e4, e5⟩ := h7 j y hy
     exact ⟨v, e3, e4, e5.mono he⟩
   ·rw [List.getElem?_set_ne (Ne.symm e)] at e2
    obtain ⟨e3, e4⟩ := k1.glob id' b' cells' e1 e2
    exact ⟨e3, e4.mono (hne b' (by rw [e3]; simpa using e)) fun _ _ h => h.mono he⟩
 ·exact hr.fail_inv.elim
end Go.Vai
namespace Go.Vai
def OpsTo (P : Program) (o : Oper) (a : Act) (w : World) (K : Value → World → Prop) : Prop :=
 ∀ (next : Act → World → Prop) (Q : Exit → Act → World → Prop), (∀ v w', K v w' → next (a.put o.dst v) w') → o.wp P a w next Q
theorem OpsTo.val {P o a w K v w'} (h : (execOp a.eval o).run P w = .ok (.value v) w') (hK : K v w') : OpsTo P o a w K := fun next Q hn => by
 unfold Oper.wp; rw [h]; exact hn v w' hK
theorem OpsTo.skip {P o a w K w'} (h : (execOp a.eval o).run P w = .ok .skip w') (hK : K undef w') : OpsTo P o a w K := fun next Q hn => by
 unfold Oper.wp; rw [h]; exact hn undef w' hK
theorem OpsTo.call {P o a w K f args w'} (h : (execOp a.eval o).run P w = .ok (.enter f args) w') (hc : Calls P f args w' fun e w'' => ∃ v, e = .returned v ∧ K v w'') : OpsTo P o a w K := fun next Q hn => by
 unfold Oper.wp; rw [h]
 refine hc.mono fun e w'' ⟨v, he, hK⟩ => ?_
 subst he
 exact hn v w'' hK
def Post (gh : Gh) (w : World) (m m' : Mem) (lv : LV) (v : Value) (w' : World) : Prop :=
 ∃ gh', Keeps gh w m gh' w' m' ∧ MemRel gh' w' m' ∧ LVRel gh' w' m'.objs lv v
theorem Post.same {gh w m lv v} (hm : MemRel gh w m) (h : LVRel gh w m.objs lv v) : Post gh w m m lv v w := ⟨gh, Keeps.refl _ _ _, hm, h⟩
theorem opn_rel {gh w objs v} : ∀ (x : LV), LVRel gh w objs x v → LVRel gh w objs (opn x) v
 | .cond c x, h => by
  simp only [LVRel] at h
  simp only [opn]
  split
  ·exact opn_rel x (h.1 ‹_›)
  ·simp [LVRel]
 | .dead, h => h
 | .v _, h => h
 | .own _ _ _ _, h => h
 | .lptr _ _ _, h => h
 | .eptr _ _ _ _, h => h
 | .agg _, h => h
 | .tup _, h => h
theorem R_ofCell (gh : Gh) (w : World) (v : Value) : R gh w (ofCell v) v := by
 unfold ofCell
 split
 ·exact .nilsl 0
 ·exact .base v
theorem R_ofCellS (gh : Gh) (w : World) (s : Nat) (v : Value) : R gh w (ofCellS s v) v := by
 unfold ofCellS
 split
 ·exact .nilsl s
 ·exact .base v
theorem R_ofConst (gh : Gh) (w : World) (v : Value) : R gh w (ofConst v) v := by
 unfold ofConst
 split
 ·rename_i cs
  exact .agg _ _ (by simp) fun j hj => by simpa using R_ofCell gh w _
 ·exact R_ofCell gh w v
theorem raw_rel {gh σ a w} (hs : Sim gh σ a w) (x : Operand) : LVRel gh w σ.mem.objs (σ.raw x) (a.eval x) := by
 cases x with
 | tmp t => exact hs.slots t
 | const v => simp only [St.raw, Act.eval, LVRel]; exact R_ofConst gh w v
 | global g => simp [St.raw, LVRel]
 | func f => simp only [St.raw, Act.eval, LVRel]; exact .clo f [] #[] rfl (by simp)
theorem add_add (a : Addr) (m n : Nat) : (a.add m).add n = a.add (m + n) := by
 unfold Addr.add
 by_cases h : m = 0
 ·simp [h]
 ·simp only [h, if_false]
  by_cases h' : n = 0
  ·simp [h', h]
  ·simp [h', h, Nat.add_assoc]
theorem add_zero (a : Addr) : a.add 0 = a := by simp [Addr.add]
theorem aFieldAddr_sound {C gh w m off x lv m' f} (hr : Run C (aFieldAddr off x) m lv m' f) (v : Value) (hv : LVRel gh w m.objs x v) :
  m' = m ∧ ∃ ad, v = .pointer (some ad) ∧ LVRel gh w m.objs lv (.pointer (some (ad.add off))) := by
 unfold aFieldAddr at hr
 split at hr
 ·obtain ⟨f1, h⟩ := hr.getO_inv
  split at h
  case isFalse => exact h.fail_inv.elim
  rename_i n g o hg
  obtain ⟨rfl, rfl⟩ := h.ret_inv
  refine ⟨rfl, ?_⟩
  obtain ⟨hg1, hg2⟩ := hg
  simp only [LVRel] at hv ⊢
  have h2 := hv.2 hg1
  revert h2 hg2
  generalize (m'.objs n).2 = o'
  cases o' <;> intro hg2 h2 <;> first
   | (simp [Obj.isBox] at hg2; done)
   | (obtain rfl := h2; exact ⟨_, rfl, hv.1, fun _ => by rw [add_off]⟩)
 ·obtain ⟨f1, h⟩ := hr.getO_inv
  split at h
  case isFalse => exact h.fail_inv.elim
  rename_i n g i o hg
  obtain ⟨rfl, rfl⟩ := h.ret_inv
  refine ⟨rfl, ?_⟩
  obtain ⟨hg1, hg2⟩ := hg
  simp only [LVRel] at hv ⊢
  have h2 := hv.2 hg1
  revert h2 hg2
  generalize (m'.objs n).2 = o'
  cases o' <;> intro hg2 h2 <;> first
   | (simp [Obj.isArr] at hg2; done)
   | (obtain ⟨hi, rfl⟩ := h2; exact ⟨_, rfl, hv.1, fun _ => ⟨hi, by rw [add_off, Nat.add_assoc]⟩⟩)
 ·rename_i cells o
  obtain ⟨rfl, rfl⟩ := hr.ret_inv
  refine ⟨rfl, ?_⟩
  simp only [LVRel] at hv ⊢
  cases hv with
  | iptr _ _ ad fn hI hc ho hr =>
   exact ⟨_, rfl, by rw [add_add]; exact .iptr cells _ ad fn hI hc ho hr⟩
 ·rename_i id o
  obtain ⟨rfl, rfl⟩ := hr.ret_inv
  refine ⟨rfl, ?_⟩
  simp only [LVRel] at hv ⊢
  cases hv with
  | gp _ _ b hb => exact ⟨_, rfl, by rw [add_off]; exact .gp id _ b hb⟩
 ·exact hr.fail_inv.elim
theorem fieldOf_ok {P t f off sz} (h : fieldOf P t f = some (off, sz)) : ∃ fs fd i, P.underlying t = some (.struct fs) ∧ fs[f]? = some fd ∧ P.info? fd.type = some i ∧ i.size = sz ∧ sz ≠ 0 ∧ fd.offset = off := by
 unfold fieldOf at h
 split at h
 ·rename_i fs h1
  split at h
  ·rename_i fd h2
   split at h
   ·rename_i i h3
    split at h
    ·cases h
    ·rename_i h4
     simp only [Option.some.injEq, Prod.mk.injEq] at h
     exact ⟨fs, fd, i, h1, h2, h3, h.2, h.2 ▸ h4, h.1⟩
   ·cases h
  ·cases h
 ·cases h
theorem run_fieldAt {P : Program} {w : World} {t f off sz} {ad : Addr} (h : fieldOf P t f = some (off, sz)) : (Instr.fieldAt t (.pointer (some ad)) f).run P w = .ok (.pointer (some (ad.add off))) w := by
 obtain ⟨fs, fd, i, h1, h2, h3, h4, h5, h6⟩ := fieldOf_ok h
 simp [Instr.fieldAt, run_und h1, h2, Instr.sureAddr, fieldPlace, run_sizeOf h3, h4, h5, h6]
theorem elem_iptr {gh w sz xs ad cap} {i : Nat} {e : AV} (h : R gh w (.sl sz false xs) (.slice (some ad) xs.length cap)) (he : xs[i]? = some e) : R gh w (.iptr (cellsOf e) 0) (.pointer (some (ad.add (i * sz)))) := by
 cases h with
 | sl _ _ _ _ f hI hcap hsz hc ho hr =>
  obtain ⟨hi, rfl⟩ := List.getElem?_eq_some_iff.1 he
  have hne : xs ≠ [] := by intro e; subst e; simp at hi
  have := R.iptr (gh := gh) (w := w) (cellsOf xs[i]) 0 (ad.add (i * sz)) (f i) (fun _ => by rw [add_block]; exact hI hne) (fun j hj => by rw [add_add]; exact hc i j hi (by rw [hsz i hi] at hj; exact hj))
   (fun j hj => ho i j hi (by rw [hsz i hi] at hj; exact hj)) (fun j hj => hr i j hi hj)
  rwa [add_zero] at this
theorem aIndex_sound {C P e ti gh w m i x lv m' f} (hti : TIok P e ti) (hr : Run C (aIndex ti.sz i x) m lv m' f) (hm : MemRel gh w m) (v : Value) (hv : LVRel gh w m.objs x v) {t : TypeId} (ht : P.underlying t = some (.slice e)) {k : IntKind} :
  m' = m ∧ ∃ u, (Instr.indexAt t v (.int k i)).run P w = .ok u w ∧ LVRel gh w m.objs lv u := by
 obtain ⟨inf, z, d, k1, k2, k3, k0, k4, k10, k5, k6, k7, k8, k9⟩ := hti.info
 have run : ∀ {ad : Addr} {len cap : Nat}, 0 ≤ i → i < len → (Instr.indexAt t (.slice (some ad) len cap) (.int k i)).run P w = .ok (.pointer (some (ad.add (i.toNat * ti.sz)))) w := fun {ad len cap} h0 h1 => by
  simp [Instr.indexAt, asIntOf, run_und ht, h0, h1, run_sizeOf k1, k5]
 unfold aIndex at hr
 split at hr
 ·rename_i n g lo hi
  split at hr
  case isFalse => exact hr.fail_inv.elim
  rename_i hb
  obtain ⟨f1, h⟩ := hr.getO_inv
  split at h
  case isFalse => exact h.fail_inv.elim
  rename_i hg
  revert h
  rcases hx : m.objs n with ⟨g', o⟩
  rw [hx] at hg
  simp only at hg ⊢
  subst hg
  have hO := hm.objs n
  rw [hx] at hO
  simp only [LVRel, hx] at hv
  have fin : ∀ {nil : Bool} {xs : List AV}, ownRel w (gh.κ n) nil ti.sz xs.length lo hi v → (nil = true → xs = []) →
    ∃ u, (Instr.indexAt t v (.int k i)).run P w = .ok u w ∧ lo + i.toNat < xs.length ∧ u = .pointer (some ⟨gh.κ n, (lo + i.toNat) * ti.sz + 0, none⟩) := fun {nil xs} ho hn => by
   obtain ⟨h1, h2, h3⟩ := ho
   cases nil with
   | true => have := hn rfl; subst this; simp at h2; omega
   | false =>
    simp only [Bool.false_eq_true, if_false] at h3
    obtain ⟨off, cap, rfl, h4, _⟩ := h3
    refine ⟨_, run hb.1 (by omega), by omega, ?_⟩
    rw [add_off, h4 (.inr (by omega)), Nat.add_mul, Nat.add_zero]
  cases o with
  | arr nil s xs =>
   intro h
   simp only at h
   split at h
   case isFalse => exact h.fail_inv.elim
   rename_i hs
   subst hs
   obtain ⟨rfl, rfl⟩ := h.ret_inv
   obtain ⟨u, h1, h2, h3⟩ := fin (hv.2 trivial) (fun e => by subst e; simpa [ObjRel] using hO)
   exact ⟨rfl, u, h1, by simp only [LVRel, hx]; exact ⟨Nat.le_refl _, fun _ => ⟨h2, h3⟩⟩⟩
  | frz nil s xs =>
   intro h
   simp only at h
   split at h
   case isFalse => exact h.fail_inv.elim
   rename_i hs
   subst hs
   obtain ⟨rfl, rfl⟩ := h.ret_inv
   obtain ⟨u, h1, h2, h3⟩ := fin (hv.2 trivial) (fun e => by subst e; simpa [ObjRel] using hO)
   exact ⟨rfl, u, h1, by simp only [LVRel, hx]; exact ⟨Nat.le_refl _, fun _ => ⟨h2, h3⟩⟩⟩
  | dead => intro h; exact h.fail_inv.elim
  | box _ => intro h; exact h.fail_inv.elim
  | fbox _ => intro h; exact h.fail_inv.elim
 ·rename_i s nil xs
  split at hr
  case isFalse => exact hr.fail_inv.elim
  rename_i hb
  obtain ⟨h0, rfl⟩ := hb
  split at hr
  case h_2 => exact hr.fail_inv.elim
  rename_i e' he
  obtain ⟨rfl, rfl⟩ := hr.ret_inv
  refine ⟨rfl, ?_⟩
  simp only [LVRel] at hv ⊢
  have hi := (List.getElem?_eq_some_iff.1 he).1
  cases hv with
  | nilsl => simp at hi
  | sl _ _ ad cap fn hI hcap hsz hc ho hr =>
   exact ⟨_, run h0 (by omega), elem_iptr (.sl _ _ ad cap fn hI hcap hsz hc ho hr) he⟩
 ·exact hr.fail_inv.elim
theorem run_sliceBound {P : Program} {w : World} {k : IntKind} {i : Int} {y : Nat} {c : BoundsCode} (h0 : 0 ≤ i) (h1 : i ≤ y) : (Instr.sliceBound (.int k i) y c).run P w = .ok i.toNat w := by
 simp [Instr.sliceBound, asIntOf, h0, h1]
def bndRel (o : Option Int) (v : Option Value) : Prop :=
 match o, v with
 | none, none => True
 | some i, some v => ∃ k, v = .int k i
 | _, _ => False
theorem run_sliceBounds {P : Program} {w : World} {isS : Bool} {len cap : Nat} {lo hi mx : Option Int} {vl vh vm : Option Value} (hl : bndRel lo vl) (hh : bndRel hi vh) (hmx : bndRel mx vm)
  (h : 0 ≤ lo.getD 0 ∧ lo.getD 0 ≤ hi.getD len ∧ hi.getD len ≤ mx.getD cap ∧ mx.getD cap ≤ cap ∧ (mx.isSome = true → hi.isSome = true)) :
  (Instr.sliceBounds isS len cap vl vh vm).run P w = .ok ((lo.getD 0).toNat, (hi.getD len).toNat, (mx.getD cap).toNat) w := by
 obtain ⟨h1, h2, h3, h4, h5⟩ := h
 unfold Instr.sliceBounds
 cases mx with
 | none =>
  cases vm with
  | some _ => exact hmx.elim
  | none =>
   simp only [Option.getD_none] at h3 h4 ⊢
   cases hi with
   | none =>
    cases vh with
    | some _ => exact hh.elim
    | none =>
     cases lo with
     | none => cases vl with | some _ => exact hl.elim | none => simp
     | some l =>
      cases vl with
      | none => exact hl.elim
      | some v => obtain ⟨k, rfl⟩ := hl; simp only [Option.getD_some, Option.getD_none] at h1 h2 ⊢; simp [run_sliceBound h1 h2]
   | some hv =>
    cases vh with
    | none => exact hh.elim
    | some v =>
     obtain ⟨k, rfl⟩ := hh
     simp only [Option.getD_some] at h2 h3 ⊢
     have e1 : (Instr.sliceBound (.int k hv) cap (if isS = true then BoundsCode.sliceAcap else .sliceAlen)).run P w = .ok hv.toNat w := run_sliceBound (by omega) h3
     cases lo with
     | none => cases vl with | some _ => exact hl.elim | none => simp [e1]
     | some l =>
      cases vl with
      | none => exact hl.elim
      | some v' => obtain ⟨k', rfl⟩ := hl; simp only [Option.getD_some] at h1 h2 ⊢; have e2 : (Instr.sliceBound (.int k' l) hv.toNat .sliceB).run P w = .ok l.toNat w := run_sliceBound h1 (by omega); simp [e1, e2]
 | some m =>
  cases vm with
  | none => exact hmx.elim
  | some v =>
   obtain ⟨k0, rfl⟩ := hmx
   simp only [Option.getD_some] at h3 h4 ⊢
   cases hi with
   | none => simp at h5
   | some hv =>
    cases vh with
    | none => exact hh.elim
    | some v =>
     obtain ⟨k, rfl⟩ := hh
     simp only [Option.getD_some] at h2 h3 ⊢
     have e0 : (Instr.sliceBound (.int k0 m) cap (if isS = true then BoundsCode.slice3Acap else .slice3Alen)).run P w = .ok m.toNat w := run_sliceBound (by omega) h4
     have e1 : (Instr.sliceBound (.int k hv) m.toNat .slice3B).run P w = .ok hv.toNat w := run_sliceBound (by omega) (by omega)
     cases lo with
     | none => cases vl with | some _ => exact hl.elim | none => simp [e0, e1]
     | some l =>
      cases vl with
      | none => exact hl.elim
      | some v' => obtain ⟨k', rfl⟩ := hl; simp only [Option.getD_some] at h1 h2 ⊢; have e2 : (Instr.sliceBound (.int k' l) hv.toNat .slice3C).run P w = .ok l.toNat w := run_sliceBound h1 (by omega); simp [e0, e1, e2]
theorem aBounds_ok {len lo hi mx l h} (hb : aBounds len lo hi mx = some (l, h)) :
  0 ≤ lo.getD 0 ∧ lo.getD 0 ≤ hi.getD len ∧ hi.getD len ≤ mx.getD len ∧ mx.getD len ≤ len ∧ (mx.isSome = true → hi.isSome = true) ∧ l = (lo.getD 0).toNat ∧ h = (hi.getD len).toNat := by
 unfold aBounds at hb
 simp only at hb
 split at hb
 ·rename_i h'
  simp only [Option.some.injEq, Prod.mk.injEq] at hb
  exact ⟨h'.1, h'.2.1, h'.2.2.1, h'.2.2.2.1, h'.2.2.2.2, hb.1.symm, hb.2.symm⟩
 ·cases hb
theorem sub_R {gh w sz nil xs v} {e : TypeId} {P : Program} {t : TypeId} {inf : TypeInfo} {lo hi mx : Option Int} {vl vh vm : Option Value} {l h : Nat} (hR : R gh w (.sl sz nil xs) v) (ht : P.underlying t = some (.slice e)) (hi' : P.info? e = some inf)
  (hs : sz = inf.size ∨ xs = []) (hl : bndRel lo vl) (hh : bndRel hi vh) (hmx : bndRel mx vm) (hb : aBounds xs.length lo hi mx = some (l, h)) :
  ∃ u, (Instr.slice t v vl vh vm).run P w = .ok u w ∧ R gh w (.sl sz nil (sub xs l h)) u := by
 obtain ⟨h1, h2, h3, h4, h5, rfl, rfl⟩ := aBounds_ok hb
 cases hR with
 | nilsl =>
  simp only [List.length_nil] at h2 h3 h4 ⊢
  have e := run_sliceBounds (P := P) (w := w) (isS := true) (len := 0) (cap := 0) hl hh hmx ⟨h1, h2, h3, h4, h5⟩
  refine ⟨.slice none 0 0, ?_, by rw [sub_nil]; exact .nilsl _⟩
  simp only [Instr.slice, Sem.run_bind, run_und ht, Result.andThen_ok, e, run_sizeOf hi', Sem.run_pure]
  have : ∀ x : Nat, (if (mx.getD (0 : Nat)).toNat = x then (none : Option Addr) else none) = none := fun x => by split <;> rfl
  simp only [Option.map_none, this]
  have e1 : (hi.getD ((0 : Nat) : Int)).toNat = 0 := by omega
  have e2 : (mx.getD ((0 : Nat) : Int)).toNat = 0 := by omega
  rw [e1, e2]; simp
 | sl _ _ ad cap fn hI hcap hsz hc ho hr =>
  have hmxc : mx.getD (cap : Int) ≤ cap ∧ hi.getD (xs.length : Int) ≤ mx.getD (cap : Int) := by
   cases mx with
   | none => simp only [Option.getD_none] at h3 ⊢; omega
   | some m => simp only [Option.getD_some] at h3 h4 ⊢; omega
  have e := run_sliceBounds (P := P) (w := w) (isS := true) (len := xs.length) (cap := cap) hl hh hmx ⟨h1, h2, hmxc.2, hmxc.1, h5⟩
  refine ⟨_, (by simp only [Instr.slice, Sem.run_bind, run_und ht, Result.andThen_ok, e, run_sizeOf hi', Sem.run_pure]; rfl), ?_⟩
  have hlen : (sub xs (lo.getD 0).toNat (hi.getD (xs.length : Int)).toNat).length = (hi.getD (xs.length : Int)).toNat - (lo.getD 0).toNat := sub_length (by omega)
  have hgl : ∀ i (h : i < (sub xs (lo.getD 0).toNat (hi.getD (xs.length : Int)).toNat).length), ∃ (h' : (lo.getD 0).toNat + i < xs.length), (sub xs (lo.getD 0).toNat (hi.getD (xs.length : Int)).toNat)[i] = xs[(lo.getD 0).toNat + i] := fun i h => by
   have := sub_get (xs := xs) (lo := (lo.getD 0).toNat) (hi := (hi.getD (xs.length : Int)).toNat) (i := i) (by omega)
   rw [List.getElem?_eq_getElem h] at this
   obtain ⟨h', e⟩ := List.getElem?_eq_some_iff.1 this.symm
   exact ⟨h', e.symm⟩
  have ead : (if (mx.getD (cap : Int)).toNat = (lo.getD 0).toNat then some ad else Option.map (fun x => x.add ((lo.getD 0).toNat * inf.size)) (some ad)) =
    some (if (mx.getD (cap : Int)).toNat = (lo.getD 0).toNat then ad else ad.add ((lo.getD 0).toNat * inf.size)) := by split <;> rfl
  rw [ead, ← hlen]
  have hpos : ∀ i, i < (sub xs (lo.getD 0).toNat (hi.getD (xs.length : Int)).toNat).length → ¬ (mx.getD (cap : Int)).toNat = (lo.getD 0).toNat ∧ sz = inf.size := fun i hi => by
   refine ⟨by omega, hs.resolve_right fun hx => ?_⟩
   subst hx; simp only [sub_nil, List.length_nil] at hi; omega
  refine R.sl sz _ _ _ (fun i j => fn ((lo.getD 0).toNat + i) j) (fun hne => ?_) (by omega) (fun i h => ?_) (fun i j h hj => ?_) (fun i j h hj => ?_) (fun i j h hj => ?_)
  ·have hpos' : 0 < (sub xs (lo.getD 0).toNat (hi.getD (xs.length : Int)).toNat).length := List.length_pos_iff.2 hne
   have hxs : xs ≠ [] := by intro e; subst e; simp [sub_nil] at hne
   split
   ·exact hI hxs
   ·rw [add_block]; exact hI hxs
  ·obtain ⟨h', e⟩ := hgl i h; rw [e]; exact hsz _ h'
  ·obtain ⟨h', _⟩ := hgl i h
   obtain ⟨q1, q2⟩ := hpos i h
   rw [if_neg q1, add_add, ← q2, ← Nat.add_assoc, ← Nat.add_mul]
   exact hc _ j h' hj
  ·obtain ⟨h', _⟩ := hgl i h; exact ho _ j h' hj
  ·obtain ⟨h', e⟩ := hgl i h
   revert hj
   simp only [e]
   intro hj
   exact hr _ j h' hj
theorem run_sliceAt {P : Program} {t e : TypeId} (ht : P.underlying t = some (.slice e)) (w : World) (x : Value) (vl vh vm : Option Value) : (Instr.sliceAt t x vl vh vm).run P w = (Instr.slice t x vl vh vm).run P w := by
 simp [Instr.sliceAt, run_und ht]
theorem run_sliceAt_str {P : Program} {t : TypeId} (ht : P.underlying t = some .string) (w : World) (x : Value) (vl vh vm : Option Value) : (Instr.sliceAt t x vl vh vm).run P w = (Instr.slice t x vl vh vm).run P w := by
 simp [Instr.sliceAt, run_und ht]
end Go.Vai
