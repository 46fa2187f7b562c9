/- A part of the proofs of this seat: the relation between plain data with named rows and the memory; loads, addresses, slices, builds. It has no conditions. -/
import Derived.RangeFuncIn
import Derived.OrdersIn
import Derived.Laws.OwnMore
import Derived.Laws.CopyOwn
import Derived.Laws.Entries
import Derived.Laws.Slices
import Derived.Laws.Tables
set_option linter.unusedVariables false
set_option linter.unusedSimpArgs false
namespace Go.Sk
open Go
inductive Dat where
  | bool (b : Bool)
  | int (k : IntKind) (n : Int)
  | str (s : ByteArray)
  | sl (sz : Nat) (els : List (List Dat))
inductive AVal where
  | dat (d : Dat)
  | slice (r g off len : Nat)
  | ptr (r g i k : Nat)
  | pdat (cells : List Dat) (k : Nat)
  | raw (v : Value)
  | agg (vs : List AVal)
  | tup (vs : List AVal)
  | fn (f : FuncId) (bs caps : List AVal)
  | map (r : Nat)
  | yld (r : Nat)
  | iface (t : TypeId) (v : AVal)
  | nilS
  | undef
inductive AObj where
  | row (g : Nat) (e : TypeId) (els : List (List AVal))
  | map (es : List (AVal × AVal))
  | loop (st : LoopState) (pend : Option Code) (N : Nat) (E : List (Nat × AVal)) (ps : Array Tmp) (asg body : Code)
  | glob (g : Nat) (cells : List Dat)
def AObj.gen : AObj → Nat
  | .row g _ _ => g
  | .map _ => 0
  | .loop .. => 0
  | .glob .. => 0
def sc : AVal → Bool
  | .agg _ | .tup _ | .undef => false
  | _ => true
def aget {α : Type} : List (Nat × α) → Nat → Option α
  | [], _ => none
  | (k, v) :: l, t => if k = t then some v else aget l t
def aset {α : Type} : List (Nat × α) → Nat → α → List (Nat × α)
  | [], t, v => [(t, v)]
  | (k, x) :: l, t, v => if k = t then (t, v) :: l else (k, x) :: aset l t v
theorem aget_aset {α : Type} (l : List (Nat × α)) (t : Nat) (v : α) (u : Nat) : aget (aset l t v) u = if t = u then some v else aget l u := by
  induction l with
  | nil => simp [aset, aget]
  | cons p l ih =>
    obtain ⟨k, x⟩ := p
    simp only [aset]
    by_cases hk : k = t
    · subst hk
      simp only [if_true, aget]
      by_cases hu : k = u <;> simp [hu]
    · simp only [if_neg hk, aget, ih]
      by_cases hu : k = u
      · subst hu; simp [Ne.symm hk]
      · simp [hu]
inductive DRel (w : World) (own : Nat → Prop) : Dat → Value → Prop
  | bool (b : Bool) : DRel w own (.bool b) (.bool b)
  | int (k : IntKind) (n : Int) : DRel w own (.int k n) (.int k n)
  | str (s : ByteArray) : DRel w own (.str s) (.string s)
  | nil (sz : Nat) : DRel w own (.sl sz []) (.slice none 0 0)
  | sl (els : List (List Dat)) (sz cap : Nat) (a : Addr) (cv : Nat → Value)
      (hsz : ∀ el ∈ els, el.length = sz) (hcap : els.length ≤ cap) (hm : cap ≤ maxLen)
      (hc : ∀ j d, els.flatten[j]? = some d → ¬ own a.block ∧ w.cell? (a.add j) = some (cv j))
      (hd : ∀ j d, els.flatten[j]? = some d → DRel w own d (cv j)) : DRel w own (.sl sz els) (.slice (some a) els.length cap)
inductive CLoc where
  | row (v : Value) (e : TypeId) (sz : Nat)
  | map (b : Nat)
  | loop (b : Nat)
  | glob (g : Nat)
def CLoc.blk : CLoc → Option Nat
  | .row v _ _ => v.ownBlock
  | .map b => some b
  | .loop b => some b
  | .glob _ => none
def CLoc.isRow : CLoc → Bool
  | .row .. => true
  | .map _ => false
  | .loop _ => false
  | .glob _ => false
structure Rho where
  m : Nat → Option (Nat × CLoc)
  ext : Nat → Prop
def ownM (ρ : Rho) (b : Nat) : Prop := ∃ r g l, ρ.m r = some (g, l) ∧ l.blk = some b
def own (ρ : Rho) (b : Nat) : Prop := ownM ρ b ∨ ρ.ext b
def SlRel (v0 : Value) (sz off len : Nat) (a : Option Addr) (n c : Nat) : Prop :=
  n = len ∧ match v0 with
    | .slice none _ _ => a = none ∧ off = 0 ∧ len = 0 ∧ c = 0
    | .slice (some a0) n0 cap => off + len ≤ n0 ∧ c = cap - off ∧ ∃ x, a = some x ∧ (off < cap ∨ off = 0 → x = ⟨a0.block, off * sz, none⟩)
    | _ => False
inductive VRel (w : World) (ρ : Rho) : AVal → Value → Prop
  | undef (v : Value) : VRel w ρ .undef v
  | dat {d : Dat} {v : Value} (h : DRel w (own ρ) d v) : VRel w ρ (.dat d) v
  | slice {r g off len n c g0 sz : Nat} {a : Option Addr} {v0 : Value} {e : TypeId} (hr : ρ.m r = some (g0, .row v0 e sz)) (hg : g ≤ g0)
      (h : g = g0 → SlRel v0 sz off len a n c) : VRel w ρ (.slice r g off len) (.slice a n c)
  | ptr {r g i k g0 sz : Nat} {a : Addr} {v0 : Value} {e : TypeId} (hr : ρ.m r = some (g0, .row v0 e sz)) (hg : g ≤ g0)
      (h : g = g0 → ∃ b n cap, v0 = .slice (some ⟨b, 0, none⟩) n cap ∧ a = ⟨b, i * sz + k, none⟩) : VRel w ρ (.ptr r g i k) (.pointer (some a))
  | pdat {cells : List Dat} {k : Nat} {a : Addr} {cv : Nat → Value}
      (hc : ∀ j d, cells[j]? = some d → ¬ own ρ a.block ∧ w.cell? (a.add j) = some (cv j))
      (hd : ∀ j d, cells[j]? = some d → DRel w (own ρ) d (cv j)) : VRel w ρ (.pdat cells k) (.pointer (some (a.add k)))
  | raw {v : Value} (h : v.oneCell' = true) : VRel w ρ (.raw v) v
  | nilS : VRel w ρ .nilS (.slice none 0 0)
  | agg {vs : List AVal} {cells : Array Value} (hs : cells.size = vs.length) (h : ∀ i v, vs[i]? = some v → VRel w ρ v (cells.getD i undef)) : VRel w ρ (.agg vs) (.agg cells)
  | tup {vs : List AVal} {cells : Array Value} (hs : cells.size = vs.length) (h : ∀ i v, vs[i]? = some v → VRel w ρ v (cells.getD i undef)) : VRel w ρ (.tup vs) (.tuple cells)
  | fn {f : FuncId} {bs vs : List AVal} {c0 cells : Array Value} (hs0 : c0.size = bs.length) (h0 : ∀ i v, bs[i]? = some v → VRel w ρ v (c0.getD i undef)) (hs : cells.size = vs.length) (h : ∀ i v, vs[i]? = some v → VRel w ρ v (cells.getD i undef)) :
      VRel w ρ (.fn f bs vs) (.func (.func f) c0 cells)
  | map {r g b : Nat} (hr : ρ.m r = some (g, .map b)) : VRel w ρ (.map r) (.map (some b))
  | yld {r g b : Nat} (hr : ρ.m r = some (g, .loop b)) : VRel w ρ (.yld r) (.func (.yield b) #[] #[])
  | iface {t : TypeId} {v : AVal} {c : Value} (h : VRel w ρ v c) : VRel w ρ (.iface t v) (.iface t c)
theorem DRel.one {w : World} {o : Nat → Prop} {d : Dat} {v : Value} (h : DRel w o d v) : v.oneCell' = true := by cases h <;> rfl
theorem VRel.one {w : World} {ρ : Rho} {v : AVal} {c : Value} (h : VRel w ρ v c) (hs : sc v = true) : c.oneCell' = true := by
  cases h with
  | undef => simp [sc] at hs
  | dat h => exact h.one
  | raw h => exact h
  | agg => simp [sc] at hs
  | tup => simp [sc] at hs
  | _ => rfl
def LocLe (x y : Nat × CLoc) : Prop := x.1 ≤ y.1 ∧ (x.1 = y.1 → y.2 = x.2) ∧ y.2.isRow = x.2.isRow ∧ (x.2.isRow = false → y = x)
theorem LocLe.refl (x : Nat × CLoc) : LocLe x x := ⟨Nat.le_refl _, fun _ => rfl, rfl, fun _ => rfl⟩
theorem LocLe.trans {x y z : Nat × CLoc} (h : LocLe x y) (h' : LocLe y z) : LocLe x z :=
  ⟨Nat.le_trans h.1 h'.1, fun e => by
    have h1 := h.1; have h2 := h'.1
    have e1 : x.1 = y.1 := by omega
    have e2 : y.1 = z.1 := by omega
    rw [h'.2.1 e2, h.2.1 e1], h'.2.2.1.trans h.2.2.1, fun e => by rw [h'.2.2.2 (h.2.2.1.trans e), h.2.2.2 e]⟩
structure Fr (K : Nat → Prop) (ρ : Rho) (w : World) (ρ' : Rho) (w' : World) : Prop where
  os : w'.os = w.os
  tape : w'.tape = w.tape
  output : w'.output = w.output
  size : w.heap.size ≤ w'.heap.size
  blk : ∀ b, b < w.heap.size → ¬ ownM ρ b → w'.heap[b]? = w.heap[b]?
  new : ∀ b, b < w.heap.size → ownM ρ' b → ownM ρ b
  ext : ρ'.ext = ρ.ext
  keep : ∀ r x, K r → ρ.m r = some x → ∃ y, ρ'.m r = some y ∧ LocLe x y
def All : Nat → Prop := fun _ => True
theorem Fr.refl (K : Nat → Prop) (ρ : Rho) (w : World) : Fr K ρ w ρ w :=
  ⟨rfl, rfl, rfl, Nat.le_refl _, fun _ _ _ => rfl, fun _ _ h => h, rfl, fun r x _ h => ⟨x, h, .refl x⟩⟩
theorem Fr.trans {K : Nat → Prop} {ρ ρ₁ ρ₂ : Rho} {w w₁ w₂ : World} (h : Fr K ρ w ρ₁ w₁) (h' : Fr K ρ₁ w₁ ρ₂ w₂) : Fr K ρ w ρ₂ w₂ where
  os := h'.os.trans h.os
  tape := h'.tape.trans h.tape
  output := h'.output.trans h.output
  size := Nat.le_trans h.size h'.size
  blk b hb ho := by
    rw [h'.blk b (Nat.lt_of_lt_of_le hb h.size) (fun h1 => ho (h.new b hb h1)), h.blk b hb ho]
  new b hb h2 := h.new b hb (h'.new b (Nat.lt_of_lt_of_le hb h.size) h2)
  ext := h'.ext.trans h.ext
  keep r x hk hx := by
    obtain ⟨y, hy, hle⟩ := h.keep r x hk hx
    obtain ⟨z, hz, hle'⟩ := h'.keep r y hk hy
    exact ⟨z, hz, hle.trans hle'⟩
theorem Fr.mono {K K' : Nat → Prop} {ρ ρ' : Rho} {w w' : World} (h : Fr K ρ w ρ' w') (hk : ∀ r, K' r → K r) : Fr K' ρ w ρ' w' :=
  { h with keep := fun r x hr hx => h.keep r x (hk r hr) hx }
theorem DRel.mono {w w' : World} {o o' : Nat → Prop} (hb : ∀ b, b < w.heap.size → ¬ o b → w'.heap[b]? = w.heap[b]?) (hn : ∀ b, b < w.heap.size → o' b → o b)
    {d : Dat} {v : Value} (h : DRel w o d v) : DRel w' o' d v := by
  induction h with
  | bool b => exact .bool b
  | int k n => exact .int k n
  | str s => exact .str s
  | nil sz => exact .nil sz
  | sl els sz cap a cv hsz hcap hm hc hd ih =>
    refine .sl els sz cap a cv hsz hcap hm (fun j d hj => ?_) ih
    obtain ⟨h1, h2⟩ := hc j d hj
    have hlt : (a.add j).block < w.heap.size := World.block_lt_of_cell? w _ h2
    have hbl : (a.add j).block = a.block := by unfold Addr.add; split <;> rfl
    rw [hbl] at hlt
    refine ⟨fun h => h1 (hn _ hlt h), ?_⟩
    exact (World.cell?_of_block (w := w) (w' := w') (a := a.add j) (by rw [hbl]; exact hb _ hlt h1)).trans h2
theorem Addr_add_block (a : Addr) (j : Nat) : (a.add j).block = a.block := by unfold Addr.add; split <;> rfl
theorem Fr.blk' {K : Nat → Prop} {ρ ρ' : Rho} {w w' : World} (h : Fr K ρ w ρ' w') : ∀ b, b < w.heap.size → ¬ own ρ b → w'.heap[b]? = w.heap[b]? := fun b hb ho => h.blk b hb (fun h => ho (.inl h))
theorem Fr.new' {K : Nat → Prop} {ρ ρ' : Rho} {w w' : World} (h : Fr K ρ w ρ' w') : ∀ b, b < w.heap.size → own ρ' b → own ρ b := fun b hb ho => by
  rcases ho with ho | ho
  · exact .inl (h.new b hb ho)
  · exact .inr (by rw [← h.ext]; exact ho)
theorem VRel.fr {ρ ρ' : Rho} {w w' : World} (hf : Fr All ρ w ρ' w') {v : AVal} {c : Value} (h : VRel w ρ v c) : VRel w' ρ' v c := by
  induction h with
  | undef v => exact .undef v
  | dat h => exact .dat (h.mono hf.blk' hf.new')
  | slice hr hg h =>
    obtain ⟨⟨g1, l1⟩, hy, h1, h2, h3, h4⟩ := hf.keep _ _ trivial hr
    cases l1 with
    | map b => simp [CLoc.isRow] at h3
    | loop b => simp [CLoc.isRow] at h3
    | glob _ => simp [CLoc.isRow] at h3
    | row v1 e1 sz1 =>
      refine .slice hy (Nat.le_trans hg h1) (fun e => ?_)
      simp only at h1 h2
      have hl := h2 (Nat.le_antisymm h1 (e ▸ hg))
      simp only [CLoc.row.injEq] at hl
      obtain ⟨rfl, rfl, rfl⟩ := hl
      exact h (Nat.le_antisymm hg (e ▸ h1))
  | ptr hr hg h =>
    obtain ⟨⟨g1, l1⟩, hy, h1, h2, h3, h4⟩ := hf.keep _ _ trivial hr
    cases l1 with
    | map b => simp [CLoc.isRow] at h3
    | loop b => simp [CLoc.isRow] at h3
    | glob _ => simp [CLoc.isRow] at h3
    | row v1 e1 sz1 =>
      refine .ptr hy (Nat.le_trans hg h1) (fun e => ?_)
      simp only at h1 h2
      have hl := h2 (Nat.le_antisymm h1 (e ▸ hg))
      simp only [CLoc.row.injEq] at hl
      obtain ⟨rfl, rfl, rfl⟩ := hl
      exact h (Nat.le_antisymm hg (e ▸ h1))
  | @pdat cells k a cv hc hd =>
    refine .pdat (cv := cv) (fun j d hj => ?_) (fun j d hj => (hd j d hj).mono hf.blk' hf.new')
    obtain ⟨h1, h2⟩ := hc j d hj
    have hlt : (a.add j).block < w.heap.size := World.block_lt_of_cell? w _ h2
    rw [Addr_add_block] at hlt
    refine ⟨fun h => h1 (hf.new' _ hlt h), ?_⟩
    exact (World.cell?_of_block (w := w) (w' := w') (a := a.add j) (by rw [Addr_add_block]; exact hf.blk' _ hlt h1)).trans h2
  | raw h => exact .raw h
  | nilS => exact .nilS
  | agg hs _ ih => exact .agg hs ih
  | tup hs _ ih => exact .tup hs ih
  | fn hs0 _ hs _ ih0 ih => exact .fn hs0 ih0 hs ih
  | map hr =>
    obtain ⟨⟨g1, l1⟩, hy, h1, h2, h3, h4⟩ := hf.keep _ _ trivial hr
    have h5 := h4 rfl
    rw [h5] at hy
    exact .map hy
  | yld hr =>
    obtain ⟨⟨g1, l1⟩, hy, h1, h2, h3, h4⟩ := hf.keep _ _ trivial hr
    have h5 := h4 rfl
    rw [h5] at hy
    exact .yld hy
  | iface _ ih => exact .iface ih
def RowOk (P : Program) (g : Nat) (v : Value) (e sz : Nat) : Prop := sz = P.cellsOf e ∧ (g % 2 = 1 → v ≠ .slice none 0 0)
def ORel (P : Program) (w : World) (ρ : Rho) : CLoc → AObj → Prop
  | .row v e sz, .row g e' els => e = e' ∧ RowOk P g v e sz ∧ 0 < sz ∧ (∀ el ∈ els, el.length = sz) ∧
      ∃ xs, w.ownsRow 0 e sz v els.length xs ∧ ∀ i x, els.flatten[i]? = some x → sc x = true ∧ VRel w ρ x (xs.getD i undef)
  | .map b, .map es => ∃ ents clock, w.heap[b]? = some (.map ents clock) ∧ ents.size = es.length ∧
      ∀ i k v, es[i]? = some (k, v) → VRel w ρ k (ents.getD i default).key ∧ VRel w ρ v (ents.getD i default).val
  | .loop b, .loop st pend N E ps asg body => ∃ fn tmps d, w.heap[b]? = some (.loop { state := st, pending := pend, fn, tmps, params := ps, assign := asg, body, defers := d }) ∧ tmps.size = N ∧
      ∀ t v, aget E t = some v → t < tmps.size ∧ VRel w ρ v (tmps.getD t undef)
  | .glob g, .glob g' cells => g = g' ∧ VRel w ρ (.pdat cells 0) (.pointer (some ⟨g, 0, none⟩))
  | _, _ => False
structure SatL (P : Program) (ρ : Rho) (L : List (Nat × AObj)) (w : World) : Prop where
  obj : ∀ r o, aget L r = some o → ∃ l, ρ.m r = some (o.gen, l) ∧ ORel P w ρ l o
  dom : ∀ r x, ρ.m r = some x → ∃ o, aget L r = some o
  inj : ∀ r r' x x' b, ρ.m r = some x → ρ.m r' = some x' → x.2.blk = some b → x'.2.blk = some b → r = r'
  dis : ∀ b, ownM ρ b → ¬ ρ.ext b
  elt : ∀ b, ρ.ext b → b < w.heap.size
theorem ORel.lt {P : Program} {w : World} {ρ : Rho} {l : CLoc} {o : AObj} (h : ORel P w ρ l o) {b : Nat} (hb : l.blk = some b) : b < w.heap.size := by
  cases l with
  | row v e sz =>
    cases o with
    | map _ => exact h.elim
    | loop _ _ _ _ _ _ _ => exact h.elim
    | glob _ _ => exact h.elim
    | row g e' els =>
      obtain ⟨_, _, _, _, xs, ho, _⟩ := h
      exact (ho.lt b hb).2
  | map b' =>
    cases o with
    | row _ _ _ => exact h.elim
    | loop _ _ _ _ _ _ _ => exact h.elim
    | glob _ _ => exact h.elim
    | map es =>
      obtain ⟨ents, cl, hh, _⟩ := h
      simp only [CLoc.blk, Option.some.injEq] at hb
      subst hb
      exact (Array.getElem?_eq_some_iff.1 hh).1
  | loop b' =>
    cases o with
    | row _ _ _ => exact h.elim
    | map _ => exact h.elim
    | glob _ _ => exact h.elim
    | loop st pend N E ps asg body =>
      obtain ⟨fn, tmps, d, hh, _⟩ := h
      simp only [CLoc.blk, Option.some.injEq] at hb
      subst hb
      exact (Array.getElem?_eq_some_iff.1 hh).1
  | glob g => simp [CLoc.blk] at hb
theorem SatL.lt {P : Program} {ρ : Rho} {L : List (Nat × AObj)} {w : World} (h : SatL P ρ L w) {b : Nat} (hb : ownM ρ b) : b < w.heap.size := by
  obtain ⟨r, g, l, hr, hl⟩ := hb
  obtain ⟨o, ho⟩ := h.dom r _ hr
  obtain ⟨l', hr', hO⟩ := h.obj r o ho
  rw [hr] at hr'
  injection hr' with e
  injection e with _ e
  subst e
  exact hO.lt hl
end Go.Sk
namespace Go.Sk
open Go
def ofConst : Value → AVal
  | .bool b => .dat (.bool b)
  | .int k n => .dat (.int k n)
  | .string s => .dat (.str s)
  | .slice none 0 0 => .nilS
  | v => if v.oneCell' then .raw v else .undef
theorem ofConst_rel (w : World) (ρ : Rho) (v : Value) : VRel w ρ (ofConst v) v := by
  unfold ofConst
  split
  · exact .dat (.bool _)
  · exact .dat (.int _ _)
  · exact .dat (.str _)
  · exact .nilS
  · split
    · exact .raw ‹_›
    · exact .undef _
abbrev Env := List (Nat × AVal)
abbrev LH := List (Nat × AObj)
def ev (E : Env) : Operand → Option AVal
  | .tmp t => aget E t
  | .const v => some (ofConst v)
  | .func f => some (.fn f [] [])
  | .global _ => none
def SatE (ρ : Rho) (E : Env) (a : Act) (w : World) : Prop := ∀ t v, aget E t = some v → t < a.tmps.size ∧ VRel w ρ v (a.tmps.getD t undef)
theorem SatE.ev {ρ : Rho} {E : Env} {a : Act} {w : World} (h : SatE ρ E a w) {x : Operand} {v : AVal} (hx : ev E x = some v) : VRel w ρ v (a.eval x) := by
  cases x with
  | tmp t => exact (h t v hx).2
  | const c => simp [Sk.ev] at hx; subst hx; exact ofConst_rel w ρ c
  | func f =>
    simp [Sk.ev] at hx
    subst hx
    exact .fn (by simp) (fun i v hi => by simp at hi) (by simp) (fun i v hi => by simp at hi)
  | global g => simp [Sk.ev] at hx
def aint (op : BinOp) (k : IntKind) (x y : Int) : Option Dat :=
  match op with
  | .add => some (.int k (k.wrap (x + y)))
  | .sub => some (.int k (k.wrap (x - y)))
  | .mul => some (.int k (k.wrap (x * y)))
  | .quo => if y = 0 then none else some (.int k (k.wrap (x.tdiv y)))
  | .rem => if y = 0 then none else some (.int k (x.tmod y))
  | .and => some (.int k (k.wrap (BitVec.ofInt k.bits x &&& BitVec.ofInt k.bits y).toNat))
  | .or => some (.int k (k.wrap (BitVec.ofInt k.bits x ||| BitVec.ofInt k.bits y).toNat))
  | .xor => some (.int k (k.wrap (BitVec.ofInt k.bits x ^^^ BitVec.ofInt k.bits y).toNat))
  | .andNot => some (.int k (k.wrap (BitVec.ofInt k.bits x &&& ~~~ BitVec.ofInt k.bits y).toNat))
  | .eql => some (.bool (x == y))
  | .neq => some (.bool (x != y))
  | .lss => some (.bool (decide (x < y)))
  | .leq => some (.bool (decide (x ≤ y)))
  | .gtr => some (.bool (decide (x > y)))
  | .geq => some (.bool (decide (x ≥ y)))
  | _ => none
def ashift (op : BinOp) (k : IntKind) (x y : Int) : Option Dat :=
  if y < 0 then none else
  match op with
  | .shl => some (.int k (k.wrap (x * 2 ^ (min y.toNat k.bits))))
  | .shr => some (.int k (x.fdiv (2 ^ (min y.toNat k.bits))))
  | _ => none
def abin (op : BinOp) (a b : AVal) : Option AVal :=
  match a, b with
  | .dat (.int k x), .dat (.int k' y) =>
    match op with
    | .shl => (ashift .shl k x y).map .dat
    | .shr => (ashift .shr k x y).map .dat
    | op => if k = k' then (aint op k x y).map .dat else none
  | _, _ => none
theorem abin_int {op : BinOp} {k k' : IntKind} {x y : Int} {v : AVal} (P : Program) (w : World) (t : TypeId) (h : abin op (.dat (.int k x)) (.dat (.int k' y)) = some v) :
    ∃ d, v = .dat d ∧ ∃ c, (binOp op t (.int k x) (.int k' y)).run P w = .ok c w ∧ ∀ o, DRel w o d c := by
  unfold abin at h
  simp only at h
  split at h
  · simp only [ashift] at h
    split at h
    · simp at h
    · simp only [Option.map_some, Option.some.injEq] at h
      refine ⟨_, h.symm, _, ?_, fun o => .int _ _⟩
      simp [binOp, Op.shift, *]
  · simp only [ashift] at h
    split at h
    · simp at h
    · simp only [Option.map_some, Option.some.injEq] at h
      refine ⟨_, h.symm, _, ?_, fun o => .int _ _⟩
      simp [binOp, Op.shift, *]
  · split at h
    · rename_i h1 h2 hk
      subst hk
      obtain ⟨d, hd, rfl⟩ := Option.map_eq_some_iff.1 h
      refine ⟨d, rfl, ?_⟩
      clear h
      cases op <;> simp only [aint] at hd <;> first | (exact absurd rfl h1) | (exact absurd rfl h2) | (simp at hd; done) | skip
      all_goals first
        | (injection hd with hd; subst hd; refine ⟨_, ?_, fun o => by first | exact .int _ _ | exact .bool _⟩; simp [binOp, Op.intArith, Op.intBits, Op.intCmp]; done)
        | (split at hd
           · simp at hd
           · injection hd with hd; subst hd; refine ⟨_, ?_, fun o => .int _ _⟩; simp [binOp, Op.intDiv, *])
    · simp at h
def slE (P : Program) (t : TypeId) : Option (TypeId × Nat × Nat) :=
  match P.underlying t with
  | some (.slice e) => (P.info? e).map fun i => (e, i.size, i.bytes)
  | _ => none
def tAgg (P : Program) (t : TypeId) : Option (Bool × Nat) :=
  match P.underlying t, P.info? t with
  | some (.struct _), some i => some (true, i.size)
  | some (.array _ _), some i => some (true, i.size)
  | some _, some i => some (false, i.size)
  | _, _ => none
def fOff (P : Program) (s : TypeId) (f : Nat) : Option (Nat × Nat × Bool) :=
  match P.underlying s with
  | some (.struct fs) => (fs[f]?).bind fun x => (tAgg P x.type).bind fun y => if y.2 = 0 then none else some (x.offset, y.2, y.1)
  | _ => none
theorem slE_spec {P : Program} {t e sz by_ : Nat} (h : slE P t = some (e, sz, by_)) : P.underlying t = some (.slice e) ∧ ∃ i, P.info? e = some i ∧ i.size = sz ∧ i.bytes = by_ := by
  unfold slE at h
  split at h
  · rename_i e' he
    obtain ⟨i, hi, hh⟩ := Option.map_eq_some_iff.1 h
    simp only [Prod.mk.injEq] at hh
    obtain ⟨rfl, rfl, rfl⟩ := hh
    exact ⟨he, i, hi, rfl, rfl⟩
  · simp at h
theorem tAgg_spec {P : Program} {t n : Nat} {b : Bool} (h : tAgg P t = some (b, n)) (w : World) : (isAgg t).run P w = .ok b w ∧ (sizeOf t).run P w = .ok n w := by
  unfold tAgg at h
  cases hu : P.underlying t with
  | none => rw [hu] at h; simp at h
  | some d =>
    cases hi : P.info? t with
    | none => rw [hu, hi] at h; cases d <;> simp at h
    | some i =>
      rw [hu, hi] at h
      have h2 : (sizeOf t).run P w = .ok i.size w := by simp [sizeOf, typeInfo, hi]
      have h1 : (isAgg t).run P w = .ok (match d with | .struct _ | .array _ _ => true | _ => false) w := by
        simp only [isAgg, Sem.run_bind, run_underlying hu, Result.andThen_ok]
        cases d <;> rfl
      cases d <;> (simp only [Option.some.injEq, Prod.mk.injEq] at h; obtain ⟨rfl, rfl⟩ := h; exact ⟨h1, h2⟩)
def goI (n : Nat) : AVal := .dat (.int .i64 (n : Int))
theorem VRel.sliceInv {w : World} {ρ : Rho} {sz : Nat} {els : List (List Dat)} {c : Value} (h : VRel w ρ (.dat (.sl sz els)) c) : ∃ a n k, c = .slice a n k ∧ n = els.length := by
  cases h with
  | dat h =>
    cases h with
    | nil => exact ⟨_, _, _, rfl, rfl⟩
    | sl => exact ⟨_, _, _, rfl, rfl⟩
def cellsVal (P : Program) (t : TypeId) (cs : List AVal) : Option AVal :=
  match tAgg P t with
  | some (true, n) => if n ≤ cs.length then some (.agg (cs.take n)) else none
  | some (false, _) => cs.head?
  | none => none
theorem cellsVal_sound {P : Program} {t : TypeId} {cs : List AVal} {v : AVal} (h : cellsVal P t cs = some v) {w : World} {ρ : Rho} {a : Addr} {cv : Nat → Value}
    (hc : ∀ j x, cs[j]? = some x → w.cell? (a.add j) = some (cv j) ∧ VRel w ρ x (cv j)) :
    ∃ c, (loadVar t a).run P w = .ok c w ∧ VRel w ρ v c := by
  unfold cellsVal at h
  split at h
  · rename_i n ht
    split at h
    · rename_i hn
      injection h with h
      subst h
      obtain ⟨h1, h2⟩ := tAgg_spec ht w
      have hl := run_loadCells (P := P) w a n cv (fun j hj => (hc j _ (List.getElem?_eq_getElem (Nat.lt_of_lt_of_le hj hn))).1)
      refine ⟨.agg ((List.range n).map cv).toArray, ?_, .agg (by simp [Nat.min_eq_left hn]) (fun i x hx => ?_)⟩
      · simp [loadVar, h1, h2, hl]
      · rw [List.getElem?_take] at hx
        split at hx
        · rename_i hi
          have := (hc i x hx).2
          simpa [hi] using this
        · simp at hx
    · simp at h
  · rename_i n ht
    obtain ⟨h1, h2⟩ := tAgg_spec ht w
    cases cs with
    | nil => simp at h
    | cons x cs =>
      simp only [List.head?_cons, Option.some.injEq] at h
      subst h
      obtain ⟨h3, h4⟩ := hc 0 x rfl
      refine ⟨cv 0, ?_, h4⟩
      have ha : a.add 0 = a := by simp [Addr.add]
      rw [ha] at h3
      simp [loadVar, h1, h3]
  · simp at h
theorem Addr_add_add (a : Addr) (i j : Nat) : (a.add i).add j = a.add (i + j) := by
  unfold Addr.add
  by_cases hi : i = 0 <;> by_cases hj : j = 0 <;> simp [hi, hj, Nat.add_assoc]
theorem flatten_len {α : Type} {els : List (List α)} {sz : Nat} (hsz : ∀ el ∈ els, el.length = sz) : els.flatten.length = els.length * sz := by
  induction els with
  | nil => simp
  | cons e els ih =>
    rw [List.flatten_cons, List.length_append, ih (fun el h => hsz el (by simp [h])), hsz e (by simp), List.length_cons, Nat.succ_mul, Nat.add_comm]
theorem flatten_at {α : Type} {els : List (List α)} {sz : Nat} (hsz : ∀ el ∈ els, el.length = sz) {i : Nat} {el : List α} (hi : els[i]? = some el) (j : Nat) (x : α) (hj : el[j]? = some x) :
    els.flatten[i * sz + j]? = some x := by
  induction els generalizing i with
  | nil => simp at hi
  | cons e els ih =>
    have he : e.length = sz := hsz e (by simp)
    cases i with
    | zero =>
      simp only [List.getElem?_cons_zero, Option.some.injEq] at hi
      subst hi
      have hlt : j < e.length := (List.getElem?_eq_some_iff.1 hj).1
      rw [List.flatten_cons, Nat.zero_mul, Nat.zero_add, List.getElem?_append_left hlt]
      exact hj
    | succ i =>
      simp only [List.getElem?_cons_succ] at hi
      have h := ih (fun el hel => hsz el (by simp [hel])) hi
      rw [List.flatten_cons, List.getElem?_append_right (by rw [he, Nat.succ_mul]; omega)]
      rw [he]
      have : (i + 1) * sz + j - sz = i * sz + j := by rw [Nat.succ_mul]; omega
      rw [this]
      exact h
def aload (P : Program) (L : LH) (t : TypeId) : AVal → Option AVal
  | .ptr r g i k =>
    match aget L r with
    | some (.row g' _ els) => if g = g' then (els[i]?).bind fun el => cellsVal P t (el.drop k) else none
    | _ => none
  | .pdat cells k => cellsVal P t ((cells.drop k).map .dat)
  | _ => none
theorem aload_sound {P : Program} {L : LH} {t : TypeId} {x v : AVal} (h : aload P L t x = some v) {w : World} {ρ : Rho} (hL : SatL P ρ L w) {c : Value} (hx : VRel w ρ x c) :
    ∃ c', (Instr.loadAt t c).run P w = .ok c' w ∧ VRel w ρ v c' := by
  unfold aload at h
  split at h
  · rename_i r g i k
    split at h
    · rename_i g' e els ho
      split at h
      · rename_i hg
        subst hg
        obtain ⟨el, hel, hv⟩ := Option.bind_eq_some_iff.1 h
        obtain ⟨l, hr, hO⟩ := hL.obj r _ ho
        cases hx with
        | @ptr _ _ _ _ g0 sz ad v0 e0 hr' hle hp =>
          simp only [AObj.gen] at hr
          rw [hr] at hr'
          injection hr' with hr'
          injection hr' with e1 e2
          subst e1; subst e2
          obtain ⟨b, n, cap, rfl, rfl⟩ := hp rfl
          obtain ⟨rfl, _, hs0, hsz, xs, hown, hxs⟩ := hO
          obtain ⟨c', h1, h2⟩ := cellsVal_sound (P := P) hv (w := w) (ρ := ρ) (a := ⟨b, i * sz + k, none⟩) (cv := fun j => xs.getD (i * sz + (k + j)) undef) (fun j x hj => by
            rw [List.getElem?_drop] at hj
            have hf := flatten_at hsz hel (k + j) x hj
            obtain ⟨h1, h2⟩ := hxs _ x hf
            refine ⟨?_, h2⟩
            have hlt : i * sz + (k + j) < xs.length := by
              have := (List.getElem?_eq_some_iff.1 hf).1
              rw [hown.1]
              rw [flatten_len hsz] at this
              omega
            have := hown.cells (g := b) rfl (i * sz + (k + j)) (xs.getD (i * sz + (k + j)) undef) (by simp [List.getD, List.getElem?_eq_getElem hlt])
            rw [show (⟨b, i * sz + k, none⟩ : Addr).add j = (⟨b, 0, none⟩ : Addr).add (i * sz + (k + j)) from by
              unfold Addr.add; split <;> split <;> simp_all <;> omega]
            exact this)
          exact ⟨c', by simp [Instr.loadAt, Instr.sureAddr, h1], h2⟩
      · simp at h
    · simp at h
  · rename_i cells k
    cases hx with
    | @pdat _ _ a cv hc hd =>
      obtain ⟨c', h1, h2⟩ := cellsVal_sound (P := P) h (w := w) (ρ := ρ) (a := a.add k) (cv := fun j => cv (k + j)) (fun j x hj => by
        rw [List.getElem?_map, List.getElem?_drop] at hj
        obtain ⟨d, hd', rfl⟩ := Option.map_eq_some_iff.1 hj
        rw [Addr_add_add]
        exact ⟨(hc _ d hd').2, .dat (hd _ d hd')⟩)
      exact ⟨c', by simp [Instr.loadAt, Instr.sureAddr, h1], h2⟩
  · simp at h
end Go.Sk
namespace Go.Sk
open Go
theorem cur_row {P : Program} {ρ : Rho} {L : LH} {w : World} (hL : SatL P ρ L w) {r g e : Nat} {els : List (List AVal)} (ho : aget L r = some (.row g e els)) :
    ∃ v sz xs, ρ.m r = some (g, .row v e sz) ∧ sz = P.cellsOf e ∧ 0 < sz ∧ (∀ el ∈ els, el.length = sz) ∧ w.ownsRow 0 e sz v els.length xs ∧
      ∀ i x, els.flatten[i]? = some x → sc x = true ∧ VRel w ρ x (xs.getD i undef) := by
  obtain ⟨l, hr, hO⟩ := hL.obj r _ ho
  cases l with
  | map b => exact hO.elim
  | loop b => exact hO.elim
  | glob _ => exact hO.elim
  | row v e' sz =>
    obtain ⟨rfl, hP, h0, hsz, xs, h1, h2⟩ := hO
    exact ⟨v, sz, xs, hr, hP.1, h0, hsz, h1, h2⟩
theorem cur_ok {P : Program} {ρ : Rho} {L : LH} {w : World} (hL : SatL P ρ L w) {r g e : Nat} {els : List (List AVal)} (ho : aget L r = some (.row g e els)) {g' e' sz : Nat} {v : Value} (hr : ρ.m r = some (g', .row v e' sz)) : RowOk P g v e sz := by
  obtain ⟨l, hr', hO⟩ := hL.obj r _ ho
  rw [hr] at hr'
  injection hr' with hr'
  injection hr' with _ hr'
  subst hr'
  obtain ⟨rfl, hP, _⟩ := hO
  exact hP
theorem own_form {w : World} {e sz n : Nat} {v : Value} {xs : List Value} (h : w.ownsRow 0 e sz v n xs) : (v = .slice none 0 0 ∧ n = 0) ∨ ∃ b cap, v = .slice (some ⟨b, 0, none⟩) n cap ∧ n ≤ cap ∧ cap ≤ maxLen := by
  rcases h.2 with ⟨rfl, rfl⟩ | ⟨b, cap, cur, rfl, _, _, h1, h2, _⟩
  · exact .inl ⟨rfl, rfl⟩
  · exact .inr ⟨b, cap, rfl, h1, h2⟩
def mkPtrField (v : AVal) (off : Nat) : Option AVal :=
  match v with
  | .ptr r g i k => some (.ptr r g i (k + off))
  | .pdat cells k => some (.pdat cells (k + off))
  | _ => none
def afieldAddr (P : Program) (s : TypeId) (f : Nat) (v : AVal) : Option AVal :=
  match fOff P s f with
  | some (off, _, _) => mkPtrField v off
  | none => none
theorem fOff_spec {P : Program} {s f off n : Nat} {b : Bool} (h : fOff P s f = some (off, n, b)) : ∃ fs x, P.underlying s = some (.struct fs) ∧ fs[f]? = some x ∧ x.offset = off ∧ n ≠ 0 ∧ tAgg P x.type = some (b, n) := by
  unfold fOff at h
  split at h
  · rename_i fs hs
    obtain ⟨x, hx, h⟩ := Option.bind_eq_some_iff.1 h
    obtain ⟨⟨b', n'⟩, hy, h⟩ := Option.bind_eq_some_iff.1 h
    simp only at h
    split at h
    · simp at h
    · rename_i hn
      simp only [Option.some.injEq, Prod.mk.injEq] at h
      obtain ⟨rfl, rfl, rfl⟩ := h
      exact ⟨fs, x, hs, hx, rfl, hn, hy⟩
  · simp at h
theorem afieldAddr_sound {P : Program} {s f : Nat} {x v : AVal} (h : afieldAddr P s f x = some v) {w : World} {ρ : Rho} {c : Value} (hx : VRel w ρ x c) :
    ∃ c', (Instr.fieldAt s c f).run P w = .ok c' w ∧ VRel w ρ v c' := by
  unfold afieldAddr at h
  split at h
  · rename_i off n b hf
    obtain ⟨fs, y, hs, hy, rfl, hn, ht⟩ := fOff_spec hf
    have key : ∀ a : Addr, (Instr.fieldAt s (.pointer (some a)) f).run P w = .ok (.pointer (some (a.add y.offset))) w := by
      intro a
      obtain ⟨_, h2⟩ := tAgg_spec ht w
      simp [Instr.fieldAt, run_underlying hs, hy, Instr.sureAddr, fieldPlace, h2, hn]
    cases x with
    | ptr r g i k =>
      simp only [mkPtrField, Option.some.injEq] at h
      subst h
      cases hx with
      | @ptr _ _ _ _ g0 sz ad v0 e0 hr' hle hp =>
        refine ⟨_, key _, .ptr hr' hle (fun e => ?_)⟩
        obtain ⟨b, n, cap, h1, rfl⟩ := hp e
        refine ⟨b, n, cap, h1, ?_⟩
        unfold Addr.add
        split <;> simp_all
        omega
    | pdat cells k =>
      simp only [mkPtrField, Option.some.injEq] at h
      subst h
      cases hx with
      | @pdat _ _ a cv hc hd =>
        refine ⟨_, key _, ?_⟩
        rw [Addr_add_add]
        exact .pdat hc hd
    | _ => simp [mkPtrField] at h
  · simp at h
def aindexAddr (P : Program) (L : LH) (t : TypeId) (x i : AVal) : Option AVal :=
  match slE P t, i with
  | some (e, sz, _), .dat (.int _ n) =>
    if 0 ≤ n then
      match x with
      | .dat (.sl sz' els) => if sz' = sz then (els[n.toNat]?).map fun el => .pdat el 0 else none
      | .slice r g off len =>
        if n.toNat < len then
          match aget L r with
          | some (.row g' e' _) => if g = g' ∧ e' = e then some (.ptr r g (off + n.toNat) 0) else none
          | _ => none
        else none
      | _ => none
    else none
  | _, _ => none
theorem run_indexAt_in {P : Program} {w : World} {t e sz : Nat} (ht : P.underlying t = some (.slice e)) {i : TypeInfo} (hi : P.info? e = some i) (hs : i.size = sz) (k : IntKind) (n : Int) (h0 : 0 ≤ n) (a : Addr) (len cap : Nat) (hl : n.toNat < len) :
    (Instr.indexAt t (.slice (some a) len cap) (.int k n)).run P w = .ok (.pointer (some (a.add (n.toNat * sz)))) w := by
  have : n < (len : Int) := by omega
  simp [Instr.indexAt, asIntOf, run_underlying ht, h0, this, sizeOf, typeInfo, hi, hs]
theorem aindexAddr_sound {P : Program} {L : LH} {t : Nat} {x i v : AVal} (h : aindexAddr P L t x i = some v) {w : World} {ρ : Rho} (hL : SatL P ρ L w) {c ci : Value} (hx : VRel w ρ x c) (hi : VRel w ρ i ci) :
    ∃ c', (Instr.indexAt t c ci).run P w = .ok c' w ∧ VRel w ρ v c' := by
  unfold aindexAddr at h
  split at h
  · rename_i e sz by_ k n hs
    obtain ⟨hu, ti, hti, hsz, _⟩ := slE_spec hs
    cases hi with
    | dat hi =>
    cases hi
    split at h
    · rename_i h0
      split at h
      · rename_i sz' els
        split at h
        · rename_i hlen
          subst hlen
          obtain ⟨el, hel, h⟩ := Option.map_eq_some_iff.1 h
          subst h
          have hlt : n.toNat < els.length := (List.getElem?_eq_some_iff.1 hel).1
          cases hx with
          | dat hx =>
          cases hx with
          | nil => simp at hlt
          | sl _ _ cap a cv hsz' hcap hm hc hd =>
            refine ⟨_, run_indexAt_in hu hti hsz k n h0 a _ _ hlt, ?_⟩
            have := VRel.pdat (w := w) (ρ := ρ) (cells := el) (k := 0) (a := a.add (n.toNat * sz')) (cv := fun j => cv (n.toNat * sz' + j)) (fun j d hj => by
              have hf := flatten_at hsz' hel j d hj
              rw [Addr_add_add, Addr_add_block]
              exact hc _ d hf) (fun j d hj => hd _ d (flatten_at hsz' hel j d hj))
            rw [Addr_add_add, Nat.add_zero] at this
            exact this
        · simp at h
      · rename_i r g off len
        split at h
        · rename_i hlt
          split at h
          · rename_i g' e' els ho
            split at h
            · rename_i hg
              obtain ⟨hg, he⟩ := hg
              subst hg
              subst he
              simp only [Option.some.injEq] at h
              subst h
              obtain ⟨v0, sz', xs, hr, hP, hp, hsz', hown, _⟩ := cur_row hL ho
              have e1 : sz' = sz := by rw [hP, ← hsz]; simp [Program.cellsOf, hti]
              subst e1
              cases hx with
              | slice hr' hle hsl =>
                rw [hr] at hr'
                injection hr' with hr'
                injection hr' with e1 e2
                injection e2 with e2 e3 e4
                subst e1; subst e2; subst e3; subst e4
                obtain ⟨rfl, hsl⟩ := hsl rfl
                rcases own_form hown with ⟨rfl, h00⟩ | ⟨b, cap, rfl, h1, h2⟩
                · simp only at hsl
                  omega
                · simp only at hsl
                  obtain ⟨h3, rfl, x, rfl, h5⟩ := hsl
                  have hx := h5 (.inl (by omega))
                  subst hx
                  refine ⟨_, run_indexAt_in hu hti hsz k n h0 _ _ _ hlt, .ptr hr (Nat.le_refl _) (fun _ => ⟨b, _, cap, rfl, ?_⟩)⟩
                  unfold Addr.add
                  have : (off + n.toNat) * sz' = off * sz' + n.toNat * sz' := Nat.add_mul ..
                  split <;> simp_all
            · simp at h
          · simp at h
        · simp at h
      · simp at h
    · simp at h
  · simp at h
def asubl {α : Type} (l : List α) (lo hi : Nat) : List α := (l.take hi).drop lo
def optInt (len : Nat) : Option (Option AVal) → Option Nat
  | none => some len
  | some (some (.dat (.int _ n))) => if 0 ≤ n ∧ n.toNat ≤ len then some n.toNat else none
  | _ => none
def optLo (h : Nat) : Option (Option AVal) → Option Nat
  | none => some 0
  | some l => optInt h (some l)
def aslice (P : Program) (L : LH) (t : TypeId) (x : AVal) (lo hi : Option (Option AVal)) : Option AVal :=
  match x with
  | .dat (.sl sz' els) =>
    (slE P t).bind fun s => (optInt els.length hi).bind fun h => (optLo h lo).bind fun l =>
      if sz' = s.2.1 then some (.dat (.sl sz' (asubl els l h))) else none
  | .slice r g off len =>
    match aget L r with
    | some (.row g' e' _) =>
      if g = g' then (slE P t).bind fun s => (optInt len hi).bind fun h => (optLo h lo).bind fun l => if e' = s.1 then some (.slice r g (off + l) (h - l)) else none else none
    | _ => none
  | .nilS => (slE P t).bind fun s => (optInt 0 hi).bind fun h => (optLo h lo).bind fun l => some .nilS
  | .dat (.str s) =>
    match P.underlying t with
    | some .string => (optInt s.size hi).bind fun h => (optLo h lo).bind fun l => some (.dat (.str (s.extract l h)))
    | _ => none
  | _ => none
def ORelV (w : World) (ρ : Rho) : Option (Option AVal) → Option Value → Prop
  | none, none => True
  | some (some v), some c => VRel w ρ v c
  | some none, some _ => True
  | _, _ => False
theorem optInt_sound {P : Program} {w : World} {ρ : Rho} {len cap : Nat} {x : Option (Option AVal)} {c : Option Value} {h : Nat} (hx : optInt len x = some h) (hr : ORelV w ρ x c) (hle : len ≤ cap) (code : BoundsCode) :
    h ≤ len ∧ (match c with | some v => Instr.sliceBound v cap code | none => pure len).run P w = .ok h w := by
  cases x with
  | none =>
    cases c with
    | some c => exact hr.elim
    | none =>
      simp only [optInt, Option.some.injEq] at hx
      subst hx
      exact ⟨Nat.le_refl _, rfl⟩
  | some x =>
    cases c with
    | none => cases x <;> exact hr.elim
    | some c =>
      cases x with
      | none => simp [optInt] at hx
      | some v =>
        unfold optInt at hx
        split at hx
        · rename_i heq; cases heq
        · rename_i k n heq
          simp only [Option.some.injEq] at heq
          subst heq
          split at hx
          · rename_i hn
            simp only [Option.some.injEq] at hx
            subst hx
            cases hr with
            | dat hr =>
            cases hr
            refine ⟨hn.2, ?_⟩
            simp [Instr.sliceBound, asIntOf, hn.1, show n ≤ (cap : Int) from by omega]
          · cases hx
        · cases hx
theorem sliceBounds_sound {P : Program} {w : World} {ρ : Rho} {isSlice : Bool} {len cap : Nat} {lo hi : Option (Option AVal)} {cl ch : Option Value} {l h : Nat}
    (hh : optInt len hi = some h) (hl : optLo h lo = some l) (rl : ORelV w ρ lo cl) (rh : ORelV w ρ hi ch) (hle : len ≤ cap) :
    l ≤ h ∧ h ≤ len ∧ (Instr.sliceBounds isSlice len cap cl ch none).run P w = .ok (l, h, cap) w := by
  obtain ⟨h1, h2⟩ := optInt_sound (P := P) (cap := cap) hh rh hle (if isSlice then .sliceAcap else .sliceAlen)
  have key : l ≤ h ∧ (match cl with | some v => Instr.sliceBound v h .sliceB | none => pure 0).run P w = .ok l w := by
    cases lo with
    | none =>
      cases cl with
      | some c => exact rl.elim
      | none =>
        simp only [optLo, Option.some.injEq] at hl
        subst hl
        exact ⟨Nat.zero_le _, rfl⟩
    | some x =>
      cases cl with
      | none => cases x <;> exact rl.elim
      | some c => exact optInt_sound (P := P) (cap := h) (x := some x) (c := some c) hl rl (Nat.le_refl _) .sliceB
  refine ⟨key.1, h1, ?_⟩
  cases cl <;> cases ch <;> simp_all [Instr.sliceBounds]
theorem asubl_length {α : Type} (xs : List α) (l h : Nat) (hh : h ≤ xs.length) : (asubl xs l h).length = h - l := by
  simp [asubl, Nat.min_eq_left hh]
theorem drop_flatten {α : Type} {els : List (List α)} {sz : Nat} (hsz : ∀ el ∈ els, el.length = sz) (l : Nat) (hl : l ≤ els.length) : (els.drop l).flatten = els.flatten.drop (l * sz) := by
  induction l generalizing els with
  | zero => simp
  | succ l ih =>
    cases els with
    | nil => simp
    | cons e els =>
      have he : e.length = sz := hsz e (by simp)
      simp only [List.drop_succ_cons, List.flatten_cons]
      rw [ih (fun el h => hsz el (by simp [h])) (by simp at hl; omega), Nat.succ_mul, List.drop_append, he]
      rw [List.drop_of_length_le (l := e) (by omega)]
      simp only [List.nil_append]
      congr 1
      omega
theorem take_flatten {α : Type} {els : List (List α)} {sz : Nat} (hsz : ∀ el ∈ els, el.length = sz) (l : Nat) (hl : l ≤ els.length) : (els.take l).flatten = els.flatten.take (l * sz) := by
  induction l generalizing els with
  | zero => simp
  | succ l ih =>
    cases els with
    | nil => simp
    | cons e els =>
      have he : e.length = sz := hsz e (by simp)
      simp only [List.take_succ_cons, List.flatten_cons]
      rw [ih (fun el h => hsz el (by simp [h])) (by simp at hl; omega), Nat.succ_mul, List.take_append, he]
      rw [List.take_of_length_le (l := e) (by omega)]
      congr 2
      omega
theorem aslice_sound {P : Program} {t : TypeId} {x v : AVal} {lo hi : Option (Option AVal)} {L : LH} (h : aslice P L t x lo hi = some v) {w : World} {ρ : Rho} (hL : SatL P ρ L w)
    {c : Value} {cl ch : Option Value} (hx : VRel w ρ x c) (rl : ORelV w ρ lo cl) (rh : ORelV w ρ hi ch) :
    ∃ c', (Instr.sliceAt t c cl ch none).run P w = .ok c' w ∧ VRel w ρ v c' := by
  have key : ∀ (a : Option Addr) (n cap len' e sz : Nat) (i : TypeInfo) (l h : Nat), P.underlying t = some (.slice e) → P.info? e = some i → i.size = sz →
      (Instr.sliceBounds true n cap cl ch none).run P w = .ok (l, h, cap) w →
      (Instr.sliceAt t (.slice a n cap) cl ch none).run P w = .ok (.slice (if cap = l then a else a.map (·.add (l * sz))) (h - l) (cap - l)) w := by
    intro a n cap _ e sz i l h hu hi hs hb
    simp [Instr.sliceAt, run_underlying hu, Instr.slice, hb, sizeOf, typeInfo, hi, hs]
  unfold aslice at h
  split at h
  · rename_i sz' els
    obtain ⟨⟨e, sz, by_⟩, hs, h⟩ := Option.bind_eq_some_iff.1 h
    obtain ⟨hh, hh1, h⟩ := Option.bind_eq_some_iff.1 h
    obtain ⟨ll, hl1, h⟩ := Option.bind_eq_some_iff.1 h
    obtain ⟨hu, ti, hti, hsz, _⟩ := slE_spec hs
    split at h
    · rename_i hall
      simp only [Option.some.injEq] at h
      subst h
      simp only at hall
      subst hall
      cases hx with
      | dat hx =>
      cases hx with
      | nil =>
        obtain ⟨h1, h2, h3⟩ := sliceBounds_sound (P := P) (isSlice := true) (cap := 0) hh1 hl1 rl rh (by simp)
        simp only [List.length_nil] at h2
        refine ⟨_, key none 0 0 0 e sz' ti _ _ hu hti hsz h3, ?_⟩
        have e1 : hh = 0 := by omega
        have e2 : ll = 0 := by omega
        subst e1; subst e2
        exact .dat (.nil _)
      | sl _ _ cap a cv hall' hcap hm hc hd =>
        obtain ⟨h1, h2, h3⟩ := sliceBounds_sound (P := P) (isSlice := true) (cap := cap) hh1 hl1 rl rh hcap
        refine ⟨_, key (some a) _ cap 0 e sz' ti _ _ hu hti hsz h3, ?_⟩
        have hlen := asubl_length els ll hh h2
        have hfl : (asubl els ll hh).flatten = (els.flatten.take (hh * sz')).drop (ll * sz') := by
          unfold asubl
          rw [drop_flatten (sz := sz') (fun el hel => hall' el (List.mem_of_mem_take hel)) ll (by simp; omega), take_flatten hall' hh h2]
        have mk : ∀ a' : Addr, (∀ j, j < (hh - ll) * sz' → a'.add j = a.add (ll * sz' + j)) → a'.block = a.block → VRel w ρ (.dat (.sl sz' (asubl els ll hh))) (.slice (some a') (hh - ll) (cap - ll)) := by
          intro a' ha hb
          have := DRel.sl (w := w) (own := own ρ) (asubl els ll hh) sz' (cap - ll) a' (fun j => cv (ll * sz' + j)) (fun el hel => hall' el (List.mem_of_mem_take (List.mem_of_mem_drop hel)))
            (by rw [hlen]; omega) (by omega) (fun j d hj => by
              have hjl : j < (hh - ll) * sz' := by
                have := (List.getElem?_eq_some_iff.1 hj).1
                rw [flatten_len (els := asubl els ll hh) (sz := sz') (fun el hel => hall' el (List.mem_of_mem_take (List.mem_of_mem_drop hel))), hlen] at this
                exact this
              rw [hfl, List.getElem?_drop, List.getElem?_take] at hj
              split at hj
              · rw [ha j hjl, hb]
                exact hc _ d hj
              · simp at hj) (fun j d hj => by
              rw [hfl, List.getElem?_drop, List.getElem?_take] at hj
              split at hj
              · exact hd _ d hj
              · simp at hj)
          rw [hlen] at this
          exact .dat this
        by_cases hcl : cap = ll
        · rw [if_pos hcl]
          exact mk a (fun j hj => by have : hh - ll = 0 := by omega
                                     rw [this] at hj; omega) rfl
        · rw [if_neg hcl]
          exact mk (a.add (ll * sz')) (fun j _ => Addr_add_add ..) (Addr_add_block ..)
    · simp at h
  · rename_i r g off len
    split at h
    · rename_i g' e' els ho
      split at h
      · rename_i hg
        subst hg
        obtain ⟨⟨e, sz, by_⟩, hs, h⟩ := Option.bind_eq_some_iff.1 h
        obtain ⟨hh, hh1, h⟩ := Option.bind_eq_some_iff.1 h
        obtain ⟨ll, hl1, h⟩ := Option.bind_eq_some_iff.1 h
        split at h
        case isFalse => simp at h
        rename_i he
        simp only [Option.some.injEq] at h
        subst h
        simp only at he
        subst he
        obtain ⟨hu, ti, hti, hsz, _⟩ := slE_spec hs
        obtain ⟨v0, sz', xs, hr, hP, hp, hsz', hown, _⟩ := cur_row hL ho
        have e1 : sz' = sz := by rw [hP, ← hsz]; simp [Program.cellsOf, hti]
        subst e1
        cases hx with
        | slice hr' hle hsl =>
          rw [hr] at hr'
          injection hr' with hr'
          injection hr' with e1 e2
          injection e2 with e2 e3 e4
          subst e1; subst e2; subst e3; subst e4
          obtain ⟨rfl, hsl⟩ := hsl rfl
          rcases own_form hown with ⟨rfl, h00⟩ | ⟨b, cap, rfl, h1, h2⟩
          · simp only at hsl
            obtain ⟨rfl, rfl, rfl, rfl⟩ := hsl
            obtain ⟨g1, g2, g3⟩ := sliceBounds_sound (P := P) (isSlice := true) (cap := 0) hh1 hl1 rl rh (by simp)
            refine ⟨_, key none 0 0 0 e' sz' ti _ _ hu hti hsz g3, ?_⟩
            have e1 : hh = 0 := by omega
            have e2 : ll = 0 := by omega
            subst e1; subst e2
            exact .slice hr (Nat.le_refl _) (fun _ => ⟨rfl, by simp⟩)
          · simp only at hsl
            obtain ⟨h3, rfl, x, rfl, h5⟩ := hsl
            obtain ⟨g1, g2, g3⟩ := sliceBounds_sound (P := P) (isSlice := true) (cap := cap - off) hh1 hl1 rl rh (by omega)
            refine ⟨_, key (some x) _ (cap - off) 0 _ sz' ti _ _ hu hti hsz g3, ?_⟩
            have mk : ∀ y, (off + ll < cap ∨ off + ll = 0 → y = ⟨b, (off + ll) * sz', none⟩) → VRel w ρ (.slice r g (off + ll) (hh - ll)) (.slice (some y) (hh - ll) (cap - off - ll)) := fun y hy =>
              .slice hr (Nat.le_refl _) (fun _ => ⟨rfl, by omega, by omega, y, rfl, hy⟩)
            by_cases hcl : cap - off = ll
            · rw [if_pos hcl]
              refine mk x (fun hh' => ?_)
              have hz : off + ll = 0 := by omega
              have := h5 (.inr (by omega))
              rw [this]
              have e1 : off = 0 := by omega
              have e2 : ll = 0 := by omega
              subst e1; subst e2
              rfl
            · rw [if_neg hcl]
              refine mk (x.add (ll * sz')) (fun hh' => ?_)
              have := h5 (.inl (by omega))
              rw [this]
              have : (off + ll) * sz' = off * sz' + ll * sz' := Nat.add_mul ..
              unfold Addr.add
              split <;> simp_all
      · simp at h
    · simp at h
  · obtain ⟨⟨e, sz, by_⟩, hs, h⟩ := Option.bind_eq_some_iff.1 h
    obtain ⟨hh, hh1, h⟩ := Option.bind_eq_some_iff.1 h
    obtain ⟨ll, hl1, h⟩ := Option.bind_eq_some_iff.1 h
    simp only [Option.some.injEq] at h
    subst h
    obtain ⟨hu, ti, hti, hsz, _⟩ := slE_spec hs
    cases hx
    obtain ⟨g1, g2, g3⟩ := sliceBounds_sound (P := P) (isSlice := true) (cap := 0) hh1 hl1 rl rh (by simp)
    refine ⟨_, key none 0 0 0 e sz ti _ _ hu hti hsz g3, ?_⟩
    have e1 : hh = 0 := by omega
    have e2 : ll = 0 := by omega
    subst e1; subst e2
    exact .nilS
  · rename_i s
    split at h
    · rename_i hu
      obtain ⟨hh, hh1, h⟩ := Option.bind_eq_some_iff.1 h
      obtain ⟨ll, hl1, h⟩ := Option.bind_eq_some_iff.1 h
      simp only [Option.some.injEq] at h
      subst h
      cases hx with
      | dat hx =>
      cases hx
      obtain ⟨g1, g2, g3⟩ := sliceBounds_sound (P := P) (isSlice := false) (cap := s.size) hh1 hl1 rl rh (Nat.le_refl _)
      exact ⟨_, by simp [Instr.sliceAt, Instr.slice, run_underlying hu, g3], .dat (.str _)⟩
    · simp at h
  · simp at h
end Go.Sk
namespace Go.Sk
open Go
def CsRel (w : World) (ρ : Rho) (vs : List AVal) (cells : Array Value) : Prop := cells.size = vs.length ∧ ∀ i v, vs[i]? = some v → VRel w ρ v (cells.getD i undef)
def acells : AVal → Option (List AVal)
  | .agg vs => some vs
  | v => if sc v then some [v] else none
theorem acells_sc {v : AVal} (h : sc v = true) : acells v = some [v] := by cases v <;> simp_all [acells, sc]
theorem acells_sound {w : World} {ρ : Rho} {v : AVal} {c : Value} {vs : List AVal} (h : acells v = some vs) (hv : VRel w ρ v c) : CsRel w ρ vs c.cells := by
  by_cases hs : sc v = true
  · rw [acells_sc hs] at h
    injection h with h
    subst h
    have h1 := hv.one hs
    have hc : c.cells = #[c] := by cases c <;> first | rfl | simp [Value.oneCell'] at h1
    rw [hc]
    refine ⟨rfl, fun i u hi => ?_⟩
    cases i with
    | succ i => simp at hi
    | zero =>
      simp only [List.getElem?_cons_zero, Option.some.injEq] at hi
      subst hi
      exact hv
  · cases v with
    | agg us =>
      simp only [acells, Option.some.injEq] at h
      subst h
      cases hv with
      | agg h1 h2 => exact ⟨h1, h2⟩
    | _ => simp_all [acells, sc]
inductive Places where
  | list (l : List (Nat × Nat))
  | stride (s : Nat)
def plc : Places → Nat → Option (Nat × Nat)
  | .list l, i => l[i]?
  | .stride s, i => some (i * s, s)
def bLay (P : Program) (t : TypeId) : Option (List AVal × Places) :=
  match P.info? t, P.underlying t with
  | some it, some (.struct fields) =>
    it.zero.bind fun z => (fields.toList.mapM (fun f => (P.info? f.type).map fun i => (f.offset, i.size))).map fun pl => (z.cells.toList.map ofConst, .list pl)
  | some it, some (.array _ e) =>
    it.zero.bind fun z => (P.info? e).map fun ie => (z.cells.toList.map ofConst, .stride ie.size)
  | _, _ => none
def setRange {α : Type} (cells : List α) (off : Nat) (vs : List α) : List α := cells.take off ++ vs ++ cells.drop (off + vs.length)
def afill (pl : Places) : List AVal → List (Nat × AVal) → Option (List AVal)
  | cells, [] => some cells
  | cells, (i, v) :: rest =>
    (plc pl i).bind fun p => (acells v).bind fun vs => if vs.length = p.2 ∧ p.1 + vs.length ≤ cells.length then afill pl (setRange cells p.1 vs) rest else none
def abuild (P : Program) (t : TypeId) (parts : List (Nat × AVal)) : Option AVal :=
  (bLay P t).bind fun l => (afill l.2 l.1 parts).map .agg
theorem setRange_get {α : Type} (cells : List α) (off : Nat) (vs : List α) (h : off + vs.length ≤ cells.length) (i : Nat) :
    (setRange cells off vs)[i]? = if off ≤ i ∧ i < off + vs.length then vs[i - off]? else cells[i]? := by
  unfold setRange
  have hl : (cells.take off).length = off := by simp; omega
  by_cases h1 : i < off
  · rw [if_neg (by omega), List.append_assoc, List.getElem?_append_left (by omega), List.getElem?_take, if_pos h1]
  · by_cases h2 : i < off + vs.length
    · rw [if_pos ⟨by omega, h2⟩, List.append_assoc, List.getElem?_append_right (by omega), hl, List.getElem?_append_left (by omega)]
    · rw [if_neg (by omega), List.getElem?_append_right (by simp; omega), List.getElem?_drop]
      congr 1
      simp only [List.length_append, hl]
      omega
theorem setRange_length {α : Type} (cells : List α) (off : Nat) (vs : List α) (h : off + vs.length ≤ cells.length) : (setRange cells off vs).length = cells.length := by
  simp [setRange]; omega
theorem foldl_sets (off : Nat) : ∀ (l : List Value) (j : Nat) (C : Array Value), off + j + l.length ≤ C.size →
    ((l.zipIdx j).foldl (fun cs (x : Value × Nat) => cs.setIfInBounds (off + x.2) x.1) C).size = C.size ∧
    ∀ i, ((l.zipIdx j).foldl (fun cs (x : Value × Nat) => cs.setIfInBounds (off + x.2) x.1) C)[i]? = if off + j ≤ i ∧ i < off + j + l.length then l[i - (off + j)]? else C[i]?
  | [], j, C, _ => ⟨rfl, fun i => by rw [if_neg (by simp)]; rfl⟩
  | v :: l, j, C, h => by
    simp only [List.length_cons] at h
    obtain ⟨h1, h2⟩ := foldl_sets off l (j + 1) (C.setIfInBounds (off + j) v) (by rw [Array.size_setIfInBounds]; omega)
    simp only [List.zipIdx_cons, List.foldl_cons]
    refine ⟨by rw [h1]; simp, fun i => ?_⟩
    rw [h2 i]
    by_cases e : i = off + j
    · subst e
      rw [if_neg (by omega), if_pos (by simp only [List.length_cons]; omega)]
      rw [Array.getElem?_setIfInBounds_self_of_lt (by omega)]
      simp
    · by_cases h3 : off + (j + 1) ≤ i ∧ i < off + (j + 1) + l.length
      · rw [if_pos h3, if_pos (by simp only [List.length_cons]; omega)]
        have : i - (off + j) = (i - (off + (j + 1))) + 1 := by omega
        rw [this, List.getElem?_cons_succ]
      · rw [if_neg h3, if_neg (by simp only [List.length_cons]; omega)]
        simp [Array.getElem?_setIfInBounds, Ne.symm e]
theorem CsRel.setRange {w : World} {ρ : Rho} {cells vs : List AVal} {C V : Array Value} (hC : CsRel w ρ cells C) (hV : CsRel w ρ vs V) (off : Nat) (h : off + vs.length ≤ cells.length) :
    CsRel w ρ (setRange cells off vs) (V.zipIdx.foldl (fun cs (x : Value × Nat) => cs.setIfInBounds (off + x.2) x.1) C) := by
  have e : V.zipIdx.foldl (fun cs (x : Value × Nat) => cs.setIfInBounds (off + x.2) x.1) C = (V.toList.zipIdx 0).foldl (fun cs (x : Value × Nat) => cs.setIfInBounds (off + x.2) x.1) C := by
    rw [← Array.foldl_toList]; simp
  obtain ⟨h1, h2⟩ := foldl_sets off V.toList 0 C (by simp [hC.1, hV.1]; omega)
  rw [e]
  refine ⟨by rw [h1, hC.1, setRange_length _ _ _ h], fun i v hi => ?_⟩
  rw [setRange_get _ _ _ h] at hi
  have key : ∀ (A : Array Value) (x : Option Value), A[i]? = x → A.getD i undef = x.getD undef := by
    intro A x hx; rw [← hx]; simp [Array.getD_eq_getD_getElem?]
  rw [key _ _ (h2 i)]
  split at hi
  · rename_i hh
    rw [if_pos (by simp [hV.1]; omega)]
    have := hV.2 _ v hi
    simpa [Array.getD_eq_getD_getElem?] using this
  · rename_i hh
    rw [if_neg (by simp [hV.1]; omega)]
    have := hC.2 _ v hi
    simpa [Array.getD_eq_getD_getElem?] using this
inductive PsRel (w : World) (ρ : Rho) : List (Nat × AVal) → List (Nat × Value) → Prop
  | nil : PsRel w ρ [] []
  | cons {i : Nat} {v : AVal} {c : Value} {ps : List (Nat × AVal)} {cs : List (Nat × Value)} (h : VRel w ρ v c) (hs : PsRel w ρ ps cs) : PsRel w ρ ((i, v) :: ps) ((i, c) :: cs)
theorem afill_sound {pl : Places} {w : World} {ρ : Rho} {parts : List (Nat × AVal)} {cparts : List (Nat × Value)} (hp : PsRel w ρ parts cparts) :
    ∀ {cells out : List AVal} {C : Array Value}, afill pl cells parts = some out → CsRel w ρ cells C → ∃ C', Instr.fill (plc pl) C cparts = some C' ∧ CsRel w ρ out C' := by
  induction hp with
  | nil =>
    intro cells out C h hC
    simp only [afill, Option.some.injEq] at h
    subst h
    exact ⟨C, rfl, hC⟩
  | @cons i v c ps cs hv hs ih =>
    intro cells out C h hC
    simp only [afill] at h
    obtain ⟨⟨off, size⟩, hpl, h⟩ := Option.bind_eq_some_iff.1 h
    obtain ⟨vs, hvs, h⟩ := Option.bind_eq_some_iff.1 h
    split at h
    · rename_i hc
      obtain ⟨h1, h2⟩ := hc
      simp only at h1 h2 h
      have hV := acells_sound hvs hv
      obtain ⟨C', h3, h4⟩ := ih h (hC.setRange hV off h2)
      refine ⟨C', ?_, h4⟩
      unfold Instr.fill
      simp only [hpl]
      rw [if_neg (by rw [hV.1, hC.1]; simp; omega)]
      exact h3
    · simp at h
theorem CsRel.const (w : World) (ρ : Rho) (C : Array Value) : CsRel w ρ (C.toList.map ofConst) C := by
  refine ⟨by simp, fun i v hi => ?_⟩
  rw [List.getElem?_map] at hi
  obtain ⟨c, hc, rfl⟩ := Option.map_eq_some_iff.1 hi
  have : C.getD i undef = c := by simp [Array.getD_eq_getD_getElem?]; simp at hc; simp [hc]
  rw [this]
  exact ofConst_rel w ρ c
theorem abuild_sound {P : Program} {t : TypeId} {parts : List (Nat × AVal)} {v : AVal} (h : abuild P t parts = some v) {w : World} {ρ : Rho} {cparts : Array (Nat × Value)} (hp : PsRel w ρ parts cparts.toList) :
    ∃ c, (Instr.build t cparts).run P w = .ok c w ∧ VRel w ρ v c := by
  unfold abuild at h
  obtain ⟨⟨zs, pl⟩, hl, h⟩ := Option.bind_eq_some_iff.1 h
  obtain ⟨out, ho, rfl⟩ := Option.map_eq_some_iff.1 h
  simp only at ho
  unfold bLay at hl
  split at hl
  · rename_i it fields hi hu
    obtain ⟨z, hz, hl⟩ := Option.bind_eq_some_iff.1 hl
    obtain ⟨places, hpl, hl⟩ := Option.map_eq_some_iff.1 hl
    simp only [Prod.mk.injEq] at hl
    obtain ⟨rfl, rfl⟩ := hl
    obtain ⟨C', h1, h2⟩ := afill_sound hp ho (CsRel.const w ρ z.cells)
    refine ⟨.agg C', run_build w t cparts C' ?_, .agg h2.1 h2.2⟩
    unfold Program.built
    simp only [hi, hu, hz, hpl]
    have e : (fun i => places[i]?) = plc (.list places) := by funext i; rfl
    have e2 : (fun i => places.toArray[i]?) = plc (.list places) := by funext i; simp [plc]
    rw [e2]
    exact h1
  · rename_i it n e hi hu
    obtain ⟨z, hz, hl⟩ := Option.bind_eq_some_iff.1 hl
    obtain ⟨ie, hie, hl⟩ := Option.map_eq_some_iff.1 hl
    simp only [Prod.mk.injEq] at hl
    obtain ⟨rfl, rfl⟩ := hl
    obtain ⟨C', h1, h2⟩ := afill_sound hp ho (CsRel.const w ρ z.cells)
    refine ⟨.agg C', run_build w t cparts C' ?_, .agg h2.1 h2.2⟩
    unfold Program.built
    simp only [hi, hu, hz, hie]
    exact h1
  · simp at hl
end Go.Sk
namespace Go.Sk
open Go
def upd (ρ : Rho) (r : Nat) (x : Nat × CLoc) : Rho := { ρ with m := fun r' => if r' = r then some x else ρ.m r' }
theorem upd_same (ρ : Rho) (r : Nat) (x : Nat × CLoc) : (upd ρ r x).m r = some x := by simp [upd]
theorem upd_ne (ρ : Rho) {r r' : Nat} (x : Nat × CLoc) (h : r' ≠ r) : (upd ρ r x).m r' = ρ.m r' := by simp [upd, h]
theorem grownBy_drop {w w' : World} {ob : Option Nat} (h : w.grownBy w' none) : w.grownBy w' ob := ⟨h.os, h.tape, h.output, h.size, fun k hk _ => h.block k hk (by simp)⟩
theorem ORel.kept {P : Program} {w w' : World} {ρ ρ' : Rho} (hf : Fr All ρ w ρ' w') {l : CLoc} {o : AObj} (h : ORel P w ρ l o) {ob : Option Nat} (hg : w.grownBy w' ob) (hne : ∀ b, l.blk = some b → ob ≠ some b) : ORel P w' ρ' l o := by
  cases l with
  | row v e sz =>
    cases o with
    | map _ => exact h.elim
    | loop _ _ _ _ _ _ _ => exact h.elim
    | glob _ _ => exact h.elim
    | row g e' els =>
      obtain ⟨h1, h2, h3, h4, xs, ho, hx⟩ := h
      refine ⟨h1, h2, h3, h4, xs, ho.kept hg ?_, fun i x hi => ⟨(hx i x hi).1, (hx i x hi).2.fr hf⟩⟩
      cases hb : v.ownBlock with
      | none => exact .inl rfl
      | some b => exact .inr (fun e => hne b hb e.symm)
  | map b =>
    cases o with
    | row _ _ _ => exact h.elim
    | loop _ _ _ _ _ _ _ => exact h.elim
    | glob _ _ => exact h.elim
    | map es =>
      obtain ⟨ents, cl, hh, hs, hx⟩ := h
      refine ⟨ents, cl, ?_, hs, fun i k v hi => ⟨(hx i k v hi).1.fr hf, (hx i k v hi).2.fr hf⟩⟩
      rw [hg.block b (Array.getElem?_eq_some_iff.1 hh).1 (fun e => hne b rfl e.symm)]
      exact hh
  | loop b =>
    cases o with
    | row _ _ _ => exact h.elim
    | map _ => exact h.elim
    | glob _ _ => exact h.elim
    | loop st pend N E ps asg body =>
      obtain ⟨fn, tmps, d, hh, hs, hx⟩ := h
      refine ⟨fn, tmps, d, ?_, hs, fun t v ht => ⟨(hx t v ht).1, (hx t v ht).2.fr hf⟩⟩
      rw [hg.block b (Array.getElem?_eq_some_iff.1 hh).1 (fun e => hne b rfl e.symm)]
      exact hh
  | glob g =>
    cases o with
    | row _ _ _ => exact h.elim
    | map _ => exact h.elim
    | loop _ _ _ _ _ _ _ => exact h.elim
    | glob g' cells =>
      obtain ⟨rfl, hv⟩ := h
      exact ⟨rfl, hv.fr hf⟩
theorem upd_fr {P : Program} {ρ : Rho} {L : LH} {w w' : World} (hL : SatL P ρ L w) {r g : Nat} {l : CLoc} {ob : Option Nat}
    (hob : ∀ b, ob = some b → ∃ x, ρ.m r = some x ∧ x.2.blk = some b) (hg : w.grownBy w' ob) (hv : ∀ b, l.blk = some b → ob = some b ∨ w.heap.size ≤ b)
    (hle : ∀ x, ρ.m r = some x → LocLe x (g, l)) : Fr All ρ w (upd ρ r (g, l)) w' where
  os := hg.os
  tape := hg.tape
  output := hg.output
  size := hg.size
  blk b hb ho := hg.block b hb (fun e => ho (by
    obtain ⟨x, h1, h2⟩ := hob b e.symm
    exact ⟨r, x.1, x.2, h1, h2⟩))
  new b hb := by
    rintro ⟨r', g', l', h1, h2⟩
    by_cases e : r' = r
    · subst e
      rw [upd_same] at h1
      injection h1 with h1
      injection h1 with _ h1
      subst h1
      rcases hv b h2 with h3 | h3
      · obtain ⟨x, h4, h5⟩ := hob b h3
        exact ⟨r', x.1, x.2, h4, h5⟩
      · omega
    · rw [upd_ne ρ _ e] at h1
      exact ⟨r', g', l', h1, h2⟩
  ext := rfl
  keep r' x _ hx := by
    by_cases e : r' = r
    · subst e
      exact ⟨_, upd_same .., hle x hx⟩
    · exact ⟨x, by rw [upd_ne ρ _ e]; exact hx, .refl x⟩
theorem upd_sat {P : Program} {ρ : Rho} {L : LH} {w w' : World} (hL : SatL P ρ L w) {r g : Nat} {l : CLoc} {ob : Option Nat} {o : AObj}
    (hob : ∀ b, ob = some b → ∃ x, ρ.m r = some x ∧ x.2.blk = some b) (hg : w.grownBy w' ob) (hv : ∀ b, l.blk = some b → ob = some b ∨ w.heap.size ≤ b)
    (hle : ∀ x, ρ.m r = some x → LocLe x (g, l)) (hgen : o.gen = g) (hO : ORel P w' (upd ρ r (g, l)) l o) : SatL P (upd ρ r (g, l)) (aset L r o) w' where
  obj r' o' ho := by
    rw [aget_aset] at ho
    by_cases e : r = r'
    · subst e
      simp only [if_true, Option.some.injEq] at ho
      subst ho
      exact ⟨l, by rw [upd_same, hgen], hO⟩
    · rw [if_neg e] at ho
      obtain ⟨l', h1, h2⟩ := hL.obj r' o' ho
      refine ⟨l', by rw [upd_ne ρ _ (Ne.symm e)]; exact h1, h2.kept (upd_fr hL hob hg hv hle) hg (fun b hb hc => ?_)⟩
      obtain ⟨x, h3, h4⟩ := hob b hc
      exact e (hL.inj r r' x _ b h3 h1 h4 hb)
  dom r' x hx := by
    rw [aget_aset]
    by_cases e : r = r'
    · exact ⟨o, by rw [if_pos e]⟩
    · rw [if_neg e]
      rw [upd_ne ρ _ (Ne.symm e)] at hx
      exact hL.dom r' x hx
  inj r1 r2 x1 x2 b h1 h2 h3 h4 := by
    have key : ∀ r' x', r' ≠ r → (upd ρ r (g, l)).m r' = some x' → x'.2.blk = some b → l.blk = some b → False := by
      intro r' x' hne h5 h6 h7
      rw [upd_ne ρ _ hne] at h5
      rcases hv b h7 with h8 | h8
      · obtain ⟨x, h9, h10⟩ := hob b h8
        exact hne (hL.inj r' r x' x b h5 h9 h6 h10)
      · have := hL.lt (b := b) ⟨r', x'.1, x'.2, h5, h6⟩
        omega
    by_cases e1 : r1 = r <;> by_cases e2 : r2 = r
    · rw [e1, e2]
    · subst e1
      rw [upd_same] at h1
      injection h1 with h1
      subst h1
      exact (key r2 x2 e2 h2 h4 h3).elim
    · subst e2
      rw [upd_same] at h2
      injection h2 with h2
      subst h2
      exact (key r1 x1 e1 h1 h3 h4).elim
    · rw [upd_ne ρ _ e1] at h1
      rw [upd_ne ρ _ e2] at h2
      exact hL.inj r1 r2 x1 x2 b h1 h2 h3 h4
  dis b := by
    rintro ⟨r', g', l', h1, h2⟩ hx
    by_cases e : r' = r
    · subst e
      rw [upd_same] at h1
      injection h1 with h1
      injection h1 with _ h1
      subst h1
      rcases hv b h2 with h3 | h3
      · obtain ⟨x, h4, h5⟩ := hob b h3
        exact hL.dis b ⟨r', x.1, x.2, h4, h5⟩ hx
      · have := hL.elt b hx
        omega
    · rw [upd_ne ρ _ e] at h1
      exact hL.dis b ⟨r', g', l', h1, h2⟩ hx
  elt b hx := Nat.lt_of_lt_of_le (hL.elt b hx) hg.size
theorem new_row {P : Program} {ρ : Rho} {L : LH} {w w' : World} (hL : SatL P ρ L w) {r g e sz : Nat} {v : Value} {els : List (List AVal)} {xs : List Value} (hnn : g % 2 = 1 → v ≠ .slice none 0 0)
    (hr : aget L r = none) (hg : w.grownBy w' none) (hs : sz = P.cellsOf e) (h0 : 0 < sz) (hsz : ∀ el ∈ els, el.length = sz) (hown : w'.ownsRow w.heap.size e sz v els.length xs)
    (hx : ∀ i x, els.flatten[i]? = some x → sc x = true ∧ VRel w ρ x (xs.getD i undef)) :
    SatL P (upd ρ r (g, .row v e sz)) (aset L r (.row g e els)) w' ∧ Fr All ρ w (upd ρ r (g, .row v e sz)) w' := by
  have hρ : ρ.m r = none := by
    cases h : ρ.m r with
    | none => rfl
    | some x => obtain ⟨o, ho⟩ := hL.dom r x h; rw [hr] at ho; simp at ho
  have hob : ∀ b, (none : Option Nat) = some b → ∃ x, ρ.m r = some x ∧ x.2.blk = some b := fun b h => by simp at h
  have hv : ∀ b, (CLoc.row v e sz).blk = some b → (none : Option Nat) = some b ∨ w.heap.size ≤ b := fun b h => .inr (hown.lt b h).1
  have hle : ∀ x, ρ.m r = some x → LocLe x (g, .row v e sz) := fun x h => by rw [hρ] at h; simp at h
  have hf := upd_fr hL hob hg hv hle
  refine ⟨upd_sat hL hob hg hv hle rfl ⟨rfl, ⟨hs, hnn⟩, h0, hsz, xs, ⟨hown.1, ?_⟩, fun i x hi => ⟨(hx i x hi).1, (hx i x hi).2.fr hf⟩⟩, hf⟩
  rcases hown.2 with h | ⟨b, cap, cur, h1, _, h2⟩
  · exact .inl h
  · exact .inr ⟨b, cap, cur, h1, Nat.zero_le _, h2⟩
end Go.Sk