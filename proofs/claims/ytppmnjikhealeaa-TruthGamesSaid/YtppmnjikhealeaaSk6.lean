/- A part of the proofs of this seat: plain functions that may fail. It has no conditions. -/
import GoSem.Core.View
set_option linter.unusedVariables false
set_option linter.unusedSimpArgs false
namespace Go.Sk
open Go
def getI {α R : Type} (xs : List α) (i : Int) (k : α → Option R) : Option R :=
  if 0 ≤ i then (match xs[i.toNat]? with | some x => k x | none => none) else none
def capN {R : Type} (n : Nat) (x : Option R) : Option R := if n ≤ 1099511627776 then x else none
def okI {R : Type} (p : Prop) [Decidable p] (x : Option R) : Option R := if p then x else none
def jn {S R : Type} (f : S → Option R) (g : (S → Option R) → Option R) : Option R := g f
def rangeF {α S R : Type} (f : Nat → α → S → (S → Option R) → Option R) : Nat → List α → S → (S → Option R) → Option R
  | _, [], s, k => k s
  | i, x :: xs, s, k => f i x s (fun s' => rangeF f (i + 1) xs s' k)
def upF {S R : Type} (f : Int → S → (S → Option R) → Option R) : Nat → Int → S → (S → Option R) → Option R
  | 0, _, s, k => k s
  | n + 1, i, s, k => f i s (fun s' => upF f n (i + 1) s' k)
def whileF {S R : Type} : Nat → ((S → Option R) → S → Option R) → S → Option R
  | 0, _, _ => none
  | n + 1, b, s => b (whileF n b) s
def InK (k : IntKind) (n : Int) : Prop := k.min ≤ n ∧ n ≤ k.max
def InB (_ : Bool) : Prop := True
def InL {α : Type} (wf : α → Prop) (xs : List α) : Prop := xs.length ≤ 9223372036854775807 ∧ ∀ a ∈ xs, wf a
def InLz {α : Type} (wf : α → Prop) (xs : List α) : Prop := xs.length ≤ 140737488351232 ∧ ∀ a ∈ xs, wf a
theorem InLz.wide {α : Type} {wf wf' : α → Prop} {xs : List α} (h : InLz wf xs) (hw : ∀ a, wf a → wf' a) : InL wf' xs := ⟨Nat.le_trans h.1 (by decide), fun a ha => hw a (h.2 a ha)⟩
def srt (xs : List Int) : List Int := xs.mergeSort fun x y => decide (x ≤ y)
def imx (x y : Int) : Int := if y > x then y else x
def imn (x y : Int) : Int := if y < x then y else x
theorem getI_some {α R : Type} {xs : List α} {i : Int} {k : α → Option R} {r : R} (h : getI xs i k = some r) : ∃ x, 0 ≤ i ∧ xs[i.toNat]? = some x ∧ k x = some r := by
  unfold getI at h
  split at h
  · split at h
    · exact ⟨_, ‹_›, ‹_›, h⟩
    · simp at h
  · simp at h
theorem capN_some {R : Type} {n : Nat} {x : Option R} {r : R} (h : capN n x = some r) : n ≤ 1099511627776 ∧ x = some r := by
  unfold capN at h
  split at h
  · exact ⟨‹_›, h⟩
  · simp at h
theorem okI_some {R : Type} {p : Prop} [Decidable p] {x : Option R} {r : R} (h : okI p x = some r) : p ∧ x = some r := by
  unfold okI at h
  split at h
  · exact ⟨‹_›, h⟩
  · simp at h
theorem bind_some_elim {α R : Type} {x : Option α} {f : α → Option R} {r : R} (h : x.bind f = some r) : ∃ a, x = some a ∧ f a = some r := Option.bind_eq_some_iff.1 h
def mget {β : Type} : List (Int × β) → Int → Option β
  | [], _ => none
  | (a, b) :: l, k => if (k == a) = true then some b else mget l k
def mset {β : Type} : List (Int × β) → Int → β → List (Int × β)
  | [], k, v => [(k, v)]
  | (a, b) :: l, k, v => if (k == a) = true then (k, v) :: l else (a, b) :: mset l k v
theorem mget_mset {β : Type} (l : List (Int × β)) (k : Int) (v : β) (j : Int) : mget (mset l k v) j = if j = k then some v else mget l j := by
  induction l with
  | nil => simp [mset, mget]
  | cons p l ih =>
    obtain ⟨a, b⟩ := p
    simp only [mset, beq_iff_eq]
    by_cases h : k = a
    · subst h
      simp only [if_true, mget, beq_iff_eq]
      by_cases h2 : j = k <;> simp [h2]
    · simp only [if_neg h, mget, beq_iff_eq, ih]
      by_cases h2 : j = a
      · subst h2
        have : ¬ j = k := fun e => h e.symm
        simp [this]
      · simp [h2]
theorem getI_nat {α R : Type} {xs : List α} {j : Nat} {k : α → Option R} : getI xs (j : Int) k = match xs[j]? with | some x => k x | none => none := by
  unfold getI; simp
theorem capN_eq {R : Type} {n : Nat} {x : Option R} (h : n ≤ 1099511627776) : capN n x = x := if_pos h
theorem okI_eq {R : Type} {p : Prop} [Decidable p] {x : Option R} (h : p) : okI p x = x := if_pos h
end Go.Sk
namespace Go.Sk
open Go
end Go.Sk