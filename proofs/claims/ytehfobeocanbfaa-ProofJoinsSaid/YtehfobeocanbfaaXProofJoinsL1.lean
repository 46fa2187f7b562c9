/- The plain law of ProofJoins, part 1: about numbers and lists alone. It has no conditions. -/
import Derived.Test.YtehfobeocanbfaaXProofJoinsF
set_option linter.unusedVariables false
set_option linter.unusedSimpArgs false
namespace Go.Sk
open Go

/-! ### Plain words -/
theorem jn_eq {S R : Type} (f : S → Option R) (g : (S → Option R) → Option R) : jn f g = g f := rfl
theorem rangeF_nil {α S R : Type} (f : Nat → α → S → (S → Option R) → Option R) (i : Nat) (s : S) (k : S → Option R) : rangeF f i [] s k = k s := rfl
theorem rangeF_cons {α S R : Type} (f : Nat → α → S → (S → Option R) → Option R) (i : Nat) (x : α) (xs : List α) (s : S) (k : S → Option R) : rangeF f i (x :: xs) s k = f i x s (fun s' => rangeF f (i + 1) xs s' k) := rfl
theorem upF_zero {S R : Type} (f : Int → S → (S → Option R) → Option R) (i : Int) (s : S) (k : S → Option R) : upF f 0 i s k = k s := rfl
theorem upF_succ {S R : Type} (f : Int → S → (S → Option R) → Option R) (n : Nat) (i : Int) (s : S) (k : S → Option R) : upF f (n + 1) i s k = f i s (fun s' => upF f n (i + 1) s' k) := rfl
theorem whileF_succ {S R : Type} (n : Nat) (b : (S → Option R) → S → Option R) (s : S) : whileF (n + 1) b s = b (whileF n b) s := rfl

/-- a while loop by a measure -/
theorem whileF_by {S R : Type} {b : (S → Option R) → S → Option R} (μ : S → Nat) (I : S → Prop) (g : S → Option R)
    (step : ∀ s k, I s → (∀ s', I s' → μ s' < μ s → k s' = g s') → b k s = g s) : ∀ n s, I s → μ s < n → whileF n b s = g s
  | 0, s, _, h => absurd h (Nat.not_lt_zero _)
  | n + 1, s, hI, h => by
    rw [whileF_succ]
    exact step s _ hI (fun s' h1 h2 => whileF_by μ I g step n s' h1 (by omega))

theorem rangeF_eq {α S R : Type} {f : Nat → α → S → (S → Option R) → Option R} {k : S → Option R} (g : Nat → List α → S → Option R) (h0 : ∀ j s, g j [] s = k s)
    (h1 : ∀ j x xs s kk, (∀ s', kk s' = g (j + 1) xs s') → f j x s kk = g j (x :: xs) s) : ∀ xs j s, rangeF f j xs s k = g j xs s
  | [], j, s => (h0 j s).symm
  | x :: xs, j, s => h1 j x xs s _ (fun s' => rangeF_eq g h0 h1 xs (j + 1) s')

/-- where what went before matters -/
theorem rangeF_pre {α S R : Type} {f : Nat → α → S → (S → Option R) → Option R} {k : S → Option R} (full : List α) (I : List α → S → Prop) (g : List α → List α → S → Option R) (h0 : ∀ s, I full s → k s = g full [] s)
    (h1 : ∀ pre x xs s kk, full = pre ++ x :: xs → I pre s → (∀ s', I (pre ++ [x]) s' → kk s' = g (pre ++ [x]) xs s') → f pre.length x s kk = g pre (x :: xs) s) : ∀ xs pre s, full = pre ++ xs → I pre s → rangeF f pre.length xs s k = g pre xs s
  | [], pre, s, hf, hI => by
    rw [List.append_nil] at hf; subst hf
    exact h0 s hI
  | x :: xs, pre, s, hf, hI => by
    refine h1 pre x xs s _ hf hI (fun s' hs' => ?_)
    have := rangeF_pre full I g h0 h1 xs (pre ++ [x]) s' (by simp [hf]) hs'
    rw [List.length_append] at this
    exact this

theorem wrap_id {n : Int} (h0 : -9223372036854775808 ≤ n) (h1 : n ≤ 9223372036854775807) : IntKind.wrap .i64 n = n := by
  simp only [IntKind.wrap, IntKind.bits, IntKind.signed]
  simp only [Bool.true_and]
  split <;> rename_i h <;> simp only [ge_iff_le, decide_eq_true_eq] at h <;> omega

theorem inK64 {n : Int} : InK .i64 n ↔ -9223372036854775808 ≤ n ∧ n ≤ 9223372036854775807 := Iff.rfl

/-! ### Normal lists of literals -/
def av (x : Int) : Int := if x < 0 then -x else x
def nrmB (last : Int) : List Int → Bool
  | [] => true
  | x :: xs => decide (-65536 ≤ x) && decide (x ≤ 65536) && decide (last < av x) && nrmB (av x) xs

theorem av_nonneg (x : Int) : 0 ≤ av x := by unfold av; split <;> omega
theorem av_neg (x : Int) : av (-x) = av x := by unfold av; split <;> split <;> omega
theorem av_eq {x y : Int} (h : av x = av y) : x = y ∨ x = -y := by unfold av at h; split at h <;> split at h <;> omega

theorem nrm_cons {c x : Int} {xs : List Int} : nrmB c (x :: xs) = true ↔ -65536 ≤ x ∧ x ≤ 65536 ∧ c < av x ∧ nrmB (av x) xs = true := by
  simp [nrmB, and_assoc]
theorem nrm_mono {c c' : Int} (h : c' ≤ c) : ∀ {l : List Int}, nrmB c l = true → nrmB c' l = true
  | [], _ => rfl
  | x :: xs, h' => by
    rw [nrm_cons] at h' ⊢
    exact ⟨h'.1, h'.2.1, by omega, h'.2.2.2⟩
theorem nrm_mem : ∀ {c : Int} {l : List Int}, nrmB c l = true → ∀ x ∈ l, c < av x ∧ -65536 ≤ x ∧ x ≤ 65536
  | c, [], _, x, h => by simp at h
  | c, y :: ys, h, x, hx => by
    rw [nrm_cons] at h
    rcases List.mem_cons.1 hx with rfl | hx
    · exact ⟨h.2.2.1, h.1, h.2.1⟩
    · have := nrm_mem h.2.2.2 x hx
      exact ⟨by omega, this.2⟩
theorem nrm_ext : ∀ {l l' : List Int} {c c' : Int}, nrmB c l = true → nrmB c' l' = true → (∀ x, x ∈ l ↔ x ∈ l') → l = l'
  | [], [], _, _, _, _, _ => rfl
  | [], y :: ys, _, _, _, _, h => by have := (h y).2 (by simp); simp at this
  | x :: xs, [], _, _, _, _, h => by have := (h x).1 (by simp); simp at this
  | x :: xs, y :: ys, c, c', h1, h2, h => by
    rw [nrm_cons] at h1 h2
    have hxy : x = y := by
      have hx := (h x).1 (by simp)
      have hy := (h y).2 (by simp)
      rcases List.mem_cons.1 hx with e | hx
      · exact e
      · rcases List.mem_cons.1 hy with e | hy
        · exact e.symm
        · have := (nrm_mem h2.2.2.2 x hx).1
          have := (nrm_mem h1.2.2.2 y hy).1
          omega
    subst hxy
    congr 1
    refine nrm_ext h1.2.2.2 h2.2.2.2 (fun z => ⟨fun hz => ?_, fun hz => ?_⟩)
    · rcases List.mem_cons.1 ((h z).1 (by simp [hz])) with e | e
      · subst e; have := (nrm_mem h1.2.2.2 z hz).1; omega
      · exact e
    · rcases List.mem_cons.1 ((h z).2 (by simp [hz])) with e | e
      · subst e; have := (nrm_mem h2.2.2.2 z hz).1; omega
      · exact e
theorem nrm_filter (p : Int → Bool) : ∀ {l : List Int} {c : Int}, nrmB c l = true → nrmB c (l.filter p) = true
  | [], _, h => rfl
  | x :: xs, c, h => by
    rw [nrm_cons] at h
    simp only [List.filter_cons]
    split
    · rw [nrm_cons]; exact ⟨h.1, h.2.1, h.2.2.1, nrm_filter p h.2.2.2⟩
    · exact nrm_mono (by omega) (nrm_filter p h.2.2.2)
theorem nrm_two {c : Int} {l : List Int} (h : nrmB c l = true) (hc : 0 ≤ c) {x y : Int} (hx : x ∈ l) (hy : y ∈ l) (e : av x = av y) : x = y := by
  induction l generalizing c with
  | nil => simp at hx
  | cons z zs ih =>
    rw [nrm_cons] at h
    rcases List.mem_cons.1 hx with e1 | hx1 <;> rcases List.mem_cons.1 hy with e2 | hy1
    · rw [e1, e2]
    · subst e1; have := (nrm_mem h.2.2.2 y hy1).1; omega
    · subst e2; have := (nrm_mem h.2.2.2 x hx1).1; omega
    · exact ih h.2.2.2 (av_nonneg z) hx1 hy1

/-- a literal among sorted ones, unless its variable is there -/
def ins (x : Int) : List Int → List Int
  | [] => [x]
  | y :: ys => if av x < av y then x :: y :: ys else if av x = av y then y :: ys else y :: ins x ys

theorem nrm_ins {x : Int} (h1 : -65536 ≤ x) (h2 : x ≤ 65536) : ∀ {l : List Int} {c : Int}, c < av x → nrmB c l = true → nrmB c (ins x l) = true
  | [], c, hc, _ => by rw [ins, nrm_cons]; exact ⟨h1, h2, hc, rfl⟩
  | y :: ys, c, hc, h => by
    have h' := nrm_cons.1 h
    simp only [ins]
    split
    · rw [nrm_cons, nrm_cons]; exact ⟨h1, h2, hc, h'.1, h'.2.1, by assumption, h'.2.2.2⟩
    · split
      · exact h
      · rw [nrm_cons]; exact ⟨h'.1, h'.2.1, h'.2.2.1, nrm_ins h1 h2 (by omega) h'.2.2.2⟩

theorem mem_ins {x z : Int} : ∀ {l : List Int}, (∀ y ∈ l, av y = av x → y = x) → (z ∈ ins x l ↔ z = x ∨ z ∈ l)
  | [], _ => by simp [ins]
  | y :: ys, h => by
    simp only [ins]
    split
    · simp
    · split
      · rename_i e
        have := h y (by simp) e.symm
        subst this
        simp
      · rw [List.mem_cons, mem_ins (fun w hw => h w (by simp [hw])), List.mem_cons]
        constructor
        · rintro (h | h | h) <;> simp [h]
        · rintro (h | h | h) <;> simp [h]

end Go.Sk

namespace Go.Sk.X
open Go Go.Sk

/-! ### The small functions, told plainly -/

theorem abs_eq {x : Int} (h0 : -9223372036854775807 ≤ x) (h1 : x ≤ 9223372036854775807) : F_proof_abs x = some (av x) := by
  unfold F_proof_abs
  rw [wrap_id (by omega) (by omega)]
  congr 1
  unfold imx av
  split <;> split <;> omega

theorem Abs_eq {x : Int} (h0 : -9223372036854775807 ≤ x) (h1 : x ≤ 9223372036854775807) : F_skolemref09_Abs x = some (av x) := by
  unfold F_skolemref09_Abs av
  rw [wrap_id (by omega) (by omega)]
  split <;> rename_i h <;> simp only [decide_eq_true_eq] at h
  · rw [if_pos h]; congr 1; omega
  · rw [if_neg h]

theorem normal_eq (l : List Int) : F_proof_normal l = some (nrmB 0 l) := by
  unfold F_proof_normal
  refine rangeF_eq (fun _ xs c => some (nrmB c xs)) (fun _ _ => rfl) (fun j x xs c kk hk => ?_) l 0 0
  simp only [jn_eq, hk, nrmB]
  by_cases h1 : x < -65536
  · have : ¬ (-65536 ≤ x) := by omega
    simp [h1, this]
  · by_cases h2 : x > 65536
    · have : ¬ (x ≤ 65536) := by omega
      simp [h1, h2, this]
    · have h3 : -65536 ≤ x := by omega
      have h4 : x ≤ 65536 := by omega
      rw [abs_eq (by omega) (by omega)]
      by_cases h5 : av x ≤ c
      · have : ¬ c < av x := by omega
        simp [h1, h2, h5, this]
      · have : c < av x := by omega
        simp [h1, h2, h3, h4, h5, this]

def lastV : List Int → Int
  | [] => 0
  | x :: xs => (x :: xs).foldl (fun _ y => av y) 0

theorem lastV_app (l : List Int) (x : Int) : lastV (l ++ [x]) = av x := by
  cases l <;> simp [lastV]
theorem lastV_get {l : List Int} (h : 0 < l.length) : ∃ y, l[l.length - 1]? = some y ∧ lastV l = av y := by
  obtain ⟨l', y, rfl⟩ : ∃ l' y, l = l' ++ [y] := ⟨l.dropLast, l.getLast (by intro e; subst e; simp at h), (List.dropLast_concat_getLast _).symm⟩
  exact ⟨y, by simp, lastV_app l' y⟩

theorem Normal_eq {l : List Int} (hl : l.length ≤ 9223372036854775807) : F_skolemref09_Normal l = some (nrmB 0 l) := by
  unfold F_skolemref09_Normal
  refine rangeF_pre l (fun pre _ => ∀ y ∈ pre, -65536 ≤ y ∧ y ≤ 65536) (fun pre xs _ => some (nrmB (lastV pre) xs)) (fun _ _ => rfl) (fun pre x xs s kk hf hI hk => ?_) l [] () rfl (by simp)
  have hlen : pre.length + (xs.length + 1) = l.length := by rw [hf]; simp
  simp only [jn_eq, nrmB]
  by_cases h1 : x < -65536
  · have : ¬ (-65536 ≤ x) := by omega
    simp [h1, this]
  · by_cases h2 : x > 65536
    · have : ¬ (x ≤ 65536) := by omega
      simp [h1, h2, this]
    · have h3 : -65536 ≤ x := by omega
      have h4 : x ≤ 65536 := by omega
      have hk := hk () (fun y hy => by
        rcases List.mem_append.1 hy with hy | hy
        · exact hI y hy
        · simp at hy; subst hy; exact ⟨h3, h4⟩)
      rw [lastV_app] at hk
      have h0 : 0 ≤ lastV pre := by
        cases pre with
        | nil => simp [lastV]
        | cons a b => obtain ⟨y, _, e⟩ := lastV_get (l := a :: b) (by simp); rw [e]; exact av_nonneg y
      by_cases h5 : x = 0
      · subst h5
        have : ¬ lastV pre < av 0 := by have : av 0 = 0 := rfl; omega
        simp [this]
      · have hav : 0 < av x := by unfold av; split <;> omega
        by_cases h6 : pre.length = 0
        · have : pre = [] := List.eq_nil_of_length_eq_zero h6
          subst this
          simp [h1, h2, h3, h4, h5, hk, lastV, hav]
        · obtain ⟨y, hy, e⟩ := lastV_get (l := pre) (by omega)
          have hy2 : l[((pre.length : Int) - 1).toNat]? = some y := by
            rw [hf, List.getElem?_append_left (by omega), show ((pre.length : Int) - 1).toNat = pre.length - 1 by omega]; exact hy
          have hyb := hI y (List.mem_of_getElem? hy)
          rw [wrap_id (by omega) (by omega), getI_eq (by omega) hy2, Abs_eq (by omega) (by omega), Abs_eq (by omega) (by omega)]
          have h7 : pre ≠ [] := by intro e; subst e; simp at h6
          by_cases h8 : av y ≥ av x
          · have : ¬ lastV pre < av x := by omega
            simp [h1, h2, h5, h7, h8, this]
          · have : lastV pre < av x := by omega
            simp [h1, h2, h3, h4, h5, h7, h8, this, hk]

/-! equality and membership -/
theorem Equal_eq (a b : List Int) : F_slices_Equal_int_int a b = some (decide (a = b)) := by
  unfold F_slices_Equal_int_int
  by_cases hl : a.length = b.length
  · rw [if_neg (by simp [hl])]
    refine (rangeF_pre a (fun pre _ => b.take pre.length = pre) (fun pre xs _ => some (decide (a = b))) (fun _ hI => ?_) (fun pre x xs s kk hf hI hk => ?_) a [] () rfl rfl)
    · simp only [hl, List.take_length] at hI
      simp [hI]
    · have hlt : pre.length < b.length := by rw [← hl, hf]; simp
      rw [getI_nat, List.getElem?_eq_getElem hlt]
      simp only
      by_cases hx : x = b[pre.length]
      · rw [if_neg (by simp [hx])]
        refine hk () ?_
        rw [List.length_append, List.length_singleton, List.take_add_one, hI, List.getElem?_eq_getElem hlt, hx]
        rfl
      · rw [if_pos (by simpa using hx)]
        have : a ≠ b := by
          intro e
          apply hx
          have h1 : b[pre.length]? = some x := by rw [← e, hf]; simp
          rw [List.getElem?_eq_getElem hlt] at h1
          exact (Option.some.inj h1).symm
        simp [this]
  · have : a ≠ b := fun e => hl (by rw [e])
    rw [if_pos (by simp; omega)]
    simp [this]
theorem Same_eq (a b : List Int) : F_skolemref09_Same a b = some (decide (a = b)) := Equal_eq a b

theorem Index_eq (a : List Int) (x : Int) (hl : a.length ≤ 9223372036854775807) : ∃ n, F_slices_Index_int_int a x = some n ∧ (0 ≤ n ↔ x ∈ a) := by
  have key : ∀ (xs : List Int) (j : Nat), ∃ n, rangeF (fun (j104 : Nat) (x105 : Int) (s101 : Unit) k103 => (if (x == x105) = true then (some ((j104 : Nat) : Int)) else (k103 ()))) j xs () (fun _ => some (-1 : Int)) = some n ∧ (0 ≤ n ↔ x ∈ xs) := by
    intro xs
    induction xs with
    | nil => intro j; exact ⟨-1, rfl, by simp⟩
    | cons y ys ih =>
      intro j
      rw [rangeF_cons]
      by_cases hx : x = y
      · subst hx
        exact ⟨j, by simp, by simp⟩
      · obtain ⟨n, h1, h2⟩ := ih (j + 1)
        exact ⟨n, by simp only [beq_iff_eq, if_neg hx] at h1 ⊢; exact h1, by rw [h2]; simp [hx]⟩
  exact key a 0
theorem Contains_eq (a : List Int) (x : Int) (hl : a.length ≤ 9223372036854775807) : F_slices_Contains_int_int a x = some (decide (x ∈ a)) := by
  obtain ⟨n, h1, h2⟩ := Index_eq a x hl
  unfold F_slices_Contains_int_int
  rw [h1]
  simp only [Option.bind_some, Option.some.injEq, decide_eq_decide]
  exact h2
theorem Has_eq (a : List Int) (x : Int) : F_skolemref09_Has a x = some (decide (x ∈ a)) := by
  unfold F_skolemref09_Has
  refine rangeF_eq (fun _ xs _ => some (decide (x ∈ xs))) (fun _ _ => by simp) (fun j y xs c kk hk => ?_) a 0 ()
  rw [hk]
  by_cases h : y = x
  · simp [h]
  · rw [if_neg (by simpa using h)]
    have : x ≠ y := fun e => h e.symm
    simp [this]

theorem Clone_eq (a : List Int) (h : a.length ≤ 1099511627776) : F_slices_Clone_int_int a = some a := by
  unfold F_slices_Clone_int_int
  split
  · rename_i e; have : a = [] := by simpa using e
    rw [this]
  · rw [capN_eq (by simpa using h)]; simp

/-! CNFs -/
def cnfB : Int → List (List Int) → Bool
  | _, [] => true
  | n, c :: cs => !decide (IntKind.wrap .i64 (n + (c.length : Int)) > 200000) && (nrmB 0 c && cnfB (IntKind.wrap .i64 (n + (c.length : Int))) cs)

theorem cnfB_mem : ∀ {n : Int} {l : List (List Int)}, cnfB n l = true → ∀ c ∈ l, nrmB 0 c = true
  | _, [], _, c, h => by simp at h
  | n, d :: ds, h, c, hc => by
    simp only [cnfB, Bool.and_eq_true] at h
    rcases List.mem_cons.1 hc with rfl | hc
    · exact h.2.1
    · exact cnfB_mem h.2.2 c hc

theorem cnf_eq (l : List (List Int)) : F_proof_cnf l = some (decide (l.length ≤ 20000) && cnfB 0 l) := by
  unfold F_proof_cnf
  by_cases h0 : l.length ≤ 20000
  · rw [if_neg (by simp; omega)]
    refine (rangeF_eq (fun _ xs n => some (cnfB n xs)) (fun _ _ => rfl) (fun j x xs n kk hk => ?_) l 0 0).trans (by simp [h0])
    simp only [jn_eq, cnfB, normal_eq, Option.bind_some, hk]
    by_cases h1 : IntKind.wrap .i64 (n + (x.length : Int)) > 200000
    · simp [h1]
    · simp only [h1, decide_false, Bool.false_eq_true, if_false, Bool.not_false, Bool.true_and]
      cases nrmB 0 x <;> simp
  · rw [if_pos (by simp; omega)]
    simp [h0]
theorem Cnf_eq {l : List (List Int)} (hl : InL (InL (InK .i64)) l) : F_skolemref09_Cnf l = some (decide (l.length ≤ 20000) && cnfB 0 l) := by
  unfold F_skolemref09_Cnf
  by_cases h0 : l.length ≤ 20000
  · rw [if_neg (by simp; omega)]
    refine (rangeF_pre l (fun _ _ => True) (fun _ xs n => some (cnfB n xs)) (fun _ _ => rfl) (fun pre x xs n kk hf _ hk => ?_) l [] 0 rfl trivial).trans (by simp [h0])
    have hx : x.length ≤ 9223372036854775807 := (hl.2 x (by rw [hf]; simp)).1
    have hk := fun n => hk n trivial
    simp only [jn_eq, cnfB, Normal_eq hx, Option.bind_some, hk]
    by_cases h1 : IntKind.wrap .i64 (n + (x.length : Int)) > 200000
    · simp [h1]
    · simp only [h1, decide_false, Bool.false_eq_true, if_false, Bool.not_false, Bool.true_and]
      cases nrmB 0 x <;> simp
  · rw [if_pos (by simp; omega)]
    simp [h0]
end Go.Sk.X

namespace Go.Sk.X
open Go Go.Sk

theorem nrm_len : ∀ {c : Int} {l : List Int}, nrmB c l = true → 0 ≤ c → (l.length : Int) ≤ 65536 - c ∨ l = []
  | _, [], _, _ => .inr rfl
  | c, x :: xs, h, hc => by
    rw [nrm_cons] at h
    have hx : av x ≤ 65536 := by unfold av; split <;> omega
    left
    rcases nrm_len h.2.2.2 (av_nonneg x) with h1 | h1
    · simp only [List.length_cons]; omega
    · subst h1; simp; omega
theorem nrm_len' {l : List Int} (h : nrmB 0 l = true) : l.length ≤ 65536 := by
  rcases nrm_len h (Int.le_refl 0) with h | h
  · omega
  · simp [h]
theorem nrm_lenC {c : Int} {l : List Int} (h : nrmB c l = true) (hc : 0 ≤ c) : l.length ≤ 65536 := nrm_len' (nrm_mono hc h)

/-! ### Merging as the program does -/
def mg (p : Int) : List Int → List Int → Option (List Int)
  | [], b => some b
  | a, [] => some a
  | x :: a, y :: b =>
    if av x < av y then (mg p a (y :: b)).map (x :: ·)
    else if av y < av x then (mg p (x :: a) b).map (y :: ·)
    else if x = y then (mg p a b).map (x :: ·)
    else if x = p then mg p a b
    else none
termination_by a b => a.length + b.length

theorem mg_nil_right (p : Int) (a : List Int) : mg p a [] = some a := by
  cases a <;> simp [mg]

theorem mg_nrm {p : Int} : ∀ (n : Nat) (a b m : List Int) (c : Int), a.length + b.length ≤ n → nrmB c a = true → nrmB c b = true → mg p a b = some m → nrmB c m = true
  | n, [], b, m, c, _, ha, hb, h => by simp [mg] at h; subst h; exact hb
  | n, a, [], m, c, _, ha, hb, h => by rw [mg_nil_right] at h; injection h with h; subst h; exact ha
  | 0, x :: a, y :: b, m, c, hn, ha, hb, h => by simp at hn
  | n + 1, x :: a, y :: b, m, c, hn, ha, hb, h => by
    simp only [List.length_cons] at hn
    rw [mg] at h
    have ha' := nrm_cons.1 ha
    have hb' := nrm_cons.1 hb
    split at h
    · obtain ⟨m', h1, rfl⟩ := Option.map_eq_some_iff.1 h
      rw [nrm_cons]
      exact ⟨ha'.1, ha'.2.1, ha'.2.2.1, mg_nrm n a (y :: b) m' _ (by simp; omega) ha'.2.2.2 (by rw [nrm_cons]; exact ⟨hb'.1, hb'.2.1, by assumption, hb'.2.2.2⟩) h1⟩
    · split at h
      · obtain ⟨m', h1, rfl⟩ := Option.map_eq_some_iff.1 h
        rw [nrm_cons]
        exact ⟨hb'.1, hb'.2.1, hb'.2.2.1, mg_nrm n (x :: a) b m' _ (by simp; omega) (by rw [nrm_cons]; exact ⟨ha'.1, ha'.2.1, by assumption, ha'.2.2.2⟩) hb'.2.2.2 h1⟩
      · have hxy : av x = av y := by omega
        split at h
        · obtain ⟨m', h1, rfl⟩ := Option.map_eq_some_iff.1 h
          rw [nrm_cons]
          exact ⟨ha'.1, ha'.2.1, ha'.2.2.1, mg_nrm n a b m' _ (by omega) ha'.2.2.2 (by rw [hxy]; exact hb'.2.2.2) h1⟩
        · split at h
          · exact nrm_mono (by omega) (mg_nrm n a b m (av x) (by omega) ha'.2.2.2 (by rw [hxy]; exact hb'.2.2.2) h)
          · simp at h

/-- no variable meets its negation but p -/
def NoClash (p : Int) (a b : List Int) : Prop := ∀ x ∈ a, x ≠ p → -x ∉ b

theorem mg_some {p : Int} (hp : 0 < p) : ∀ (n : Nat) (a b : List Int) (c : Int), a.length + b.length ≤ n → 0 ≤ c → nrmB c a = true → nrmB c b = true → NoClash p a b → ∃ m, mg p a b = some m ∧ ∀ z, z ∈ m ↔ (z ∈ a ∧ (z ≠ p ∨ -p ∉ b)) ∨ (z ∈ b ∧ (z ≠ -p ∨ p ∉ a))
  | n, [], b, c, _, hc, ha, hb, h => ⟨b, by simp [mg], fun z => by simp⟩
  | n, a, [], c, _, hc, ha, hb, h => ⟨a, mg_nil_right p a, fun z => by simp⟩
  | 0, x :: a, y :: b, c, hn, hc, ha, hb, h => by simp at hn
  | n + 1, x :: a, y :: b, c, hn, hc, ha, hb, h => by
    simp only [List.length_cons] at hn
    have ha' := nrm_cons.1 ha
    have hb' := nrm_cons.1 hb
    rw [mg]
    have hnx := fun z hz => (nrm_mem ha'.2.2.2 z hz).1
    have hny := fun z hz => (nrm_mem hb'.2.2.2 z hz).1
    have avp : av p = p := by unfold av; split <;> omega
    have avnp : av (-p) = p := by rw [av_neg, avp]
    split
    · rename_i hlt
      obtain ⟨m, h1, h2⟩ := mg_some hp n a (y :: b) (av x) (by simp; omega) (av_nonneg x) ha'.2.2.2 (by rw [nrm_cons]; exact ⟨hb'.1, hb'.2.1, hlt, hb'.2.2.2⟩) (fun z hz => h z (by simp [hz]))
      rw [h1]
      refine ⟨x :: m, rfl, fun z => ?_⟩
      -- x is not a meeting one
      have hxb : ∀ w ∈ y :: b, av w ≠ av x := by
        intro w hw
        rcases List.mem_cons.1 hw with rfl | hw
        · omega
        · have := hny w hw; omega
      have hxp : x = p → -p ∉ y :: b := fun e hm => hxb _ hm (by rw [e, avnp, avp])
      have hpx : -p ∈ y :: b → p ∈ x :: a → p ∈ a := fun h1 h2 => by
        rcases List.mem_cons.1 h2 with e | e
        · exact absurd h1 (hxp e.symm)
        · exact e
      rw [List.mem_cons, h2]
      constructor
      · rintro (rfl | ⟨h3, h4⟩ | ⟨h3, h4⟩)
        · refine .inl ⟨by simp, ?_⟩
          by_cases e : z = p
          · exact .inr (hxp e)
          · exact .inl e
        · exact .inl ⟨by simp [h3], h4⟩
        · refine .inr ⟨h3, ?_⟩
          rcases h4 with h4 | h4
          · exact .inl h4
          · by_cases e : z = -p
            · right; intro hm; subst e; exact h4 (hpx h3 hm)
            · exact .inl e
      · rintro (⟨h3, h4⟩ | ⟨h3, h4⟩)
        · rcases List.mem_cons.1 h3 with rfl | h3
          · exact .inl rfl
          · exact .inr (.inl ⟨h3, h4⟩)
        · exact .inr (.inr ⟨h3, h4.imp id (fun h5 h6 => h5 (by simp [h6]))⟩)
    · split
      · rename_i _ hlt
        obtain ⟨m, h1, h2⟩ := mg_some hp n (x :: a) b (av y) (by simp; omega) (av_nonneg y) (by rw [nrm_cons]; exact ⟨ha'.1, ha'.2.1, hlt, ha'.2.2.2⟩) hb'.2.2.2 (fun z hz hzp hm => h z hz hzp (by simp [hm]))
        rw [h1]
        refine ⟨y :: m, rfl, fun z => ?_⟩
        have hyb : ∀ w ∈ x :: a, av w ≠ av y := by
          intro w hw
          rcases List.mem_cons.1 hw with rfl | hw
          · omega
          · have := hnx w hw; omega
        have hyp : y = -p → p ∉ x :: a := fun e hm => hyb _ hm (by rw [e, avnp, avp])
        have hpy : p ∈ x :: a → -p ∈ y :: b → -p ∈ b := fun h1 h2 => by
          rcases List.mem_cons.1 h2 with e | e
          · exact absurd h1 (hyp e.symm)
          · exact e
        rw [List.mem_cons, h2]
        constructor
        · rintro (rfl | ⟨h3, h4⟩ | ⟨h3, h4⟩)
          · refine .inr ⟨by simp, ?_⟩
            by_cases e : z = -p
            · exact .inr (hyp e)
            · exact .inl e
          · refine .inl ⟨h3, ?_⟩
            rcases h4 with h4 | h4
            · exact .inl h4
            · by_cases e : z = p
              · right; intro hm; subst e; exact h4 (hpy h3 hm)
              · exact .inl e
          · exact .inr ⟨by simp [h3], h4⟩
        · rintro (⟨h3, h4⟩ | ⟨h3, h4⟩)
          · exact .inr (.inl ⟨h3, h4.imp id (fun h5 h6 => h5 (by simp [h6]))⟩)
          · rcases List.mem_cons.1 h3 with rfl | h3
            · exact .inl rfl
            · exact .inr (.inr ⟨h3, h4⟩)
      · have hxy : av x = av y := by omega
        have hna : ∀ w ∈ a, av w ≠ av x := fun w hw => by have := hnx w hw; omega
        have hnb : ∀ w ∈ b, av w ≠ av x := fun w hw => by have := hny w hw; omega
        split
        · rename_i e
          subst e
          obtain ⟨m, h1, h2⟩ := mg_some hp n a b (av x) (by omega) (av_nonneg x) ha'.2.2.2 hb'.2.2.2 (fun z hz hzp hm => h z (by simp [hz]) hzp (by simp [hm]))
          rw [h1]
          refine ⟨x :: m, rfl, fun z => ?_⟩
          have hx1 : x ≠ p ∨ -p ∉ x :: b := by
            by_cases e : x = p
            · right; intro hm
              rcases List.mem_cons.1 hm with e2 | e2
              · omega
              · exact hnb _ e2 (by rw [av_neg, e])
            · exact .inl e
          have hx2 : x ≠ -p ∨ p ∉ x :: a := by
            by_cases e : x = -p
            · right; intro hm
              rcases List.mem_cons.1 hm with e2 | e2
              · omega
              · exact hna _ e2 (by rw [e, av_neg])
            · exact .inl e
          rw [List.mem_cons, h2]
          constructor
          · rintro (rfl | ⟨h3, h4⟩ | ⟨h3, h4⟩)
            · exact .inl ⟨by simp, hx1⟩
            · refine .inl ⟨by simp [h3], ?_⟩
              by_cases e : z = p
              · right; intro hm
                rcases List.mem_cons.1 hm with e2 | e2
                · exact hna z h3 (by rw [e, ← e2, av_neg])
                · exact (h4.resolve_left (fun q => q e)) e2
              · exact .inl e
            · refine .inr ⟨by simp [h3], ?_⟩
              by_cases e : z = -p
              · right; intro hm
                rcases List.mem_cons.1 hm with e2 | e2
                · exact hnb z h3 (by rw [e, ← e2, av_neg])
                · exact (h4.resolve_left (fun q => q e)) e2
              · exact .inl e
          · rintro (⟨h3, h4⟩ | ⟨h3, h4⟩)
            · rcases List.mem_cons.1 h3 with rfl | h3
              · exact .inl rfl
              · exact .inr (.inl ⟨h3, h4.imp id (fun h5 h6 => h5 (by simp [h6]))⟩)
            · rcases List.mem_cons.1 h3 with rfl | h3
              · exact .inl rfl
              · exact .inr (.inr ⟨h3, h4.imp id (fun h5 h6 => h5 (by simp [h6]))⟩)
        · rename_i hne
          have hyx : y = -x := by rcases av_eq hxy with e | e <;> omega
          split
          · rename_i e
            subst e
            obtain ⟨m, h1, h2⟩ := mg_some hp n a b (av x) (by omega) (av_nonneg x) ha'.2.2.2 (by rw [hxy]; exact hb'.2.2.2) (fun z hz hzp hm => h z (by simp [hz]) hzp (by simp [hm]))
            refine ⟨m, h1, fun z => ?_⟩
            have n1 : x ∉ a := fun hm => hna x hm rfl
            have n2 : -x ∉ b := fun hm => hnb _ hm (av_neg x)
            have n3 : -x ∉ a := fun hm => hna _ hm (av_neg x)
            have n4 : x ∉ b := fun hm => hnb x hm rfl
            rw [h2]
            constructor
            · rintro (⟨h3, h4⟩ | ⟨h3, h4⟩)
              · exact .inl ⟨by simp [h3], .inl (fun e => n1 (e ▸ h3))⟩
              · exact .inr ⟨by simp [h3], .inl (fun e => n2 (e ▸ h3))⟩
            · rintro (⟨h3, h4⟩ | ⟨h3, h4⟩)
              · rcases List.mem_cons.1 h3 with e | h3
                · exact absurd (by rw [hyx]; simp) (h4.resolve_left (fun q => q e))
                · exact .inl ⟨h3, .inr n2⟩
              · rcases List.mem_cons.1 h3 with e | h3
                · exact absurd (by simp) (h4.resolve_left (fun q => q (by rw [e, hyx])))
                · exact .inr ⟨h3, .inr n1⟩
          · rename_i hxp
            exact absurd (by rw [hyx]; simp) (h x (by simp) hxp)

theorem mg_none {p : Int} (hp : 0 < p) : ∀ (n : Nat) (a b : List Int) (c : Int), a.length + b.length ≤ n → 0 ≤ c → nrmB c a = true → nrmB c b = true → ¬ NoClash p a b → mg p a b = none
  | n, [], b, c, _, hc, ha, hb, h => absurd (fun x hx => by simp at hx) h
  | n, a, [], c, _, hc, ha, hb, h => absurd (fun x hx _ hm => by simp at hm) h
  | 0, x :: a, y :: b, c, hn, hc, ha, hb, h => by simp at hn
  | n + 1, x :: a, y :: b, c, hn, hc, ha, hb, h => by
    simp only [List.length_cons] at hn
    have ha' := nrm_cons.1 ha
    have hb' := nrm_cons.1 hb
    rw [mg]
    have hnx := fun z hz => (nrm_mem ha'.2.2.2 z hz).1
    have hny := fun z hz => (nrm_mem hb'.2.2.2 z hz).1
    split
    · rename_i hlt
      rw [mg_none hp n a (y :: b) (av x) (by simp; omega) (av_nonneg x) ha'.2.2.2 (by rw [nrm_cons]; exact ⟨hb'.1, hb'.2.1, hlt, hb'.2.2.2⟩)]
      · rfl
      · intro hno
        apply h
        intro z hz hzp hm
        rcases List.mem_cons.1 hz with rfl | hz
        · rcases List.mem_cons.1 hm with e | e
          · rw [← e, av_neg] at hlt; omega
          · have := hny _ e; rw [av_neg] at this; omega
        · exact hno z hz hzp hm
    · split
      · rename_i _ hlt
        rw [mg_none hp n (x :: a) b (av y) (by simp; omega) (av_nonneg y) (by rw [nrm_cons]; exact ⟨ha'.1, ha'.2.1, hlt, ha'.2.2.2⟩) hb'.2.2.2]
        · rfl
        · intro hno
          apply h
          intro z hz hzp hm
          rcases List.mem_cons.1 hm with e | e
          · rcases List.mem_cons.1 hz with rfl | hz
            · rw [← e, av_neg] at hlt; omega
            · have := hnx _ hz; rw [← e, av_neg] at hlt; omega
          · exact hno z hz hzp e
      · have hxy : av x = av y := by omega
        have hno' : ∀ (hx : x ≠ p → -x ∉ y :: b), ¬ NoClash p a b := by
          intro hx hno
          apply h
          intro z hz hzp hm
          rcases List.mem_cons.1 hz with rfl | hz
          · exact hx hzp hm
          · rcases List.mem_cons.1 hm with e | e
            · have := hnx z hz; rw [← e, av_neg] at hxy; omega
            · exact hno z hz hzp e
        split
        · rename_i e
          rw [mg_none hp n a b (av x) (by omega) (av_nonneg x) ha'.2.2.2 (by rw [hxy]; exact hb'.2.2.2) (hno' (fun _ hm => by
            rcases List.mem_cons.1 hm with e2 | e2
            · have : av x ≠ 0 := by omega
              unfold av at this; split at this <;> omega
            · have := hny _ e2; rw [av_neg] at this; omega))]
          rfl
        · split
          · rename_i e
            exact mg_none hp n a b (av x) (by omega) (av_nonneg x) ha'.2.2.2 (by rw [hxy]; exact hb'.2.2.2) (hno' (fun q => absurd e q))
          · rfl

/-! ### The resolvent -/
open Classical in
noncomputable def resS (a b : List Int) (p : Int) : List Int × Bool :=
  if 1 ≤ p ∧ p ∈ a ∧ -p ∈ b then (match mg p a b with | some m => (m, true) | none => ([], false)) else ([], false)

theorem contains_small {a : List Int} (h : nrmB 0 a = true) (x : Int) : F_slices_Contains_int_int a x = some (decide (x ∈ a)) := Contains_eq a x (by have := nrm_len' h; omega)

theorem wrap_neg {x : Int} (h0 : -9223372036854775807 ≤ x) (h1 : x ≤ 9223372036854775807) : IntKind.wrap .i64 (0 - x) = -x := by rw [wrap_id (by omega) (by omega)]; omega

theorem resolvent_eq {a b : List Int} {p : Int} (ha : nrmB 0 a = true) (hb : nrmB 0 b = true) (hp : InK .i64 p) : F_proof_resolvent a b p = some (resS a b p) := by
  have la := nrm_len' ha
  have lb := nrm_len' hb
  unfold F_proof_resolvent resS
  simp only [jn_eq]
  by_cases h1 : p < 1
  · rw [if_pos (by simpa using h1), if_neg (show ¬ (1 ≤ p ∧ p ∈ a ∧ -p ∈ b) from fun h => by have := h.1; omega)]; rfl
  · rw [if_neg (by simpa using h1), contains_small ha]
    have hp' := inK64.1 hp
    by_cases h2 : p ∈ a
    · rw [wrap_neg (by omega) (by omega), contains_small hb]
      by_cases h3 : -p ∈ b
      · rw [if_pos (show 1 ≤ p ∧ p ∈ a ∧ -p ∈ b from ⟨by omega, h2, h3⟩)]
        simp only [h2, h3, decide_true, Option.bind_some, Bool.not_true, Bool.false_eq_true, if_false]
        have e1 : IntKind.wrap .i64 ((a.length : Int) + (b.length : Int)) = (a.length : Int) + (b.length : Int) := wrap_id (by omega) (by omega)
        have l1 : 0 < a.length := List.length_pos_of_mem h2
        have l2 : 0 < b.length := List.length_pos_of_mem h3
        rw [e1, wrap_id (by omega) (by omega), okI_eq (by omega)]
        refine (whileF_by (fun s : List Int × List Int × List Int => s.1.length + s.2.1.length) (fun s => (∃ c, 0 ≤ c ∧ nrmB c s.1 = true ∧ nrmB c s.2.1 = true) ∧ s.2.2.length + s.1.length + s.2.1.length ≤ 131072)
          (fun s => match mg p s.1 s.2.1 with | some m => some (s.2.2 ++ m, true) | none => some ([], false)) ?_ _ (a, b, []) ⟨⟨0, by omega, ha, hb⟩, by simp; omega⟩ (by simp; omega)).trans ?_
        · rintro ⟨a, b, out⟩ k ⟨⟨c, hc, ha, hb⟩, hlen⟩ hk
          simp only at ha hb hlen hk ⊢
          have la := nrm_lenC ha hc
          have lb := nrm_lenC hb hc
          have e2 : IntKind.wrap .i64 ((a.length : Int) + (b.length : Int)) = (a.length : Int) + (b.length : Int) := wrap_id (by omega) (by omega)
          rw [e2]
          cases a with
          | nil =>
            cases b with
            | nil => simp [mg]
            | cons y b =>
              have hb' := nrm_cons.1 hb
              have := hk ([], b, out ++ [y]) ⟨⟨c, hc, ha, nrm_mono (by omega) hb'.2.2.2⟩, by simp at hlen ⊢; omega⟩ (by simp)
              simp only [mg] at this
              have hcap : out.length + 1 ≤ 1099511627776 := by simp at hlen; omega
              simp [this, mg, getI, capN, okI, hcap]
              omega
          | cons x a =>
            have ha' := nrm_cons.1 ha
            cases b with
            | nil =>
              have := hk (a, [], out ++ [x]) ⟨⟨c, hc, nrm_mono (by omega) ha'.2.2.2, hb⟩, by simp at hlen ⊢; omega⟩ (by simp)
              simp only [mg_nil_right] at this
              have hcap : out.length + 1 ≤ 1099511627776 := by simp at hlen; omega
              simp [this, mg_nil_right, getI, capN, okI, hcap]
            | cons y b =>
              have hb' := nrm_cons.1 hb
              have hcap : out.length + 1 ≤ 1099511627776 := by simp at hlen; omega
              have hax : F_proof_abs x = some (av x) := abs_eq (by omega) (by omega)
              have hay : F_proof_abs y = some (av y) := abs_eq (by omega) (by omega)
              have hpos : (0 : Int) < (a.length : Int) + 1 + ((b.length : Int) + 1) := by omega
              have hpos1 : (0 : Int) < (a.length : Int) + 1 := by omega
              have hne1 : ¬ ((a.length : Int) + 1 = 0) := by omega
              have hne2 : ¬ ((b.length : Int) + 1 = 0) := by omega
              have hne3 : ¬ ((b.length : Int) + 1 = 0) := by omega
              rw [mg]
              by_cases c1 : av x < av y
              · have := hk (a, y :: b, out ++ [x]) ⟨⟨av x, av_nonneg x, ha'.2.2.2, by rw [nrm_cons]; exact ⟨hb'.1, hb'.2.1, c1, hb'.2.2.2⟩⟩, by simp at hlen ⊢; omega⟩ (by simp)
                simp only at this
                simp [getI, capN, okI, hax, hay, this, c1, hcap, hpos, hpos1, hne1, hne2]
                cases mg p a (y :: b) <;> simp
              · by_cases c2 : av y < av x
                · have := hk (x :: a, b, out ++ [y]) ⟨⟨av y, av_nonneg y, by rw [nrm_cons]; exact ⟨ha'.1, ha'.2.1, c2, ha'.2.2.2⟩, hb'.2.2.2⟩, by simp at hlen ⊢; omega⟩ (by simp)
                  simp only at this
                  simp [getI, capN, okI, hax, hay, this, c1, c2, hcap, hpos, hpos1, hne1, hne2]
                  cases mg p (x :: a) b <;> simp
                · have hxy : av x = av y := by omega
                  have hb2 : nrmB (av x) b = true := by rw [hxy]; exact hb'.2.2.2
                  by_cases c3 : x = y
                  · have := hk (a, b, out ++ [x]) ⟨⟨av x, av_nonneg x, ha'.2.2.2, hb2⟩, by simp at hlen ⊢; omega⟩ (by simp; omega)
                    simp only at this
                    subst c3
                    simp [getI, capN, okI, hax, this, hcap, hpos, hpos1, hne1, hne2]
                    cases mg p a b <;> simp
                  · by_cases c4 : x = p
                    · have := hk (a, b, out) ⟨⟨av x, av_nonneg x, ha'.2.2.2, hb2⟩, by simp at hlen ⊢; omega⟩ (by simp; omega)
                      simp only at this
                      subst c4
                      simp [getI, capN, okI, hax, hay, this, c1, c2, c3, hcap, hpos, hpos1, hne1, hne2]
                    · simp [getI, capN, okI, hax, hay, c1, c2, c3, c4, hcap, hpos, hpos1, hne1, hne2]
        · cases mg p a b <;> simp
      · simp [h2, h3]
    · simp [h2]
end Go.Sk.X

namespace Go.Sk.X
open Go Go.Sk

theorem nrm_app : ∀ {pre : List Int} {c y : Int} {ys : List Int}, nrmB c (pre ++ y :: ys) = true → nrmB c pre = true ∧ (∀ z ∈ pre, av z < av y) ∧ c < av y ∧ -65536 ≤ y ∧ y ≤ 65536 ∧ nrmB (av y) ys = true
  | [], c, y, ys, h => by rw [List.nil_append, nrm_cons] at h; exact ⟨rfl, by simp, h.2.2.1, h.1, h.2.1, h.2.2.2⟩
  | x :: pre, c, y, ys, h => by
    rw [List.cons_append, nrm_cons] at h
    obtain ⟨h1, h2, h3, h4, h5, h6⟩ := nrm_app h.2.2.2
    refine ⟨by rw [nrm_cons]; exact ⟨h.1, h.2.1, h.2.2.1, h1⟩, fun z hz => ?_, by omega, h4, h5, h6⟩
    rcases List.mem_cons.1 hz with rfl | hz
    · exact h3
    · exact h2 z hz

theorem ins_end {x : Int} : ∀ {l : List Int}, (∀ z ∈ l, av z < av x) → ins x l = l ++ [x]
  | [], _ => rfl
  | y :: ys, h => by
    have := h y (by simp)
    simp only [ins]
    rw [if_neg (by omega), if_neg (by omega), ins_end (fun z hz => h z (by simp [hz]))]
    rfl
theorem ins_app {x : Int} : ∀ {l m : List Int}, (∀ z ∈ l, av z < av x) → ins x (l ++ m) = l ++ ins x m
  | [], _, _ => rfl
  | y :: ys, m, h => by
    have := h y (by simp)
    simp only [List.cons_append, ins]
    rw [if_neg (by omega), if_neg (by omega), ins_app (fun z hz => h z (by simp [hz]))]

theorem Put_eq {l : List Int} {x : Int} (hl : nrmB 0 l = true) (h0 : -65536 ≤ x) (h1 : x ≤ 65536) : F_skolemref09_Put l x = some (ins x l) := by
  have ll := nrm_len' hl
  have hAx : F_skolemref09_Abs x = some (av x) := Abs_eq (by omega) (by omega)
  unfold F_skolemref09_Put
  refine (rangeF_pre l (fun pre s => s.2.length ≤ pre.length + 1 ∧ (s.1 = false → s.2 = pre ∧ ∀ z ∈ pre, av z < av x) ∧ (s.1 = true → ∃ z ∈ pre, av x < av z))
    (fun pre xs s => if s.1 then some (s.2 ++ xs) else some (s.2 ++ ins x xs)) ?_ ?_ l [] (false, []) rfl ⟨by simp, fun _ => ⟨rfl, by simp⟩, by simp⟩).trans (by simp)
  · rintro ⟨b, s⟩ ⟨hs, _, _⟩
    simp only at hs ⊢
    cases b
    · simp only [Bool.not_false, if_true, Bool.false_eq_true, if_false, ins]
      rw [capN_eq (by simp; omega)]
    · simp
  · rintro pre y ys ⟨b, s⟩ kk hf ⟨hs, hI1, hI2⟩ hk
    simp only at hs hI1 hI2 ⊢
    rw [hf] at hl
    obtain ⟨n1, n2, n3, n4, n5, n6⟩ := nrm_app hl
    have hlen : pre.length + (ys.length + 1) = l.length := by rw [hf]; simp
    have hAy : F_skolemref09_Abs y = some (av y) := Abs_eq (by omega) (by omega)
    simp only [hAx, hAy, Option.bind_some, jn_eq]
    have hcap : ∀ (m : Nat) {R : Type} (z : Option R), m ≤ 65540 → capN m z = z := fun m _ z hm => capN_eq (by omega)
    cases b
    · obtain ⟨rfl, hlt⟩ := hI1 rfl
      by_cases c1 : av y = av x
      · simp only [c1, beq_self_eq_true, if_true, Bool.false_eq_true, if_false, ins]
        rw [if_neg (by omega)]
        rw [hf]
      · rw [if_neg (by simpa using c1)]
        simp only [Bool.not_false, if_true, Bool.false_eq_true, if_false, ins]
        by_cases c2 : av y > av x
        · have e := hk (true, s ++ [x] ++ [y]) ⟨by simp, by simp, fun _ => ⟨y, by simp, by omega⟩⟩
          simp only at e
          rw [if_pos (by simpa using c2), if_pos (by omega), hcap _ _ (by simp; omega), hcap _ _ (by simp; omega), e]
          simp
        · have e := hk (false, s ++ [y]) ⟨by simp, fun _ => ⟨rfl, fun z hz => by
            rcases List.mem_append.1 hz with hz | hz
            · exact hlt z hz
            · simp at hz; subst hz; omega⟩, by simp⟩
          simp only at e
          rw [if_neg (by simpa using c2), if_neg (by omega), if_neg (by omega), hcap _ _ (by simp; omega), e]
          simp
    · obtain ⟨z, hz, hzx⟩ := hI2 rfl
      have := n2 z hz
      have e := hk (true, s ++ [y]) ⟨by simp; omega, by simp, fun _ => ⟨z, by simp [hz], hzx⟩⟩
      simp only at e
      rw [if_neg (by simp; omega)]
      simp only [Bool.not_true, Bool.false_eq_true, if_false, if_true]
      rw [hcap _ _ (by simp; omega), e]
      simp

theorem foldIns {q : Int} : ∀ (b : List Int) (s : List Int) (c : Int), nrmB c b = true → nrmB 0 s = true → 0 ≤ c → (∀ w ∈ s, ∀ y ∈ b, y ≠ q → av w = av y → w = y) →
    nrmB 0 (b.foldl (fun s y => if y = q then s else ins y s) s) = true ∧ ∀ z, z ∈ b.foldl (fun s y => if y = q then s else ins y s) s ↔ z ∈ s ∨ (z ∈ b ∧ z ≠ q)
  | [], s, c, _, hs, _, _ => ⟨hs, fun z => by simp⟩
  | y :: b, s, c, hb, hs, hc, h => by
    have hb' := nrm_cons.1 hb
    have hnb := fun z hz => (nrm_mem hb'.2.2.2 z hz).1
    simp only [List.foldl_cons]
    by_cases e : y = q
    · rw [if_pos e]
      obtain ⟨h1, h2⟩ := foldIns b s (av y) hb'.2.2.2 hs (av_nonneg y) (fun w hw z hz => h w hw z (by simp [hz]))
      refine ⟨h1, fun z => ?_⟩
      rw [h2]
      constructor
      · rintro (h3 | ⟨h3, h4⟩)
        · exact .inl h3
        · exact .inr ⟨by simp [h3], h4⟩
      · rintro (h3 | ⟨h3, h4⟩)
        · exact .inl h3
        · rcases List.mem_cons.1 h3 with h3 | h3
          · exact absurd (h3.trans e) h4
          · exact .inr ⟨h3, h4⟩
    · rw [if_neg e]
      have hy0 : 0 < av y := by omega
      have hmem : ∀ z, z ∈ ins y s ↔ z = y ∨ z ∈ s := fun z => mem_ins (fun w hw he => h w hw y (by simp) e he)
      obtain ⟨h1, h2⟩ := foldIns b (ins y s) (av y) hb'.2.2.2 (nrm_ins hb'.1 hb'.2.1 hy0 hs) (av_nonneg y) (fun w hw z hz hzq he => by
        rcases (hmem w).1 hw with hw | hw
        · have := hnb z hz; rw [hw] at he; omega
        · exact h w hw z (by simp [hz]) hzq he)
      refine ⟨h1, fun z => ?_⟩
      rw [h2, hmem]
      constructor
      · rintro ((h3 | h3) | ⟨h3, h4⟩)
        · exact .inr ⟨by simp [h3], by rw [h3]; exact e⟩
        · exact .inl h3
        · exact .inr ⟨by simp [h3], h4⟩
      · rintro (h3 | ⟨h3, h4⟩)
        · exact .inl (.inr h3)
        · rcases List.mem_cons.1 h3 with h3 | h3
          · exact .inl (.inl h3)
          · exact .inr ⟨h3, h4⟩

theorem Resolvent_eq {a b : List Int} {p : Int} (ha : nrmB 0 a = true) (hb : nrmB 0 b = true) (hp : InK .i64 p) : F_skolemref09_Resolvent a b p = some (resS a b p) := by
  have hp' := inK64.1 hp
  unfold F_skolemref09_Resolvent resS
  simp only [jn_eq, Has_eq, Option.bind_some]
  by_cases h1 : p < 1
  · rw [if_pos (by simpa using h1), if_neg (show ¬ (1 ≤ p ∧ p ∈ a ∧ -p ∈ b) from fun h => by have := h.1; omega)]; rfl
  · rw [if_neg (by simpa using h1)]
    by_cases h2 : p ∈ a
    · rw [wrap_neg (by omega) (by omega)]
      by_cases h3 : -p ∈ b
      · rw [if_pos (show 1 ≤ p ∧ p ∈ a ∧ -p ∈ b from ⟨by omega, h2, h3⟩)]
        simp only [h2, h3, decide_true, Bool.not_true, Bool.false_eq_true, if_false]
        have avp : av p = p := by unfold av; split <;> omega
        -- the first loop
        refine (rangeF_pre a (fun pre s => s = pre.filter (fun x => x ≠ p))
          (fun pre xs s => if (∀ x ∈ xs, x ≠ p → -x ∉ b) then some (b.foldl (fun s y => if y = -p then s else ins y s) (a.filter (fun x => x ≠ p)), true) else some ([], false)) ?_ ?_ a [] [] rfl rfl).trans ?_
        · rintro s rfl
          rw [if_pos (by simp)]
          -- the second loop
          refine rangeF_pre b (fun _ s => nrmB 0 s = true) (fun _ ys s => some (ys.foldl (fun s y => if y = -p then s else ins y s) s, true)) (fun s _ => rfl) ?_ b [] _ rfl (nrm_filter _ ha)
          intro pre y ys s kk hf hI hk
          have hy := nrm_app (c := 0) (pre := pre) (y := y) (ys := ys) (by rw [← hf]; exact hb)
          simp only [List.foldl_cons]
          by_cases e : y = -p
          · rw [if_neg (by simpa using e), hk _ hI, if_pos e]
          · rw [if_pos (by simpa using e), Put_eq hI hy.2.2.2.1 hy.2.2.2.2.1, if_neg e]
            simp only [Option.bind_some]
            exact hk _ (nrm_ins hy.2.2.2.1 hy.2.2.2.2.1 hy.2.2.1 hI)
        · rintro pre x xs s kk hf rfl hk
          have hx := nrm_app (c := 0) (pre := pre) (y := x) (ys := xs) (by rw [← hf]; exact ha)
          by_cases e : x = p
          · rw [if_neg (by simpa using e), hk _ (by simp [e])]
            simp [e]
          · rw [if_pos (by simpa using e), wrap_neg (by omega) (by omega)]
            by_cases hm : -x ∈ b
            · simp [hm, e]
            · rw [Put_eq (nrm_filter _ hx.1) hx.2.2.2.1 hx.2.2.2.2.1, ins_end (fun z hz => hx.2.1 z (List.mem_filter.1 hz).1)]
              simp only [hm, decide_false, Bool.false_eq_true, if_false, Option.bind_some]
              rw [hk _ (by simp [List.filter_append, e])]
              simp [hm, e]
        · by_cases hno : NoClash p a b
          · rw [if_pos (show ∀ x, x ∈ a → x ≠ p → ¬ -x ∈ b from hno)]
            obtain ⟨m, hm, hmem⟩ := mg_some (show 0 < p by omega) _ a b 0 (Nat.le_refl _) (by omega) ha hb hno
            rw [hm]
            have hfold := foldIns (q := -p) b (a.filter (fun x => x ≠ p)) 0 hb (nrm_filter _ ha) (by omega) (fun w hw y hy hyq he => by
              have hw := List.mem_filter.1 hw
              rcases av_eq he with e | e
              · exact e
              · have := hno w hw.1 (by simpa using hw.2)
                rw [e, Int.neg_neg] at this
                exact absurd hy this)
            have := nrm_ext hfold.1 (mg_nrm _ a b m 0 (Nat.le_refl _) ha hb hm) (fun z => by
              rw [hfold.2, hmem]
              simp [h2, h3])
            rw [this]
          · rw [if_neg (show ¬ ∀ x, x ∈ a → x ≠ p → ¬ -x ∈ b from hno), mg_none (show 0 < p by omega) _ a b 0 (Nat.le_refl _) (by omega) ha hb hno]
      · simp [h2, h3]
    · simp [h2]
end Go.Sk.X

namespace Go.Sk.X
open Go Go.Sk

/-- a line is one of a proof from clauses, behind these lines -/
def RightP (cnf : List (List Int)) (before : List S_api_Line) (x : S_api_Line) : Prop :=
  (x.Rule = 1 ∧ 0 ≤ x.A ∧ x.A < cnf.length ∧ x.B = 0 ∧ x.Piv = 0 ∧ cnf[x.A.toNat]? = some x.Lits) ∨
  (x.Rule = 2 ∧ 0 ≤ x.A ∧ 0 ≤ x.B ∧ ∃ la lb, before[x.A.toNat]? = some la ∧ before[x.B.toNat]? = some lb ∧ resS la.Lits lb.Lits x.Piv = (x.Lits, true))

open Classical in
theorem res_if (r : List Int × Bool) (l : List Int) : (if r.2 = true then (some (decide (r.1 = l))) else some false) = some (decide (r = (l, true))) := by
  obtain ⟨r, b⟩ := r
  cases b <;> simp

open Classical in
theorem right_eq {cnf : List (List Int)} {before : List S_api_Line} {x : S_api_Line} (hb : ∀ l ∈ before, nrmB 0 l.Lits = true) (hx : W_S_api_Line x) : F_proof_right cnf before x = some (decide (RightP cnf before x)) := by
  unfold F_proof_right
  by_cases r1 : x.Rule = 1
  · have hne : ¬ x.Rule = 2 := by omega
    simp only [r1, beq_self_eq_true, if_true]
    by_cases h1 : 0 ≤ x.A ∧ x.A < cnf.length ∧ x.B = 0 ∧ x.Piv = 0
    · obtain ⟨g1, g2, g3, g4⟩ := h1
      have hlt : x.A.toNat < cnf.length := by omega
      rw [if_pos (by simpa using g1), if_pos (by simpa using g2), if_pos (by simpa using g3), if_pos (by simpa using g4), getI_eq g1 (List.getElem?_eq_getElem hlt), Equal_eq]
      simp only [Option.bind_some, Option.some.injEq, decide_eq_decide, RightP, r1, g1, g2, g3, g4, List.getElem?_eq_getElem hlt, true_and]
      constructor
      · intro e; left; rw [e]
      · rintro (e | ⟨e, _⟩)
        · exact e.symm
        · omega
    · have hn : ¬ RightP cnf before x := by
        rintro (⟨_, g1, g2, g3, g4, _⟩ | ⟨e, _⟩)
        · exact h1 ⟨g1, g2, g3, g4⟩
        · omega
      rw [decide_eq_false hn]
      by_cases g1 : 0 ≤ x.A
      · by_cases g2 : x.A < cnf.length
        · by_cases g3 : x.B = 0
          · have g4 : ¬ x.Piv = 0 := fun g4 => h1 ⟨g1, g2, g3, g4⟩
            simp [g1, g2, g3, g4]
          · simp [g1, g2, g3]
        · simp [g1, g2]
      · simp [g1]
  · by_cases r2 : x.Rule = 2
    · simp only [jn_eq, r2]
      rw [if_neg (by simp), if_pos (by simp)]
      by_cases g : 0 ≤ x.A ∧ 0 ≤ x.B ∧ x.A < before.length ∧ x.B < before.length
      · obtain ⟨g1, g2, g3, g4⟩ := g
        have k1 : ¬ imn x.A x.B < 0 := by unfold imn; split <;> omega
        have k2 : ¬ imx x.A x.B ≥ (before.length : Int) := by unfold imx; split <;> omega
        have ha : x.A.toNat < before.length := by omega
        have hbb : x.B.toNat < before.length := by omega
        rw [if_neg (by simpa using k1), if_neg (by simpa using k2), getI_eq g1 (List.getElem?_eq_getElem ha), getI_eq g2 (List.getElem?_eq_getElem hbb),
          resolvent_eq (hb _ (List.getElem_mem ha)) (hb _ (List.getElem_mem hbb)) hx.2.2.2.1]
        simp only [Option.bind_some, Equal_eq]
        have key : RightP cnf before x ↔ resS before[x.A.toNat].Lits before[x.B.toNat].Lits x.Piv = (x.Lits, true) := by
          constructor
          · rintro (⟨e, _⟩ | ⟨_, _, _, la, lb, e1, e2, e3⟩)
            · omega
            · rw [List.getElem?_eq_getElem ha] at e1
              rw [List.getElem?_eq_getElem hbb] at e2
              rw [Option.some.inj e1, Option.some.inj e2]; exact e3
          · intro e
            exact .inr ⟨r2, g1, g2, _, _, List.getElem?_eq_getElem ha, List.getElem?_eq_getElem hbb, e⟩
        rw [decide_eq_decide.2 key]
        exact res_if _ _
      · have hn : ¬ RightP cnf before x := by
          rintro (⟨e, _⟩ | ⟨_, g1, g2, la, lb, e1, e2, _⟩)
          · omega
          · have := (List.getElem?_eq_some_iff.1 e1).1
            have := (List.getElem?_eq_some_iff.1 e2).1
            exact g ⟨g1, g2, by omega, by omega⟩
        rw [decide_eq_false hn]
        by_cases k1 : imn x.A x.B < 0
        · simp [k1]
        · have k2 : imx x.A x.B ≥ (before.length : Int) := by
            unfold imn at k1; unfold imx
            split at k1 <;> split <;> omega
          simp [k1, k2]
    · have hn : ¬ RightP cnf before x := by
        rintro (⟨e, _⟩ | ⟨e, _⟩)
        · exact r1 e
        · exact r2 e
      simp [r1, r2, hn]

open Classical in
theorem Right_eq {cnf : List (List Int)} {p : S_api_Proof} {pre rest : List S_api_Line} {x : S_api_Line} (hp : p.Lines = pre ++ x :: rest) (hb : ∀ l ∈ pre, nrmB 0 l.Lits = true) (hx : W_S_api_Line x) :
    F_skolemref10_right cnf p (pre.length : Int) = some (decide (RightP cnf pre x)) := by
  unfold F_skolemref10_right
  have hget : p.Lines[pre.length]? = some x := by rw [hp]; simp
  rw [getI_nat, hget]
  simp only
  by_cases r1 : x.Rule = 1
  · simp only [r1, beq_self_eq_true, if_true]
    by_cases h1 : 0 ≤ x.A ∧ x.A < cnf.length ∧ x.B = 0 ∧ x.Piv = 0
    · obtain ⟨g1, g2, g3, g4⟩ := h1
      have hlt : x.A.toNat < cnf.length := by omega
      rw [if_pos (by simpa using g1), if_pos (by simpa using g2), if_pos (by simpa using g3), if_pos (by simpa using g4), getI_eq g1 (List.getElem?_eq_getElem hlt), Same_eq]
      simp only [Option.bind_some, Option.some.injEq, decide_eq_decide, RightP, r1, g1, g2, g3, g4, List.getElem?_eq_getElem hlt, true_and]
      constructor
      · intro e; left; rw [e]
      · rintro (e | ⟨e, _⟩)
        · exact e.symm
        · omega
    · have hn : ¬ RightP cnf pre x := by
        rintro (⟨_, g1, g2, g3, g4, _⟩ | ⟨e, _⟩)
        · exact h1 ⟨g1, g2, g3, g4⟩
        · omega
      rw [decide_eq_false hn]
      by_cases g1 : 0 ≤ x.A
      · by_cases g2 : x.A < cnf.length
        · by_cases g3 : x.B = 0
          · have g4 : ¬ x.Piv = 0 := fun g4 => h1 ⟨g1, g2, g3, g4⟩
            simp [g1, g2, g3, g4]
          · simp [g1, g2, g3]
        · simp [g1, g2]
      · simp [g1]
  · rw [if_neg (by simpa using r1)]
    simp only [jn_eq]
    by_cases r2 : x.Rule = 2
    · rw [if_neg (by simpa using r2)]
      by_cases g : 0 ≤ x.A ∧ 0 ≤ x.B ∧ x.A < pre.length ∧ x.B < pre.length
      · obtain ⟨g1, g2, g3, g4⟩ := g
        have ha : x.A.toNat < pre.length := by omega
        have hbb : x.B.toNat < pre.length := by omega
        have e1 : p.Lines[x.A.toNat]? = some pre[x.A.toNat] := by rw [hp, List.getElem?_append_left ha, List.getElem?_eq_getElem ha]
        have e2 : p.Lines[x.B.toNat]? = some pre[x.B.toNat] := by rw [hp, List.getElem?_append_left hbb, List.getElem?_eq_getElem hbb]
        rw [if_neg (by simpa using g1), if_neg (by simpa using g3), if_neg (by simpa using g2), if_neg (by simpa using g4), getI_eq g1 e1, getI_eq g2 e2,
          Resolvent_eq (hb _ (List.getElem_mem ha)) (hb _ (List.getElem_mem hbb)) hx.2.2.2.1]
        simp only [Option.bind_some, Same_eq]
        have key : RightP cnf pre x ↔ resS pre[x.A.toNat].Lits pre[x.B.toNat].Lits x.Piv = (x.Lits, true) := by
          constructor
          · rintro (⟨e, _⟩ | ⟨_, _, _, la, lb, e1, e2, e3⟩)
            · omega
            · rw [List.getElem?_eq_getElem ha] at e1
              rw [List.getElem?_eq_getElem hbb] at e2
              rw [Option.some.inj e1, Option.some.inj e2]; exact e3
          · intro e
            exact .inr ⟨r2, g1, g2, _, _, List.getElem?_eq_getElem ha, List.getElem?_eq_getElem hbb, e⟩
        rw [decide_eq_decide.2 key]
        exact res_if _ _
      · have hn : ¬ RightP cnf pre x := by
          rintro (⟨e, _⟩ | ⟨_, g1, g2, la, lb, e1, e2, _⟩)
          · omega
          · have := (List.getElem?_eq_some_iff.1 e1).1
            have := (List.getElem?_eq_some_iff.1 e2).1
            exact g ⟨g1, g2, by omega, by omega⟩
        rw [decide_eq_false hn]
        by_cases g1 : x.A < 0
        · simp [g1]
        · by_cases g2 : x.A ≥ pre.length
          · simp [g1, g2]
          · by_cases g3 : x.B < 0
            · simp [g1, g2, g3]
            · have g4 : x.B ≥ pre.length := by omega
              simp [g1, g2, g3, g4]
    · have hn : ¬ RightP cnf pre x := by
        rintro (⟨e, _⟩ | ⟨e, _⟩)
        · exact r1 e
        · exact r2 e
      simp [r2, hn]

theorem resS_nrm {a b m : List Int} {p : Int} (ha : nrmB 0 a = true) (hb : nrmB 0 b = true) (h : resS a b p = (m, true)) : nrmB 0 m = true := by
  unfold resS at h
  split at h
  · split at h
    · rename_i m' hm
      injection h with h1 h2; subst h1
      exact mg_nrm _ a b _ 0 (Nat.le_refl _) ha hb hm
    · injection h with h1 h2; simp at h2
  · injection h with h1 h2; simp at h2

theorem RightP.nrm {cnf : List (List Int)} {before : List S_api_Line} {x : S_api_Line} (hc : ∀ c ∈ cnf, nrmB 0 c = true) (hb : ∀ l ∈ before, nrmB 0 l.Lits = true) (h : RightP cnf before x) : nrmB 0 x.Lits = true := by
  rcases h with ⟨_, _, _, _, _, h⟩ | ⟨_, _, _, la, lb, e1, e2, e3⟩
  · exact hc _ (List.mem_of_getElem? h)
  · exact resS_nrm (hb _ (List.mem_of_getElem? e1)) (hb _ (List.mem_of_getElem? e2)) e3

/-! ### Check -/
open Classical in
noncomputable def chk (cnf : List (List Int)) : List S_api_Line → List S_api_Line → Option Nat
  | _, [] => none
  | pre, x :: xs => if RightP cnf pre x then chk cnf (pre ++ [x]) xs else some pre.length

def FitsP (p : S_api_Proof) : Prop := p.Cubes = false ∧ 0 < p.Lines.length ∧ p.Lines.length ≤ 1000000

open Classical in
noncomputable def checkS (cnf : List (List Int)) (p : S_api_Proof) : List Int × Int × Int :=
  if (decide (cnf.length ≤ 20000) && cnfB 0 cnf) = true then
    if FitsP p then
      match chk cnf [] p.Lines with
      | some i => ([], i, 100)
      | none => ((p.Lines.getLast?.map S_api_Line.Lits).getD [], 0, 0)
    else ([], 0, 100)
  else ([], 0, 2)

theorem last_get {α : Type} {l : List α} (h : 0 < l.length) (hl : l.length ≤ 9223372036854775807) : ∃ x, l.getLast? = some x ∧ l[(IntKind.wrap .i64 ((l.length : Int) - 1)).toNat]? = some x ∧ 0 ≤ IntKind.wrap .i64 ((l.length : Int) - 1) ∧ x ∈ l := by
  rw [wrap_id (by omega) (by omega)]
  have e : ((l.length : Int) - 1).toNat = l.length - 1 := by omega
  have hlt : l.length - 1 < l.length := by omega
  refine ⟨l[l.length - 1], ?_, by rw [e]; exact List.getElem?_eq_getElem hlt, by omega, List.getElem_mem hlt⟩
  rw [List.getLast?_eq_getElem?]
  exact List.getElem?_eq_getElem hlt

open Classical in
theorem Check_prog {cnf : List (List Int)} {p : S_api_Proof} (h0 : InL (InL (InK .i64)) cnf) (h1 : W_S_api_Proof p) : F_proof_Check cnf p = some (checkS cnf p) := by
  unfold F_proof_Check checkS
  rw [cnf_eq]
  simp only [Option.bind_some]
  cases hc : (decide (cnf.length ≤ 20000) && cnfB 0 cnf) with
  | false => simp
  | true =>
    have hcm : ∀ c ∈ cnf, nrmB 0 c = true := cnfB_mem (by simp only [Bool.and_eq_true] at hc; exact hc.2)
    have hfits : F_proof_fits p = some (decide (FitsP p)) := by
      unfold F_proof_fits FitsP
      cases p.Cubes with
      | true => simp
      | false =>
        by_cases c1 : 0 < p.Lines.length
        · rw [if_pos (by simp), if_pos (by simpa using c1)]
          simp [c1]; omega
        · rw [if_pos (by simp), if_neg (by simpa using c1)]
          simp [c1]
    rw [hfits]
    simp only [Bool.not_true, Bool.false_eq_true, if_false, Option.bind_some, if_true]
    by_cases hf : FitsP p
    · simp only [hf, decide_true, Bool.not_true, Bool.false_eq_true, if_false, if_true]
      refine (rangeF_pre p.Lines (fun pre _ => ∀ l ∈ pre, nrmB 0 l.Lits = true) (fun pre xs _ => some (match chk cnf pre xs with | some i => ([], (i : Int), (100 : Int)) | none => ((p.Lines.getLast?.map S_api_Line.Lits).getD [], 0, 0))) ?_ ?_ p.Lines [] () rfl (by simp))
      · intro _ hI
        obtain ⟨x, e1, e2, e3, e4⟩ := last_get (l := p.Lines) hf.2.1 h1.2.1
        rw [getI_eq e3 e2, Clone_eq _ (by have := nrm_len' (hI x e4); omega)]
        simp [chk, e1]
      · intro pre x xs _ kk hfull hI hk
        have hlt : pre.length ≤ p.Lines.length := by rw [hfull]; simp
        have hwx : W_S_api_Line x := h1.2.2 x (by rw [hfull]; simp)
        have htake : p.Lines.take ((pre.length : Int).toNat) = pre := by rw [hfull]; simp
        rw [okI_eq ⟨by omega, by simpa using hlt⟩, htake, right_eq hI hwx]
        simp only [Option.bind_some, chk]
        by_cases hr : RightP cnf pre x
        · simp only [hr, decide_true, Bool.not_true, Bool.false_eq_true, if_false, if_true]
          exact hk () (fun l hl => by
            rcases List.mem_append.1 hl with hl | hl
            · exact hI l hl
            · simp at hl; subst hl; exact hr.nrm hcm hI)
        · simp [hr]
    · simp [hf]

open Classical in
theorem Check_ref {cnf : List (List Int)} {p : S_api_Proof} (h0 : InL (InL (InK .i64)) cnf) (h1 : W_S_api_Proof p) : F_skolemref10_Check cnf p = some (checkS cnf p) := by
  unfold F_skolemref10_Check checkS
  rw [Cnf_eq h0]
  simp only [Option.bind_some]
  cases hc : (decide (cnf.length ≤ 20000) && cnfB 0 cnf) with
  | false => simp
  | true =>
    have hcm : ∀ c ∈ cnf, nrmB 0 c = true := cnfB_mem (by simp only [Bool.and_eq_true] at hc; exact hc.2)
    simp only [Bool.not_true, Bool.false_eq_true, if_false, if_true, jn_eq]
    by_cases hf : FitsP p
    · obtain ⟨f1, f2, f3⟩ := id hf
      rw [if_neg (by simp [f1]), if_neg (by simp; intro e; rw [e] at f2; simp at f2)]
      simp only [hf, if_true]
      rw [if_neg (by simp; omega)]
      refine (rangeF_pre p.Lines (fun pre _ => ∀ l ∈ pre, nrmB 0 l.Lits = true) (fun pre xs _ => some (match chk cnf pre xs with | some i => ([], (i : Int), (100 : Int)) | none => ((p.Lines.getLast?.map S_api_Line.Lits).getD [], 0, 0))) ?_ ?_ p.Lines [] () rfl (by simp))
      · intro _ hI
        obtain ⟨x, e1, e2, e3, e4⟩ := last_get (l := p.Lines) hf.2.1 h1.2.1
        rw [getI_eq e3 e2]
        simp [chk, e1]
      · intro pre x xs _ kk hfull hI hk
        have hwx : W_S_api_Line x := h1.2.2 x (by rw [hfull]; simp)
        rw [Right_eq (p := S_api_Proof.mk false p.Lines) hfull hI hwx]
        simp only [Option.bind_some, chk]
        by_cases hr : RightP cnf pre x
        · simp only [hr, decide_true, Bool.not_true, Bool.false_eq_true, if_false, if_true]
          exact hk () (fun l hl => by
            rcases List.mem_append.1 hl with hl | hl
            · exact hI l hl
            · simp at hl; subst hl; exact hr.nrm hcm hI)
        · simp [hr]
    · simp only [hf, if_false]
      cases hcu : p.Cubes with
      | true => simp
      | false =>
        by_cases c1 : p.Lines.length = 0
        · simp [c1]
        · have c2 : ¬ p.Lines.length ≤ 1000000 := fun h => hf ⟨hcu, by omega, h⟩
          simp only [Bool.false_eq_true, if_false]
          rw [if_neg (by simpa using c1)]
          simp; omega

theorem large_some (cnf : List (List Int)) (p : S_api_Proof) : ∃ b, F_skolemlaw10_large cnf p = some b := by
  unfold F_skolemlaw10_large
  have k1 : ∀ (xs : List S_api_Line) (j : Nat) (s : Int) (k : Int → Option Bool), (∀ s, ∃ b, k s = some b) → ∃ b, rangeF (fun (j109 : Nat) (x110 : S_api_Line) (s106 : Int) k108 => (k108 (IntKind.wrap .i64 (s106 + ((x110.Lits.length : Nat) : Int))))) j xs s k = some b := by
    intro xs
    induction xs with
    | nil => intro j s k h; exact h s
    | cons x xs ih => intro j s k h; exact ih _ _ k h
  have k2 : ∀ (xs : List (List Int)) (j : Nat) (s : Int) (k : Int → Option Bool), (∀ s, ∃ b, k s = some b) → ∃ b, rangeF (fun (j104 : Nat) (x105 : (List Int)) (s101 : Int) k103 => (k103 (IntKind.wrap .i64 (s101 + ((x105.length : Nat) : Int))))) j xs s k = some b := by
    intro xs
    induction xs with
    | nil => intro j s k h; exact h s
    | cons x xs ih => intro j s k h; exact ih _ _ k h
  refine k2 _ _ _ _ (fun s => k1 _ _ _ _ (fun s' => ?_))
  split
  · exact ⟨_, rfl⟩
  · split
    · exact ⟨_, rfl⟩
    · split <;> exact ⟨_, rfl⟩

theorem law_ProofChecks {a0 : List (List Int)} {a1 : S_api_Proof} (h0 : InL (InL (InK .i64)) a0) (h1 : W_S_api_Proof a1) : F_skolemlaw10_ProofChecks a0 a1 = some true := by
  obtain ⟨b, hb⟩ := large_some a0 a1
  unfold F_skolemlaw10_ProofChecks
  rw [hb]
  cases b with
  | true => simp [F_skolemlaw10_head]
  | false =>
    simp only [Check_prog h0 h1, Check_ref h0 h1, Same_eq, F_proof_Refutes, F_skolemref10_Refutes, F_skolemlaw10_head, Option.bind_some]
    by_cases hz : (checkS a0 a1).2.2 = 0 <;> simp [hz]
end Go.Sk.X

namespace Go.Sk.X
open Go Go.Sk

/-! ### What is proved holds -/
def bitv (pt v : Int) : Bool := (IntKind.wrap .u64 ((BitVec.ofInt (IntKind.bits .u64) (Int.fdiv pt (2 ^ (min (Int.tmod v (64 : Int)).toNat (IntKind.bits .u64)))) &&& BitVec.ofInt (IntKind.bits .u64) (1 : Int)).toNat : Int)) == (1 : Int)
def sat (pt x : Int) : Bool := bitv pt (av x) == decide (x > 0)

theorem sat_neg {pt x : Int} (h : x ≠ 0) : sat pt (-x) = !sat pt x := by
  unfold sat
  rw [av_neg]
  have : decide (-x > 0) = !decide (x > 0) := by
    by_cases h1 : x > 0
    · have h2 : ¬ -x > 0 := by omega
      simp [h1, h2]; omega
    · have h2 : -x > 0 := by omega
      simp [h1, h2]; omega
  rw [this]
  cases bitv pt (av x) <;> cases decide (x > 0) <;> rfl

theorem holds_eq {c : List Int} (hc : nrmB 0 c = true) (pt : Int) : F_skolemlaw10_holds c pt = some (c.any (sat pt)) := by
  unfold F_skolemlaw10_holds
  refine rangeF_pre c (fun _ _ => True) (fun _ xs _ => some (xs.any (sat pt))) (fun _ _ => rfl) ?_ c [] () rfl trivial
  intro pre x xs _ kk hf _ hk
  have hx := nrm_app (c := 0) (pre := pre) (y := x) (ys := xs) (by rw [← hf]; exact hc)
  have hav : 0 ≤ Int.tmod (av x) 64 := Int.tmod_nonneg _ (av_nonneg x)
  rw [Abs_eq (by omega) (by omega)]
  simp only [Option.bind_some]
  rw [okI_eq hav, hk () trivial]
  simp only [List.any_cons]
  show (if (bitv pt (av x) == decide (x > 0)) = true then some true else some (xs.any (sat pt))) = _
  cases h : sat pt x
  · rw [if_neg (by show ¬ sat pt x = true; rw [h]; simp)]; simp
  · rw [if_pos (by show sat pt x = true; exact h)]; simp

theorem holdsAll_eq {cnf : List (List Int)} (hc : ∀ c ∈ cnf, nrmB 0 c = true) (pt : Int) : F_skolemlaw10_holdsAll cnf pt = some (cnf.all fun c => c.any (sat pt)) := by
  unfold F_skolemlaw10_holdsAll
  refine rangeF_pre cnf (fun _ _ => True) (fun _ xs _ => some (xs.all fun c => c.any (sat pt))) (fun _ _ => rfl) ?_ cnf [] () rfl trivial
  intro pre x xs _ kk hf _ hk
  rw [holds_eq (hc x (by rw [hf]; simp))]
  simp only [Option.bind_some, hk () trivial, List.all_cons]
  cases x.any (sat pt) <;> simp

theorem resS_sat {a b m : List Int} {p pt : Int} (ha : nrmB 0 a = true) (hb : nrmB 0 b = true) (h : resS a b p = (m, true)) (sa : a.any (sat pt) = true) (sb : b.any (sat pt) = true) : m.any (sat pt) = true := by
  unfold resS at h
  split at h
  · rename_i hp
    obtain ⟨hp, h2, h3⟩ := hp
    split at h
    · rename_i m' hm
      injection h with h1 _; subst h1
      have hno : NoClash p a b := by
        apply Classical.byContradiction
        intro hno
        rw [mg_none (show 0 < p by omega) _ a b 0 (Nat.le_refl _) (by omega) ha hb hno] at hm
        simp at hm
      obtain ⟨m2, hm2, hmem⟩ := mg_some (show 0 < p by omega) _ a b 0 (Nat.le_refl _) (by omega) ha hb hno
      rw [hm] at hm2; injection hm2 with hm2; subst hm2
      obtain ⟨x, hx, sx⟩ := List.any_eq_true.1 sa
      obtain ⟨y, hy, sy⟩ := List.any_eq_true.1 sb
      by_cases e : x = p
      · have e2 : y ≠ -p := by
          intro e2
          rw [e2, sat_neg (by omega), ← e, sx] at sy
          simp at sy
        exact List.any_eq_true.2 ⟨y, (hmem y).2 (.inr ⟨hy, .inl e2⟩), sy⟩
      · exact List.any_eq_true.2 ⟨x, (hmem x).2 (.inl ⟨hx, .inl e⟩), sx⟩
    · injection h with h1 h2; simp at h2
  · injection h with h1 h2; simp at h2

theorem RightP.sat {cnf : List (List Int)} {before : List S_api_Line} {x : S_api_Line} {pt : Int} (hb : ∀ l ∈ before, nrmB 0 l.Lits = true) (h : RightP cnf before x) (hc : (cnf.all fun c => c.any (sat pt)) = true) (hs : ∀ l ∈ before, l.Lits.any (Go.Sk.X.sat pt) = true) :
    x.Lits.any (Go.Sk.X.sat pt) = true := by
  rcases h with ⟨_, _, _, _, _, h⟩ | ⟨_, _, _, la, lb, e1, e2, e3⟩
  · exact List.all_eq_true.1 hc _ (List.mem_of_getElem? h)
  · exact resS_sat (hb _ (List.mem_of_getElem? e1)) (hb _ (List.mem_of_getElem? e2)) e3 (hs _ (List.mem_of_getElem? e1)) (hs _ (List.mem_of_getElem? e2))

theorem chk_all {cnf : List (List Int)} (hc : ∀ c ∈ cnf, nrmB 0 c = true) (Q : S_api_Line → Prop) (hQ : ∀ before x, (∀ l ∈ before, nrmB 0 l.Lits = true) → (∀ l ∈ before, Q l) → RightP cnf before x → Q x) :
    ∀ (xs pre : List S_api_Line), (∀ l ∈ pre, nrmB 0 l.Lits = true ∧ Q l) → chk cnf pre xs = none → ∀ l ∈ pre ++ xs, nrmB 0 l.Lits = true ∧ Q l
  | [], pre, hp, _ => by simpa using hp
  | x :: xs, pre, hp, h => by
    simp only [chk] at h
    split at h
    · rename_i hr
      have hn := hr.nrm hc (fun l hl => (hp l hl).1)
      have hq := hQ pre x (fun l hl => (hp l hl).1) (fun l hl => (hp l hl).2) hr
      have := chk_all hc Q hQ xs (pre ++ [x]) (fun l hl => by
        rcases List.mem_append.1 hl with hl | hl
        · exact hp l hl
        · simp at hl; subst hl; exact ⟨hn, hq⟩) h
      simpa using this
    · simp at h

theorem checkS_ok {cnf : List (List Int)} {p : S_api_Proof} (h : (checkS cnf p).2.2 = 0) : (∀ c ∈ cnf, nrmB 0 c = true) ∧ FitsP p ∧ chk cnf [] p.Lines = none ∧ ∃ x, p.Lines.getLast? = some x ∧ (checkS cnf p).1 = x.Lits := by
  unfold checkS at h ⊢
  split at h
  · rename_i hc
    split at h
    · rename_i hf
      cases hk : chk cnf [] p.Lines with
      | some i => rw [hk] at h; simp at h
      | none =>
        refine ⟨cnfB_mem (by simp only [Bool.and_eq_true] at hc; exact hc.2), hf, rfl, ?_⟩
        cases hl : p.Lines.getLast? with
        | none => have := List.getLast?_eq_none_iff.1 hl; have := hf.2.1; simp_all
        | some x => exact ⟨x, rfl, by simp [hc, hf]⟩
    · simp at h
  · simp at h

theorem checkS_bad {cnf : List (List Int)} {p : S_api_Proof} (h : (checkS cnf p).2.2 ≠ 0) : (checkS cnf p).1 = [] := by
  unfold checkS at h ⊢
  split
  · rename_i hc
    rw [if_pos hc] at h
    split
    · rename_i hf
      rw [if_pos hf] at h
      cases hk : chk cnf [] p.Lines with
      | some i => rfl
      | none => rw [hk] at h; simp at h
    · rfl
  · rfl

theorem law_ProofHolds {a0 : List (List Int)} {a1 : S_api_Proof} {a2 : List Int} (h0 : InL (InL (InK .i64)) a0) (h1 : W_S_api_Proof a1) (h2 : InL (InK .u64) a2) : F_skolemlaw10_ProofHolds a0 a1 a2 = some true := by
  obtain ⟨b, hb⟩ := large_some a0 a1
  unfold F_skolemlaw10_ProofHolds
  rw [jn_eq, hb]
  have key : ((F_proof_Check a0 a1).bind (fun y117 => (if (y117.2.2 != (0 : Int)) = true then (if (((y117.1.length : Nat) : Int) == (0 : Int)) = true then ((F_skolemlaw10_head).bind (fun y122 => (some y122))) else (some false)) else (rangeF (fun (j126 : Nat) (x127 : Int) (s123 : Unit) k125 => (jn (fun (s161 : Bool) => (if s161 = true then (some false) else (k125 ()))) (fun k163 => ((F_skolemlaw10_holdsAll a0 x127).bind (fun y165 => (if y165 = true then ((F_skolemlaw10_holds y117.1 x127).bind (fun y167 => (k163 (!y167)))) else (k163 false))))))) 0 a2 () (fun (s123 : Unit) => ((F_skolemlaw10_head).bind (fun y168 => (some y168)))))))) = some true := by
    rw [Check_prog h0 h1]
    simp only [Option.bind_some]
    by_cases he : (checkS a0 a1).2.2 = 0
    · rw [if_neg (by simp [he])]
      obtain ⟨hcn, hf, hk, x, hx, hl⟩ := checkS_ok he
      refine rangeF_eq (fun _ _ _ => some true) (fun _ _ => by simp [F_skolemlaw10_head]) (fun j pt xs s kk hkk => ?_) a2 0 ()
      rw [jn_eq, holdsAll_eq hcn]
      simp only [Option.bind_some]
      cases hall : (a0.all fun c => c.any (sat pt)) with
      | false => simp [hkk]
      | true =>
        have hxl : x ∈ a1.Lines := List.mem_of_getLast? hx
        have := chk_all hcn (fun l => l.Lits.any (sat pt) = true) (fun before x hb hs hr => hr.sat hb hall hs) a1.Lines [] (by simp) hk x (by simpa using hxl)
        rw [hl, holds_eq this.1, this.2]
        simp [hkk]
    · rw [if_pos (by simpa using he), checkS_bad he]
      simp [F_skolemlaw10_head]
  cases b with
  | true => simp [F_skolemlaw10_head]
  | false =>
    simp only [Option.bind_some, Bool.false_eq_true, if_false]
    by_cases hl : ((a2.length : Nat) : Int) > 200
    · simp [hl, F_skolemlaw10_head]
    · rw [if_neg (by simpa using hl)]
      exact key
end Go.Sk.X

namespace Go.Sk.X
open Go Go.Sk

/-! ### Under -/
def Both {R : Type} (x y : Option R) : Prop := ∃ r, x = some r ∧ y = some r

theorem rangeF_both {α S R : Type} {f1 f2 : Nat → α → S → (S → Option R) → Option R} {k1 k2 : S → Option R} (full : List α) (I : List α → S → Prop) (h0 : ∀ s, I full s → Both (k1 s) (k2 s))
    (h1 : ∀ pre x xs s kk1 kk2, full = pre ++ x :: xs → I pre s → (∀ s', I (pre ++ [x]) s' → Both (kk1 s') (kk2 s')) → Both (f1 pre.length x s kk1) (f2 pre.length x s kk2)) : ∀ xs pre s, full = pre ++ xs → I pre s → Both (rangeF f1 pre.length xs s k1) (rangeF f2 pre.length xs s k2)
  | [], pre, s, hf, hI => by
    rw [List.append_nil] at hf; subst hf
    exact h0 s hI
  | x :: xs, pre, s, hf, hI => by
    refine h1 pre x xs s _ _ hf hI (fun s' hs' => ?_)
    have := rangeF_both full I h0 h1 xs (pre ++ [x]) s' (by simp [hf]) hs'
    rw [List.length_append] at this
    exact this

def hitB (l a : List Int) : Bool := l.any (fun x => decide (x ∈ a))
def lessL (l a : List Int) : List Int := l.filter (fun x => decide (-x ∉ a))

theorem hits_eq (l a : List Int) (ha : a.length ≤ 9223372036854775807) : F_proof_hits l a = some (hitB l a) := by
  unfold F_proof_hits
  rw [jn_eq]
  refine rangeF_eq (fun _ xs _ => some (hitB xs a)) (fun _ _ => by simp [hitB]) (fun j x xs s kk hk => ?_) l 0 ()
  rw [Contains_eq a x ha, hk]
  by_cases h : x ∈ a <;> simp [hitB, h]
theorem satisfied_eq (l a : List Int) : F_skolemref10_satisfied l a = some (hitB l a) := by
  unfold F_skolemref10_satisfied
  refine rangeF_eq (fun _ xs _ => some (hitB xs a)) (fun _ _ => by simp [hitB]) (fun j x xs s kk hk => ?_) l 0 ()
  rw [Has_eq a x, hk]
  by_cases h : x ∈ a <;> simp [hitB, h]

theorem less_eq {l : List Int} (a : List Int) (hl : nrmB 0 l = true) : F_skolemref10_less l a = some (lessL l a) := by
  unfold F_skolemref10_less
  have hlen := nrm_len' hl
  refine rangeF_pre l (fun pre s => s = lessL pre a) (fun pre xs _ => some (lessL l a)) (fun s h => by rw [h]) (fun pre x xs s kk hf hI hk => ?_) l [] [] rfl rfl
  have hx := nrm_mem hl x (by rw [hf]; simp)
  have hsl : s.length ≤ l.length := by rw [hI]; exact Nat.le_trans (List.length_filter_le _ _) (by rw [hf]; simp)
  subst hI
  rw [jn_eq, wrap_neg (by omega) (by omega), Has_eq]
  by_cases h : -x ∈ a
  · have := hk (lessL pre a) (by simp [lessL, h])
    simp [h, this]
  · have := hk (lessL pre a ++ [x]) (by simp [lessL, h])
    simp only [Option.bind_some, h, decide_false, Bool.not_false, if_true]
    rw [capN_eq (by simp; omega)]
    exact this

def undF (a : List Int) : Nat → List (List Int) → List (List Int) × List Int → List (List Int) × List Int
  | _, [], s => s
  | j, c :: cs, s => undF a (j + 1) cs (if hitB c a = true then s else (s.1 ++ [lessL c a], s.2 ++ [(j : Int)]))

noncomputable def undS (cnf : List (List Int)) (a : List Int) : List (List Int) × List Int × Int :=
  if (decide (cnf.length ≤ 20000) && cnfB 0 cnf) = true ∧ nrmB 0 a = true then ((undF a 0 cnf ([], [])).1, (undF a 0 cnf ([], [])).2, 0) else ([], [], 2)

theorem Under_ref {cnf : List (List Int)} {a : List Int} (h0 : InL (InL (InK .i64)) cnf) (h1 : InL (InK .i64) a) : F_skolemref10_Under cnf a = some (undS cnf a) := by
  unfold F_skolemref10_Under undS
  rw [jn_eq, Cnf_eq h0]
  by_cases hc : (decide (cnf.length ≤ 20000) && cnfB 0 cnf) = true
  · rw [hc]
    simp only [Option.bind_some, Bool.not_true, Bool.false_eq_true, if_false, Normal_eq h1.1, true_and]
    by_cases ha : nrmB 0 a = true
    · simp only [ha, Bool.not_true, Bool.false_eq_true, if_false, if_true]
      simp only [Bool.and_eq_true, decide_eq_true_eq] at hc
      refine (rangeF_pre cnf (fun pre s => s.1.length ≤ pre.length ∧ s.2.length ≤ pre.length) (fun pre xs s => some ((undF a pre.length xs s).1, (undF a pre.length xs s).2, 0)) (fun s _ => rfl) (fun pre x xs s kk hf hI hk => ?_) cnf [] ([], []) rfl (by simp)).trans rfl
      have hx : nrmB 0 x = true := cnfB_mem hc.2 x (by rw [hf]; simp)
      have hlen : cnf.length = pre.length + (xs.length + 1) := by rw [hf]; simp
      rw [jn_eq, satisfied_eq, less_eq a hx]
      simp only [List.length_append, List.length_singleton] at hk
      by_cases h : hitB x a = true
      · simp only [h, Option.bind_some, Bool.not_true, Bool.false_eq_true, if_false, undF, if_true]
        exact hk s ⟨by omega, by omega⟩
      · simp only [Bool.not_eq_true] at h
        simp only [h, Option.bind_some, Bool.not_false, Bool.false_eq_true, if_false, undF, if_true]
        rw [capN_eq (by simp; omega), capN_eq (by simp; omega)]
        exact hk _ ⟨by simp; omega, by simp; omega⟩
    · simp [ha]
  · simp [hc]

theorem filter_take_succ {q : Int → Bool} {s : List Int} {j : Nat} {x : Int} (h : s[j]? = some x) : (s.take (j + 1)).filter q = (s.take j).filter q ++ (if q x = true then [x] else []) := by
  rw [List.take_add_one, h, Option.toList_some, List.filter_append]
  cases e : q x <;> simp [List.filter_cons, e]

/-- what DeleteFunc leaves -/
theorem delete_eq {R : Type} {a s : List Int} (hs : nrmB 0 s = true) (ha : a.length ≤ 9223372036854775807) (K : List Int → Option R) {kk : List Int × Nat → Option R} (hk : ∀ l n, kk (l, n) = K (l.take n)) :
    (jn (fun (s2385 : Int) => (if (s2385 == (-1 : Int)) = true then (kk (s, s.length)) else (whileF 1000000000000 (fun k2391 (s2389 : (Int × Int × (List Int))) => (if (decide (s2389.2.1 < ((s2389.2.2.length : Nat) : Int))) = true then (jn (fun (s2461 : (Int × (List Int))) => (k2391 (s2461.1, (IntKind.wrap .i64 (s2389.2.1 + (1 : Int))), s2461.2))) (fun k2463 => (getI s2389.2.2 s2389.2.1 (fun x2464 => ((F_slices_Contains_int_int a (IntKind.wrap .i64 (0 - x2464))).bind (fun y2468 => (if (!y2468) = true then (getI s2389.2.2 s2389.1 (fun x2470 => (k2463 ((IntKind.wrap .i64 (s2389.1 + (1 : Int))), (s2389.2.2.set s2389.1.toNat x2464))))) else (k2463 (s2389.1, s2389.2.2))))))))) else (okI (0 ≤ s2389.1 ∧ s2389.1.toNat ≤ s2389.2.2.length) (okI (s2389.1.toNat + (s2389.2.2.length - s2389.1.toNat) ≤ s2389.2.2.length) (okI (0 ≤ s2389.1 ∧ s2389.1.toNat ≤ s2389.2.2.length) (kk ((s2389.2.2.take s2389.1.toNat ++ List.replicate (s2389.2.2.length - s2389.1.toNat) (0 : Int) ++ s2389.2.2.drop (s2389.1.toNat + (s2389.2.2.length - s2389.1.toNat))), s2389.1.toNat))))))) (s2385, (IntKind.wrap .i64 (s2385 + (1 : Int))), s)))) (fun k2387 => (rangeF (fun (j2477 : Nat) (x2478 : Int) (s2474 : Unit) k2476 => ((F_slices_Contains_int_int a (IntKind.wrap .i64 (0 - x2478))).bind (fun y2497 => (if y2497 = true then (k2387 ((j2477 : Nat) : Int)) else (k2476 ()))))) 0 s () (fun (s2474 : Unit) => (k2387 (-1 : Int)))))) = K (lessL s a) := by
  have hlen := nrm_len' hs
  rw [jn_eq]
  have hq : ∀ x ∈ s, F_slices_Contains_int_int a (IntKind.wrap .i64 (0 - x)) = some (decide (-x ∈ a)) := fun x hx => by
    have := nrm_mem hs x hx
    rw [wrap_neg (by omega) (by omega), Contains_eq a _ ha]
  -- the part in front has none
  refine rangeF_pre s (fun pre _ => ∀ x ∈ pre, -x ∉ a) (fun _ _ _ => K (lessL s a)) (fun _ hI => ?_) (fun pre x xs u kk1 hf hI hk1 => ?_) s [] () rfl (by simp)
  · dsimp only
    rw [if_pos (by decide), hk]
    congr 1
    rw [List.take_length]; unfold lessL
    exact (List.filter_eq_self.2 (fun x hx => by simpa using hI x hx)).symm
  · rw [hq x (by rw [hf]; simp)]
    by_cases h : -x ∈ a
    · simp only [h, decide_true, Option.bind_some, if_true]
      have hl2 : s.length = pre.length + (xs.length + 1) := by rw [hf]; simp
      rw [if_neg (by simp only [beq_iff_eq]; omega), wrap_id (by omega) (by omega)]
      refine whileF_by (fun t => s.length - t.2.1.toNat) (fun t => ∃ i j : Nat, t.1 = (i : Int) ∧ t.2.1 = (j : Int) ∧ i ≤ j ∧ j ≤ s.length ∧ t.2.2.length = s.length ∧ t.2.2.take i = (s.take j).filter (fun x => decide (-x ∉ a)) ∧ t.2.2.drop j = s.drop j) (fun _ => K (lessL s a)) (fun t k1 hI1 hk2 => ?_) _ _ ⟨pre.length, pre.length + 1, rfl, by simp, by omega, by omega, rfl, ?_, rfl⟩ (by simp; omega)
      · obtain ⟨t1, t2, l⟩ := t
        obtain ⟨i, j, e1, e2, hij, hj, hl3, htk, hdr⟩ := hI1
        simp only at e1 e2 hl3 htk hdr hk2 ⊢
        subst e1; subst e2
        by_cases hlt : j < s.length
        · have hx : s[j]? = some s[j] := List.getElem?_eq_getElem hlt
          have hx2 : l[j]? = some s[j] := by
            have e := congrArg (fun z => z[0]?) hdr
            simp only [List.getElem?_drop, Nat.add_zero] at e
            rw [e, hx]
          rw [if_pos (by simp; omega), jn_eq, getI_eq (by omega) (by simpa using hx2), hq _ (List.getElem_mem hlt)]
          have hd2 : l.drop (j + 1) = s.drop (j + 1) := by
            have e := congrArg (List.drop 1) hdr
            simp only [List.drop_drop] at e
            exact e
          rw [wrap_id (n := (j : Int) + 1) (by omega) (by omega)]
          by_cases hm : -s[j] ∈ a
          · simp only [hm, decide_true, Option.bind_some, Bool.not_true, Bool.false_eq_true, if_false]
            refine hk2 _ ⟨i, j + 1, rfl, by simp, by omega, by omega, hl3, ?_, hd2⟩ (by simp; omega)
            rw [filter_take_succ hx]; simp [hm, htk]
          · simp only [hm, decide_false, Option.bind_some, Bool.not_false, if_true]
            have hi : l[i]? = some l[i] := List.getElem?_eq_getElem (by omega)
            rw [getI_eq (by omega) (by rw [Int.toNat_natCast]; exact hi), wrap_id (by omega) (by omega)]
            refine hk2 _ ⟨i + 1, j + 1, by simp, by simp, by omega, by omega, by simpa using hl3, ?_, ?_⟩ (by simp; omega)
            · rw [filter_take_succ hx]
              simp only [Int.toNat_natCast, hm, not_false_eq_true, decide_true, if_true]
              rw [List.take_add_one, List.getElem?_set_self (by omega), List.take_set_of_le (by omega), htk]; rfl
            · simp only [Int.toNat_natCast]
              rw [List.drop_set_of_lt (by omega)]; exact hd2
        · have hjn : j = s.length := by omega
          subst hjn
          have hi : i ≤ l.length := by omega
          rw [if_neg (by simp; omega), okI_eq ⟨by omega, by simp; omega⟩, okI_eq (by simp; omega), okI_eq ⟨by omega, by simp; omega⟩, hk]
          congr 1
          simp only [Int.toNat_natCast]
          rw [List.append_assoc, List.take_append_of_le_length (by simp; omega), List.take_take, Nat.min_self, htk, List.take_length]; rfl
      · rw [filter_take_succ (x := x) (by rw [hf]; simp), hf]
        simp only [List.take_left, h, not_true_eq_false, decide_false, Bool.false_eq_true, if_false, List.append_nil]
        exact (List.filter_eq_self.2 (fun x hx => by simpa using hI x hx)).symm
    · simp only [h, decide_false, Option.bind_some, Bool.false_eq_true, if_false]
      refine hk1 () (fun y hy => ?_)
      rcases List.mem_append.1 hy with hy | hy
      · exact hI y hy
      · simp only [List.mem_singleton] at hy; subst hy; exact h

theorem Under_prog {cnf : List (List Int)} {a : List Int} (h0 : InL (InL (InK .i64)) cnf) (h1 : InL (InK .i64) a) : F_proof_Under cnf a = some (undS cnf a) := by
  unfold F_proof_Under undS
  rw [jn_eq, cnf_eq]
  by_cases hc : (decide (cnf.length ≤ 20000) && cnfB 0 cnf) = true
  · rw [hc]
    simp only [Option.bind_some, Bool.not_true, Bool.false_eq_true, if_false, normal_eq, true_and]
    by_cases ha : nrmB 0 a = true
    · simp only [ha, Bool.not_true, Bool.false_eq_true, if_false, if_true]
      simp only [Bool.and_eq_true, decide_eq_true_eq] at hc
      refine (rangeF_pre cnf (fun pre s => s.1.length ≤ pre.length ∧ s.2.length ≤ pre.length) (fun pre xs s => some ((undF a pre.length xs s).1, (undF a pre.length xs s).2, 0)) (fun s _ => rfl) (fun pre x xs s kk hf hI hk => ?_) cnf [] ([], []) rfl (by simp)).trans rfl
      have hx : nrmB 0 x = true := cnfB_mem hc.2 x (by rw [hf]; simp)
      have hxl := nrm_len' hx
      have hlen : cnf.length = pre.length + (xs.length + 1) := by rw [hf]; simp
      rw [jn_eq, hits_eq _ _ h1.1]
      simp only [List.length_append, List.length_singleton] at hk
      by_cases h : hitB x a = true
      · simp only [h, Option.bind_some, if_true, undF]
        exact hk s ⟨by omega, by omega⟩
      · simp only [Bool.not_eq_true] at h
        simp only [h, Option.bind_some, Bool.false_eq_true, if_false, undF]
        rw [jn_eq]
        dsimp only
        have fin : ∀ y, y = x → capN (s.1.length + [lessL y a].length) (capN (s.2.length + [((pre.length : Nat) : Int)].length) (kk ((s.1 ++ [lessL y a]), (s.2 ++ [((pre.length : Nat) : Int)])))) = some ((undF a (pre.length + 1) xs (s.1 ++ [lessL x a], s.2 ++ [(pre.length : Int)])).1, (undF a (pre.length + 1) xs (s.1 ++ [lessL x a], s.2 ++ [(pre.length : Int)])).2, 0) := by
          rintro y rfl
          rw [capN_eq (by simp; omega), capN_eq (by simp; omega)]
          exact hk _ ⟨by simp; omega, by simp; omega⟩
        by_cases he : x.isEmpty = true
        · rw [if_pos he, jn_eq]
          exact (delete_eq (s := []) (kk := fun (s2355 : ((List Int) × Nat)) => (capN (s.1.length + [((s2355.1.take (0 + s2355.2)).drop 0)].length) (capN (s.2.length + [((pre.length : Nat) : Int)].length) (kk ((s.1 ++ [((s2355.1.take (0 + s2355.2)).drop 0)]), (s.2 ++ [((pre.length : Nat) : Int)])))))) rfl h1.1 (fun z => capN (s.1.length + [z].length) (capN (s.2.length + [((pre.length : Nat) : Int)].length) (kk ((s.1 ++ [z]), (s.2 ++ [((pre.length : Nat) : Int)]))))) (fun l n => by simp)).trans (fin [] (by simpa using he.symm))
        · rw [if_neg he, capN_eq (by simp; omega), jn_eq]
          exact (delete_eq (s := [] ++ x) (kk := fun (s2355 : ((List Int) × Nat)) => (capN (s.1.length + [((s2355.1.take (0 + s2355.2)).drop 0)].length) (capN (s.2.length + [((pre.length : Nat) : Int)].length) (kk ((s.1 ++ [((s2355.1.take (0 + s2355.2)).drop 0)]), (s.2 ++ [((pre.length : Nat) : Int)])))))) (by simpa using hx) h1.1 (fun z => capN (s.1.length + [z].length) (capN (s.2.length + [((pre.length : Nat) : Int)].length) (kk ((s.1 ++ [z]), (s.2 ++ [((pre.length : Nat) : Int)]))))) (fun l n => by simp)).trans (fin ([] ++ x) (by simp))
    · simp [ha]
  · simp [hc]

theorem undF_ok (a : List Int) {cnf : List (List Int)} : ∀ (xs pre : List (List Int)) (s : List (List Int) × List Int), cnf = pre ++ xs →
    (s.1.length = s.2.length ∧ s.1.length ≤ pre.length ∧ (∀ c ∈ s.1, ∃ d ∈ cnf, c = lessL d a) ∧ (∀ n ∈ s.2, 0 ≤ n ∧ n < pre.length)) →
    ((undF a pre.length xs s).1.length = (undF a pre.length xs s).2.length ∧ (undF a pre.length xs s).1.length ≤ cnf.length ∧ (∀ c ∈ (undF a pre.length xs s).1, ∃ d ∈ cnf, c = lessL d a) ∧ (∀ n ∈ (undF a pre.length xs s).2, 0 ≤ n ∧ n < cnf.length))
  | [], pre, s, hf, h => by
    rw [List.append_nil] at hf; subst hf
    exact h
  | c :: cs, pre, s, hf, ⟨h1, h2, h3, h4⟩ => by
    have := undF_ok a (cnf := cnf) cs (pre ++ [c]) (if hitB c a = true then s else (s.1 ++ [lessL c a], s.2 ++ [(pre.length : Int)])) (by simp [hf]) (by
      split
      · refine ⟨h1, by simp; omega, h3, fun n hn => ?_⟩
        have := h4 n hn; simp; omega
      · refine ⟨by simp; omega, by simp; omega, fun d hd => ?_, fun n hn => ?_⟩
        · rcases List.mem_append.1 hd with hd | hd
          · exact h3 d hd
          · simp only [List.mem_singleton] at hd
            exact ⟨c, by rw [hf]; simp, hd⟩
        · rcases List.mem_append.1 hn with hn | hn
          · have := h4 n hn; simp; omega
          · simp only [List.mem_singleton] at hn
            simp; omega)
    simpa only [List.length_append, List.length_singleton, undF] using this

theorem undS_ok {cnf : List (List Int)} {a : List Int} (h0 : InL (InL (InK .i64)) cnf) (h : (undS cnf a).2.2 = 0) : InL (InL (InK .i64)) (undS cnf a).1 ∧ (undS cnf a).1.length = (undS cnf a).2.1.length ∧ (undS cnf a).1.length ≤ cnf.length ∧ (∀ c ∈ (undS cnf a).1, ∃ d ∈ cnf, c = lessL d a) ∧ (∀ n ∈ (undS cnf a).2.1, 0 ≤ n ∧ n < cnf.length) ∧ (∀ c ∈ cnf, nrmB 0 c = true) ∧ nrmB 0 a = true ∧ cnf.length ≤ 20000 := by
  unfold undS at h ⊢
  split at h
  · rename_i hc
    rw [if_pos hc]
    simp only [Bool.and_eq_true, decide_eq_true_eq] at hc
    obtain ⟨h1, h2, h3, h4⟩ := undF_ok a cnf [] ([], []) (cnf := cnf) rfl (by simp)
    have h2' : (undF a 0 cnf ([], [])).1.length ≤ cnf.length := h2
    refine ⟨⟨Nat.le_trans h2' h0.1, fun c hc => ?_⟩, h1, h2, h3, h4, cnfB_mem hc.1.2, hc.2, hc.1.1⟩
    obtain ⟨d, hd, e⟩ := h3 c hc
    have hd := h0.2 d hd
    subst e
    refine ⟨Nat.le_trans (List.length_filter_le _ _) hd.1, fun x hx => hd.2 x ((List.mem_filter.1 hx).1)⟩
  · simp at h

/-- a proof is as itself -/
theorem SameProof_self (p : S_api_Proof) : F_skolemref09_SameProof p p = some true := by
  unfold F_skolemref09_SameProof
  rw [jn_eq]
  simp only [BEq.rfl, Bool.not_true, Bool.false_eq_true, if_false, bne_self_eq_false]
  refine rangeF_pre p.Lines (fun _ _ => True) (fun _ _ _ => some true) (fun _ _ => rfl) (fun pre x xs s kk hf _ hk => ?_) p.Lines [] () rfl trivial
  rw [getI_nat, hf]
  simp [jn_eq, Same_eq, hk () trivial]
theorem sameClauses_self (c : List (List Int)) : F_skolemlaw10_sameClauses c c = some true := by
  unfold F_skolemlaw10_sameClauses
  rw [if_neg (by simp)]
  refine rangeF_pre c (fun _ _ => True) (fun _ _ _ => some true) (fun _ _ => rfl) (fun pre x xs s kk hf _ hk => ?_) c [] () rfl trivial
  rw [getI_nat, hf]
  simp [Same_eq, hk () trivial]
end Go.Sk.X

namespace Go.Sk.X
open Go Go.Sk

/-! ### Lift -/
theorem chk_all' {cnf : List (List Int)} : ∀ (xs pre : List S_api_Line), chk cnf pre xs = none → ∀ p x q, xs = p ++ x :: q → RightP cnf (pre ++ p) x
  | [], pre, _, p, x, q, e => by simp at e
  | y :: ys, pre, h, p, x, q, e => by
    simp only [chk] at h
    split at h
    · rename_i hr
      cases p with
      | nil => simp only [List.nil_append, List.cons.injEq] at e; rw [← e.1]; simpa using hr
      | cons z p =>
        simp only [List.cons_append, List.cons.injEq] at e
        obtain ⟨e1, e2⟩ := e; subst e1
        have := chk_all' ys (pre ++ [y]) h p x q e2
        simpa using this
    · simp at h

theorem resS_nrm' {a b : List Int} {p : Int} (ha : nrmB 0 a = true) (hb : nrmB 0 b = true) : nrmB 0 (resS a b p).1 = true := by
  rcases h : resS a b p with ⟨m, b'⟩
  cases b' with
  | true => exact resS_nrm ha hb h
  | false =>
    unfold resS at h
    split at h
    · split at h
      · simp at h
      · injection h with h1 h2; rw [← h1]; rfl
    · injection h with h1 h2; rw [← h1]; rfl

theorem Lift_both {cnf : List (List Int)} {a : List Int} {p : S_api_Proof} (h0 : InL (InL (InK .i64)) cnf) (h1 : InL (InK .i64) a) (h2 : W_S_api_Proof p) : Both (F_proof_Lift cnf a p) (F_skolemref10_Lift cnf a p) := by
  unfold F_proof_Lift F_skolemref10_Lift
  rw [Under_prog h0 h1, Under_ref h0 h1]
  simp only [Option.bind_some]
  by_cases hu : (undS cnf a).2.2 = 0
  · obtain ⟨hw, hl, hl2, hc, hn, hcn, han, hl3⟩ := undS_ok h0 hu
    simp only [hu, bne_self_eq_false, Bool.false_eq_true, if_false]
    rw [Check_prog hw h2, Check_ref hw h2]
    simp only [Option.bind_some]
    by_cases hk : (checkS (undS cnf a).1 p).2.2 = 0
    · simp only [hk, bne_self_eq_false, Bool.false_eq_true, if_false]
      obtain ⟨hcn2, hfit, hchk, _⟩ := checkS_ok hk
      refine rangeF_both p.Lines (fun pre s => s.length = pre.length ∧ ∀ l ∈ s, nrmB 0 l.Lits = true) (fun s _ => ⟨_, rfl, rfl⟩) (fun pre x xs s kk1 kk2 hf hI hkk => ?_) p.Lines [] [] rfl ⟨rfl, by simp⟩
      have hx : W_S_api_Line x := h2.2.2 x (by rw [hf]; simp)
      have hlen : p.Lines.length = pre.length + (xs.length + 1) := by rw [hf]; simp
      have hfl := hfit.2.2
      have hr := chk_all' p.Lines [] hchk pre x xs hf
      simp only [List.nil_append] at hr
      have fin : ∀ (A : Int) (l : List Int), nrmB 0 l = true → Both (capN (s.length + [(S_api_Line.mk x.Rule A x.B x.Piv l)].length) (kk1 (s ++ [(S_api_Line.mk x.Rule A x.B x.Piv l)]))) (capN (s.length + [(S_api_Line.mk x.Rule A x.B x.Piv l)].length) (kk2 (s ++ [(S_api_Line.mk x.Rule A x.B x.Piv l)]))) := by
        intro A l hl
        rw [capN_eq (by simp; omega), capN_eq (by simp; omega)]
        refine hkk _ ⟨by simp [hI.1], fun z hz => ?_⟩
        rcases List.mem_append.1 hz with hz | hz
        · exact hI.2 z hz
        · simp only [List.mem_singleton] at hz; rw [hz]; exact hl
      simp only [jn_eq]
      rcases hr with ⟨r1, r2, r3, r4, r5, r6⟩ | ⟨r1, r2, r3, la, lb, e1, e2, e3⟩
      · rw [if_pos (by simp [r1]), if_pos (by simp [r1])]
        have hlt : x.A.toNat < (undS cnf a).2.1.length := by omega
        have g1 : (undS cnf a).2.1[x.A.toNat]? = some (undS cnf a).2.1[x.A.toNat] := List.getElem?_eq_getElem hlt
        have hb := hn _ (List.getElem_mem hlt)
        have g2 : cnf[((undS cnf a).2.1[x.A.toNat]).toNat]? = some cnf[((undS cnf a).2.1[x.A.toNat]).toNat] := List.getElem?_eq_getElem (by omega)
        have hnm := hcn _ (List.mem_of_getElem? g2)
        rw [getI_eq r2 g1, getI_eq r2 g1, getI_eq hb.1 g2, getI_eq hb.1 g2, Clone_eq _ (by have := nrm_len' hnm; omega)]
        simp only [Option.bind_some]
        exact fin _ _ hnm
      · rw [if_neg (by simp [r1]), if_neg (by simp [r1])]
        have hla : x.A.toNat < s.length := by rw [hI.1]; exact (List.getElem?_eq_some_iff.1 e1).1
        have hlb : x.B.toNat < s.length := by rw [hI.1]; exact (List.getElem?_eq_some_iff.1 e2).1
        have g1 : s[x.A.toNat]? = some s[x.A.toNat] := List.getElem?_eq_getElem hla
        have g2 : s[x.B.toNat]? = some s[x.B.toNat] := List.getElem?_eq_getElem hlb
        have n1 := hI.2 _ (List.getElem_mem hla)
        have n2 := hI.2 _ (List.getElem_mem hlb)
        rw [getI_eq r2 g1, getI_eq r2 g1, getI_eq r3 g2, getI_eq r3 g2, resolvent_eq n1 n2 hx.2.2.2.1, Resolvent_eq n1 n2 hx.2.2.2.1]
        simp only [Option.bind_some]
        exact fin _ _ (resS_nrm' n1 n2)
    · rw [if_pos (by simpa using hk), if_pos (by simpa using hk)]
      exact ⟨_, rfl, rfl⟩
  · rw [if_pos (by simpa using hu), if_pos (by simpa using hu)]
    exact ⟨_, rfl, rfl⟩

theorem law_ProofLifts {a0 : List (List Int)} {a1 : List Int} {a2 : S_api_Proof} (h0 : InL (InL (InK .i64)) a0) (h1 : InL (InK .i64) a1) (h2 : W_S_api_Proof a2) : F_skolemlaw10_ProofLifts a0 a1 a2 = some true := by
  obtain ⟨b, hb⟩ := large_some a0 a2
  unfold F_skolemlaw10_ProofLifts
  rw [jn_eq, hb]
  have hd : F_skolemlaw10_head.bind (fun y => some y) = some true := by simp [F_skolemlaw10_head]
  obtain ⟨r, e1, e2⟩ := Lift_both h0 h1 h2
  have main : ((F_proof_Lift a0 a1 a2).bind (fun y117 => ((F_skolemref10_Lift a0 a1 a2).bind (fun y118 => ((F_skolemref09_SameProof y117.1 y118.1).bind (fun y123 => (if y123 = true then (if (y117.2 == y118.2) = true then ((F_skolemlaw10_head).bind (fun y126 => (some y126))) else (some false)) else (some false)))))))) = some true := by
    rw [e1, e2]
    simp [SameProof_self, hd]
  cases b with
  | true => simpa using hd
  | false =>
    simp only [Option.bind_some, Bool.false_eq_true, if_false]
    split
    · exact hd
    · exact main
end Go.Sk.X

namespace Go.Sk.X
open Go Go.Sk

/-! ### Sizes -/
theorem zLine {x : S_api_Line} (h : Z_S_api_Line x) : W_S_api_Line x := ⟨h.1, h.2.1, h.2.2.1, h.2.2.2.1, h.2.2.2.2.wide (fun _ h => h)⟩
theorem zProof {p : S_api_Proof} (h : Z_S_api_Proof p) : W_S_api_Proof p := ⟨h.1, h.2.wide (fun _ h => zLine h)⟩

theorem rangeF_fold {α S R : Type} (g : S → α → S) (k : S → Option R) : ∀ (xs : List α) (j : Nat) (s : S), rangeF (fun _ x s k => k (g s x)) j xs s k = k (xs.foldl g s)
  | [], _, _ => rfl
  | x :: xs, j, s => rangeF_fold g k xs (j + 1) (g s x)

theorem sum_small : ∀ (xs : List S_api_Line) (s : Int), (∀ x ∈ xs, x.Lits.length ≤ 140737488351232) → 0 ≤ s → s + xs.length * 140737488351232 ≤ 9223372036854775807 →
    s ≤ xs.foldl (fun s x => IntKind.wrap .i64 (s + ((x.Lits.length : Nat) : Int))) s ∧ ∀ x ∈ xs, (x.Lits.length : Int) ≤ xs.foldl (fun s x => IntKind.wrap .i64 (s + ((x.Lits.length : Nat) : Int))) s
  | [], s, _, _, _ => ⟨Int.le_refl _, fun x h => by simp at h⟩
  | y :: ys, s, h, h0, hs => by
    have hy := h y (by simp)
    simp only [List.length_cons] at hs
    simp only [List.foldl_cons]
    rw [wrap_id (by omega) (by omega)]
    obtain ⟨h1, h2⟩ := sum_small ys (s + (y.Lits.length : Int)) (fun x hx => h x (by simp [hx])) (by omega) (by omega)
    refine ⟨by omega, fun x hx => ?_⟩
    rcases List.mem_cons.1 hx with rfl | hx
    · omega
    · exact h2 x hx

theorem large_small {p : S_api_Proof} (hz : Z_S_api_Proof p) (h : F_skolemlaw10_large [] p = some false) : p.Lines.length ≤ 300 ∧ ∀ x ∈ p.Lines, x.Lits.length ≤ 2000 := by
  unfold F_skolemlaw10_large at h
  rw [rangeF_nil, rangeF_fold (fun s (x : S_api_Line) => IntKind.wrap .i64 (s + ((x.Lits.length : Nat) : Int)))] at h
  simp only [List.length_nil] at h
  rw [if_neg (by simp), if_neg (by simp)] at h
  by_cases h3 : p.Lines.length > 300
  · rw [if_pos (by simp; omega)] at h; simp at h
  · rw [if_neg (by simp; omega)] at h
    simp only [Option.some.injEq, decide_eq_false_iff_not] at h
    obtain ⟨_, h2⟩ := sum_small p.Lines 0 (fun x hx => (hz.2.2 x hx).2.2.2.2.1) (by omega) (by omega)
    exact ⟨by omega, fun x hx => by have := h2 x hx; omega⟩

/-! ### Order -/
def okLine (j : Nat) (x : S_api_Line) : Bool := decide (x.Rule = 1) || (decide (x.Rule = 2) && (decide (0 ≤ x.A) && decide (x.A < j) && decide (0 ≤ x.B) && decide (x.B < j)))
def ordF : Nat → List S_api_Line → Bool
  | _, [] => true
  | j, x :: xs => okLine j x && ordF (j + 1) xs

open Classical in
theorem fits_eq (p : S_api_Proof) : F_proof_fits p = some (decide (FitsP p)) := by
  unfold F_proof_fits FitsP
  cases p.Cubes with
  | true => simp
  | false =>
    by_cases c1 : 0 < p.Lines.length
    · rw [if_pos (by simp), if_pos (by simpa using c1)]
      simp [c1]; omega
    · rw [if_pos (by simp), if_neg (by simpa using c1)]
      simp [c1]

open Classical in
theorem ordered_eq (p : S_api_Proof) : F_proof_ordered p = some (decide (FitsP p) && ordF 0 p.Lines) := by
  unfold F_proof_ordered
  rw [fits_eq]
  simp only [Option.bind_some]
  by_cases hf : FitsP p
  · simp only [hf, decide_true, Bool.not_true, Bool.false_eq_true, if_false, Bool.true_and]
    refine rangeF_eq (fun j xs _ => some (ordF j xs)) (fun _ _ => rfl) (fun j x xs s kk hk => ?_) p.Lines 0 ()
    rw [jn_eq, hk, ordF, okLine]
    by_cases r1 : x.Rule = 1
    · simp [r1]
    · by_cases r2 : x.Rule = 2
      · have e1 : decide (imn x.A x.B < 0) = !(decide (0 ≤ x.A) && decide (0 ≤ x.B)) := by
          by_cases b1 : 0 ≤ x.A <;> by_cases b2 : 0 ≤ x.B <;> simp only [b1, b2, decide_true, decide_false, Bool.and_true, Bool.and_false, Bool.not_true, Bool.not_false, decide_eq_true_eq, decide_eq_false_iff_not] <;> (unfold imn; split <;> omega)
        have e2 : decide (imx x.A x.B ≥ (j : Int)) = !(decide (x.A < j) && decide (x.B < j)) := by
          by_cases b1 : x.A < (j : Int) <;> by_cases b2 : x.B < (j : Int) <;> simp only [b1, b2, decide_true, decide_false, Bool.and_true, Bool.and_false, Bool.not_true, Bool.not_false, decide_eq_true_eq, decide_eq_false_iff_not] <;> (unfold imx; split <;> omega)
        rw [e1, e2]
        by_cases b1 : 0 ≤ x.A <;> by_cases b2 : 0 ≤ x.B <;> by_cases b3 : x.A < (j : Int) <;> by_cases b4 : x.B < (j : Int) <;> simp [r1, r2, b1, b2, b3, b4]
      · simp [r1, r2]
  · simp [hf]

open Classical in
theorem Ordered_eq (p : S_api_Proof) : F_skolemref10_Ordered p = some (decide (FitsP p) && ordF 0 p.Lines) := by
  unfold F_skolemref10_Ordered
  rw [jn_eq]
  by_cases hf : FitsP p
  · obtain ⟨f1, f2, f3⟩ := id hf
    rw [if_neg (by simp [f1]), if_neg (by simp; intro e; rw [e] at f2; simp at f2)]
    simp only
    rw [if_neg (by simp; omega)]
    simp only [hf, decide_true, Bool.true_and]
    refine rangeF_eq (fun j xs _ => some (ordF j xs)) (fun _ _ => rfl) (fun j x xs s kk hk => ?_) p.Lines 0 ()
    simp only [jn_eq]
    rw [hk, ordF, okLine]
    by_cases r1 : x.Rule = 1
    · simp [r1]
    · by_cases r2 : x.Rule = 2
      · have n1 : decide (x.A < 0) = !decide (0 ≤ x.A) := (decide_eq_decide.2 (show (x.A < 0) ↔ ¬ (0 ≤ x.A) by omega)).trans decide_not
        have n2 : decide (x.B < 0) = !decide (0 ≤ x.B) := (decide_eq_decide.2 (show (x.B < 0) ↔ ¬ (0 ≤ x.B) by omega)).trans decide_not
        have n3 : decide (x.A ≥ (j : Int)) = !decide (x.A < (j : Int)) := (decide_eq_decide.2 (show (x.A ≥ (j : Int)) ↔ ¬ (x.A < (j : Int)) by omega)).trans decide_not
        have n4 : decide (x.B ≥ (j : Int)) = !decide (x.B < (j : Int)) := (decide_eq_decide.2 (show (x.B ≥ (j : Int)) ↔ ¬ (x.B < (j : Int)) by omega)).trans decide_not
        rw [n1, n2, n3, n4]
        by_cases b1 : 0 ≤ x.A <;> by_cases b2 : 0 ≤ x.B <;> by_cases b3 : x.A < (j : Int) <;> by_cases b4 : x.B < (j : Int) <;> simp [r1, r2, b1, b2, b3, b4]
      · simp [r1, r2]
  · simp only [hf, decide_false, Bool.false_and]
    cases hcu : p.Cubes with
    | true => simp
    | false =>
      by_cases c1 : p.Lines.length = 0
      · simp [c1]
      · have c2 : ¬ p.Lines.length ≤ 1000000 := fun h => hf ⟨hcu, by omega, h⟩
        simp only [Bool.false_eq_true, if_false]
        rw [if_neg (by simpa using c1), if_pos (by simp; omega)]

/-! ### Copies -/
def copyL (n : Int) (x : S_api_Line) : S_api_Line := S_api_Line.mk x.Rule (if x.Rule = 2 then IntKind.wrap .i64 (x.A + n) else x.A) (if x.Rule = 2 then IntKind.wrap .i64 (x.B + n) else x.B) x.Piv x.Lits

theorem copyL_zero {x : S_api_Line} (h : W_S_api_Line x) : copyL 0 x = x := by
  have h1 := inK64.1 h.2.1
  have h2 := inK64.1 h.2.2.1
  unfold copyL
  rw [Int.add_zero, Int.add_zero, wrap_id h1.1 h1.2, wrap_id h2.1 h2.2]
  simp

theorem copied_eq {p : S_api_Proof} (n : Int) (hl : p.Lines.length ≤ 1000000) (hs : ∀ x ∈ p.Lines, x.Lits.length ≤ 2000) : F_proof_copied p n = some (p.Lines.map (copyL n)) := by
  unfold F_proof_copied
  refine rangeF_pre p.Lines (fun pre s => s = pre.map (copyL n)) (fun _ _ _ => some (p.Lines.map (copyL n))) (fun s h => by rw [h]) (fun pre x xs s kk hf hI hk => ?_) p.Lines [] [] rfl rfl
  have hlen : p.Lines.length = pre.length + (xs.length + 1) := by rw [hf]; simp
  have hx := hs x (by rw [hf]; simp)
  subst hI
  rw [Clone_eq _ (by omega)]
  simp only [Option.bind_some, jn_eq]
  have hk := hk (pre.map (copyL n) ++ [copyL n x]) (by simp)
  by_cases r : x.Rule = 2
  · rw [if_pos (by simpa using r), capN_eq (by simp; omega)]
    simpa only [copyL, r, if_true] using hk
  · rw [if_neg (by simpa using r), capN_eq (by simp; omega)]
    simpa only [copyL, r, if_false] using hk

theorem Join_both {p q : S_api_Proof} {piv : Int} (hp : W_S_api_Proof p) (hq : W_S_api_Proof q) (hv : InK .i64 piv) (lp : p.Lines.length ≤ 300) (lq : q.Lines.length ≤ 300) (sp : ∀ x ∈ p.Lines, x.Lits.length ≤ 2000) (sq : ∀ x ∈ q.Lines, x.Lits.length ≤ 2000) :
    Both (F_proof_Join p q piv) (F_skolemref10_Join p q piv) := by
  classical
  unfold F_proof_Join F_skolemref10_Join
  simp only [jn_eq]
  rw [ordered_eq, ordered_eq, Ordered_eq, Ordered_eq]
  simp only [Option.bind_some]
  have hvb := inK64.1 hv
  by_cases h1 : (decide (FitsP p) && ordF 0 p.Lines) = true
  · rw [h1]
    simp only [Bool.not_true, Bool.false_eq_true, if_false]
    by_cases h2 : (decide (FitsP q) && ordF 0 q.Lines) = true
    · rw [h2]
      simp only [Bool.not_true, Bool.false_eq_true, if_false]
      by_cases h3 : piv < 1
      · simp only [h3, decide_true, if_true]; exact ⟨_, rfl, rfl⟩
      · by_cases h4 : piv > 65536
        · simp only [h3, h4, decide_true, decide_false, Bool.false_eq_true, if_false, if_true]; exact ⟨_, rfl, rfl⟩
        · simp only [h3, h4, decide_false, Bool.false_eq_true, if_false]
          simp only [Bool.and_eq_true, decide_eq_true_eq] at h1 h2
          have fp := h1.1
          have fq := h2.1
          obtain ⟨c, _, c2, c3, c4⟩ := last_get fp.2.1 (by omega)
          obtain ⟨d, _, d2, d3, d4⟩ := last_get fq.2.1 (by omega)
          have hcW := (hp.2.2 c c4).2.2.2.2
          have hdW := (hq.2.2 d d4).2.2.2.2
          rw [getI_eq c3 c2, getI_eq d3 d2, getI_eq c3 c2, getI_eq d3 d2, normal_eq, normal_eq, Normal_eq hcW.1, Normal_eq hdW.1]
          simp only [Option.bind_some]
          by_cases n1 : nrmB 0 c.Lits = true
          · by_cases n2 : nrmB 0 d.Lits = true
            · simp only [n1, n2, Bool.not_true, Bool.false_eq_true, if_false]
              rw [contains_small n1, Has_eq]
              simp only [Option.bind_some]
              have ep : p = S_api_Proof.mk false p.Lines := by have := fp.1; cases p; simp only at this; rw [this]
              have eq : q = S_api_Proof.mk false q.Lines := by have := fq.1; cases q; simp only at this; rw [this]
              have cp : ∀ (r : S_api_Proof), W_S_api_Proof r → r.Lines.map (copyL 0) = r.Lines := fun r hr => by
                rw [List.map_congr_left (fun x hx => copyL_zero (hr.2.2 x hx)), List.map_id']
              by_cases m1 : piv ∈ c.Lits
              · simp only [m1, decide_true, Bool.not_true, Bool.false_eq_true, if_false]
                rw [wrap_neg (by omega) (by omega), contains_small n2, Has_eq]
                simp only [Option.bind_some]
                by_cases m2 : -piv ∈ d.Lits
                · simp only [m2, decide_true, Bool.not_true, Bool.false_eq_true, if_false]
                  rw [resolvent_eq n1 n2 hv, Resolvent_eq n1 n2 hv]
                  simp only [Option.bind_some]
                  by_cases m3 : (resS c.Lits d.Lits piv).2 = true
                  · simp only [m3, Bool.not_true, Bool.false_eq_true, if_false]
                    by_cases m4 : IntKind.wrap .i64 (IntKind.wrap .i64 (((p.Lines.length : Nat) : Int) + ((q.Lines.length : Nat) : Int)) + 1) > 1000000
                    · simp only [m4, decide_true, if_true]; exact ⟨_, rfl, rfl⟩
                    · simp only [m4, decide_false, Bool.false_eq_true, if_false]
                      rw [copied_eq 0 (by omega) sp, copied_eq ((p.Lines.length : Nat) : Int) (by omega) sq, cp p hp]
                      simp only [Option.bind_some]
                      rw [capN_eq (by simp; omega), capN_eq (by simp; omega), capN_eq (by omega)]
                      refine ⟨_, rfl, ?_⟩
                      refine rangeF_pre q.Lines (fun pre s => s = p.Lines ++ pre.map (copyL ((p.Lines.length : Nat) : Int))) (fun _ _ _ => _) (fun s h => ?_) (fun pre x xs s kk hf hI hk => ?_) q.Lines [] p.Lines rfl (by simp)
                      · rw [h, capN_eq (by simp; omega)]
                      · have hlen : q.Lines.length = pre.length + (xs.length + 1) := by rw [hf]; simp
                        subst hI
                        have hk := hk (p.Lines ++ pre.map (copyL ((p.Lines.length : Nat) : Int)) ++ [copyL ((p.Lines.length : Nat) : Int) x]) (by simp)
                        by_cases r : x.Rule = 2
                        · rw [if_pos (by simpa using r), capN_eq (by simp; omega)]
                          simpa only [copyL, r, if_true] using hk
                        · rw [if_neg (by simpa using r), capN_eq (by simp; omega)]
                          simpa only [copyL, r, if_false] using hk
                  · simp only [Bool.not_eq_true] at m3
                    simp only [m3, Bool.not_false, if_true]
                    exact ⟨_, rfl, rfl⟩
                · simp only [m2, decide_false, Bool.not_false, if_true]
                  rw [copied_eq 0 (by omega) sq, cp q hq]
                  simp only [Option.bind_some]
                  rw [← eq]
                  exact ⟨_, rfl, rfl⟩
              · simp only [m1, decide_false, Bool.not_false, if_true]
                rw [copied_eq 0 (by omega) sp, cp p hp]
                simp only [Option.bind_some]
                rw [← ep]
                exact ⟨_, rfl, rfl⟩
            · simp only [Bool.not_eq_true] at n2
              simp only [n1, n2, Bool.not_true, Bool.not_false, Bool.false_eq_true, if_false, if_true]
              exact ⟨_, rfl, rfl⟩
          · simp only [Bool.not_eq_true] at n1
            simp only [n1, Bool.not_false, if_true]
            exact ⟨_, rfl, rfl⟩
    · simp only [Bool.not_eq_true] at h2
      rw [h2]
      simp only [Bool.not_false, if_true]
      exact ⟨_, rfl, rfl⟩
  · simp only [Bool.not_eq_true] at h1
    rw [h1]
    simp only [Bool.not_false, if_true]
    exact ⟨_, rfl, rfl⟩

theorem law_ProofJoins {a0 a1 : S_api_Proof} {a2 : Int} (h0 : Z_S_api_Proof a0) (h1 : Z_S_api_Proof a1) (h2 : InK .i64 a2) : F_skolemlaw10_ProofJoins a0 a1 a2 = some true := by
  obtain ⟨b, hb⟩ := large_some [] a0
  obtain ⟨c, hc⟩ := large_some [] a1
  unfold F_skolemlaw10_ProofJoins
  rw [jn_eq, hb, hc]
  have hd : F_skolemlaw10_head.bind (fun y => some y) = some true := by simp [F_skolemlaw10_head]
  cases b with
  | true => simpa using hd
  | false =>
    cases c with
    | true => simpa using hd
    | false =>
      have l0 := large_small h0 hb
      have l1 := large_small h1 hc
      obtain ⟨r, e1, e2⟩ := Join_both (zProof h0) (zProof h1) h2 l0.1 l1.1 l0.2 l1.2
      simp only [Option.bind_some, Bool.false_eq_true, if_false]
      rw [e1, e2]
      simp [SameProof_self, hd]
end Go.Sk.X
