/- The plain law of ProofLess, part 1: about numbers and lists alone. It has no conditions. -/
import Derived.Test.YtehfobeocanbfaaXProofLessF
set_option linter.unusedVariables false
set_option linter.unusedSimpArgs false
namespace Go.Sk
open Go

/-! ### Plain words -/
theorem jn_eq {S R : Type} (f : S → Option R) (g : (S → Option R) → Option R) : jn f g = g f := rfl
theorem rangeF_nil {α S R : Type} (f : Nat → α → S → (S → Option R) → Option R) (i : Nat) (s : S) (k : S → Option R) : rangeF f i [] s k = k s := rfl
theorem rangeF_cons {α S R : Type} (f : Nat → α → S → (S → Option R) → Option R) (i : Nat) (x : α) (xs : List α) (s : S) (k : S → Option R) : rangeF f i (x :: xs) s k = f i x s (fun s' => rangeF f (i + 1) xs s' k) := rfl
theorem upF_zero {S R : Type} (f : Int → S → (S → Option R) → Option R) (i : Int) (s : S) (k : S → Option R) : upF f 0 i s k = k s := rfl
theorem upF_succ {S R : Type} (f : Int → S → (S → Option R) → Option R) (n : Nat) (i : Int) (s : S) (k : S → Option R) : upF f (n + 1) i s k = f i s (fun s' => upF f n (i + 1) s' k) := rfl
theorem whileF_succ {S R : Type} (n : Nat) (b : (S → Option R) → S → Option R) (s : S) : whileF (n + 1) b s = b (whileF n b) s := rfl

/-- a while loop by a measure -/
theorem whileF_by {S R : Type} {b : (S → Option R) → S → Option R} (μ : S → Nat) (I : S → Prop) (g : S → Option R)
    (step : ∀ s k, I s → (∀ s', I s' → μ s' < μ s → k s' = g s') → b k s = g s) : ∀ n s, I s → μ s < n → whileF n b s = g s
  | 0, s, _, h => absurd h (Nat.not_lt_zero _)
  | n + 1, s, hI, h => by
    rw [whileF_succ]
    exact step s _ hI (fun s' h1 h2 => whileF_by μ I g step n s' h1 (by omega))

theorem rangeF_eq {α S R : Type} {f : Nat → α → S → (S → Option R) → Option R} {k : S → Option R} (g : Nat → List α → S → Option R) (h0 : ∀ j s, g j [] s = k s)
    (h1 : ∀ j x xs s kk, (∀ s', kk s' = g (j + 1) xs s') → f j x s kk = g j (x :: xs) s) : ∀ xs j s, rangeF f j xs s k = g j xs s
  | [], j, s => (h0 j s).symm
  | x :: xs, j, s => h1 j x xs s _ (fun s' => rangeF_eq g h0 h1 xs (j + 1) s')

/-- where what went before matters -/
theorem rangeF_pre {α S R : Type} {f : Nat → α → S → (S → Option R) → Option R} {k : S → Option R} (full : List α) (I : List α → S → Prop) (g : List α → List α → S → Option R) (h0 : ∀ s, I full s → k s = g full [] s)
    (h1 : ∀ pre x xs s kk, full = pre ++ x :: xs → I pre s → (∀ s', I (pre ++ [x]) s' → kk s' = g (pre ++ [x]) xs s') → f pre.length x s kk = g pre (x :: xs) s) : ∀ xs pre s, full = pre ++ xs → I pre s → rangeF f pre.length xs s k = g pre xs s
  | [], pre, s, hf, hI => by
    rw [List.append_nil] at hf; subst hf
    exact h0 s hI
  | x :: xs, pre, s, hf, hI => by
    refine h1 pre x xs s _ hf hI (fun s' hs' => ?_)
    have := rangeF_pre full I g h0 h1 xs (pre ++ [x]) s' (by simp [hf]) hs'
    rw [List.length_append] at this
    exact this

theorem wrap_id {n : Int} (h0 : -9223372036854775808 ≤ n) (h1 : n ≤ 9223372036854775807) : IntKind.wrap .i64 n = n := by
  simp only [IntKind.wrap, IntKind.bits, IntKind.signed]
  simp only [Bool.true_and]
  split <;> rename_i h <;> simp only [ge_iff_le, decide_eq_true_eq] at h <;> omega

theorem inK64 {n : Int} : InK .i64 n ↔ -9223372036854775808 ≤ n ∧ n ≤ 9223372036854775807 := Iff.rfl

/-! ### Normal lists of literals -/
def av (x : Int) : Int := if x < 0 then -x else x
def nrmB (last : Int) : List Int → Bool
  | [] => true
  | x :: xs => decide (-65536 ≤ x) && decide (x ≤ 65536) && decide (last < av x) && nrmB (av x) xs

theorem av_nonneg (x : Int) : 0 ≤ av x := by unfold av; split <;> omega
theorem av_neg (x : Int) : av (-x) = av x := by unfold av; split <;> split <;> omega
theorem av_eq {x y : Int} (h : av x = av y) : x = y ∨ x = -y := by unfold av at h; split at h <;> split at h <;> omega

theorem nrm_cons {c x : Int} {xs : List Int} : nrmB c (x :: xs) = true ↔ -65536 ≤ x ∧ x ≤ 65536 ∧ c < av x ∧ nrmB (av x) xs = true := by
  simp [nrmB, and_assoc]
theorem nrm_mono {c c' : Int} (h : c' ≤ c) : ∀ {l : List Int}, nrmB c l = true → nrmB c' l = true
  | [], _ => rfl
  | x :: xs, h' => by
    rw [nrm_cons] at h' ⊢
    exact ⟨h'.1, h'.2.1, by omega, h'.2.2.2⟩
theorem nrm_mem : ∀ {c : Int} {l : List Int}, nrmB c l = true → ∀ x ∈ l, c < av x ∧ -65536 ≤ x ∧ x ≤ 65536
  | c, [], _, x, h => by simp at h
  | c, y :: ys, h, x, hx => by
    rw [nrm_cons] at h
    rcases List.mem_cons.1 hx with rfl | hx
    · exact ⟨h.2.2.1, h.1, h.2.1⟩
    · have := nrm_mem h.2.2.2 x hx
      exact ⟨by omega, this.2⟩
theorem nrm_ext : ∀ {l l' : List Int} {c c' : Int}, nrmB c l = true → nrmB c' l' = true → (∀ x, x ∈ l ↔ x ∈ l') → l = l'
  | [], [], _, _, _, _, _ => rfl
  | [], y :: ys, _, _, _, _, h => by have := (h y).2 (by simp); simp at this
  | x :: xs, [], _, _, _, _, h => by have := (h x).1 (by simp); simp at this
  | x :: xs, y :: ys, c, c', h1, h2, h => by
    rw [nrm_cons] at h1 h2
    have hxy : x = y := by
      have hx := (h x).1 (by simp)
      have hy := (h y).2 (by simp)
      rcases List.mem_cons.1 hx with e | hx
      · exact e
      · rcases List.mem_cons.1 hy with e | hy
        · exact e.symm
        · have := (nrm_mem h2.2.2.2 x hx).1
          have := (nrm_mem h1.2.2.2 y hy).1
          omega
    subst hxy
    congr 1
    refine nrm_ext h1.2.2.2 h2.2.2.2 (fun z => ⟨fun hz => ?_, fun hz => ?_⟩)
    · rcases List.mem_cons.1 ((h z).1 (by simp [hz])) with e | e
      · subst e; have := (nrm_mem h1.2.2.2 z hz).1; omega
      · exact e
    · rcases List.mem_cons.1 ((h z).2 (by simp [hz])) with e | e
      · subst e; have := (nrm_mem h2.2.2.2 z hz).1; omega
      · exact e
theorem nrm_filter (p : Int → Bool) : ∀ {l : List Int} {c : Int}, nrmB c l = true → nrmB c (l.filter p) = true
  | [], _, h => rfl
  | x :: xs, c, h => by
    rw [nrm_cons] at h
    simp only [List.filter_cons]
    split
    · rw [nrm_cons]; exact ⟨h.1, h.2.1, h.2.2.1, nrm_filter p h.2.2.2⟩
    · exact nrm_mono (by omega) (nrm_filter p h.2.2.2)
theorem nrm_two {c : Int} {l : List Int} (h : nrmB c l = true) (hc : 0 ≤ c) {x y : Int} (hx : x ∈ l) (hy : y ∈ l) (e : av x = av y) : x = y := by
  induction l generalizing c with
  | nil => simp at hx
  | cons z zs ih =>
    rw [nrm_cons] at h
    rcases List.mem_cons.1 hx with e1 | hx1 <;> rcases List.mem_cons.1 hy with e2 | hy1
    · rw [e1, e2]
    · subst e1; have := (nrm_mem h.2.2.2 y hy1).1; omega
    · subst e2; have := (nrm_mem h.2.2.2 x hx1).1; omega
    · exact ih h.2.2.2 (av_nonneg z) hx1 hy1

/-- a literal among sorted ones, unless its variable is there -/
def ins (x : Int) : List Int → List Int
  | [] => [x]
  | y :: ys => if av x < av y then x :: y :: ys else if av x = av y then y :: ys else y :: ins x ys

theorem nrm_ins {x : Int} (h1 : -65536 ≤ x) (h2 : x ≤ 65536) : ∀ {l : List Int} {c : Int}, c < av x → nrmB c l = true → nrmB c (ins x l) = true
  | [], c, hc, _ => by rw [ins, nrm_cons]; exact ⟨h1, h2, hc, rfl⟩
  | y :: ys, c, hc, h => by
    have h' := nrm_cons.1 h
    simp only [ins]
    split
    · rw [nrm_cons, nrm_cons]; exact ⟨h1, h2, hc, h'.1, h'.2.1, by assumption, h'.2.2.2⟩
    · split
      · exact h
      · rw [nrm_cons]; exact ⟨h'.1, h'.2.1, h'.2.2.1, nrm_ins h1 h2 (by omega) h'.2.2.2⟩

theorem mem_ins {x z : Int} : ∀ {l : List Int}, (∀ y ∈ l, av y = av x → y = x) → (z ∈ ins x l ↔ z = x ∨ z ∈ l)
  | [], _ => by simp [ins]
  | y :: ys, h => by
    simp only [ins]
    split
    · simp
    · split
      · rename_i e
        have := h y (by simp) e.symm
        subst this
        simp
      · rw [List.mem_cons, mem_ins (fun w hw => h w (by simp [hw])), List.mem_cons]
        constructor
        · rintro (h | h | h) <;> simp [h]
        · rintro (h | h | h) <;> simp [h]

end Go.Sk

namespace Go.Sk.X
open Go Go.Sk

/-! ### The small functions, told plainly -/

theorem abs_eq {x : Int} (h0 : -9223372036854775807 ≤ x) (h1 : x ≤ 9223372036854775807) : F_proof_abs x = some (av x) := by
  unfold F_proof_abs
  rw [wrap_id (by omega) (by omega)]
  congr 1
  unfold imx av
  split <;> split <;> omega

theorem Abs_eq {x : Int} (h0 : -9223372036854775807 ≤ x) (h1 : x ≤ 9223372036854775807) : F_skolemref09_Abs x = some (av x) := by
  unfold F_skolemref09_Abs av
  rw [wrap_id (by omega) (by omega)]
  split <;> rename_i h <;> simp only [decide_eq_true_eq] at h
  · rw [if_pos h]; congr 1; omega
  · rw [if_neg h]

theorem normal_eq (l : List Int) : F_proof_normal l = some (nrmB 0 l) := by
  unfold F_proof_normal
  refine rangeF_eq (fun _ xs c => some (nrmB c xs)) (fun _ _ => rfl) (fun j x xs c kk hk => ?_) l 0 0
  simp only [jn_eq, hk, nrmB]
  by_cases h1 : x < -65536
  · have : ¬ (-65536 ≤ x) := by omega
    simp [h1, this]
  · by_cases h2 : x > 65536
    · have : ¬ (x ≤ 65536) := by omega
      simp [h1, h2, this]
    · have h3 : -65536 ≤ x := by omega
      have h4 : x ≤ 65536 := by omega
      rw [abs_eq (by omega) (by omega)]
      by_cases h5 : av x ≤ c
      · have : ¬ c < av x := by omega
        simp [h1, h2, h5, this]
      · have : c < av x := by omega
        simp [h1, h2, h3, h4, h5, this]

def lastV : List Int → Int
  | [] => 0
  | x :: xs => (x :: xs).foldl (fun _ y => av y) 0

theorem lastV_app (l : List Int) (x : Int) : lastV (l ++ [x]) = av x := by
  cases l <;> simp [lastV]
theorem lastV_get {l : List Int} (h : 0 < l.length) : ∃ y, l[l.length - 1]? = some y ∧ lastV l = av y := by
  obtain ⟨l', y, rfl⟩ : ∃ l' y, l = l' ++ [y] := ⟨l.dropLast, l.getLast (by intro e; subst e; simp at h), (List.dropLast_concat_getLast _).symm⟩
  exact ⟨y, by simp, lastV_app l' y⟩

theorem Normal_eq {l : List Int} (hl : l.length ≤ 9223372036854775807) : F_skolemref09_Normal l = some (nrmB 0 l) := by
  unfold F_skolemref09_Normal
  refine rangeF_pre l (fun pre _ => ∀ y ∈ pre, -65536 ≤ y ∧ y ≤ 65536) (fun pre xs _ => some (nrmB (lastV pre) xs)) (fun _ _ => rfl) (fun pre x xs s kk hf hI hk => ?_) l [] () rfl (by simp)
  have hlen : pre.length + (xs.length + 1) = l.length := by rw [hf]; simp
  simp only [jn_eq, nrmB]
  by_cases h1 : x < -65536
  · have : ¬ (-65536 ≤ x) := by omega
    simp [h1, this]
  · by_cases h2 : x > 65536
    · have : ¬ (x ≤ 65536) := by omega
      simp [h1, h2, this]
    · have h3 : -65536 ≤ x := by omega
      have h4 : x ≤ 65536 := by omega
      have hk := hk () (fun y hy => by
        rcases List.mem_append.1 hy with hy | hy
        · exact hI y hy
        · simp at hy; subst hy; exact ⟨h3, h4⟩)
      rw [lastV_app] at hk
      have h0 : 0 ≤ lastV pre := by
        cases pre with
        | nil => simp [lastV]
        | cons a b => obtain ⟨y, _, e⟩ := lastV_get (l := a :: b) (by simp); rw [e]; exact av_nonneg y
      by_cases h5 : x = 0
      · subst h5
        have : ¬ lastV pre < av 0 := by have : av 0 = 0 := rfl; omega
        simp [this]
      · have hav : 0 < av x := by unfold av; split <;> omega
        by_cases h6 : pre.length = 0
        · have : pre = [] := List.eq_nil_of_length_eq_zero h6
          subst this
          simp [h1, h2, h3, h4, h5, hk, lastV, hav]
        · obtain ⟨y, hy, e⟩ := lastV_get (l := pre) (by omega)
          have hy2 : l[((pre.length : Int) - 1).toNat]? = some y := by
            rw [hf, List.getElem?_append_left (by omega), show ((pre.length : Int) - 1).toNat = pre.length - 1 by omega]; exact hy
          have hyb := hI y (List.mem_of_getElem? hy)
          rw [wrap_id (by omega) (by omega), getI_eq (by omega) hy2, Abs_eq (by omega) (by omega), Abs_eq (by omega) (by omega)]
          have h7 : pre ≠ [] := by intro e; subst e; simp at h6
          by_cases h8 : av y ≥ av x
          · have : ¬ lastV pre < av x := by omega
            simp [h1, h2, h5, h7, h8, this]
          · have : lastV pre < av x := by omega
            simp [h1, h2, h3, h4, h5, h7, h8, this, hk]

/-! equality and membership -/
theorem Equal_eq (a b : List Int) : F_slices_Equal_int_int a b = some (decide (a = b)) := by
  unfold F_slices_Equal_int_int
  by_cases hl : a.length = b.length
  · rw [if_neg (by simp [hl])]
    refine (rangeF_pre a (fun pre _ => b.take pre.length = pre) (fun pre xs _ => some (decide (a = b))) (fun _ hI => ?_) (fun pre x xs s kk hf hI hk => ?_) a [] () rfl rfl)
    · simp only [hl, List.take_length] at hI
      simp [hI]
    · have hlt : pre.length < b.length := by rw [← hl, hf]; simp
      rw [getI_nat, List.getElem?_eq_getElem hlt]
      simp only
      by_cases hx : x = b[pre.length]
      · rw [if_neg (by simp [hx])]
        refine hk () ?_
        rw [List.length_append, List.length_singleton, List.take_add_one, hI, List.getElem?_eq_getElem hlt, hx]
        rfl
      · rw [if_pos (by simpa using hx)]
        have : a ≠ b := by
          intro e
          apply hx
          have h1 : b[pre.length]? = some x := by rw [← e, hf]; simp
          rw [List.getElem?_eq_getElem hlt] at h1
          exact (Option.some.inj h1).symm
        simp [this]
  · have : a ≠ b := fun e => hl (by rw [e])
    rw [if_pos (by simp; omega)]
    simp [this]
theorem Same_eq (a b : List Int) : F_skolemref09_Same a b = some (decide (a = b)) := Equal_eq a b

theorem Index_eq (a : List Int) (x : Int) (hl : a.length ≤ 9223372036854775807) : ∃ n, F_slices_Index_int_int a x = some n ∧ (0 ≤ n ↔ x ∈ a) := by
  have key : ∀ (xs : List Int) (j : Nat), ∃ n, rangeF (fun (j104 : Nat) (x105 : Int) (s101 : Unit) k103 => (if (x == x105) = true then (some ((j104 : Nat) : Int)) else (k103 ()))) j xs () (fun _ => some (-1 : Int)) = some n ∧ (0 ≤ n ↔ x ∈ xs) := by
    intro xs
    induction xs with
    | nil => intro j; exact ⟨-1, rfl, by simp⟩
    | cons y ys ih =>
      intro j
      rw [rangeF_cons]
      by_cases hx : x = y
      · subst hx
        exact ⟨j, by simp, by simp⟩
      · obtain ⟨n, h1, h2⟩ := ih (j + 1)
        exact ⟨n, by simp only [beq_iff_eq, if_neg hx] at h1 ⊢; exact h1, by rw [h2]; simp [hx]⟩
  exact key a 0
theorem Contains_eq (a : List Int) (x : Int) (hl : a.length ≤ 9223372036854775807) : F_slices_Contains_int_int a x = some (decide (x ∈ a)) := by
  obtain ⟨n, h1, h2⟩ := Index_eq a x hl
  unfold F_slices_Contains_int_int
  rw [h1]
  simp only [Option.bind_some, Option.some.injEq, decide_eq_decide]
  exact h2
theorem Has_eq (a : List Int) (x : Int) : F_skolemref09_Has a x = some (decide (x ∈ a)) := by
  unfold F_skolemref09_Has
  refine rangeF_eq (fun _ xs _ => some (decide (x ∈ xs))) (fun _ _ => by simp) (fun j y xs c kk hk => ?_) a 0 ()
  rw [hk]
  by_cases h : y = x
  · simp [h]
  · rw [if_neg (by simpa using h)]
    have : x ≠ y := fun e => h e.symm
    simp [this]

theorem Clone_eq (a : List Int) (h : a.length ≤ 1099511627776) : F_slices_Clone_int_int a = some a := by
  unfold F_slices_Clone_int_int
  split
  · rename_i e; have : a = [] := by simpa using e
    rw [this]
  · rw [capN_eq (by simpa using h)]; simp

/-! CNFs -/
def cnfB : Int → List (List Int) → Bool
  | _, [] => true
  | n, c :: cs => !decide (IntKind.wrap .i64 (n + (c.length : Int)) > 200000) && (nrmB 0 c && cnfB (IntKind.wrap .i64 (n + (c.length : Int))) cs)

theorem cnfB_mem : ∀ {n : Int} {l : List (List Int)}, cnfB n l = true → ∀ c ∈ l, nrmB 0 c = true
  | _, [], _, c, h => by simp at h
  | n, d :: ds, h, c, hc => by
    simp only [cnfB, Bool.and_eq_true] at h
    rcases List.mem_cons.1 hc with rfl | hc
    · exact h.2.1
    · exact cnfB_mem h.2.2 c hc

theorem cnf_eq (l : List (List Int)) : F_proof_cnf l = some (decide (l.length ≤ 20000) && cnfB 0 l) := by
  unfold F_proof_cnf
  by_cases h0 : l.length ≤ 20000
  · rw [if_neg (by simp; omega)]
    refine (rangeF_eq (fun _ xs n => some (cnfB n xs)) (fun _ _ => rfl) (fun j x xs n kk hk => ?_) l 0 0).trans (by simp [h0])
    simp only [jn_eq, cnfB, normal_eq, Option.bind_some, hk]
    by_cases h1 : IntKind.wrap .i64 (n + (x.length : Int)) > 200000
    · simp [h1]
    · simp only [h1, decide_false, Bool.false_eq_true, if_false, Bool.not_false, Bool.true_and]
      cases nrmB 0 x <;> simp
  · rw [if_pos (by simp; omega)]
    simp [h0]
theorem Cnf_eq {l : List (List Int)} (hl : InL (InL (InK .i64)) l) : F_skolemref09_Cnf l = some (decide (l.length ≤ 20000) && cnfB 0 l) := by
  unfold F_skolemref09_Cnf
  by_cases h0 : l.length ≤ 20000
  · rw [if_neg (by simp; omega)]
    refine (rangeF_pre l (fun _ _ => True) (fun _ xs n => some (cnfB n xs)) (fun _ _ => rfl) (fun pre x xs n kk hf _ hk => ?_) l [] 0 rfl trivial).trans (by simp [h0])
    have hx : x.length ≤ 9223372036854775807 := (hl.2 x (by rw [hf]; simp)).1
    have hk := fun n => hk n trivial
    simp only [jn_eq, cnfB, Normal_eq hx, Option.bind_some, hk]
    by_cases h1 : IntKind.wrap .i64 (n + (x.length : Int)) > 200000
    · simp [h1]
    · simp only [h1, decide_false, Bool.false_eq_true, if_false, Bool.not_false, Bool.true_and]
      cases nrmB 0 x <;> simp
  · rw [if_pos (by simp; omega)]
    simp [h0]
end Go.Sk.X

namespace Go.Sk.X
open Go Go.Sk

theorem nrm_len : ∀ {c : Int} {l : List Int}, nrmB c l = true → 0 ≤ c → (l.length : Int) ≤ 65536 - c ∨ l = []
  | _, [], _, _ => .inr rfl
  | c, x :: xs, h, hc => by
    rw [nrm_cons] at h
    have hx : av x ≤ 65536 := by unfold av; split <;> omega
    left
    rcases nrm_len h.2.2.2 (av_nonneg x) with h1 | h1
    · simp only [List.length_cons]; omega
    · subst h1; simp; omega
theorem nrm_len' {l : List Int} (h : nrmB 0 l = true) : l.length ≤ 65536 := by
  rcases nrm_len h (Int.le_refl 0) with h | h
  · omega
  · simp [h]
theorem nrm_lenC {c : Int} {l : List Int} (h : nrmB c l = true) (hc : 0 ≤ c) : l.length ≤ 65536 := nrm_len' (nrm_mono hc h)

/-! ### Merging as the program does -/
def mg (p : Int) : List Int → List Int → Option (List Int)
  | [], b => some b
  | a, [] => some a
  | x :: a, y :: b =>
    if av x < av y then (mg p a (y :: b)).map (x :: ·)
    else if av y < av x then (mg p (x :: a) b).map (y :: ·)
    else if x = y then (mg p a b).map (x :: ·)
    else if x = p then mg p a b
    else none
termination_by a b => a.length + b.length

theorem mg_nil_right (p : Int) (a : List Int) : mg p a [] = some a := by
  cases a <;> simp [mg]

theorem mg_nrm {p : Int} : ∀ (n : Nat) (a b m : List Int) (c : Int), a.length + b.length ≤ n → nrmB c a = true → nrmB c b = true → mg p a b = some m → nrmB c m = true
  | n, [], b, m, c, _, ha, hb, h => by simp [mg] at h; subst h; exact hb
  | n, a, [], m, c, _, ha, hb, h => by rw [mg_nil_right] at h; injection h with h; subst h; exact ha
  | 0, x :: a, y :: b, m, c, hn, ha, hb, h => by simp at hn
  | n + 1, x :: a, y :: b, m, c, hn, ha, hb, h => by
    simp only [List.length_cons] at hn
    rw [mg] at h
    have ha' := nrm_cons.1 ha
    have hb' := nrm_cons.1 hb
    split at h
    · obtain ⟨m', h1, rfl⟩ := Option.map_eq_some_iff.1 h
      rw [nrm_cons]
      exact ⟨ha'.1, ha'.2.1, ha'.2.2.1, mg_nrm n a (y :: b) m' _ (by simp; omega) ha'.2.2.2 (by rw [nrm_cons]; exact ⟨hb'.1, hb'.2.1, by assumption, hb'.2.2.2⟩) h1⟩
    · split at h
      · obtain ⟨m', h1, rfl⟩ := Option.map_eq_some_iff.1 h
        rw [nrm_cons]
        exact ⟨hb'.1, hb'.2.1, hb'.2.2.1, mg_nrm n (x :: a) b m' _ (by simp; omega) (by rw [nrm_cons]; exact ⟨ha'.1, ha'.2.1, by assumption, ha'.2.2.2⟩) hb'.2.2.2 h1⟩
      · have hxy : av x = av y := by omega
        split at h
        · obtain ⟨m', h1, rfl⟩ := Option.map_eq_some_iff.1 h
          rw [nrm_cons]
          exact ⟨ha'.1, ha'.2.1, ha'.2.2.1, mg_nrm n a b m' _ (by omega) ha'.2.2.2 (by rw [hxy]; exact hb'.2.2.2) h1⟩
        · split at h
          · exact nrm_mono (by omega) (mg_nrm n a b m (av x) (by omega) ha'.2.2.2 (by rw [hxy]; exact hb'.2.2.2) h)
          · simp at h

/-- no variable meets its negation but p -/
def NoClash (p : Int) (a b : List Int) : Prop := ∀ x ∈ a, x ≠ p → -x ∉ b

theorem mg_some {p : Int} (hp : 0 < p) : ∀ (n : Nat) (a b : List Int) (c : Int), a.length + b.length ≤ n → 0 ≤ c → nrmB c a = true → nrmB c b = true → NoClash p a b → ∃ m, mg p a b = some m ∧ ∀ z, z ∈ m ↔ (z ∈ a ∧ (z ≠ p ∨ -p ∉ b)) ∨ (z ∈ b ∧ (z ≠ -p ∨ p ∉ a))
  | n, [], b, c, _, hc, ha, hb, h => ⟨b, by simp [mg], fun z => by simp⟩
  | n, a, [], c, _, hc, ha, hb, h => ⟨a, mg_nil_right p a, fun z => by simp⟩
  | 0, x :: a, y :: b, c, hn, hc, ha, hb, h => by simp at hn
  | n + 1, x :: a, y :: b, c, hn, hc, ha, hb, h => by
    simp only [List.length_cons] at hn
    have ha' := nrm_cons.1 ha
    have hb' := nrm_cons.1 hb
    rw [mg]
    have hnx := fun z hz => (nrm_mem ha'.2.2.2 z hz).1
    have hny := fun z hz => (nrm_mem hb'.2.2.2 z hz).1
    have avp : av p = p := by unfold av; split <;> omega
    have avnp : av (-p) = p := by rw [av_neg, avp]
    split
    · rename_i hlt
      obtain ⟨m, h1, h2⟩ := mg_some hp n a (y :: b) (av x) (by simp; omega) (av_nonneg x) ha'.2.2.2 (by rw [nrm_cons]; exact ⟨hb'.1, hb'.2.1, hlt, hb'.2.2.2⟩) (fun z hz => h z (by simp [hz]))
      rw [h1]
      refine ⟨x :: m, rfl, fun z => ?_⟩
      -- x is not a meeting one
      have hxb : ∀ w ∈ y :: b, av w ≠ av x := by
        intro w hw
        rcases List.mem_cons.1 hw with rfl | hw
        · omega
        · have := hny w hw; omega
      have hxp : x = p → -p ∉ y :: b := fun e hm => hxb _ hm (by rw [e, avnp, avp])
      have hpx : -p ∈ y :: b → p ∈ x :: a → p ∈ a := fun h1 h2 => by
        rcases List.mem_cons.1 h2 with e | e
        · exact absurd h1 (hxp e.symm)
        · exact e
      rw [List.mem_cons, h2]
      constructor
      · rintro (rfl | ⟨h3, h4⟩ | ⟨h3, h4⟩)
        · refine .inl ⟨by simp, ?_⟩
          by_cases e : z = p
          · exact .inr (hxp e)
          · exact .inl e
        · exact .inl ⟨by simp [h3], h4⟩
        · refine .inr ⟨h3, ?_⟩
          rcases h4 with h4 | h4
          · exact .inl h4
          · by_cases e : z = -p
            · right; intro hm; subst e; exact h4 (hpx h3 hm)
            · exact .inl e
      · rintro (⟨h3, h4⟩ | ⟨h3, h4⟩)
        · rcases List.mem_cons.1 h3 with rfl | h3
          · exact .inl rfl
          · exact .inr (.inl ⟨h3, h4⟩)
        · exact .inr (.inr ⟨h3, h4.imp id (fun h5 h6 => h5 (by simp [h6]))⟩)
    · split
      · rename_i _ hlt
        obtain ⟨m, h1, h2⟩ := mg_some hp n (x :: a) b (av y) (by simp; omega) (av_nonneg y) (by rw [nrm_cons]; exact ⟨ha'.1, ha'.2.1, hlt, ha'.2.2.2⟩) hb'.2.2.2 (fun z hz hzp hm => h z hz hzp (by simp [hm]))
        rw [h1]
        refine ⟨y :: m, rfl, fun z => ?_⟩
        have hyb : ∀ w ∈ x :: a, av w ≠ av y := by
          intro w hw
          rcases List.mem_cons.1 hw with rfl | hw
          · omega
          · have := hnx w hw; omega
        have hyp : y = -p → p ∉ x :: a := fun e hm => hyb _ hm (by rw [e, avnp, avp])
        have hpy : p ∈ x :: a → -p ∈ y :: b → -p ∈ b := fun h1 h2 => by
          rcases List.mem_cons.1 h2 with e | e
          · exact absurd h1 (hyp e.symm)
          · exact e
        rw [List.mem_cons, h2]
        constructor
        · rintro (rfl | ⟨h3, h4⟩ | ⟨h3, h4⟩)
          · refine .inr ⟨by simp, ?_⟩
            by_cases e : z = -p
            · exact .inr (hyp e)
            · exact .inl e
          · refine .inl ⟨h3, ?_⟩
            rcases h4 with h4 | h4
            · exact .inl h4
            · by_cases e : z = p
              · right; intro hm; subst e; exact h4 (hpy h3 hm)
              · exact .inl e
          · exact .inr ⟨by simp [h3], h4⟩
        · rintro (⟨h3, h4⟩ | ⟨h3, h4⟩)
          · exact .inr (.inl ⟨h3, h4.imp id (fun h5 h6 => h5 (by simp [h6]))⟩)
          · rcases List.mem_cons.1 h3 with rfl | h3
            · exact .inl rfl
            · exact .inr (.inr ⟨h3, h4⟩)
      · have hxy : av x = av y := by omega
        have hna : ∀ w ∈ a, av w ≠ av x := fun w hw => by have := hnx w hw; omega
        have hnb : ∀ w ∈ b, av w ≠ av x := fun w hw => by have := hny w hw; omega
        split
        · rename_i e
          subst e
          obtain ⟨m, h1, h2⟩ := mg_some hp n a b (av x) (by omega) (av_nonneg x) ha'.2.2.2 hb'.2.2.2 (fun z hz hzp hm => h z (by simp [hz]) hzp (by simp [hm]))
          rw [h1]
          refine ⟨x :: m, rfl, fun z => ?_⟩
          have hx1 : x ≠ p ∨ -p ∉ x :: b := by
            by_cases e : x = p
            · right; intro hm
              rcases List.mem_cons.1 hm with e2 | e2
              · omega
              · exact hnb _ e2 (by rw [av_neg, e])
            · exact .inl e
          have hx2 : x ≠ -p ∨ p ∉ x :: a := by
            by_cases e : x = -p
            · right; intro hm
              rcases List.mem_cons.1 hm with e2 | e2
              · omega
              · exact hna _ e2 (by rw [e, av_neg])
            · exact .inl e
          rw [List.mem_cons, h2]
          constructor
          · rintro (rfl | ⟨h3, h4⟩ | ⟨h3, h4⟩)
            · exact .inl ⟨by simp, hx1⟩
            · refine .inl ⟨by simp [h3], ?_⟩
              by_cases e : z = p
              · right; intro hm
                rcases List.mem_cons.1 hm with e2 | e2
                · exact hna z h3 (by rw [e, ← e2, av_neg])
                · exact (h4.resolve_left (fun q => q e)) e2
              · exact .inl e
            · refine .inr ⟨by simp [h3], ?_⟩
              by_cases e : z = -p
              · right; intro hm
                rcases List.mem_cons.1 hm with e2 | e2
                · exact hnb z h3 (by rw [e, ← e2, av_neg])
                · exact (h4.resolve_left (fun q => q e)) e2
              · exact .inl e
          · rintro (⟨h3, h4⟩ | ⟨h3, h4⟩)
            · rcases List.mem_cons.1 h3 with rfl | h3
              · exact .inl rfl
              · exact .inr (.inl ⟨h3, h4.imp id (fun h5 h6 => h5 (by simp [h6]))⟩)
            · rcases List.mem_cons.1 h3 with rfl | h3
              · exact .inl rfl
              · exact .inr (.inr ⟨h3, h4.imp id (fun h5 h6 => h5 (by simp [h6]))⟩)
        · rename_i hne
          have hyx : y = -x := by rcases av_eq hxy with e | e <;> omega
          split
          · rename_i e
            subst e
            obtain ⟨m, h1, h2⟩ := mg_some hp n a b (av x) (by omega) (av_nonneg x) ha'.2.2.2 (by rw [hxy]; exact hb'.2.2.2) (fun z hz hzp hm => h z (by simp [hz]) hzp (by simp [hm]))
            refine ⟨m, h1, fun z => ?_⟩
            have n1 : x ∉ a := fun hm => hna x hm rfl
            have n2 : -x ∉ b := fun hm => hnb _ hm (av_neg x)
            have n3 : -x ∉ a := fun hm => hna _ hm (av_neg x)
            have n4 : x ∉ b := fun hm => hnb x hm rfl
            rw [h2]
            constructor
            · rintro (⟨h3, h4⟩ | ⟨h3, h4⟩)
              · exact .inl ⟨by simp [h3], .inl (fun e => n1 (e ▸ h3))⟩
              · exact .inr ⟨by simp [h3], .inl (fun e => n2 (e ▸ h3))⟩
            · rintro (⟨h3, h4⟩ | ⟨h3, h4⟩)
              · rcases List.mem_cons.1 h3 with e | h3
                · exact absurd (by rw [hyx]; simp) (h4.resolve_left (fun q => q e))
                · exact .inl ⟨h3, .inr n2⟩
              · rcases List.mem_cons.1 h3 with e | h3
                · exact absurd (by simp) (h4.resolve_left (fun q => q (by rw [e, hyx])))
                · exact .inr ⟨h3, .inr n1⟩
          · rename_i hxp
            exact absurd (by rw [hyx]; simp) (h x (by simp) hxp)

theorem mg_none {p : Int} (hp : 0 < p) : ∀ (n : Nat) (a b : List Int) (c : Int), a.length + b.length ≤ n → 0 ≤ c → nrmB c a = true → nrmB c b = true → ¬ NoClash p a b → mg p a b = none
  | n, [], b, c, _, hc, ha, hb, h => absurd (fun x hx => by simp at hx) h
  | n, a, [], c, _, hc, ha, hb, h => absurd (fun x hx _ hm => by simp at hm) h
  | 0, x :: a, y :: b, c, hn, hc, ha, hb, h => by simp at hn
  | n + 1, x :: a, y :: b, c, hn, hc, ha, hb, h => by
    simp only [List.length_cons] at hn
    have ha' := nrm_cons.1 ha
    have hb' := nrm_cons.1 hb
    rw [mg]
    have hnx := fun z hz => (nrm_mem ha'.2.2.2 z hz).1
    have hny := fun z hz => (nrm_mem hb'.2.2.2 z hz).1
    split
    · rename_i hlt
      rw [mg_none hp n a (y :: b) (av x) (by simp; omega) (av_nonneg x) ha'.2.2.2 (by rw [nrm_cons]; exact ⟨hb'.1, hb'.2.1, hlt, hb'.2.2.2⟩)]
      · rfl
      · intro hno
        apply h
        intro z hz hzp hm
        rcases List.mem_cons.1 hz with rfl | hz
        · rcases List.mem_cons.1 hm with e | e
          · rw [← e, av_neg] at hlt; omega
          · have := hny _ e; rw [av_neg] at this; omega
        · exact hno z hz hzp hm
    · split
      · rename_i _ hlt
        rw [mg_none hp n (x :: a) b (av y) (by simp; omega) (av_nonneg y) (by rw [nrm_cons]; exact ⟨ha'.1, ha'.2.1, hlt, ha'.2.2.2⟩) hb'.2.2.2]
        · rfl
        · intro hno
          apply h
          intro z hz hzp hm
          rcases List.mem_cons.1 hm with e | e
          · rcases List.mem_cons.1 hz with rfl | hz
            · rw [← e, av_neg] at hlt; omega
            · have := hnx _ hz; rw [← e, av_neg] at hlt; omega
          · exact hno z hz hzp e
      · have hxy : av x = av y := by omega
        have hno' : ∀ (hx : x ≠ p → -x ∉ y :: b), ¬ NoClash p a b := by
          intro hx hno
          apply h
          intro z hz hzp hm
          rcases List.mem_cons.1 hz with rfl | hz
          · exact hx hzp hm
          · rcases List.mem_cons.1 hm with e | e
            · have := hnx z hz; rw [← e, av_neg] at hxy; omega
            · exact hno z hz hzp e
        split
        · rename_i e
          rw [mg_none hp n a b (av x) (by omega) (av_nonneg x) ha'.2.2.2 (by rw [hxy]; exact hb'.2.2.2) (hno' (fun _ hm => by
            rcases List.mem_cons.1 hm with e2 | e2
            · have : av x ≠ 0 := by omega
              unfold av at this; split at this <;> omega
            · have := hny _ e2; rw [av_neg] at this; omega))]
          rfl
        · split
          · rename_i e
            exact mg_none hp n a b (av x) (by omega) (av_nonneg x) ha'.2.2.2 (by rw [hxy]; exact hb'.2.2.2) (hno' (fun q => absurd e q))
          · rfl

/-! ### The resolvent -/
open Classical in
noncomputable def resS (a b : List Int) (p : Int) : List Int × Bool :=
  if 1 ≤ p ∧ p ∈ a ∧ -p ∈ b then (match mg p a b with | some m => (m, true) | none => ([], false)) else ([], false)

theorem contains_small {a : List Int} (h : nrmB 0 a = true) (x : Int) : F_slices_Contains_int_int a x = some (decide (x ∈ a)) := Contains_eq a x (by have := nrm_len' h; omega)

theorem wrap_neg {x : Int} (h0 : -9223372036854775807 ≤ x) (h1 : x ≤ 9223372036854775807) : IntKind.wrap .i64 (0 - x) = -x := by rw [wrap_id (by omega) (by omega)]; omega

theorem resolvent_eq {a b : List Int} {p : Int} (ha : nrmB 0 a = true) (hb : nrmB 0 b = true) (hp : InK .i64 p) : F_proof_resolvent a b p = some (resS a b p) := by
  have la := nrm_len' ha
  have lb := nrm_len' hb
  unfold F_proof_resolvent resS
  simp only [jn_eq]
  by_cases h1 : p < 1
  · rw [if_pos (by simpa using h1), if_neg (show ¬ (1 ≤ p ∧ p ∈ a ∧ -p ∈ b) from fun h => by have := h.1; omega)]; rfl
  · rw [if_neg (by simpa using h1), contains_small ha]
    have hp' := inK64.1 hp
    by_cases h2 : p ∈ a
    · rw [wrap_neg (by omega) (by omega), contains_small hb]
      by_cases h3 : -p ∈ b
      · rw [if_pos (show 1 ≤ p ∧ p ∈ a ∧ -p ∈ b from ⟨by omega, h2, h3⟩)]
        simp only [h2, h3, decide_true, Option.bind_some, Bool.not_true, Bool.false_eq_true, if_false]
        have e1 : IntKind.wrap .i64 ((a.length : Int) + (b.length : Int)) = (a.length : Int) + (b.length : Int) := wrap_id (by omega) (by omega)
        have l1 : 0 < a.length := List.length_pos_of_mem h2
        have l2 : 0 < b.length := List.length_pos_of_mem h3
        rw [e1, wrap_id (by omega) (by omega), okI_eq (by omega)]
        refine (whileF_by (fun s : List Int × List Int × List Int => s.1.length + s.2.1.length) (fun s => (∃ c, 0 ≤ c ∧ nrmB c s.1 = true ∧ nrmB c s.2.1 = true) ∧ s.2.2.length + s.1.length + s.2.1.length ≤ 131072)
          (fun s => match mg p s.1 s.2.1 with | some m => some (s.2.2 ++ m, true) | none => some ([], false)) ?_ _ (a, b, []) ⟨⟨0, by omega, ha, hb⟩, by simp; omega⟩ (by simp; omega)).trans ?_
        · rintro ⟨a, b, out⟩ k ⟨⟨c, hc, ha, hb⟩, hlen⟩ hk
          simp only at ha hb hlen hk ⊢
          have la := nrm_lenC ha hc
          have lb := nrm_lenC hb hc
          have e2 : IntKind.wrap .i64 ((a.length : Int) + (b.length : Int)) = (a.length : Int) + (b.length : Int) := wrap_id (by omega) (by omega)
          rw [e2]
          cases a with
          | nil =>
            cases b with
            | nil => simp [mg]
            | cons y b =>
              have hb' := nrm_cons.1 hb
              have := hk ([], b, out ++ [y]) ⟨⟨c, hc, ha, nrm_mono (by omega) hb'.2.2.2⟩, by simp at hlen ⊢; omega⟩ (by simp)
              simp only [mg] at this
              have hcap : out.length + 1 ≤ 1099511627776 := by simp at hlen; omega
              simp [this, mg, getI, capN, okI, hcap]
              omega
          | cons x a =>
            have ha' := nrm_cons.1 ha
            cases b with
            | nil =>
              have := hk (a, [], out ++ [x]) ⟨⟨c, hc, nrm_mono (by omega) ha'.2.2.2, hb⟩, by simp at hlen ⊢; omega⟩ (by simp)
              simp only [mg_nil_right] at this
              have hcap : out.length + 1 ≤ 1099511627776 := by simp at hlen; omega
              simp [this, mg_nil_right, getI, capN, okI, hcap]
            | cons y b =>
              have hb' := nrm_cons.1 hb
              have hcap : out.length + 1 ≤ 1099511627776 := by simp at hlen; omega
              have hax : F_proof_abs x = some (av x) := abs_eq (by omega) (by omega)
              have hay : F_proof_abs y = some (av y) := abs_eq (by omega) (by omega)
              have hpos : (0 : Int) < (a.length : Int) + 1 + ((b.length : Int) + 1) := by omega
              have hpos1 : (0 : Int) < (a.length : Int) + 1 := by omega
              have hne1 : ¬ ((a.length : Int) + 1 = 0) := by omega
              have hne2 : ¬ ((b.length : Int) + 1 = 0) := by omega
              have hne3 : ¬ ((b.length : Int) + 1 = 0) := by omega
              rw [mg]
              by_cases c1 : av x < av y
              · have := hk (a, y :: b, out ++ [x]) ⟨⟨av x, av_nonneg x, ha'.2.2.2, by rw [nrm_cons]; exact ⟨hb'.1, hb'.2.1, c1, hb'.2.2.2⟩⟩, by simp at hlen ⊢; omega⟩ (by simp)
                simp only at this
                simp [getI, capN, okI, hax, hay, this, c1, hcap, hpos, hpos1, hne1, hne2]
                cases mg p a (y :: b) <;> simp
              · by_cases c2 : av y < av x
                · have := hk (x :: a, b, out ++ [y]) ⟨⟨av y, av_nonneg y, by rw [nrm_cons]; exact ⟨ha'.1, ha'.2.1, c2, ha'.2.2.2⟩, hb'.2.2.2⟩, by simp at hlen ⊢; omega⟩ (by simp)
                  simp only at this
                  simp [getI, capN, okI, hax, hay, this, c1, c2, hcap, hpos, hpos1, hne1, hne2]
                  cases mg p (x :: a) b <;> simp
                · have hxy : av x = av y := by omega
                  have hb2 : nrmB (av x) b = true := by rw [hxy]; exact hb'.2.2.2
                  by_cases c3 : x = y
                  · have := hk (a, b, out ++ [x]) ⟨⟨av x, av_nonneg x, ha'.2.2.2, hb2⟩, by simp at hlen ⊢; omega⟩ (by simp; omega)
                    simp only at this
                    subst c3
                    simp [getI, capN, okI, hax, this, hcap, hpos, hpos1, hne1, hne2]
                    cases mg p a b <;> simp
                  · by_cases c4 : x = p
                    · have := hk (a, b, out) ⟨⟨av x, av_nonneg x, ha'.2.2.2, hb2⟩, by simp at hlen ⊢; omega⟩ (by simp; omega)
                      simp only at this
                      subst c4
                      simp [getI, capN, okI, hax, hay, this, c1, c2, c3, hcap, hpos, hpos1, hne1, hne2]
                    · simp [getI, capN, okI, hax, hay, c1, c2, c3, c4, hcap, hpos, hpos1, hne1, hne2]
        · cases mg p a b <;> simp
      · simp [h2, h3]
    · simp [h2]
end Go.Sk.X

namespace Go.Sk.X
open Go Go.Sk

theorem nrm_app : ∀ {pre : List Int} {c y : Int} {ys : List Int}, nrmB c (pre ++ y :: ys) = true → nrmB c pre = true ∧ (∀ z ∈ pre, av z < av y) ∧ c < av y ∧ -65536 ≤ y ∧ y ≤ 65536 ∧ nrmB (av y) ys = true
  | [], c, y, ys, h => by rw [List.nil_append, nrm_cons] at h; exact ⟨rfl, by simp, h.2.2.1, h.1, h.2.1, h.2.2.2⟩
  | x :: pre, c, y, ys, h => by
    rw [List.cons_append, nrm_cons] at h
    obtain ⟨h1, h2, h3, h4, h5, h6⟩ := nrm_app h.2.2.2
    refine ⟨by rw [nrm_cons]; exact ⟨h.1, h.2.1, h.2.2.1, h1⟩, fun z hz => ?_, by omega, h4, h5, h6⟩
    rcases List.mem_cons.1 hz with rfl | hz
    · exact h3
    · exact h2 z hz

theorem ins_end {x : Int} : ∀ {l : List Int}, (∀ z ∈ l, av z < av x) → ins x l = l ++ [x]
  | [], _ => rfl
  | y :: ys, h => by
    have := h y (by simp)
    simp only [ins]
    rw [if_neg (by omega), if_neg (by omega), ins_end (fun z hz => h z (by simp [hz]))]
    rfl
theorem ins_app {x : Int} : ∀ {l m : List Int}, (∀ z ∈ l, av z < av x) → ins x (l ++ m) = l ++ ins x m
  | [], _, _ => rfl
  | y :: ys, m, h => by
    have := h y (by simp)
    simp only [List.cons_append, ins]
    rw [if_neg (by omega), if_neg (by omega), ins_app (fun z hz => h z (by simp [hz]))]

theorem Put_eq {l : List Int} {x : Int} (hl : nrmB 0 l = true) (h0 : -65536 ≤ x) (h1 : x ≤ 65536) : F_skolemref09_Put l x = some (ins x l) := by
  have ll := nrm_len' hl
  have hAx : F_skolemref09_Abs x = some (av x) := Abs_eq (by omega) (by omega)
  unfold F_skolemref09_Put
  refine (rangeF_pre l (fun pre s => s.2.length ≤ pre.length + 1 ∧ (s.1 = false → s.2 = pre ∧ ∀ z ∈ pre, av z < av x) ∧ (s.1 = true → ∃ z ∈ pre, av x < av z))
    (fun pre xs s => if s.1 then some (s.2 ++ xs) else some (s.2 ++ ins x xs)) ?_ ?_ l [] (false, []) rfl ⟨by simp, fun _ => ⟨rfl, by simp⟩, by simp⟩).trans (by simp)
  · rintro ⟨b, s⟩ ⟨hs, _, _⟩
    simp only at hs ⊢
    cases b
    · simp only [Bool.not_false, if_true, Bool.false_eq_true, if_false, ins]
      rw [capN_eq (by simp; omega)]
    · simp
  · rintro pre y ys ⟨b, s⟩ kk hf ⟨hs, hI1, hI2⟩ hk
    simp only at hs hI1 hI2 ⊢
    rw [hf] at hl
    obtain ⟨n1, n2, n3, n4, n5, n6⟩ := nrm_app hl
    have hlen : pre.length + (ys.length + 1) = l.length := by rw [hf]; simp
    have hAy : F_skolemref09_Abs y = some (av y) := Abs_eq (by omega) (by omega)
    simp only [hAx, hAy, Option.bind_some, jn_eq]
    have hcap : ∀ (m : Nat) {R : Type} (z : Option R), m ≤ 65540 → capN m z = z := fun m _ z hm => capN_eq (by omega)
    cases b
    · obtain ⟨rfl, hlt⟩ := hI1 rfl
      by_cases c1 : av y = av x
      · simp only [c1, beq_self_eq_true, if_true, Bool.false_eq_true, if_false, ins]
        rw [if_neg (by omega)]
        rw [hf]
      · rw [if_neg (by simpa using c1)]
        simp only [Bool.not_false, if_true, Bool.false_eq_true, if_false, ins]
        by_cases c2 : av y > av x
        · have e := hk (true, s ++ [x] ++ [y]) ⟨by simp, by simp, fun _ => ⟨y, by simp, by omega⟩⟩
          simp only at e
          rw [if_pos (by simpa using c2), if_pos (by omega), hcap _ _ (by simp; omega), hcap _ _ (by simp; omega), e]
          simp
        · have e := hk (false, s ++ [y]) ⟨by simp, fun _ => ⟨rfl, fun z hz => by
            rcases List.mem_append.1 hz with hz | hz
            · exact hlt z hz
            · simp at hz; subst hz; omega⟩, by simp⟩
          simp only at e
          rw [if_neg (by simpa using c2), if_neg (by omega), if_neg (by omega), hcap _ _ (by simp; omega), e]
          simp
    · obtain ⟨z, hz, hzx⟩ := hI2 rfl
      have := n2 z hz
      have e := hk (true, s ++ [y]) ⟨by simp; omega, by simp, fun _ => ⟨z, by simp [hz], hzx⟩⟩
      simp only at e
      rw [if_neg (by simp; omega)]
      simp only [Bool.not_true, Bool.false_eq_true, if_false, if_true]
      rw [hcap _ _ (by simp; omega), e]
      simp

theorem foldIns {q : Int} : ∀ (b : List Int) (s : List Int) (c : Int), nrmB c b = true → nrmB 0 s = true → 0 ≤ c → (∀ w ∈ s, ∀ y ∈ b, y ≠ q → av w = av y → w = y) →
    nrmB 0 (b.foldl (fun s y => if y = q then s else ins y s) s) = true ∧ ∀ z, z ∈ b.foldl (fun s y => if y = q then s else ins y s) s ↔ z ∈ s ∨ (z ∈ b ∧ z ≠ q)
  | [], s, c, _, hs, _, _ => ⟨hs, fun z => by simp⟩
  | y :: b, s, c, hb, hs, hc, h => by
    have hb' := nrm_cons.1 hb
    have hnb := fun z hz => (nrm_mem hb'.2.2.2 z hz).1
    simp only [List.foldl_cons]
    by_cases e : y = q
    · rw [if_pos e]
      obtain ⟨h1, h2⟩ := foldIns b s (av y) hb'.2.2.2 hs (av_nonneg y) (fun w hw z hz => h w hw z (by simp [hz]))
      refine ⟨h1, fun z => ?_⟩
      rw [h2]
      constructor
      · rintro (h3 | ⟨h3, h4⟩)
        · exact .inl h3
        · exact .inr ⟨by simp [h3], h4⟩
      · rintro (h3 | ⟨h3, h4⟩)
        · exact .inl h3
        · rcases List.mem_cons.1 h3 with h3 | h3
          · exact absurd (h3.trans e) h4
          · exact .inr ⟨h3, h4⟩
    · rw [if_neg e]
      have hy0 : 0 < av y := by omega
      have hmem : ∀ z, z ∈ ins y s ↔ z = y ∨ z ∈ s := fun z => mem_ins (fun w hw he => h w hw y (by simp) e he)
      obtain ⟨h1, h2⟩ := foldIns b (ins y s) (av y) hb'.2.2.2 (nrm_ins hb'.1 hb'.2.1 hy0 hs) (av_nonneg y) (fun w hw z hz hzq he => by
        rcases (hmem w).1 hw with hw | hw
        · have := hnb z hz; rw [hw] at he; omega
        · exact h w hw z (by simp [hz]) hzq he)
      refine ⟨h1, fun z => ?_⟩
      rw [h2, hmem]
      constructor
      · rintro ((h3 | h3) | ⟨h3, h4⟩)
        · exact .inr ⟨by simp [h3], by rw [h3]; exact e⟩
        · exact .inl h3
        · exact .inr ⟨by simp [h3], h4⟩
      · rintro (h3 | ⟨h3, h4⟩)
        · exact .inl (.inr h3)
        · rcases List.mem_cons.1 h3 with h3 | h3
          · exact .inl (.inl h3)
          · exact .inr ⟨h3, h4⟩

theorem Resolvent_eq {a b : List Int} {p : Int} (ha : nrmB 0 a = true) (hb : nrmB 0 b = true) (hp : InK .i64 p) : F_skolemref09_Resolvent a b p = some (resS a b p) := by
  have hp' := inK64.1 hp
  unfold F_skolemref09_Resolvent resS
  simp only [jn_eq, Has_eq, Option.bind_some]
  by_cases h1 : p < 1
  · rw [if_pos (by simpa using h1), if_neg (show ¬ (1 ≤ p ∧ p ∈ a ∧ -p ∈ b) from fun h => by have := h.1; omega)]; rfl
  · rw [if_neg (by simpa using h1)]
    by_cases h2 : p ∈ a
    · rw [wrap_neg (by omega) (by omega)]
      by_cases h3 : -p ∈ b
      · rw [if_pos (show 1 ≤ p ∧ p ∈ a ∧ -p ∈ b from ⟨by omega, h2, h3⟩)]
        simp only [h2, h3, decide_true, Bool.not_true, Bool.false_eq_true, if_false]
        have avp : av p = p := by unfold av; split <;> omega
        -- the first loop
        refine (rangeF_pre a (fun pre s => s = pre.filter (fun x => x ≠ p))
          (fun pre xs s => if (∀ x ∈ xs, x ≠ p → -x ∉ b) then some (b.foldl (fun s y => if y = -p then s else ins y s) (a.filter (fun x => x ≠ p)), true) else some ([], false)) ?_ ?_ a [] [] rfl rfl).trans ?_
        · rintro s rfl
          rw [if_pos (by simp)]
          -- the second loop
          refine rangeF_pre b (fun _ s => nrmB 0 s = true) (fun _ ys s => some (ys.foldl (fun s y => if y = -p then s else ins y s) s, true)) (fun s _ => rfl) ?_ b [] _ rfl (nrm_filter _ ha)
          intro pre y ys s kk hf hI hk
          have hy := nrm_app (c := 0) (pre := pre) (y := y) (ys := ys) (by rw [← hf]; exact hb)
          simp only [List.foldl_cons]
          by_cases e : y = -p
          · rw [if_neg (by simpa using e), hk _ hI, if_pos e]
          · rw [if_pos (by simpa using e), Put_eq hI hy.2.2.2.1 hy.2.2.2.2.1, if_neg e]
            simp only [Option.bind_some]
            exact hk _ (nrm_ins hy.2.2.2.1 hy.2.2.2.2.1 hy.2.2.1 hI)
        · rintro pre x xs s kk hf rfl hk
          have hx := nrm_app (c := 0) (pre := pre) (y := x) (ys := xs) (by rw [← hf]; exact ha)
          by_cases e : x = p
          · rw [if_neg (by simpa using e), hk _ (by simp [e])]
            simp [e]
          · rw [if_pos (by simpa using e), wrap_neg (by omega) (by omega)]
            by_cases hm : -x ∈ b
            · simp [hm, e]
            · rw [Put_eq (nrm_filter _ hx.1) hx.2.2.2.1 hx.2.2.2.2.1, ins_end (fun z hz => hx.2.1 z (List.mem_filter.1 hz).1)]
              simp only [hm, decide_false, Bool.false_eq_true, if_false, Option.bind_some]
              rw [hk _ (by simp [List.filter_append, e])]
              simp [hm, e]
        · by_cases hno : NoClash p a b
          · rw [if_pos (show ∀ x, x ∈ a → x ≠ p → ¬ -x ∈ b from hno)]
            obtain ⟨m, hm, hmem⟩ := mg_some (show 0 < p by omega) _ a b 0 (Nat.le_refl _) (by omega) ha hb hno
            rw [hm]
            have hfold := foldIns (q := -p) b (a.filter (fun x => x ≠ p)) 0 hb (nrm_filter _ ha) (by omega) (fun w hw y hy hyq he => by
              have hw := List.mem_filter.1 hw
              rcases av_eq he with e | e
              · exact e
              · have := hno w hw.1 (by simpa using hw.2)
                rw [e, Int.neg_neg] at this
                exact absurd hy this)
            have := nrm_ext hfold.1 (mg_nrm _ a b m 0 (Nat.le_refl _) ha hb hm) (fun z => by
              rw [hfold.2, hmem]
              simp [h2, h3])
            rw [this]
          · rw [if_neg (show ¬ ∀ x, x ∈ a → x ≠ p → ¬ -x ∈ b from hno), mg_none (show 0 < p by omega) _ a b 0 (Nat.le_refl _) (by omega) ha hb hno]
      · simp [h2, h3]
    · simp [h2]
end Go.Sk.X

namespace Go.Sk.X
open Go Go.Sk

/-- a line is one of a proof from clauses, behind these lines -/
def RightP (cnf : List (List Int)) (before : List S_api_Line) (x : S_api_Line) : Prop :=
  (x.Rule = 1 ∧ 0 ≤ x.A ∧ x.A < cnf.length ∧ x.B = 0 ∧ x.Piv = 0 ∧ cnf[x.A.toNat]? = some x.Lits) ∨
  (x.Rule = 2 ∧ 0 ≤ x.A ∧ 0 ≤ x.B ∧ ∃ la lb, before[x.A.toNat]? = some la ∧ before[x.B.toNat]? = some lb ∧ resS la.Lits lb.Lits x.Piv = (x.Lits, true))

open Classical in
theorem res_if (r : List Int × Bool) (l : List Int) : (if r.2 = true then (some (decide (r.1 = l))) else some false) = some (decide (r = (l, true))) := by
  obtain ⟨r, b⟩ := r
  cases b <;> simp

open Classical in
theorem right_eq {cnf : List (List Int)} {before : List S_api_Line} {x : S_api_Line} (hb : ∀ l ∈ before, nrmB 0 l.Lits = true) (hx : W_S_api_Line x) : F_proof_right cnf before x = some (decide (RightP cnf before x)) := by
  unfold F_proof_right
  by_cases r1 : x.Rule = 1
  · have hne : ¬ x.Rule = 2 := by omega
    simp only [r1, beq_self_eq_true, if_true]
    by_cases h1 : 0 ≤ x.A ∧ x.A < cnf.length ∧ x.B = 0 ∧ x.Piv = 0
    · obtain ⟨g1, g2, g3, g4⟩ := h1
      have hlt : x.A.toNat < cnf.length := by omega
      rw [if_pos (by simpa using g1), if_pos (by simpa using g2), if_pos (by simpa using g3), if_pos (by simpa using g4), getI_eq g1 (List.getElem?_eq_getElem hlt), Equal_eq]
      simp only [Option.bind_some, Option.some.injEq, decide_eq_decide, RightP, r1, g1, g2, g3, g4, List.getElem?_eq_getElem hlt, true_and]
      constructor
      · intro e; left; rw [e]
      · rintro (e | ⟨e, _⟩)
        · exact e.symm
        · omega
    · have hn : ¬ RightP cnf before x := by
        rintro (⟨_, g1, g2, g3, g4, _⟩ | ⟨e, _⟩)
        · exact h1 ⟨g1, g2, g3, g4⟩
        · omega
      rw [decide_eq_false hn]
      by_cases g1 : 0 ≤ x.A
      · by_cases g2 : x.A < cnf.length
        · by_cases g3 : x.B = 0
          · have g4 : ¬ x.Piv = 0 := fun g4 => h1 ⟨g1, g2, g3, g4⟩
            simp [g1, g2, g3, g4]
          · simp [g1, g2, g3]
        · simp [g1, g2]
      · simp [g1]
  · by_cases r2 : x.Rule = 2
    · simp only [jn_eq, r2]
      rw [if_neg (by simp), if_pos (by simp)]
      by_cases g : 0 ≤ x.A ∧ 0 ≤ x.B ∧ x.A < before.length ∧ x.B < before.length
      · obtain ⟨g1, g2, g3, g4⟩ := g
        have k1 : ¬ imn x.A x.B < 0 := by unfold imn; split <;> omega
        have k2 : ¬ imx x.A x.B ≥ (before.length : Int) := by unfold imx; split <;> omega
        have ha : x.A.toNat < before.length := by omega
        have hbb : x.B.toNat < before.length := by omega
        rw [if_neg (by simpa using k1), if_neg (by simpa using k2), getI_eq g1 (List.getElem?_eq_getElem ha), getI_eq g2 (List.getElem?_eq_getElem hbb),
          resolvent_eq (hb _ (List.getElem_mem ha)) (hb _ (List.getElem_mem hbb)) hx.2.2.2.1]
        simp only [Option.bind_some, Equal_eq]
        have key : RightP cnf before x ↔ resS before[x.A.toNat].Lits before[x.B.toNat].Lits x.Piv = (x.Lits, true) := by
          constructor
          · rintro (⟨e, _⟩ | ⟨_, _, _, la, lb, e1, e2, e3⟩)
            · omega
            · rw [List.getElem?_eq_getElem ha] at e1
              rw [List.getElem?_eq_getElem hbb] at e2
              rw [Option.some.inj e1, Option.some.inj e2]; exact e3
          · intro e
            exact .inr ⟨r2, g1, g2, _, _, List.getElem?_eq_getElem ha, List.getElem?_eq_getElem hbb, e⟩
        rw [decide_eq_decide.2 key]
        exact res_if _ _
      · have hn : ¬ RightP cnf before x := by
          rintro (⟨e, _⟩ | ⟨_, g1, g2, la, lb, e1, e2, _⟩)
          · omega
          · have := (List.getElem?_eq_some_iff.1 e1).1
            have := (List.getElem?_eq_some_iff.1 e2).1
            exact g ⟨g1, g2, by omega, by omega⟩
        rw [decide_eq_false hn]
        by_cases k1 : imn x.A x.B < 0
        · simp [k1]
        · have k2 : imx x.A x.B ≥ (before.length : Int) := by
            unfold imn at k1; unfold imx
            split at k1 <;> split <;> omega
          simp [k1, k2]
    · have hn : ¬ RightP cnf before x := by
        rintro (⟨e, _⟩ | ⟨e, _⟩)
        · exact r1 e
        · exact r2 e
      simp [r1, r2, hn]

open Classical in
theorem Right_eq {cnf : List (List Int)} {p : S_api_Proof} {pre rest : List S_api_Line} {x : S_api_Line} (hp : p.Lines = pre ++ x :: rest) (hb : ∀ l ∈ pre, nrmB 0 l.Lits = true) (hx : W_S_api_Line x) :
    F_skolemref10_right cnf p (pre.length : Int) = some (decide (RightP cnf pre x)) := by
  unfold F_skolemref10_right
  have hget : p.Lines[pre.length]? = some x := by rw [hp]; simp
  rw [getI_nat, hget]
  simp only
  by_cases r1 : x.Rule = 1
  · simp only [r1, beq_self_eq_true, if_true]
    by_cases h1 : 0 ≤ x.A ∧ x.A < cnf.length ∧ x.B = 0 ∧ x.Piv = 0
    · obtain ⟨g1, g2, g3, g4⟩ := h1
      have hlt : x.A.toNat < cnf.length := by omega
      rw [if_pos (by simpa using g1), if_pos (by simpa using g2), if_pos (by simpa using g3), if_pos (by simpa using g4), getI_eq g1 (List.getElem?_eq_getElem hlt), Same_eq]
      simp only [Option.bind_some, Option.some.injEq, decide_eq_decide, RightP, r1, g1, g2, g3, g4, List.getElem?_eq_getElem hlt, true_and]
      constructor
      · intro e; left; rw [e]
      · rintro (e | ⟨e, _⟩)
        · exact e.symm
        · omega
    · have hn : ¬ RightP cnf pre x := by
        rintro (⟨_, g1, g2, g3, g4, _⟩ | ⟨e, _⟩)
        · exact h1 ⟨g1, g2, g3, g4⟩
        · omega
      rw [decide_eq_false hn]
      by_cases g1 : 0 ≤ x.A
      · by_cases g2 : x.A < cnf.length
        · by_cases g3 : x.B = 0
          · have g4 : ¬ x.Piv = 0 := fun g4 => h1 ⟨g1, g2, g3, g4⟩
            simp [g1, g2, g3, g4]
          · simp [g1, g2, g3]
        · simp [g1, g2]
      · simp [g1]
  · rw [if_neg (by simpa using r1)]
    simp only [jn_eq]
    by_cases r2 : x.Rule = 2
    · rw [if_neg (by simpa using r2)]
      by_cases g : 0 ≤ x.A ∧ 0 ≤ x.B ∧ x.A < pre.length ∧ x.B < pre.length
      · obtain ⟨g1, g2, g3, g4⟩ := g
        have ha : x.A.toNat < pre.length := by omega
        have hbb : x.B.toNat < pre.length := by omega
        have e1 : p.Lines[x.A.toNat]? = some pre[x.A.toNat] := by rw [hp, List.getElem?_append_left ha, List.getElem?_eq_getElem ha]
        have e2 : p.Lines[x.B.toNat]? = some pre[x.B.toNat] := by rw [hp, List.getElem?_append_left hbb, List.getElem?_eq_getElem hbb]
        rw [if_neg (by simpa using g1), if_neg (by simpa using g3), if_neg (by simpa using g2), if_neg (by simpa using g4), getI_eq g1 e1, getI_eq g2 e2,
          Resolvent_eq (hb _ (List.getElem_mem ha)) (hb _ (List.getElem_mem hbb)) hx.2.2.2.1]
        simp only [Option.bind_some, Same_eq]
        have key : RightP cnf pre x ↔ resS pre[x.A.toNat].Lits pre[x.B.toNat].Lits x.Piv = (x.Lits, true) := by
          constructor
          · rintro (⟨e, _⟩ | ⟨_, _, _, la, lb, e1, e2, e3⟩)
            · omega
            · rw [List.getElem?_eq_getElem ha] at e1
              rw [List.getElem?_eq_getElem hbb] at e2
              rw [Option.some.inj e1, Option.some.inj e2]; exact e3
          · intro e
            exact .inr ⟨r2, g1, g2, _, _, List.getElem?_eq_getElem ha, List.getElem?_eq_getElem hbb, e⟩
        rw [decide_eq_decide.2 key]
        exact res_if _ _
      · have hn : ¬ RightP cnf pre x := by
          rintro (⟨e, _⟩ | ⟨_, g1, g2, la, lb, e1, e2, _⟩)
          · omega
          · have := (List.getElem?_eq_some_iff.1 e1).1
            have := (List.getElem?_eq_some_iff.1 e2).1
            exact g ⟨g1, g2, by omega, by omega⟩
        rw [decide_eq_false hn]
        by_cases g1 : x.A < 0
        · simp [g1]
        · by_cases g2 : x.A ≥ pre.length
          · simp [g1, g2]
          · by_cases g3 : x.B < 0
            · simp [g1, g2, g3]
            · have g4 : x.B ≥ pre.length := by omega
              simp [g1, g2, g3, g4]
    · have hn : ¬ RightP cnf pre x := by
        rintro (⟨e, _⟩ | ⟨e, _⟩)
        · exact r1 e
        · exact r2 e
      simp [r2, hn]

theorem resS_nrm {a b m : List Int} {p : Int} (ha : nrmB 0 a = true) (hb : nrmB 0 b = true) (h : resS a b p = (m, true)) : nrmB 0 m = true := by
  unfold resS at h
  split at h
  · split at h
    · rename_i m' hm
      injection h with h1 h2; subst h1
      exact mg_nrm _ a b _ 0 (Nat.le_refl _) ha hb hm
    · injection h with h1 h2; simp at h2
  · injection h with h1 h2; simp at h2

theorem RightP.nrm {cnf : List (List Int)} {before : List S_api_Line} {x : S_api_Line} (hc : ∀ c ∈ cnf, nrmB 0 c = true) (hb : ∀ l ∈ before, nrmB 0 l.Lits = true) (h : RightP cnf before x) : nrmB 0 x.Lits = true := by
  rcases h with ⟨_, _, _, _, _, h⟩ | ⟨_, _, _, la, lb, e1, e2, e3⟩
  · exact hc _ (List.mem_of_getElem? h)
  · exact resS_nrm (hb _ (List.mem_of_getElem? e1)) (hb _ (List.mem_of_getElem? e2)) e3

/-! ### Check -/
open Classical in
noncomputable def chk (cnf : List (List Int)) : List S_api_Line → List S_api_Line → Option Nat
  | _, [] => none
  | pre, x :: xs => if RightP cnf pre x then chk cnf (pre ++ [x]) xs else some pre.length

def FitsP (p : S_api_Proof) : Prop := p.Cubes = false ∧ 0 < p.Lines.length ∧ p.Lines.length ≤ 1000000

open Classical in
noncomputable def checkS (cnf : List (List Int)) (p : S_api_Proof) : List Int × Int × Int :=
  if (decide (cnf.length ≤ 20000) && cnfB 0 cnf) = true then
    if FitsP p then
      match chk cnf [] p.Lines with
      | some i => ([], i, 100)
      | none => ((p.Lines.getLast?.map S_api_Line.Lits).getD [], 0, 0)
    else ([], 0, 100)
  else ([], 0, 2)

theorem last_get {α : Type} {l : List α} (h : 0 < l.length) (hl : l.length ≤ 9223372036854775807) : ∃ x, l.getLast? = some x ∧ l[(IntKind.wrap .i64 ((l.length : Int) - 1)).toNat]? = some x ∧ 0 ≤ IntKind.wrap .i64 ((l.length : Int) - 1) ∧ x ∈ l := by
  rw [wrap_id (by omega) (by omega)]
  have e : ((l.length : Int) - 1).toNat = l.length - 1 := by omega
  have hlt : l.length - 1 < l.length := by omega
  refine ⟨l[l.length - 1], ?_, by rw [e]; exact List.getElem?_eq_getElem hlt, by omega, List.getElem_mem hlt⟩
  rw [List.getLast?_eq_getElem?]
  exact List.getElem?_eq_getElem hlt

open Classical in
theorem Check_prog {cnf : List (List Int)} {p : S_api_Proof} (h0 : InL (InL (InK .i64)) cnf) (h1 : W_S_api_Proof p) : F_proof_Check cnf p = some (checkS cnf p) := by
  unfold F_proof_Check checkS
  rw [cnf_eq]
  simp only [Option.bind_some]
  cases hc : (decide (cnf.length ≤ 20000) && cnfB 0 cnf) with
  | false => simp
  | true =>
    have hcm : ∀ c ∈ cnf, nrmB 0 c = true := cnfB_mem (by simp only [Bool.and_eq_true] at hc; exact hc.2)
    have hfits : F_proof_fits p = some (decide (FitsP p)) := by
      unfold F_proof_fits FitsP
      cases p.Cubes with
      | true => simp
      | false =>
        by_cases c1 : 0 < p.Lines.length
        · rw [if_pos (by simp), if_pos (by simpa using c1)]
          simp [c1]; omega
        · rw [if_pos (by simp), if_neg (by simpa using c1)]
          simp [c1]
    rw [hfits]
    simp only [Bool.not_true, Bool.false_eq_true, if_false, Option.bind_some, if_true]
    by_cases hf : FitsP p
    · simp only [hf, decide_true, Bool.not_true, Bool.false_eq_true, if_false, if_true]
      refine (rangeF_pre p.Lines (fun pre _ => ∀ l ∈ pre, nrmB 0 l.Lits = true) (fun pre xs _ => some (match chk cnf pre xs with | some i => ([], (i : Int), (100 : Int)) | none => ((p.Lines.getLast?.map S_api_Line.Lits).getD [], 0, 0))) ?_ ?_ p.Lines [] () rfl (by simp))
      · intro _ hI
        obtain ⟨x, e1, e2, e3, e4⟩ := last_get (l := p.Lines) hf.2.1 h1.2.1
        rw [getI_eq e3 e2, Clone_eq _ (by have := nrm_len' (hI x e4); omega)]
        simp [chk, e1]
      · intro pre x xs _ kk hfull hI hk
        have hlt : pre.length ≤ p.Lines.length := by rw [hfull]; simp
        have hwx : W_S_api_Line x := h1.2.2 x (by rw [hfull]; simp)
        have htake : p.Lines.take ((pre.length : Int).toNat) = pre := by rw [hfull]; simp
        rw [okI_eq ⟨by omega, by simpa using hlt⟩, htake, right_eq hI hwx]
        simp only [Option.bind_some, chk]
        by_cases hr : RightP cnf pre x
        · simp only [hr, decide_true, Bool.not_true, Bool.false_eq_true, if_false, if_true]
          exact hk () (fun l hl => by
            rcases List.mem_append.1 hl with hl | hl
            · exact hI l hl
            · simp at hl; subst hl; exact hr.nrm hcm hI)
        · simp [hr]
    · simp [hf]

open Classical in
theorem Check_ref {cnf : List (List Int)} {p : S_api_Proof} (h0 : InL (InL (InK .i64)) cnf) (h1 : W_S_api_Proof p) : F_skolemref10_Check cnf p = some (checkS cnf p) := by
  unfold F_skolemref10_Check checkS
  rw [Cnf_eq h0]
  simp only [Option.bind_some]
  cases hc : (decide (cnf.length ≤ 20000) && cnfB 0 cnf) with
  | false => simp
  | true =>
    have hcm : ∀ c ∈ cnf, nrmB 0 c = true := cnfB_mem (by simp only [Bool.and_eq_true] at hc; exact hc.2)
    simp only [Bool.not_true, Bool.false_eq_true, if_false, if_true, jn_eq]
    by_cases hf : FitsP p
    · obtain ⟨f1, f2, f3⟩ := id hf
      rw [if_neg (by simp [f1]), if_neg (by simp; intro e; rw [e] at f2; simp at f2)]
      simp only [hf, if_true]
      rw [if_neg (by simp; omega)]
      refine (rangeF_pre p.Lines (fun pre _ => ∀ l ∈ pre, nrmB 0 l.Lits = true) (fun pre xs _ => some (match chk cnf pre xs with | some i => ([], (i : Int), (100 : Int)) | none => ((p.Lines.getLast?.map S_api_Line.Lits).getD [], 0, 0))) ?_ ?_ p.Lines [] () rfl (by simp))
      · intro _ hI
        obtain ⟨x, e1, e2, e3, e4⟩ := last_get (l := p.Lines) hf.2.1 h1.2.1
        rw [getI_eq e3 e2]
        simp [chk, e1]
      · intro pre x xs _ kk hfull hI hk
        have hwx : W_S_api_Line x := h1.2.2 x (by rw [hfull]; simp)
        rw [Right_eq (p := S_api_Proof.mk false p.Lines) hfull hI hwx]
        simp only [Option.bind_some, chk]
        by_cases hr : RightP cnf pre x
        · simp only [hr, decide_true, Bool.not_true, Bool.false_eq_true, if_false, if_true]
          exact hk () (fun l hl => by
            rcases List.mem_append.1 hl with hl | hl
            · exact hI l hl
            · simp at hl; subst hl; exact hr.nrm hcm hI)
        · simp [hr]
    · simp only [hf, if_false]
      cases hcu : p.Cubes with
      | true => simp
      | false =>
        by_cases c1 : p.Lines.length = 0
        · simp [c1]
        · have c2 : ¬ p.Lines.length ≤ 1000000 := fun h => hf ⟨hcu, by omega, h⟩
          simp only [Bool.false_eq_true, if_false]
          rw [if_neg (by simpa using c1)]
          simp; omega

theorem large_some (cnf : List (List Int)) (p : S_api_Proof) : ∃ b, F_skolemlaw10_large cnf p = some b := by
  unfold F_skolemlaw10_large
  have k1 : ∀ (xs : List S_api_Line) (j : Nat) (s : Int) (k : Int → Option Bool), (∀ s, ∃ b, k s = some b) → ∃ b, rangeF (fun (j109 : Nat) (x110 : S_api_Line) (s106 : Int) k108 => (k108 (IntKind.wrap .i64 (s106 + ((x110.Lits.length : Nat) : Int))))) j xs s k = some b := by
    intro xs
    induction xs with
    | nil => intro j s k h; exact h s
    | cons x xs ih => intro j s k h; exact ih _ _ k h
  have k2 : ∀ (xs : List (List Int)) (j : Nat) (s : Int) (k : Int → Option Bool), (∀ s, ∃ b, k s = some b) → ∃ b, rangeF (fun (j104 : Nat) (x105 : (List Int)) (s101 : Int) k103 => (k103 (IntKind.wrap .i64 (s101 + ((x105.length : Nat) : Int))))) j xs s k = some b := by
    intro xs
    induction xs with
    | nil => intro j s k h; exact h s
    | cons x xs ih => intro j s k h; exact ih _ _ k h
  refine k2 _ _ _ _ (fun s => k1 _ _ _ _ (fun s' => ?_))
  split
  · exact ⟨_, rfl⟩
  · split
    · exact ⟨_, rfl⟩
    · split <;> exact ⟨_, rfl⟩

theorem law_ProofChecks {a0 : List (List Int)} {a1 : S_api_Proof} (h0 : InL (InL (InK .i64)) a0) (h1 : W_S_api_Proof a1) : F_skolemlaw10_ProofChecks a0 a1 = some true := by
  obtain ⟨b, hb⟩ := large_some a0 a1
  unfold F_skolemlaw10_ProofChecks
  rw [hb]
  cases b with
  | true => simp [F_skolemlaw10_head]
  | false =>
    simp only [Check_prog h0 h1, Check_ref h0 h1, Same_eq, F_proof_Refutes, F_skolemref10_Refutes, F_skolemlaw10_head, Option.bind_some]
    by_cases hz : (checkS a0 a1).2.2 = 0 <;> simp [hz]
end Go.Sk.X

namespace Go.Sk.X
open Go Go.Sk

/-! ### What is proved holds -/
def bitv (pt v : Int) : Bool := (IntKind.wrap .u64 ((BitVec.ofInt (IntKind.bits .u64) (Int.fdiv pt (2 ^ (min (Int.tmod v (64 : Int)).toNat (IntKind.bits .u64)))) &&& BitVec.ofInt (IntKind.bits .u64) (1 : Int)).toNat : Int)) == (1 : Int)
def sat (pt x : Int) : Bool := bitv pt (av x) == decide (x > 0)

theorem sat_neg {pt x : Int} (h : x ≠ 0) : sat pt (-x) = !sat pt x := by
  unfold sat
  rw [av_neg]
  have : decide (-x > 0) = !decide (x > 0) := by
    by_cases h1 : x > 0
    · have h2 : ¬ -x > 0 := by omega
      simp [h1, h2]; omega
    · have h2 : -x > 0 := by omega
      simp [h1, h2]; omega
  rw [this]
  cases bitv pt (av x) <;> cases decide (x > 0) <;> rfl

theorem holds_eq {c : List Int} (hc : nrmB 0 c = true) (pt : Int) : F_skolemlaw10_holds c pt = some (c.any (sat pt)) := by
  unfold F_skolemlaw10_holds
  refine rangeF_pre c (fun _ _ => True) (fun _ xs _ => some (xs.any (sat pt))) (fun _ _ => rfl) ?_ c [] () rfl trivial
  intro pre x xs _ kk hf _ hk
  have hx := nrm_app (c := 0) (pre := pre) (y := x) (ys := xs) (by rw [← hf]; exact hc)
  have hav : 0 ≤ Int.tmod (av x) 64 := Int.tmod_nonneg _ (av_nonneg x)
  rw [Abs_eq (by omega) (by omega)]
  simp only [Option.bind_some]
  rw [okI_eq hav, hk () trivial]
  simp only [List.any_cons]
  show (if (bitv pt (av x) == decide (x > 0)) = true then some true else some (xs.any (sat pt))) = _
  cases h : sat pt x
  · rw [if_neg (by show ¬ sat pt x = true; rw [h]; simp)]; simp
  · rw [if_pos (by show sat pt x = true; exact h)]; simp

theorem holdsAll_eq {cnf : List (List Int)} (hc : ∀ c ∈ cnf, nrmB 0 c = true) (pt : Int) : F_skolemlaw10_holdsAll cnf pt = some (cnf.all fun c => c.any (sat pt)) := by
  unfold F_skolemlaw10_holdsAll
  refine rangeF_pre cnf (fun _ _ => True) (fun _ xs _ => some (xs.all fun c => c.any (sat pt))) (fun _ _ => rfl) ?_ cnf [] () rfl trivial
  intro pre x xs _ kk hf _ hk
  rw [holds_eq (hc x (by rw [hf]; simp))]
  simp only [Option.bind_some, hk () trivial, List.all_cons]
  cases x.any (sat pt) <;> simp

theorem resS_sat {a b m : List Int} {p pt : Int} (ha : nrmB 0 a = true) (hb : nrmB 0 b = true) (h : resS a b p = (m, true)) (sa : a.any (sat pt) = true) (sb : b.any (sat pt) = true) : m.any (sat pt) = true := by
  unfold resS at h
  split at h
  · rename_i hp
    obtain ⟨hp, h2, h3⟩ := hp
    split at h
    · rename_i m' hm
      injection h with h1 _; subst h1
      have hno : NoClash p a b := by
        apply Classical.byContradiction
        intro hno
        rw [mg_none (show 0 < p by omega) _ a b 0 (Nat.le_refl _) (by omega) ha hb hno] at hm
        simp at hm
      obtain ⟨m2, hm2, hmem⟩ := mg_some (show 0 < p by omega) _ a b 0 (Nat.le_refl _) (by omega) ha hb hno
      rw [hm] at hm2; injection hm2 with hm2; subst hm2
      obtain ⟨x, hx, sx⟩ := List.any_eq_true.1 sa
      obtain ⟨y, hy, sy⟩ := List.any_eq_true.1 sb
      by_cases e : x = p
      · have e2 : y ≠ -p := by
          intro e2
          rw [e2, sat_neg (by omega), ← e, sx] at sy
          simp at sy
        exact List.any_eq_true.2 ⟨y, (hmem y).2 (.inr ⟨hy, .inl e2⟩), sy⟩
      · exact List.any_eq_true.2 ⟨x, (hmem x).2 (.inl ⟨hx, .inl e⟩), sx⟩
    · injection h with h1 h2; simp at h2
  · injection h with h1 h2; simp at h2

theorem RightP.sat {cnf : List (List Int)} {before : List S_api_Line} {x : S_api_Line} {pt : Int} (hb : ∀ l ∈ before, nrmB 0 l.Lits = true) (h : RightP cnf before x) (hc : (cnf.all fun c => c.any (sat pt)) = true) (hs : ∀ l ∈ before, l.Lits.any (Go.Sk.X.sat pt) = true) :
    x.Lits.any (Go.Sk.X.sat pt) = true := by
  rcases h with ⟨_, _, _, _, _, h⟩ | ⟨_, _, _, la, lb, e1, e2, e3⟩
  · exact List.all_eq_true.1 hc _ (List.mem_of_getElem? h)
  · exact resS_sat (hb _ (List.mem_of_getElem? e1)) (hb _ (List.mem_of_getElem? e2)) e3 (hs _ (List.mem_of_getElem? e1)) (hs _ (List.mem_of_getElem? e2))

theorem chk_all {cnf : List (List Int)} (hc : ∀ c ∈ cnf, nrmB 0 c = true) (Q : S_api_Line → Prop) (hQ : ∀ before x, (∀ l ∈ before, nrmB 0 l.Lits = true) → (∀ l ∈ before, Q l) → RightP cnf before x → Q x) :
    ∀ (xs pre : List S_api_Line), (∀ l ∈ pre, nrmB 0 l.Lits = true ∧ Q l) → chk cnf pre xs = none → ∀ l ∈ pre ++ xs, nrmB 0 l.Lits = true ∧ Q l
  | [], pre, hp, _ => by simpa using hp
  | x :: xs, pre, hp, h => by
    simp only [chk] at h
    split at h
    · rename_i hr
      have hn := hr.nrm hc (fun l hl => (hp l hl).1)
      have hq := hQ pre x (fun l hl => (hp l hl).1) (fun l hl => (hp l hl).2) hr
      have := chk_all hc Q hQ xs (pre ++ [x]) (fun l hl => by
        rcases List.mem_append.1 hl with hl | hl
        · exact hp l hl
        · simp at hl; subst hl; exact ⟨hn, hq⟩) h
      simpa using this
    · simp at h

theorem checkS_ok {cnf : List (List Int)} {p : S_api_Proof} (h : (checkS cnf p).2.2 = 0) : (∀ c ∈ cnf, nrmB 0 c = true) ∧ FitsP p ∧ chk cnf [] p.Lines = none ∧ ∃ x, p.Lines.getLast? = some x ∧ (checkS cnf p).1 = x.Lits := by
  unfold checkS at h ⊢
  split at h
  · rename_i hc
    split at h
    · rename_i hf
      cases hk : chk cnf [] p.Lines with
      | some i => rw [hk] at h; simp at h
      | none =>
        refine ⟨cnfB_mem (by simp only [Bool.and_eq_true] at hc; exact hc.2), hf, rfl, ?_⟩
        cases hl : p.Lines.getLast? with
        | none => have := List.getLast?_eq_none_iff.1 hl; have := hf.2.1; simp_all
        | some x => exact ⟨x, rfl, by simp [hc, hf]⟩
    · simp at h
  · simp at h

theorem checkS_bad {cnf : List (List Int)} {p : S_api_Proof} (h : (checkS cnf p).2.2 ≠ 0) : (checkS cnf p).1 = [] := by
  unfold checkS at h ⊢
  split
  · rename_i hc
    rw [if_pos hc] at h
    split
    · rename_i hf
      rw [if_pos hf] at h
      cases hk : chk cnf [] p.Lines with
      | some i => rfl
      | none => rw [hk] at h; simp at h
    · rfl
  · rfl

theorem law_ProofHolds {a0 : List (List Int)} {a1 : S_api_Proof} {a2 : List Int} (h0 : InL (InL (InK .i64)) a0) (h1 : W_S_api_Proof a1) (h2 : InL (InK .u64) a2) : F_skolemlaw10_ProofHolds a0 a1 a2 = some true := by
  obtain ⟨b, hb⟩ := large_some a0 a1
  unfold F_skolemlaw10_ProofHolds
  rw [jn_eq, hb]
  have key : ((F_proof_Check a0 a1).bind (fun y117 => (if (y117.2.2 != (0 : Int)) = true then (if (((y117.1.length : Nat) : Int) == (0 : Int)) = true then ((F_skolemlaw10_head).bind (fun y122 => (some y122))) else (some false)) else (rangeF (fun (j126 : Nat) (x127 : Int) (s123 : Unit) k125 => (jn (fun (s161 : Bool) => (if s161 = true then (some false) else (k125 ()))) (fun k163 => ((F_skolemlaw10_holdsAll a0 x127).bind (fun y165 => (if y165 = true then ((F_skolemlaw10_holds y117.1 x127).bind (fun y167 => (k163 (!y167)))) else (k163 false))))))) 0 a2 () (fun (s123 : Unit) => ((F_skolemlaw10_head).bind (fun y168 => (some y168)))))))) = some true := by
    rw [Check_prog h0 h1]
    simp only [Option.bind_some]
    by_cases he : (checkS a0 a1).2.2 = 0
    · rw [if_neg (by simp [he])]
      obtain ⟨hcn, hf, hk, x, hx, hl⟩ := checkS_ok he
      refine rangeF_eq (fun _ _ _ => some true) (fun _ _ => by simp [F_skolemlaw10_head]) (fun j pt xs s kk hkk => ?_) a2 0 ()
      rw [jn_eq, holdsAll_eq hcn]
      simp only [Option.bind_some]
      cases hall : (a0.all fun c => c.any (sat pt)) with
      | false => simp [hkk]
      | true =>
        have hxl : x ∈ a1.Lines := List.mem_of_getLast? hx
        have := chk_all hcn (fun l => l.Lits.any (sat pt) = true) (fun before x hb hs hr => hr.sat hb hall hs) a1.Lines [] (by simp) hk x (by simpa using hxl)
        rw [hl, holds_eq this.1, this.2]
        simp [hkk]
    · rw [if_pos (by simpa using he), checkS_bad he]
      simp [F_skolemlaw10_head]
  cases b with
  | true => simp [F_skolemlaw10_head]
  | false =>
    simp only [Option.bind_some, Bool.false_eq_true, if_false]
    by_cases hl : ((a2.length : Nat) : Int) > 200
    · simp [hl, F_skolemlaw10_head]
    · rw [if_neg (by simpa using hl)]
      exact key
end Go.Sk.X

namespace Go.Sk.X
open Go Go.Sk

/-! ### Under -/
def Both {R : Type} (x y : Option R) : Prop := ∃ r, x = some r ∧ y = some r

theorem rangeF_both {α S R : Type} {f1 f2 : Nat → α → S → (S → Option R) → Option R} {k1 k2 : S → Option R} (full : List α) (I : List α → S → Prop) (h0 : ∀ s, I full s → Both (k1 s) (k2 s))
    (h1 : ∀ pre x xs s kk1 kk2, full = pre ++ x :: xs → I pre s → (∀ s', I (pre ++ [x]) s' → Both (kk1 s') (kk2 s')) → Both (f1 pre.length x s kk1) (f2 pre.length x s kk2)) : ∀ xs pre s, full = pre ++ xs → I pre s → Both (rangeF f1 pre.length xs s k1) (rangeF f2 pre.length xs s k2)
  | [], pre, s, hf, hI => by
    rw [List.append_nil] at hf; subst hf
    exact h0 s hI
  | x :: xs, pre, s, hf, hI => by
    refine h1 pre x xs s _ _ hf hI (fun s' hs' => ?_)
    have := rangeF_both full I h0 h1 xs (pre ++ [x]) s' (by simp [hf]) hs'
    rw [List.length_append] at this
    exact this

def hitB (l a : List Int) : Bool := l.any (fun x => decide (x ∈ a))
def lessL (l a : List Int) : List Int := l.filter (fun x => decide (-x ∉ a))

theorem hits_eq (l a : List Int) (ha : a.length ≤ 9223372036854775807) : F_proof_hits l a = some (hitB l a) := by
  unfold F_proof_hits
  rw [jn_eq]
  refine rangeF_eq (fun _ xs _ => some (hitB xs a)) (fun _ _ => by simp [hitB]) (fun j x xs s kk hk => ?_) l 0 ()
  rw [Contains_eq a x ha, hk]
  by_cases h : x ∈ a <;> simp [hitB, h]
theorem satisfied_eq (l a : List Int) : F_skolemref10_satisfied l a = some (hitB l a) := by
  unfold F_skolemref10_satisfied
  refine rangeF_eq (fun _ xs _ => some (hitB xs a)) (fun _ _ => by simp [hitB]) (fun j x xs s kk hk => ?_) l 0 ()
  rw [Has_eq a x, hk]
  by_cases h : x ∈ a <;> simp [hitB, h]

theorem less_eq {l : List Int} (a : List Int) (hl : nrmB 0 l = true) : F_skolemref10_less l a = some (lessL l a) := by
  unfold F_skolemref10_less
  have hlen := nrm_len' hl
  refine rangeF_pre l (fun pre s => s = lessL pre a) (fun pre xs _ => some (lessL l a)) (fun s h => by rw [h]) (fun pre x xs s kk hf hI hk => ?_) l [] [] rfl rfl
  have hx := nrm_mem hl x (by rw [hf]; simp)
  have hsl : s.length ≤ l.length := by rw [hI]; exact Nat.le_trans (List.length_filter_le _ _) (by rw [hf]; simp)
  subst hI
  rw [jn_eq, wrap_neg (by omega) (by omega), Has_eq]
  by_cases h : -x ∈ a
  · have := hk (lessL pre a) (by simp [lessL, h])
    simp [h, this]
  · have := hk (lessL pre a ++ [x]) (by simp [lessL, h])
    simp only [Option.bind_some, h, decide_false, Bool.not_false, if_true]
    rw [capN_eq (by simp; omega)]
    exact this

def undF (a : List Int) : Nat → List (List Int) → List (List Int) × List Int → List (List Int) × List Int
  | _, [], s => s
  | j, c :: cs, s => undF a (j + 1) cs (if hitB c a = true then s else (s.1 ++ [lessL c a], s.2 ++ [(j : Int)]))

noncomputable def undS (cnf : List (List Int)) (a : List Int) : List (List Int) × List Int × Int :=
  if (decide (cnf.length ≤ 20000) && cnfB 0 cnf) = true ∧ nrmB 0 a = true then ((undF a 0 cnf ([], [])).1, (undF a 0 cnf ([], [])).2, 0) else ([], [], 2)

theorem Under_ref {cnf : List (List Int)} {a : List Int} (h0 : InL (InL (InK .i64)) cnf) (h1 : InL (InK .i64) a) : F_skolemref10_Under cnf a = some (undS cnf a) := by
  unfold F_skolemref10_Under undS
  rw [jn_eq, Cnf_eq h0]
  by_cases hc : (decide (cnf.length ≤ 20000) && cnfB 0 cnf) = true
  · rw [hc]
    simp only [Option.bind_some, Bool.not_true, Bool.false_eq_true, if_false, Normal_eq h1.1, true_and]
    by_cases ha : nrmB 0 a = true
    · simp only [ha, Bool.not_true, Bool.false_eq_true, if_false, if_true]
      simp only [Bool.and_eq_true, decide_eq_true_eq] at hc
      refine (rangeF_pre cnf (fun pre s => s.1.length ≤ pre.length ∧ s.2.length ≤ pre.length) (fun pre xs s => some ((undF a pre.length xs s).1, (undF a pre.length xs s).2, 0)) (fun s _ => rfl) (fun pre x xs s kk hf hI hk => ?_) cnf [] ([], []) rfl (by simp)).trans rfl
      have hx : nrmB 0 x = true := cnfB_mem hc.2 x (by rw [hf]; simp)
      have hlen : cnf.length = pre.length + (xs.length + 1) := by rw [hf]; simp
      rw [jn_eq, satisfied_eq, less_eq a hx]
      simp only [List.length_append, List.length_singleton] at hk
      by_cases h : hitB x a = true
      · simp only [h, Option.bind_some, Bool.not_true, Bool.false_eq_true, if_false, undF, if_true]
        exact hk s ⟨by omega, by omega⟩
      · simp only [Bool.not_eq_true] at h
        simp only [h, Option.bind_some, Bool.not_false, Bool.false_eq_true, if_false, undF, if_true]
        rw [capN_eq (by simp; omega), capN_eq (by simp; omega)]
        exact hk _ ⟨by simp; omega, by simp; omega⟩
    · simp [ha]
  · simp [hc]

theorem filter_take_succ {q : Int → Bool} {s : List Int} {j : Nat} {x : Int} (h : s[j]? = some x) : (s.take (j + 1)).filter q = (s.take j).filter q ++ (if q x = true then [x] else []) := by
  rw [List.take_add_one, h, Option.toList_some, List.filter_append]
  cases e : q x <;> simp [List.filter_cons, e]

/-- what DeleteFunc leaves -/
theorem delete_eq {R : Type} {a s : List Int} (hs : nrmB 0 s = true) (ha : a.length ≤ 9223372036854775807) (K : List Int → Option R) {kk : List Int × Nat → Option R} (hk : ∀ l n, kk (l, n) = K (l.take n)) :
    (jn (fun (s2385 : Int) => (if (s2385 == (-1 : Int)) = true then (kk (s, s.length)) else (whileF 1000000000000 (fun k2391 (s2389 : (Int × Int × (List Int))) => (if (decide (s2389.2.1 < ((s2389.2.2.length : Nat) : Int))) = true then (jn (fun (s2461 : (Int × (List Int))) => (k2391 (s2461.1, (IntKind.wrap .i64 (s2389.2.1 + (1 : Int))), s2461.2))) (fun k2463 => (getI s2389.2.2 s2389.2.1 (fun x2464 => ((F_slices_Contains_int_int a (IntKind.wrap .i64 (0 - x2464))).bind (fun y2468 => (if (!y2468) = true then (getI s2389.2.2 s2389.1 (fun x2470 => (k2463 ((IntKind.wrap .i64 (s2389.1 + (1 : Int))), (s2389.2.2.set s2389.1.toNat x2464))))) else (k2463 (s2389.1, s2389.2.2))))))))) else (okI (0 ≤ s2389.1 ∧ s2389.1.toNat ≤ s2389.2.2.length) (okI (s2389.1.toNat + (s2389.2.2.length - s2389.1.toNat) ≤ s2389.2.2.length) (okI (0 ≤ s2389.1 ∧ s2389.1.toNat ≤ s2389.2.2.length) (kk ((s2389.2.2.take s2389.1.toNat ++ List.replicate (s2389.2.2.length - s2389.1.toNat) (0 : Int) ++ s2389.2.2.drop (s2389.1.toNat + (s2389.2.2.length - s2389.1.toNat))), s2389.1.toNat))))))) (s2385, (IntKind.wrap .i64 (s2385 + (1 : Int))), s)))) (fun k2387 => (rangeF (fun (j2477 : Nat) (x2478 : Int) (s2474 : Unit) k2476 => ((F_slices_Contains_int_int a (IntKind.wrap .i64 (0 - x2478))).bind (fun y2497 => (if y2497 = true then (k2387 ((j2477 : Nat) : Int)) else (k2476 ()))))) 0 s () (fun (s2474 : Unit) => (k2387 (-1 : Int)))))) = K (lessL s a) := by
  have hlen := nrm_len' hs
  rw [jn_eq]
  have hq : ∀ x ∈ s, F_slices_Contains_int_int a (IntKind.wrap .i64 (0 - x)) = some (decide (-x ∈ a)) := fun x hx => by
    have := nrm_mem hs x hx
    rw [wrap_neg (by omega) (by omega), Contains_eq a _ ha]
  -- the part in front has none
  refine rangeF_pre s (fun pre _ => ∀ x ∈ pre, -x ∉ a) (fun _ _ _ => K (lessL s a)) (fun _ hI => ?_) (fun pre x xs u kk1 hf hI hk1 => ?_) s [] () rfl (by simp)
  · dsimp only
    rw [if_pos (by decide), hk]
    congr 1
    rw [List.take_length]; unfold lessL
    exact (List.filter_eq_self.2 (fun x hx => by simpa using hI x hx)).symm
  · rw [hq x (by rw [hf]; simp)]
    by_cases h : -x ∈ a
    · simp only [h, decide_true, Option.bind_some, if_true]
      have hl2 : s.length = pre.length + (xs.length + 1) := by rw [hf]; simp
      rw [if_neg (by simp only [beq_iff_eq]; omega), wrap_id (by omega) (by omega)]
      refine whileF_by (fun t => s.length - t.2.1.toNat) (fun t => ∃ i j : Nat, t.1 = (i : Int) ∧ t.2.1 = (j : Int) ∧ i ≤ j ∧ j ≤ s.length ∧ t.2.2.length = s.length ∧ t.2.2.take i = (s.take j).filter (fun x => decide (-x ∉ a)) ∧ t.2.2.drop j = s.drop j) (fun _ => K (lessL s a)) (fun t k1 hI1 hk2 => ?_) _ _ ⟨pre.length, pre.length + 1, rfl, by simp, by omega, by omega, rfl, ?_, rfl⟩ (by simp; omega)
      · obtain ⟨t1, t2, l⟩ := t
        obtain ⟨i, j, e1, e2, hij, hj, hl3, htk, hdr⟩ := hI1
        simp only at e1 e2 hl3 htk hdr hk2 ⊢
        subst e1; subst e2
        by_cases hlt : j < s.length
        · have hx : s[j]? = some s[j] := List.getElem?_eq_getElem hlt
          have hx2 : l[j]? = some s[j] := by
            have e := congrArg (fun z => z[0]?) hdr
            simp only [List.getElem?_drop, Nat.add_zero] at e
            rw [e, hx]
          rw [if_pos (by simp; omega), jn_eq, getI_eq (by omega) (by simpa using hx2), hq _ (List.getElem_mem hlt)]
          have hd2 : l.drop (j + 1) = s.drop (j + 1) := by
            have e := congrArg (List.drop 1) hdr
            simp only [List.drop_drop] at e
            exact e
          rw [wrap_id (n := (j : Int) + 1) (by omega) (by omega)]
          by_cases hm : -s[j] ∈ a
          · simp only [hm, decide_true, Option.bind_some, Bool.not_true, Bool.false_eq_true, if_false]
            refine hk2 _ ⟨i, j + 1, rfl, by simp, by omega, by omega, hl3, ?_, hd2⟩ (by simp; omega)
            rw [filter_take_succ hx]; simp [hm, htk]
          · simp only [hm, decide_false, Option.bind_some, Bool.not_false, if_true]
            have hi : l[i]? = some l[i] := List.getElem?_eq_getElem (by omega)
            rw [getI_eq (by omega) (by rw [Int.toNat_natCast]; exact hi), wrap_id (by omega) (by omega)]
            refine hk2 _ ⟨i + 1, j + 1, by simp, by simp, by omega, by omega, by simpa using hl3, ?_, ?_⟩ (by simp; omega)
            · rw [filter_take_succ hx]
              simp only [Int.toNat_natCast, hm, not_false_eq_true, decide_true, if_true]
              rw [List.take_add_one, List.getElem?_set_self (by omega), List.take_set_of_le (by omega), htk]; rfl
            · simp only [Int.toNat_natCast]
              rw [List.drop_set_of_lt (by omega)]; exact hd2
        · have hjn : j = s.length := by omega
          subst hjn
          have hi : i ≤ l.length := by omega
          rw [if_neg (by simp; omega), okI_eq ⟨by omega, by simp; omega⟩, okI_eq (by simp; omega), okI_eq ⟨by omega, by simp; omega⟩, hk]
          congr 1
          simp only [Int.toNat_natCast]
          rw [List.append_assoc, List.take_append_of_le_length (by simp; omega), List.take_take, Nat.min_self, htk, List.take_length]; rfl
      · rw [filter_take_succ (x := x) (by rw [hf]; simp), hf]
        simp only [List.take_left, h, not_true_eq_false, decide_false, Bool.false_eq_true, if_false, List.append_nil]
        exact (List.filter_eq_self.2 (fun x hx => by simpa using hI x hx)).symm
    · simp only [h, decide_false, Option.bind_some, Bool.false_eq_true, if_false]
      refine hk1 () (fun y hy => ?_)
      rcases List.mem_append.1 hy with hy | hy
      · exact hI y hy
      · simp only [List.mem_singleton] at hy; subst hy; exact h

theorem Under_prog {cnf : List (List Int)} {a : List Int} (h0 : InL (InL (InK .i64)) cnf) (h1 : InL (InK .i64) a) : F_proof_Under cnf a = some (undS cnf a) := by
  unfold F_proof_Under undS
  rw [jn_eq, cnf_eq]
  by_cases hc : (decide (cnf.length ≤ 20000) && cnfB 0 cnf) = true
  · rw [hc]
    simp only [Option.bind_some, Bool.not_true, Bool.false_eq_true, if_false, normal_eq, true_and]
    by_cases ha : nrmB 0 a = true
    · simp only [ha, Bool.not_true, Bool.false_eq_true, if_false, if_true]
      simp only [Bool.and_eq_true, decide_eq_true_eq] at hc
      refine (rangeF_pre cnf (fun pre s => s.1.length ≤ pre.length ∧ s.2.length ≤ pre.length) (fun pre xs s => some ((undF a pre.length xs s).1, (undF a pre.length xs s).2, 0)) (fun s _ => rfl) (fun pre x xs s kk hf hI hk => ?_) cnf [] ([], []) rfl (by simp)).trans rfl
      have hx : nrmB 0 x = true := cnfB_mem hc.2 x (by rw [hf]; simp)
      have hxl := nrm_len' hx
      have hlen : cnf.length = pre.length + (xs.length + 1) := by rw [hf]; simp
      rw [jn_eq, hits_eq _ _ h1.1]
      simp only [List.length_append, List.length_singleton] at hk
      by_cases h : hitB x a = true
      · simp only [h, Option.bind_some, if_true, undF]
        exact hk s ⟨by omega, by omega⟩
      · simp only [Bool.not_eq_true] at h
        simp only [h, Option.bind_some, Bool.false_eq_true, if_false, undF]
        rw [jn_eq]
        dsimp only
        have fin : ∀ y, y = x → capN (s.1.length + [lessL y a].length) (capN (s.2.length + [((pre.length : Nat) : Int)].length) (kk ((s.1 ++ [lessL y a]), (s.2 ++ [((pre.length : Nat) : Int)])))) = some ((undF a (pre.length + 1) xs (s.1 ++ [lessL x a], s.2 ++ [(pre.length : Int)])).1, (undF a (pre.length + 1) xs (s.1 ++ [lessL x a], s.2 ++ [(pre.length : Int)])).2, 0) := by
          rintro y rfl
          rw [capN_eq (by simp; omega), capN_eq (by simp; omega)]
          exact hk _ ⟨by simp; omega, by simp; omega⟩
        by_cases he : x.isEmpty = true
        · rw [if_pos he, jn_eq]
          exact (delete_eq (s := []) (kk := fun (s2355 : ((List Int) × Nat)) => (capN (s.1.length + [((s2355.1.take (0 + s2355.2)).drop 0)].length) (capN (s.2.length + [((pre.length : Nat) : Int)].length) (kk ((s.1 ++ [((s2355.1.take (0 + s2355.2)).drop 0)]), (s.2 ++ [((pre.length : Nat) : Int)])))))) rfl h1.1 (fun z => capN (s.1.length + [z].length) (capN (s.2.length + [((pre.length : Nat) : Int)].length) (kk ((s.1 ++ [z]), (s.2 ++ [((pre.length : Nat) : Int)]))))) (fun l n => by simp)).trans (fin [] (by simpa using he.symm))
        · rw [if_neg he, capN_eq (by simp; omega), jn_eq]
          exact (delete_eq (s := [] ++ x) (kk := fun (s2355 : ((List Int) × Nat)) => (capN (s.1.length + [((s2355.1.take (0 + s2355.2)).drop 0)].length) (capN (s.2.length + [((pre.length : Nat) : Int)].length) (kk ((s.1 ++ [((s2355.1.take (0 + s2355.2)).drop 0)]), (s.2 ++ [((pre.length : Nat) : Int)])))))) (by simpa using hx) h1.1 (fun z => capN (s.1.length + [z].length) (capN (s.2.length + [((pre.length : Nat) : Int)].length) (kk ((s.1 ++ [z]), (s.2 ++ [((pre.length : Nat) : Int)]))))) (fun l n => by simp)).trans (fin ([] ++ x) (by simp))
    · simp [ha]
  · simp [hc]

theorem undF_ok (a : List Int) {cnf : List (List Int)} : ∀ (xs pre : List (List Int)) (s : List (List Int) × List Int), cnf = pre ++ xs →
    (s.1.length = s.2.length ∧ s.1.length ≤ pre.length ∧ (∀ c ∈ s.1, ∃ d ∈ cnf, c = lessL d a) ∧ (∀ n ∈ s.2, 0 ≤ n ∧ n < pre.length)) →
    ((undF a pre.length xs s).1.length = (undF a pre.length xs s).2.length ∧ (undF a pre.length xs s).1.length ≤ cnf.length ∧ (∀ c ∈ (undF a pre.length xs s).1, ∃ d ∈ cnf, c = lessL d a) ∧ (∀ n ∈ (undF a pre.length xs s).2, 0 ≤ n ∧ n < cnf.length))
  | [], pre, s, hf, h => by
    rw [List.append_nil] at hf; subst hf
    exact h
  | c :: cs, pre, s, hf, ⟨h1, h2, h3, h4⟩ => by
    have := undF_ok a (cnf := cnf) cs (pre ++ [c]) (if hitB c a = true then s else (s.1 ++ [lessL c a], s.2 ++ [(pre.length : Int)])) (by simp [hf]) (by
      split
      · refine ⟨h1, by simp; omega, h3, fun n hn => ?_⟩
        have := h4 n hn; simp; omega
      · refine ⟨by simp; omega, by simp; omega, fun d hd => ?_, fun n hn => ?_⟩
        · rcases List.mem_append.1 hd with hd | hd
          · exact h3 d hd
          · simp only [List.mem_singleton] at hd
            exact ⟨c, by rw [hf]; simp, hd⟩
        · rcases List.mem_append.1 hn with hn | hn
          · have := h4 n hn; simp; omega
          · simp only [List.mem_singleton] at hn
            simp; omega)
    simpa only [List.length_append, List.length_singleton, undF] using this

theorem undS_ok {cnf : List (List Int)} {a : List Int} (h0 : InL (InL (InK .i64)) cnf) (h : (undS cnf a).2.2 = 0) : InL (InL (InK .i64)) (undS cnf a).1 ∧ (undS cnf a).1.length = (undS cnf a).2.1.length ∧ (undS cnf a).1.length ≤ cnf.length ∧ (∀ c ∈ (undS cnf a).1, ∃ d ∈ cnf, c = lessL d a) ∧ (∀ n ∈ (undS cnf a).2.1, 0 ≤ n ∧ n < cnf.length) ∧ (∀ c ∈ cnf, nrmB 0 c = true) ∧ nrmB 0 a = true ∧ cnf.length ≤ 20000 := by
  unfold undS at h ⊢
  split at h
  · rename_i hc
    rw [if_pos hc]
    simp only [Bool.and_eq_true, decide_eq_true_eq] at hc
    obtain ⟨h1, h2, h3, h4⟩ := undF_ok a cnf [] ([], []) (cnf := cnf) rfl (by simp)
    have h2' : (undF a 0 cnf ([], [])).1.length ≤ cnf.length := h2
    refine ⟨⟨Nat.le_trans h2' h0.1, fun c hc => ?_⟩, h1, h2, h3, h4, cnfB_mem hc.1.2, hc.2, hc.1.1⟩
    obtain ⟨d, hd, e⟩ := h3 c hc
    have hd := h0.2 d hd
    subst e
    refine ⟨Nat.le_trans (List.length_filter_le _ _) hd.1, fun x hx => hd.2 x ((List.mem_filter.1 hx).1)⟩
  · simp at h

/-- a proof is as itself -/
theorem SameProof_self (p : S_api_Proof) : F_skolemref09_SameProof p p = some true := by
  unfold F_skolemref09_SameProof
  rw [jn_eq]
  simp only [BEq.rfl, Bool.not_true, Bool.false_eq_true, if_false, bne_self_eq_false]
  refine rangeF_pre p.Lines (fun _ _ => True) (fun _ _ _ => some true) (fun _ _ => rfl) (fun pre x xs s kk hf _ hk => ?_) p.Lines [] () rfl trivial
  rw [getI_nat, hf]
  simp [jn_eq, Same_eq, hk () trivial]
theorem sameClauses_self (c : List (List Int)) : F_skolemlaw10_sameClauses c c = some true := by
  unfold F_skolemlaw10_sameClauses
  rw [if_neg (by simp)]
  refine rangeF_pre c (fun _ _ => True) (fun _ _ _ => some true) (fun _ _ => rfl) (fun pre x xs s kk hf _ hk => ?_) c [] () rfl trivial
  rw [getI_nat, hf]
  simp [Same_eq, hk () trivial]
end Go.Sk.X

namespace Go.Sk.X
open Go Go.Sk

/-! ### Lift -/
theorem chk_all' {cnf : List (List Int)} : ∀ (xs pre : List S_api_Line), chk cnf pre xs = none → ∀ p x q, xs = p ++ x :: q → RightP cnf (pre ++ p) x
  | [], pre, _, p, x, q, e => by simp at e
  | y :: ys, pre, h, p, x, q, e => by
    simp only [chk] at h
    split at h
    · rename_i hr
      cases p with
      | nil => simp only [List.nil_append, List.cons.injEq] at e; rw [← e.1]; simpa using hr
      | cons z p =>
        simp only [List.cons_append, List.cons.injEq] at e
        obtain ⟨e1, e2⟩ := e; subst e1
        have := chk_all' ys (pre ++ [y]) h p x q e2
        simpa using this
    · simp at h

theorem resS_nrm' {a b : List Int} {p : Int} (ha : nrmB 0 a = true) (hb : nrmB 0 b = true) : nrmB 0 (resS a b p).1 = true := by
  rcases h : resS a b p with ⟨m, b'⟩
  cases b' with
  | true => exact resS_nrm ha hb h
  | false =>
    unfold resS at h
    split at h
    · split at h
      · simp at h
      · injection h with h1 h2; rw [← h1]; rfl
    · injection h with h1 h2; rw [← h1]; rfl

theorem Lift_both {cnf : List (List Int)} {a : List Int} {p : S_api_Proof} (h0 : InL (InL (InK .i64)) cnf) (h1 : InL (InK .i64) a) (h2 : W_S_api_Proof p) : Both (F_proof_Lift cnf a p) (F_skolemref10_Lift cnf a p) := by
  unfold F_proof_Lift F_skolemref10_Lift
  rw [Under_prog h0 h1, Under_ref h0 h1]
  simp only [Option.bind_some]
  by_cases hu : (undS cnf a).2.2 = 0
  · obtain ⟨hw, hl, hl2, hc, hn, hcn, han, hl3⟩ := undS_ok h0 hu
    simp only [hu, bne_self_eq_false, Bool.false_eq_true, if_false]
    rw [Check_prog hw h2, Check_ref hw h2]
    simp only [Option.bind_some]
    by_cases hk : (checkS (undS cnf a).1 p).2.2 = 0
    · simp only [hk, bne_self_eq_false, Bool.false_eq_true, if_false]
      obtain ⟨hcn2, hfit, hchk, _⟩ := checkS_ok hk
      refine rangeF_both p.Lines (fun pre s => s.length = pre.length ∧ ∀ l ∈ s, nrmB 0 l.Lits = true) (fun s _ => ⟨_, rfl, rfl⟩) (fun pre x xs s kk1 kk2 hf hI hkk => ?_) p.Lines [] [] rfl ⟨rfl, by simp⟩
      have hx : W_S_api_Line x := h2.2.2 x (by rw [hf]; simp)
      have hlen : p.Lines.length = pre.length + (xs.length + 1) := by rw [hf]; simp
      have hfl := hfit.2.2
      have hr := chk_all' p.Lines [] hchk pre x xs hf
      simp only [List.nil_append] at hr
      have fin : ∀ (A : Int) (l : List Int), nrmB 0 l = true → Both (capN (s.length + [(S_api_Line.mk x.Rule A x.B x.Piv l)].length) (kk1 (s ++ [(S_api_Line.mk x.Rule A x.B x.Piv l)]))) (capN (s.length + [(S_api_Line.mk x.Rule A x.B x.Piv l)].length) (kk2 (s ++ [(S_api_Line.mk x.Rule A x.B x.Piv l)]))) := by
        intro A l hl
        rw [capN_eq (by simp; omega), capN_eq (by simp; omega)]
        refine hkk _ ⟨by simp [hI.1], fun z hz => ?_⟩
        rcases List.mem_append.1 hz with hz | hz
        · exact hI.2 z hz
        · simp only [List.mem_singleton] at hz; rw [hz]; exact hl
      simp only [jn_eq]
      rcases hr with ⟨r1, r2, r3, r4, r5, r6⟩ | ⟨r1, r2, r3, la, lb, e1, e2, e3⟩
      · rw [if_pos (by simp [r1]), if_pos (by simp [r1])]
        have hlt : x.A.toNat < (undS cnf a).2.1.length := by omega
        have g1 : (undS cnf a).2.1[x.A.toNat]? = some (undS cnf a).2.1[x.A.toNat] := List.getElem?_eq_getElem hlt
        have hb := hn _ (List.getElem_mem hlt)
        have g2 : cnf[((undS cnf a).2.1[x.A.toNat]).toNat]? = some cnf[((undS cnf a).2.1[x.A.toNat]).toNat] := List.getElem?_eq_getElem (by omega)
        have hnm := hcn _ (List.mem_of_getElem? g2)
        rw [getI_eq r2 g1, getI_eq r2 g1, getI_eq hb.1 g2, getI_eq hb.1 g2, Clone_eq _ (by have := nrm_len' hnm; omega)]
        simp only [Option.bind_some]
        exact fin _ _ hnm
      · rw [if_neg (by simp [r1]), if_neg (by simp [r1])]
        have hla : x.A.toNat < s.length := by rw [hI.1]; exact (List.getElem?_eq_some_iff.1 e1).1
        have hlb : x.B.toNat < s.length := by rw [hI.1]; exact (List.getElem?_eq_some_iff.1 e2).1
        have g1 : s[x.A.toNat]? = some s[x.A.toNat] := List.getElem?_eq_getElem hla
        have g2 : s[x.B.toNat]? = some s[x.B.toNat] := List.getElem?_eq_getElem hlb
        have n1 := hI.2 _ (List.getElem_mem hla)
        have n2 := hI.2 _ (List.getElem_mem hlb)
        rw [getI_eq r2 g1, getI_eq r2 g1, getI_eq r3 g2, getI_eq r3 g2, resolvent_eq n1 n2 hx.2.2.2.1, Resolvent_eq n1 n2 hx.2.2.2.1]
        simp only [Option.bind_some]
        exact fin _ _ (resS_nrm' n1 n2)
    · rw [if_pos (by simpa using hk), if_pos (by simpa using hk)]
      exact ⟨_, rfl, rfl⟩
  · rw [if_pos (by simpa using hu), if_pos (by simpa using hu)]
    exact ⟨_, rfl, rfl⟩

theorem law_ProofLifts {a0 : List (List Int)} {a1 : List Int} {a2 : S_api_Proof} (h0 : InL (InL (InK .i64)) a0) (h1 : InL (InK .i64) a1) (h2 : W_S_api_Proof a2) : F_skolemlaw10_ProofLifts a0 a1 a2 = some true := by
  obtain ⟨b, hb⟩ := large_some a0 a2
  unfold F_skolemlaw10_ProofLifts
  rw [jn_eq, hb]
  have hd : F_skolemlaw10_head.bind (fun y => some y) = some true := by simp [F_skolemlaw10_head]
  obtain ⟨r, e1, e2⟩ := Lift_both h0 h1 h2
  have main : ((F_proof_Lift a0 a1 a2).bind (fun y117 => ((F_skolemref10_Lift a0 a1 a2).bind (fun y118 => ((F_skolemref09_SameProof y117.1 y118.1).bind (fun y123 => (if y123 = true then (if (y117.2 == y118.2) = true then ((F_skolemlaw10_head).bind (fun y126 => (some y126))) else (some false)) else (some false)))))))) = some true := by
    rw [e1, e2]
    simp [SameProof_self, hd]
  cases b with
  | true => simpa using hd
  | false =>
    simp only [Option.bind_some, Bool.false_eq_true, if_false]
    split
    · exact hd
    · exact main
end Go.Sk.X

namespace Go.Sk.X
open Go Go.Sk

/-! ### Lines in order, and which of them a line needs -/
def OrdL (l : List S_api_Line) : Prop := ∀ (k : Nat) (x : S_api_Line), l[k]? = some x → x.Rule = 2 → 0 ≤ x.A ∧ x.A < k ∧ 0 ≤ x.B ∧ x.B < k

/-- what place k asks for -/
def need1 (l : List S_api_Line) (k : Nat) (m : List Bool) : List Bool :=
  if m.getD k false = true then (match l[k]? with | some x => if x.Rule = 2 then (m.set x.A.toNat true).set x.B.toNat true else m | none => m) else m
def needF (l : List S_api_Line) : Nat → List Bool → List Bool
  | 0, m => m
  | k + 1, m => needF l k (need1 l k m)

theorem need1_length (l : List S_api_Line) (k : Nat) (m : List Bool) : (need1 l k m).length = m.length := by
  unfold need1
  split
  · split
    · split <;> simp
    · rfl
  · rfl
theorem needF_length (l : List S_api_Line) : ∀ (k : Nat) (m : List Bool), (needF l k m).length = m.length
  | 0, _ => rfl
  | k + 1, m => by rw [needF, needF_length l k, need1_length]

/-- nothing behind is asked for -/
theorem need1_behind {l : List S_api_Line} (ho : OrdL l) {k b : Nat} {m : List Bool} (hk : k ≤ b) (h : ∀ i, b < i → m.getD i false = false) : ∀ i, b < i → (need1 l k m).getD i false = false := by
  intro i hi
  unfold need1
  split
  · split
    · rename_i x hx
      split
      · rename_i hr
        have := ho k x hx hr
        rw [List.getD_eq_getElem?_getD, List.getElem?_set_ne (by omega), List.getElem?_set_ne (by omega), ← List.getD_eq_getElem?_getD]
        exact h i hi
      · exact h i hi
    · exact h i hi
  · exact h i hi
theorem needF_behind {l : List S_api_Line} (ho : OrdL l) {b : Nat} : ∀ (k : Nat) (m : List Bool), k ≤ b + 1 → (∀ i, b < i → m.getD i false = false) → ∀ i, b < i → (needF l k m).getD i false = false
  | 0, m, _, h => h
  | k + 1, m, hk, h => needF_behind ho k _ (by omega) (need1_behind ho (by omega) h)

def needS (l : List S_api_Line) (last : Nat) : List Bool := needF l (last + 1) ((List.replicate l.length false).set last true)

theorem needS_length (l : List S_api_Line) (last : Nat) : (needS l last).length = l.length := by simp [needS, needF_length]
theorem needS_behind {l : List S_api_Line} (ho : OrdL l) {last : Nat} : ∀ i, last < i → (needS l last).getD i false = false := by
  refine needF_behind ho _ _ (Nat.le_refl _) (fun i hi => ?_)
  rw [List.getD_eq_getElem?_getD, List.getElem?_set_ne (by omega)]
  rw [List.getElem?_replicate]
  split <;> rfl

theorem getD_get {α : Type} {l : List α} {k : Nat} {d : α} (h : k < l.length) : l[k]? = some (l.getD k d) := by
  rw [List.getD_eq_getElem?_getD, List.getElem?_eq_getElem h]; rfl

theorem Needed_prog {l : List S_api_Line} (ho : OrdL l) {last : Nat} (h : last < l.length) (hl : l.length ≤ 1000000) : F_proof_needed l (last : Int) = some (needS l last) := by
  unfold F_proof_needed
  rw [okI_eq (by omega), getI_nat, List.getElem?_replicate, if_pos h]
  simp only
  rw [wrap_id (by omega) (by omega), okI_eq ⟨by omega, by omega⟩]
  have e1 : ((last : Int) + 1).toNat = last + 1 := by omega
  rw [e1, List.length_take, Nat.min_eq_left (by omega), Int.toNat_natCast]
  refine whileF_by (fun (s : Int × List Bool) => (s.1 + 1).toNat) (fun s => -1 ≤ s.1 ∧ s.1 ≤ (last : Int) ∧ s.2.length = l.length) (fun s => some (needF l (s.1 + 1).toNat s.2)) (fun s kk hI hk => ?_) _ _ ⟨by rw [wrap_id (by omega) (by omega)]; omega, by rw [wrap_id (by omega) (by omega)]; omega, by simp⟩ (by rw [wrap_id (by omega) (by omega)]; omega) |>.trans ?_
  · obtain ⟨i, m⟩ := s
    obtain ⟨h1, h2, h3⟩ := hI
    simp only at h1 h2 h3 hk ⊢
    by_cases hi : 0 ≤ i
    · obtain ⟨k, rfl⟩ : ∃ k : Nat, i = k := ⟨i.toNat, by omega⟩
      have hkl : k < l.length := by omega
      have g1 : (l.take (last + 1))[(k : Int).toNat]? = some l[k] := by
        rw [Int.toNat_natCast, List.getElem?_take_of_lt (by omega), List.getElem?_eq_getElem hkl]
      have g2 : m[(k : Int).toNat]? = some (m.getD k false) := by rw [Int.toNat_natCast]; exact getD_get (by omega)
      rw [if_pos (by simp), getI_eq (by omega) g1, jn_eq, jn_eq, getI_eq (by omega) g2, wrap_id (by omega) (by omega)]
      have e2 : ((k : Int) + 1).toNat = k + 1 := by omega
      have e3 : ((k : Int) - 1 + 1).toNat = k := by omega
      have hk2 : ∀ m', m'.length = l.length → kk ((k : Int) - 1, m') = some (needF l k m') := fun m' hm' => by
        have := hk ((k : Int) - 1, m') ⟨by omega, by omega, hm'⟩ (by simp only; omega)
        rw [this]; simp only [e3]
      rw [e2, needF, need1, List.getElem?_eq_getElem hkl]
      by_cases hb : m.getD k false = true
      · rw [hb]
        simp only [if_true]
        by_cases hr : (l[k]).Rule = 2
        · have hoo := ho k _ (List.getElem?_eq_getElem hkl) hr
          rw [if_pos (by simpa using hr), if_pos hr]
          have g3 : m[(l[k]).A.toNat]? = some (m.getD (l[k]).A.toNat false) := getD_get (by omega)
          have g4 : (m.set (l[k]).A.toNat true)[(l[k]).B.toNat]? = some ((m.set (l[k]).A.toNat true).getD (l[k]).B.toNat false) := getD_get (by rw [List.length_set]; omega)
          rw [getI_eq hoo.1 g3, getI_eq hoo.2.2.1 g4]
          exact hk2 _ (by simpa using h3)
        · rw [if_neg (by simpa using hr), if_neg hr]
          exact hk2 _ h3
      · rw [if_neg hb]
        simp only [Bool.not_eq_true] at hb
        rw [hb]
        simp only [Bool.false_eq_true, if_false]
        exact hk2 _ h3
    · have : i = -1 := by omega
      subst this
      rw [if_neg (by simp)]
      rfl
  · simp only
    rw [wrap_id (by omega) (by omega)]
    have e : (((last + 1 : Nat) : Int) - 1 + 1).toNat = last + 1 := by omega
    rw [e]; rfl

theorem Needed_ref {l : List S_api_Line} (ho : OrdL l) {last : Nat} (h : last < l.length) (hl : l.length ≤ 1000000) : F_skolemref10_needed l (last : Int) = some (needS l last) := by
  unfold F_skolemref10_needed
  rw [okI_eq (by omega), getI_nat, List.getElem?_replicate, if_pos h]
  simp only [Int.toNat_natCast]
  refine whileF_by (fun (s : Int × List Bool) => (s.1 + 1).toNat) (fun s => -1 ≤ s.1 ∧ s.1 ≤ (last : Int) ∧ s.2.length = l.length) (fun s => some (needF l (s.1 + 1).toNat s.2)) (fun s kk hI hk => ?_) _ _ ⟨by simp only; omega, by simp only; omega, by simp⟩ (by simp only; omega) |>.trans ?_
  · obtain ⟨i, m⟩ := s
    obtain ⟨h1, h2, h3⟩ := hI
    simp only at h1 h2 h3 hk ⊢
    by_cases hi : 0 ≤ i
    · obtain ⟨k, rfl⟩ : ∃ k : Nat, i = k := ⟨i.toNat, by omega⟩
      have hkl : k < l.length := by omega
      have g1 : l[(k : Int).toNat]? = some l[k] := by
        rw [Int.toNat_natCast, List.getElem?_eq_getElem hkl]
      have g2 : m[(k : Int).toNat]? = some (m.getD k false) := by rw [Int.toNat_natCast]; exact getD_get (by omega)
      rw [if_pos (by simp), jn_eq, jn_eq, getI_eq (by omega) g2, wrap_id (by omega) (by omega)]
      have e2 : ((k : Int) + 1).toNat = k + 1 := by omega
      have e3 : ((k : Int) - 1 + 1).toNat = k := by omega
      have hk2 : ∀ m', m'.length = l.length → kk ((k : Int) - 1, m') = some (needF l k m') := fun m' hm' => by
        have := hk ((k : Int) - 1, m') ⟨by omega, by omega, hm'⟩ (by simp only; omega)
        rw [this]; simp only [e3]
      rw [e2, needF, need1, List.getElem?_eq_getElem hkl]
      by_cases hb : m.getD k false = true
      · rw [hb]
        simp only [if_true]
        rw [getI_eq (by omega) g1]
        by_cases hr : (l[k]).Rule = 2
        · have hoo := ho k _ (List.getElem?_eq_getElem hkl) hr
          rw [if_pos (by simpa using hr), if_pos hr]
          have g3 : m[(l[k]).A.toNat]? = some (m.getD (l[k]).A.toNat false) := getD_get (by omega)
          have g4 : (m.set (l[k]).A.toNat true)[(l[k]).B.toNat]? = some ((m.set (l[k]).A.toNat true).getD (l[k]).B.toNat false) := getD_get (by rw [List.length_set]; omega)
          rw [getI_eq (by omega) g1, getI_eq hoo.1 g3, getI_eq hoo.2.2.1 g4]
          exact hk2 _ (by simpa using h3)
        · rw [if_neg (by simpa using hr), if_neg hr]
          exact hk2 _ h3
      · rw [if_neg hb]
        simp only [Bool.not_eq_true] at hb
        rw [hb]
        simp only [Bool.false_eq_true, if_false]
        exact hk2 _ h3
    · have : i = -1 := by omega
      subst this
      rw [if_neg (by simp)]
      rfl
  · simp only
    have e : ((last : Int) + 1).toNat = last + 1 := by omega
    rw [e]; rfl

/-! ### kept -/
def keep1 (l : List S_api_Line) (j : Nat) (s : List Int × List S_api_Line) : List Int × List S_api_Line :=
  match l[j]? with
  | some x => (s.1.set j (s.2.length : Int), s.2 ++ [S_api_Line.mk x.Rule (if x.Rule = 2 then s.1.getD x.A.toNat 0 else x.A) (if x.Rule = 2 then s.1.getD x.B.toNat 0 else x.B) x.Piv x.Lits])
  | none => s
def keepF (l : List S_api_Line) : Nat → List Bool → List Int × List S_api_Line → List Int × List S_api_Line
  | _, [], s => s
  | j, b :: bs, s => keepF l (j + 1) bs (if b = true then keep1 l j s else s)

def keptS (l : List S_api_Line) (last : Nat) : S_api_Proof := S_api_Proof.mk false (keepF l 0 (needS l last) (List.replicate l.length 0, [])).2

theorem keepF_false (l : List S_api_Line) : ∀ (bs : List Bool) (j : Nat) (s : List Int × List S_api_Line), (∀ b ∈ bs, b = false) → keepF l j bs s = s
  | [], _, _, _ => rfl
  | b :: bs, j, s, h => by
    rw [keepF, h b (by simp)]
    exact keepF_false l bs (j + 1) s (fun b hb => h b (by simp [hb]))

theorem keep1_len {l : List S_api_Line} {j : Nat} (h : j < l.length) (s : List Int × List S_api_Line) : (keep1 l j s).1.length = s.1.length ∧ (keep1 l j s).2.length = s.2.length + 1 := by
  unfold keep1; rw [List.getElem?_eq_getElem h]; simp

theorem Kept_prog {l : List S_api_Line} (ho : OrdL l) (hL : ∀ x ∈ l, x.Lits.length ≤ 1099511627776) {last : Nat} (h : last < l.length) (hl : l.length ≤ 1000000) : F_proof_kept l (last : Int) = some (keptS l last) := by
  unfold F_proof_kept
  rw [okI_eq (by omega), Needed_prog ho h hl]
  simp only [Option.bind_some]
  have hnl := needS_length l last
  refine rangeF_pre (needS l last) (fun pre s => s.1.length = l.length ∧ s.2.length ≤ pre.length) (fun pre xs s => some (S_api_Proof.mk false (keepF l pre.length xs s).2)) (fun s _ => rfl) (fun pre b bs s kk hf hI hk => ?_) _ [] _ rfl ⟨by simp, by simp⟩
  have hlen : l.length = pre.length + (bs.length + 1) := by rw [← hnl, hf]; simp
  simp only [jn_eq, List.length_append, List.length_singleton] at hk ⊢
  cases b with
  | false =>
    simp only [Bool.not_false, if_true, keepF, Bool.false_eq_true, if_false]
    exact hk s ⟨hI.1, by omega⟩
  | true =>
    have hj : l[pre.length]? = some l[pre.length] := List.getElem?_eq_getElem (by omega)
    simp only [Bool.not_true, if_true, keepF, Bool.false_eq_true, if_false]
    rw [getI_nat, hj]
    simp only
    rw [Clone_eq _ (hL _ (List.mem_of_getElem? hj))]
    simp only [Option.bind_some]
    have hp : s.1[((pre.length : Nat) : Int).toNat]? = some (s.1.getD pre.length 0) := by rw [Int.toNat_natCast]; exact getD_get (by omega)
    have hk1 := keep1_len (l := l) (j := pre.length) (by omega) s
    have hk := hk (keep1 l pre.length s) ⟨by rw [hk1.1]; exact hI.1, by rw [hk1.2]; omega⟩
    unfold keep1 at hk ⊢
    rw [hj] at hk ⊢
    by_cases hr : (l[pre.length]).Rule = 2
    · have hoo := ho _ _ hj hr
      have g3 : s.1[(l[pre.length]).A.toNat]? = some (s.1.getD (l[pre.length]).A.toNat 0) := getD_get (by omega)
      have g4 : s.1[(l[pre.length]).B.toNat]? = some (s.1.getD (l[pre.length]).B.toNat 0) := getD_get (by omega)
      rw [if_pos (by simpa using hr), getI_eq hoo.1 g3, getI_eq hoo.2.2.1 g4, getI_eq (by omega) hp, capN_eq (by simp; omega)]
      simp only [hr, if_true, Int.toNat_natCast] at hk ⊢
      exact hk
    · rw [if_neg (by simpa using hr), getI_eq (by omega) hp, capN_eq (by simp; omega)]
      simp only [hr, if_false, Int.toNat_natCast] at hk ⊢
      exact hk

theorem Kept_ref {l : List S_api_Line} (ho : OrdL l) {last : Nat} (h : last < l.length) (hl : l.length ≤ 1000000) : F_skolemref10_kept l (last : Int) = some (keptS l last) := by
  unfold F_skolemref10_kept
  rw [Needed_ref ho h hl]
  simp only [Option.bind_some]
  rw [okI_eq (by omega)]
  have hnl := needS_length l last
  refine whileF_by (fun (s : Int × List Int × List S_api_Line) => ((last : Int) + 1 - s.1).toNat) (fun s => 0 ≤ s.1 ∧ s.1 ≤ (last : Int) + 1 ∧ s.2.1.length = l.length ∧ s.2.2.length ≤ s.1.toNat) (fun s => some (S_api_Proof.mk false (keepF l s.1.toNat ((needS l last).drop s.1.toNat) s.2).2)) (fun s kk hI hk => ?_) _ _ ⟨by simp, by simp only; omega, by simp, by simp⟩ (by simp only; omega) |>.trans ?_
  · obtain ⟨i, s⟩ := s
    obtain ⟨h1, h2, h3, h4⟩ := hI
    simp only at h1 h2 h3 h4 hk ⊢
    obtain ⟨j, rfl⟩ : ∃ k : Nat, i = k := ⟨i.toNat, by omega⟩
    simp only [Int.toNat_natCast] at h4 ⊢
    by_cases hi : j ≤ last
    · have hjl : j < l.length := by omega
      have g0 : (needS l last)[j]? = some (needS l last)[j] := List.getElem?_eq_getElem (by omega)
      have hj : l[j]? = some l[j] := List.getElem?_eq_getElem hjl
      have hd : (needS l last).drop j = (needS l last)[j] :: (needS l last).drop (j + 1) := List.drop_eq_getElem_cons (by omega)
      rw [if_pos (by simp; omega), jn_eq, getI_nat, g0, hd]
      simp only
      rw [wrap_id (by omega) (by omega)]
      have e2 : ((j : Int) + 1).toNat = j + 1 := by omega
      have hk2 : ∀ s', s'.1.length = l.length → s'.2.length ≤ j + 1 → kk ((j : Int) + 1, s'.1, s'.2) = some (S_api_Proof.mk false (keepF l (j + 1) ((needS l last).drop (j + 1)) s').2) := fun s' a1 a2 => by
        have := hk ((j : Int) + 1, s'.1, s'.2) ⟨by omega, by omega, a1, by simp only [e2]; exact a2⟩ (by simp only; omega)
        rw [this]; simp only [e2]
      generalize (needS l last)[j] = b
      cases b with
      | false =>
        simp only [Bool.not_false, if_true, keepF, Bool.false_eq_true, if_false]
        exact hk2 s h3 (by omega)
      | true =>
        simp only [Bool.not_true, if_true, keepF, Bool.false_eq_true, if_false]
        rw [getI_nat, hj]
        simp only [jn_eq]
        have hp : s.1[(j : Int).toNat]? = some (s.1.getD j 0) := by rw [Int.toNat_natCast]; exact getD_get (by omega)
        have hk1 := keep1_len (l := l) hjl s
        have hk := hk2 (keep1 l j s) (by rw [hk1.1]; exact h3) (by rw [hk1.2]; omega)
        unfold keep1 at hk ⊢
        rw [hj] at hk ⊢
        by_cases hr : (l[j]).Rule = 2
        · have hoo := ho _ _ hj hr
          have g3 : s.1[(l[j]).A.toNat]? = some (s.1.getD (l[j]).A.toNat 0) := getD_get (by omega)
          have g4 : s.1[(l[j]).B.toNat]? = some (s.1.getD (l[j]).B.toNat 0) := getD_get (by omega)
          rw [if_pos (by simpa using hr), getI_eq hoo.1 g3, getI_eq hoo.2.2.1 g4, getI_eq (by omega) hp, capN_eq (by simp; omega)]
          simp only [hr, if_true, Int.toNat_natCast] at hk ⊢
          exact hk
        · rw [if_neg (by simpa using hr), getI_eq (by omega) hp, capN_eq (by simp; omega)]
          simp only [hr, if_false, Int.toNat_natCast] at hk ⊢
          exact hk
    · rw [if_neg (by simp; omega)]
      have : j = last + 1 := by omega
      subst this
      congr 2
      rw [keepF_false]
      intro b hb
      obtain ⟨i, hi, he⟩ := List.mem_iff_getElem.1 hb
      have := needS_behind ho (last := last) (last + 1 + i) (by omega)
      rw [List.getD_eq_getElem?_getD, ← List.getElem?_drop, List.getElem?_eq_getElem hi, he] at this
      exact this
  · simp [keptS]

/-! ### the place in a list that ascends -/
def Asc (l : List Int) : Prop := ∀ (i j : Nat) (x y : Int), l[i]? = some x → l[j]? = some y → i < j → x < y

theorem At_eq {l : List Int} (ha : Asc l) {n : Nat} {t : Int} (h : l[n]? = some t) : F_skolemref10_at l t = some (n : Int) := by
  unfold F_skolemref10_at
  refine rangeF_pre l (fun pre _ => ∀ y ∈ pre, y ≠ t) (fun _ _ _ => some (n : Int)) (fun _ hI => absurd rfl (hI t (List.mem_of_getElem? h))) (fun pre x xs s kk hf hI hk => ?_) l [] () rfl (by simp)
  by_cases hx : x = t
  · rw [if_pos (by simpa using hx)]
    have h2 : l[pre.length]? = some t := by rw [hf]; simp [hx]
    have : pre.length = n := by
      rcases Nat.lt_trichotomy pre.length n with h3 | h3 | h3
      · have := ha _ _ _ _ h2 h h3; omega
      · exact h3
      · have := ha _ _ _ _ h h2 h3; omega
    rw [this]
  · rw [if_neg (by simpa using hx)]
    refine hk () (fun y hy => ?_)
    rcases List.mem_append.1 hy with hy | hy
    · exact hI y hy
    · simp only [List.mem_singleton] at hy; rw [hy]; exact hx

theorem wrapU_id {n : Int} (h0 : 0 ≤ n) (h1 : n ≤ 9223372036854775807) : IntKind.wrap .u64 n = n := by
  simp only [IntKind.wrap, IntKind.bits, IntKind.signed, Bool.false_and, Bool.false_eq_true, if_false]
  omega

theorem Less_eq (a b : Int) : F_cmp_Less_int a b = some (decide (a < b)) := by
  unfold F_cmp_Less_int F_cmp_isNaN_int
  simp

theorem Search_eq {l : List Int} (ha : Asc l) (hl : l.length ≤ 1000000) {n : Nat} {t : Int} (h : l[n]? = some t) : F_slices_BinarySearch_int_int l t = some ((n : Int), true) := by
  unfold F_slices_BinarySearch_int_int
  have hn : n < l.length := (List.getElem?_eq_some_iff.1 h).1
  refine whileF_by (fun (s : Int × Int) => (s.2 - s.1).toNat) (fun s => 0 ≤ s.1 ∧ s.1 ≤ (n : Int) ∧ (n : Int) ≤ s.2 ∧ s.2 ≤ (l.length : Int)) (fun s => some ((n : Int), true)) (fun s kk hI hk => ?_) _ _ ⟨by simp, by simp only; omega, by simp only; omega, by simp⟩ (by simp only; omega)
  obtain ⟨lo, hi⟩ := s
  obtain ⟨h1, h2, h3, h4⟩ := hI
  simp only at h1 h2 h3 h4 hk ⊢
  by_cases hlt : lo < hi
  · rw [if_pos (by simpa using hlt), okI_eq (by decide)]
    have e2 : (2 : Int) ^ (min (1 : Int).toNat (IntKind.bits .u64)) = 2 := by decide
    rw [e2, wrap_id (n := lo + hi) (by omega) (by omega), wrapU_id (by omega) (by omega)]
    have e3 : Int.fdiv (lo + hi) 2 = (lo + hi) / 2 := Int.fdiv_eq_ediv_of_nonneg _ (by omega)
    rw [e3, wrap_id (n := (lo + hi) / 2) (by omega) (by omega)]
    generalize hm : (lo + hi) / 2 = mid
    have hmid : lo ≤ mid ∧ mid < hi := by omega
    obtain ⟨v, g1⟩ : ∃ v, l[mid.toNat]? = some v := ⟨_, List.getElem?_eq_getElem (by omega)⟩
    rw [getI_eq (by omega) g1, Less_eq]
    simp only [Option.bind_some]
    by_cases hc : v < t
    · rw [if_pos (by simpa using hc), wrap_id (by omega) (by omega)]
      have : mid < n := by
        rcases Int.lt_trichotomy mid n with h5 | h5 | h5
        · exact h5
        · have e : mid.toNat = n := by omega
          rw [e] at g1; rw [h] at g1; injection g1 with g1; omega
        · have := ha _ _ _ _ h g1 (by omega); omega
      exact hk _ ⟨by simp only; omega, by simp only; omega, by simp only; omega, by simp only; omega⟩ (by simp only; omega)
    · rw [if_neg (by simpa using hc)]
      have : n ≤ mid := by
        rcases Int.lt_trichotomy mid n with h5 | h5 | h5
        · have := ha _ _ _ _ g1 h (by omega); omega
        · omega
        · omega
      exact hk _ ⟨by simp only; omega, by simp only; omega, by simp only; omega, by simp only; omega⟩ (by simp only; omega)
  · have : lo = n := by omega
    subst this
    rw [if_neg (by simpa using hlt), if_pos (by simp; omega), getI_nat, h]
    simp
end Go.Sk.X

namespace Go.Sk.X
open Go Go.Sk

/-! ### Restrict -/
/-- the clauses that are left, and the numbers that they had -/
structure UndI (a : List Int) (cnf : List (List Int)) (n : Nat) (s : List (List Int) × List Int) : Prop where
  le : ∀ x ∈ s.2, x < n
  asc : Asc s.2
  len : s.1.length = s.2.length
  at_ : ∀ (i : Nat) (c : List Int), i < n → cnf[i]? = some c → hitB c a = false → ∃ k : Nat, s.2[k]? = some (i : Int) ∧ s.1[k]? = some (lessL c a)

theorem asc_app {l : List Int} (h : Asc l) {y : Int} (hy : ∀ x ∈ l, x < y) : Asc (l ++ [y]) := by
  intro i j u v hi hj hij
  have hjl : j < (l ++ [y]).length := (List.getElem?_eq_some_iff.1 hj).1
  rw [List.length_append, List.length_singleton] at hjl
  rw [List.getElem?_append_left (by omega)] at hi
  by_cases hj2 : j < l.length
  · rw [List.getElem?_append_left hj2] at hj
    exact h i j u v hi hj hij
  · rw [List.getElem?_append_right (by omega)] at hj
    have : j - l.length = 0 := by omega
    rw [this] at hj
    simp only [List.getElem?_cons_zero, Option.some.injEq] at hj
    subst hj
    exact hy u (List.mem_of_getElem? hi)

theorem undF_at (a : List Int) {cnf : List (List Int)} : ∀ (xs pre : List (List Int)) (s : List (List Int) × List Int), cnf = pre ++ xs → UndI a cnf pre.length s → UndI a cnf cnf.length (undF a pre.length xs s)
  | [], pre, s, hf, h => by
    rw [List.append_nil] at hf; subst hf
    exact h
  | c :: cs, pre, s, hf, h => by
    have hc : cnf[pre.length]? = some c := by rw [hf]; simp
    have := undF_at a (cnf := cnf) cs (pre ++ [c]) (if hitB c a = true then s else (s.1 ++ [lessL c a], s.2 ++ [(pre.length : Int)])) (by simp [hf]) (by
      split
      · rename_i hh
        refine ⟨fun x hx => by have := h.le x hx; simp; omega, h.asc, h.len, fun i d hi hd hn => ?_⟩
        simp only [List.length_append, List.length_singleton] at hi
        by_cases e : i = pre.length
        · subst e; rw [hc] at hd; injection hd with hd; subst hd; rw [hh] at hn; simp at hn
        · exact h.at_ i d (by omega) hd hn
      · refine ⟨fun x hx => ?_, asc_app h.asc h.le, by simp [h.len], fun i d hi hd hn => ?_⟩
        · simp only [List.length_append, List.length_singleton]
          rcases List.mem_append.1 hx with hx | hx
          · have := h.le x hx; omega
          · simp only [List.mem_singleton] at hx; omega
        · simp only [List.length_append, List.length_singleton] at hi
          by_cases e : i = pre.length
          · subst e; rw [hc] at hd; injection hd with hd; subst hd
            exact ⟨s.2.length, by simp, by rw [← h.len]; simp⟩
          · obtain ⟨k, h1, h2⟩ := h.at_ i d (by omega) hd hn
            refine ⟨k, ?_, ?_⟩
            · rw [List.getElem?_append_left (List.getElem?_eq_some_iff.1 h1).1]; exact h1
            · rw [List.getElem?_append_left (List.getElem?_eq_some_iff.1 h2).1]; exact h2)
    simpa only [List.length_append, List.length_singleton, undF] using this

theorem undS_at {cnf : List (List Int)} {a : List Int} (h : (undS cnf a).2.2 = 0) : UndI a cnf cnf.length ((undS cnf a).1, (undS cnf a).2.1) := by
  unfold undS at h ⊢
  split at h
  · rename_i hc
    rw [if_pos hc]
    exact undF_at a (cnf := cnf) cnf [] ([], []) rfl ⟨by simp, fun i j x y hi => by simp at hi, rfl, fun i c hi => by simp at hi⟩
  · simp at h

theorem resS_mem {a b m : List Int} {p : Int} (ha : nrmB 0 a = true) (hb : nrmB 0 b = true) (h : resS a b p = (m, true)) : 1 ≤ p ∧ p ∈ a ∧ -p ∈ b ∧ (∀ z ∈ a, z ≠ p → z ∈ m) ∧ (∀ z ∈ b, z ≠ -p → z ∈ m) := by
  unfold resS at h
  split at h
  · rename_i hc
    by_cases hn : NoClash p a b
    · obtain ⟨m', h1, h2⟩ := mg_some (by omega) _ a b 0 (Nat.le_refl _) (by omega) ha hb hn
      rw [h1] at h
      injection h with h _; subst h
      exact ⟨hc.1, hc.2.1, hc.2.2, fun z hz e => (h2 z).2 (.inl ⟨hz, .inl e⟩), fun z hz e => (h2 z).2 (.inr ⟨hz, .inl e⟩)⟩
    · rw [mg_none (by omega) _ a b 0 (Nat.le_refl _) (by omega) ha hb hn] at h
      simp at h
  · simp at h

theorem hit_false {l a : List Int} : hitB l a = false ↔ ∀ x ∈ l, x ∉ a := by
  unfold hitB
  simp

/-- the lines so far -/
structure ResI (a : List Int) (n : Nat) (pre : List S_api_Line) (s : List Int × List S_api_Line) : Prop where
  len : s.1.length = n
  le : s.2.length ≤ pre.length
  nrm : ∀ l ∈ s.2, nrmB 0 l.Lits = true
  ord : OrdL s.2
  at_ : ∀ (i : Nat) (x : S_api_Line), pre[i]? = some x → hitB x.Lits a = false → ∃ k : Nat, s.1[i]? = some (k : Int) ∧ k < s.2.length

theorem resI_app {a : List Int} {n : Nat} {pre : List S_api_Line} {x : S_api_Line} {s : List Int × List S_api_Line} (h : ResI a n pre s) (hp : pre.length < n) {l : S_api_Line} (hl : nrmB 0 l.Lits = true)
    (ho : l.Rule = 2 → 0 ≤ l.A ∧ l.A < s.2.length ∧ 0 ≤ l.B ∧ l.B < s.2.length) : ResI a n (pre ++ [x]) (s.1.set pre.length (s.2.length : Int), s.2 ++ [l]) := by
  refine ⟨by simpa using h.len, by have := h.le; simp; omega, fun z hz => ?_, fun k z hk hr => ?_, fun i y hi hn => ?_⟩
  · rcases List.mem_append.1 hz with hz | hz
    · exact h.nrm z hz
    · simp only [List.mem_singleton] at hz; rw [hz]; exact hl
  · have hkl : k < (s.2 ++ [l]).length := (List.getElem?_eq_some_iff.1 hk).1
    rw [List.length_append, List.length_singleton] at hkl
    by_cases e : k < s.2.length
    · simp only [] at hk
      rw [List.getElem?_append_left e] at hk
      exact h.ord k z hk hr
    · have e2 : k = s.2.length := by omega
      subst e2
      simp only [List.getElem?_concat_length, Option.some.injEq] at hk
      subst hk
      exact ho hr
  · have hil : i < (pre ++ [x]).length := (List.getElem?_eq_some_iff.1 hi).1
    rw [List.length_append, List.length_singleton] at hil
    have h1 := h.len
    by_cases e : i < pre.length
    · rw [List.getElem?_append_left e] at hi
      obtain ⟨k, h1, h2⟩ := h.at_ i y hi hn
      exact ⟨k, by simp only; rw [List.getElem?_set_ne (by omega)]; exact h1, by simp; omega⟩
    · have e2 : i = pre.length := by omega
      subst e2
      exact ⟨s.2.length, by simp only; rw [List.getElem?_set_self (by omega)], by simp⟩
theorem resI_set {a : List Int} {n : Nat} {pre : List S_api_Line} {x : S_api_Line} {s : List Int × List S_api_Line} (h : ResI a n pre s) (hp : pre.length < n) {k : Nat} (hk : k < s.2.length) : ResI a n (pre ++ [x]) (s.1.set pre.length (k : Int), s.2) := by
  refine ⟨by simpa using h.len, by have := h.le; simp; omega, h.nrm, h.ord, fun i y hi hn => ?_⟩
  have hil : i < (pre ++ [x]).length := (List.getElem?_eq_some_iff.1 hi).1
  rw [List.length_append, List.length_singleton] at hil
  have h1 := h.len
  by_cases e : i < pre.length
  · rw [List.getElem?_append_left e] at hi
    obtain ⟨k, h1, h2⟩ := h.at_ i y hi hn
    exact ⟨k, by simp only; rw [List.getElem?_set_ne (by omega)]; exact h1, h2⟩
  · have e2 : i = pre.length := by omega
    subst e2
    exact ⟨k, by simp only; rw [List.getElem?_set_self (by omega)], hk⟩
theorem resI_hit {a : List Int} {n : Nat} {pre : List S_api_Line} {x : S_api_Line} {s : List Int × List S_api_Line} (h : ResI a n pre s) (hx : hitB x.Lits a = true) : ResI a n (pre ++ [x]) s := by
  refine ⟨h.len, by have := h.le; simp; omega, h.nrm, h.ord, fun i y hi hn => ?_⟩
  have hil : i < (pre ++ [x]).length := (List.getElem?_eq_some_iff.1 hi).1
  rw [List.length_append, List.length_singleton] at hil
  by_cases e : i < pre.length
  · rw [List.getElem?_append_left e] at hi
    exact h.at_ i y hi hn
  · have e2 : i = pre.length := by omega
    subst e2
    simp only [List.getElem?_concat_length, Option.some.injEq] at hi
    subst hi
    rw [hx] at hn; simp at hn

theorem Restrict_both {cnf : List (List Int)} {a : List Int} {p : S_api_Proof} (h0 : InL (InL (InK .i64)) cnf) (h1 : W_S_api_Proof p) (h2 : InL (InK .i64) a) : Both (F_proof_Restrict cnf p a) (F_skolemref10_Restrict cnf p a) := by
  unfold F_proof_Restrict F_skolemref10_Restrict
  rw [Under_prog h0 h2, Under_ref h0 h2]
  simp only [Option.bind_some]
  by_cases hu : (undS cnf a).2.2 = 0
  · obtain ⟨hw, hl, hl2, hc, hn, hcn, han, hl3⟩ := undS_ok h0 hu
    have hat := undS_at hu
    simp only [hu, bne_self_eq_false, Bool.false_eq_true, if_false]
    rw [Check_prog h0 h1, Check_ref h0 h1]
    simp only [Option.bind_some]
    by_cases hk : (checkS cnf p).2.2 = 0
    · simp only [hk, bne_self_eq_false, Bool.false_eq_true, if_false]
      obtain ⟨_, hfit, hchk, xl, hxl, hxe⟩ := checkS_ok hk
      rw [hits_eq _ _ h2.1, satisfied_eq]
      simp only [Option.bind_some]
      by_cases hh : hitB (checkS cnf p).1 a = true
      · rw [if_pos hh, if_pos hh]; exact ⟨_, rfl, rfl⟩
      · rw [if_neg hh, if_neg hh]
        simp only [Bool.not_eq_true] at hh
        have hpl := hfit.2.2
        have hp0 := hfit.2.1
        rw [okI_eq (by omega), okI_eq (by omega)]
        -- all lines are normal
        have hall : ∀ pre x q, p.Lines = pre ++ x :: q → RightP cnf pre x := fun pre x q e => by simpa using chk_all' p.Lines [] hchk pre x q e
        have hnorm : ∀ (k : Nat) (pre q : List S_api_Line), pre.length = k → p.Lines = pre ++ q → ∀ l ∈ pre, nrmB 0 l.Lits = true := by
          intro k
          induction k with
          | zero => intro pre q hk e l hl; rw [List.eq_nil_of_length_eq_zero hk] at hl; simp at hl
          | succ k ih =>
            intro pre q hk e l hl
            obtain ⟨pre', y, rfl⟩ : ∃ l' y, pre = l' ++ [y] := ⟨pre.dropLast, pre.getLast (by intro e; subst e; simp at hk), (List.dropLast_concat_getLast _).symm⟩
            have e2 : p.Lines = pre' ++ y :: q := by simpa using e
            have ih := ih pre' (y :: q) (by simpa using hk) e2
            rcases List.mem_append.1 hl with hl | hl
            · exact ih l hl
            · simp only [List.mem_singleton] at hl; subst hl
              exact (hall _ _ _ e2).nrm hcn ih
        refine rangeF_both p.Lines (fun pre s => ResI a p.Lines.length pre s) (fun s hI => ?_) (fun pre x xs s kk1 kk2 hf hI hkk => ?_) p.Lines [] (List.replicate p.Lines.length 0, []) rfl ⟨by simp, by simp, by simp, fun k y hk => by simp at hk, fun i y hi => by simp at hi⟩
        · -- the end
          obtain ⟨y, e1, e2, e3, _⟩ := last_get hp0 (by omega)
          rw [hxl] at e1
          injection e1 with e1; subst e1
          rw [hxe] at hh
          obtain ⟨k, g1, g2⟩ := hI.at_ _ _ e2 hh
          rw [getI_eq e3 g1, getI_eq e3 g1]
          have hle := hI.le
          rw [Kept_prog hI.ord (fun l hl => by have := nrm_len' (hI.nrm l hl); omega) g2 (by omega), Kept_ref hI.ord g2 (by omega)]
          exact ⟨_, rfl, rfl⟩
        · have hx : W_S_api_Line x := h1.2.2 x (by rw [hf]; simp)
          have hxP := inK64.1 hx.2.2.2.1
          have hlen : p.Lines.length = pre.length + (xs.length + 1) := by rw [hf]; simp
          have hr := hall pre x xs hf
          have hb := hnorm _ pre (x :: xs) rfl hf
          have hxn := hr.nrm hcn hb
          have hle := hI.le
          have hlt := hI.len
          rw [jn_eq, jn_eq, hits_eq _ _ h2.1, satisfied_eq]
          simp only [Option.bind_some]
          have gj : s.1[((pre.length : Nat) : Int).toNat]? = some (s.1.getD pre.length 0) := by rw [Int.toNat_natCast]; exact getD_get (by omega)
          by_cases hxh : hitB x.Lits a = true
          · rw [if_pos hxh, if_pos hxh]
            exact hkk s (resI_hit hI hxh)
          · rw [if_neg hxh, if_neg hxh]
            simp only [Bool.not_eq_true] at hxh
            have fs : ∀ k : Nat, k < s.2.length → Both (getI s.1 ((pre.length : Nat) : Int) (fun _ => kk1 (s.1.set (((pre.length : Nat) : Int).toNat) (k : Int), s.2))) (getI s.1 ((pre.length : Nat) : Int) (fun _ => kk2 (s.1.set (((pre.length : Nat) : Int).toNat) (k : Int), s.2))) := fun k hk => by
              rw [getI_eq (by omega) gj, getI_eq (by omega) gj, Int.toNat_natCast]
              exact hkk _ (resI_set hI (by omega) hk)
            rcases hr with ⟨r1, r2, r3, r4, r5, r6⟩ | ⟨r1, r2, r3, la, lb, e1, e2, e3⟩
            · rw [if_pos (by simp [r1]), if_pos (by simp [r1])]
              obtain ⟨k, g1, g2⟩ := hat.at_ x.A.toNat x.Lits (by omega) r6 hxh
              have eA : ((x.A.toNat : Nat) : Int) = x.A := by omega
              rw [eA] at g1
              simp only at g1 g2
              rw [Search_eq hat.asc (by simp only; omega) g1, At_eq hat.asc g1]
              simp only [Option.bind_some]
              have g2' : (undS cnf a).1[((k : Nat) : Int).toNat]? = some (lessL x.Lits a) := by rw [Int.toNat_natCast]; exact g2
              rw [getI_eq (by omega) g2', getI_eq (by omega) gj, getI_eq (by omega) gj, getI_eq (by omega) g2', capN_eq (by simp; omega), capN_eq (by simp; omega), Int.toNat_natCast]
              exact hkk _ (resI_app hI (by omega) (nrm_filter _ hxn) (fun h => by simp at h))
            · rw [if_neg (by simp [r1]), if_neg (by simp [r1])]
              have hna := hb _ (List.mem_of_getElem? e1)
              have hnb := hb _ (List.mem_of_getElem? e2)
              obtain ⟨q1, q2, q3, q4, q5⟩ := resS_mem hna hnb e3
              have hla : x.A.toNat < pre.length := (List.getElem?_eq_some_iff.1 e1).1
              have hlb : x.B.toNat < pre.length := (List.getElem?_eq_some_iff.1 e2).1
              have gA : s.1[x.A.toNat]? = some (s.1.getD x.A.toNat 0) := getD_get (by omega)
              have gB : s.1[x.B.toNat]? = some (s.1.getD x.B.toNat 0) := getD_get (by omega)
              rw [getI_eq r2 gA, getI_eq r3 gB, getI_eq r2 gA, getI_eq r3 gB, Contains_eq _ _ h2.1, Has_eq]
              simp only [Option.bind_some]
              have xf := hit_false.1 hxh
              have okA : x.Piv ∉ a → ∃ k : Nat, s.1.getD x.A.toNat 0 = (k : Int) ∧ k < s.2.length := fun hp => by
                obtain ⟨k, h5, h6⟩ := hI.at_ _ _ e1 (hit_false.2 (fun z hz => by
                  by_cases e : z = x.Piv
                  · rw [e]; exact hp
                  · exact xf z (q4 z hz e)))
                rw [gA] at h5; injection h5 with h5
                exact ⟨k, h5, h6⟩
              have okB : -x.Piv ∉ a → ∃ k : Nat, s.1.getD x.B.toNat 0 = (k : Int) ∧ k < s.2.length := fun hp => by
                obtain ⟨k, h5, h6⟩ := hI.at_ _ _ e2 (hit_false.2 (fun z hz => by
                  by_cases e : z = -x.Piv
                  · rw [e]; exact hp
                  · exact xf z (q5 z hz e)))
                rw [gB] at h5; injection h5 with h5
                exact ⟨k, h5, h6⟩
              by_cases hpa : x.Piv ∈ a
              · rw [if_pos (by simpa using hpa), if_pos (by simpa using hpa)]
                have hnp : -x.Piv ∉ a := fun h => by
                  have := nrm_two han (by omega) hpa h (by rw [av_neg]); omega
                obtain ⟨k, e, hk⟩ := okB hnp
                rw [e]
                exact fs k hk
              · rw [if_neg (by simpa using hpa), if_neg (by simpa using hpa), jn_eq, jn_eq, wrap_neg (by omega) (by omega), Contains_eq _ _ h2.1, Has_eq]
                simp only [Option.bind_some]
                obtain ⟨k, eA, hkA⟩ := okA hpa
                rw [eA]
                by_cases hpn : -x.Piv ∈ a
                · simp only [hpn, decide_true, if_true]
                  exact fs k hkA
                · obtain ⟨m, eB, hkB⟩ := okB hpn
                  rw [eB]
                  simp only [hpn, decide_false, Bool.false_eq_true, if_false]
                  obtain ⟨lr, glr⟩ : ∃ lr, s.2[k]? = some lr := ⟨_, List.getElem?_eq_getElem hkA⟩
                  obtain ⟨ls, gls⟩ : ∃ ls, s.2[m]? = some ls := ⟨_, List.getElem?_eq_getElem hkB⟩
                  have nlr := hI.nrm _ (List.mem_of_getElem? glr)
                  have nls := hI.nrm _ (List.mem_of_getElem? gls)
                  have glr' : s.2[((k : Nat) : Int).toNat]? = some lr := by rw [Int.toNat_natCast]; exact glr
                  have gls' : s.2[((m : Nat) : Int).toNat]? = some ls := by rw [Int.toNat_natCast]; exact gls
                  rw [getI_eq (by omega) glr', getI_eq (by omega) glr', contains_small nlr, Has_eq]
                  simp only [Option.bind_some]
                  by_cases hm1 : x.Piv ∈ lr.Lits
                  · simp only [hm1, decide_true, Bool.not_true, Bool.false_eq_true, if_false]
                    rw [getI_eq (by omega) gls', getI_eq (by omega) gls', contains_small nls, Has_eq]
                    simp only [Option.bind_some]
                    by_cases hm2 : -x.Piv ∈ ls.Lits
                    · simp only [hm2, decide_true, Bool.not_true, Bool.false_eq_true, if_false]
                      rw [getI_eq (by omega) glr', getI_eq (by omega) glr', resolvent_eq nlr nls hx.2.2.2.1, Resolvent_eq nlr nls hx.2.2.2.1]
                      simp only [Option.bind_some]
                      rw [getI_eq (by omega) gj, getI_eq (by omega) gj, capN_eq (by simp; omega), capN_eq (by simp; omega), Int.toNat_natCast]
                      exact hkk _ (resI_app hI (by omega) (resS_nrm' nlr nls) (fun _ => ⟨by simp only; omega, by simp only; omega, by simp only; omega, by simp only; omega⟩))
                    · simp only [hm2, decide_false, Bool.not_false, if_true]
                      exact fs m hkB
                  · simp only [hm1, decide_false, Bool.not_false, if_true]
                    exact fs k hkA
    · rw [if_pos (by simpa using hk), if_pos (by simpa using hk)]
      exact ⟨_, rfl, rfl⟩
  · rw [if_pos (by simpa using hu), if_pos (by simpa using hu)]
    exact ⟨_, rfl, rfl⟩

theorem law_ProofRestricts {a0 : List (List Int)} {a1 : S_api_Proof} {a2 : List Int} (h0 : InL (InL (InK .i64)) a0) (h1 : W_S_api_Proof a1) (h2 : InL (InK .i64) a2) : F_skolemlaw10_ProofRestricts a0 a1 a2 = some true := by
  obtain ⟨b, hb⟩ := large_some a0 a1
  unfold F_skolemlaw10_ProofRestricts
  rw [jn_eq, hb]
  have hd : F_skolemlaw10_head.bind (fun y => some y) = some true := by simp [F_skolemlaw10_head]
  obtain ⟨r, e1, e2⟩ := Restrict_both h0 h1 h2
  cases b with
  | true => simpa using hd
  | false =>
    simp only [Option.bind_some, Bool.false_eq_true, if_false]
    split
    · exact hd
    · rw [Under_prog h0 h2, Under_ref h0 h2, e1, e2]
      simp [SameProof_self, sameClauses_self, Same_eq, hd]
end Go.Sk.X

namespace Go.Sk.X
open Go Go.Sk

/-! ### The document's Check of chapter 9 -/
open Classical in
noncomputable def chk9 (cnf : List (List Int)) (p : S_api_Proof) : List Int × Bool := ((checkS cnf p).1, decide ((checkS cnf p).2.2 = 0))

open Classical in
theorem Check9_eq {cnf : List (List Int)} {p : S_api_Proof} (h0 : InL (InL (InK .i64)) cnf) (h1 : W_S_api_Proof p) : F_skolemref09_Check cnf p = some (chk9 cnf p) := by
  unfold F_skolemref09_Check chk9 checkS
  rw [jn_eq, Cnf_eq h0]
  simp only [Option.bind_some]
  cases hc : (decide (cnf.length ≤ 20000) && cnfB 0 cnf) with
  | false => simp
  | true =>
    have hcm : ∀ c ∈ cnf, nrmB 0 c = true := cnfB_mem (by simp only [Bool.and_eq_true] at hc; exact hc.2)
    simp only [Bool.not_true, Bool.false_eq_true, if_false, if_true]
    by_cases hf : FitsP p
    · obtain ⟨f1, f2, f3⟩ := id hf
      rw [if_neg (by simp [f1]), if_neg (by simp; intro e; rw [e] at f2; simp at f2)]
      simp only [hf, if_true]
      rw [if_neg (by simp; omega)]
      refine (rangeF_pre p.Lines (fun pre _ => ∀ l ∈ pre, nrmB 0 l.Lits = true) (fun pre xs _ => some (match chk cnf pre xs with | some i => ([], false) | none => ((p.Lines.getLast?.map S_api_Line.Lits).getD [], true))) ?_ ?_ p.Lines [] () rfl (by simp)).trans ?_
      · intro _ hI
        obtain ⟨x, e1, e2, e3, e4⟩ := last_get (l := p.Lines) hf.2.1 h1.2.1
        rw [getI_eq e3 e2]
        simp [chk, e1]
      · intro pre x xs _ kk hfull hI hk
        have hwx : W_S_api_Line x := h1.2.2 x (by rw [hfull]; simp)
        have hxk := hwx.2.2.2.1
        have hk : RightP cnf pre x → kk () = some (match chk cnf (pre ++ [x]) xs with | some i => ([], false) | none => ((p.Lines.getLast?.map S_api_Line.Lits).getD [], true)) := fun hr => hk () (fun l hl => by
            rcases List.mem_append.1 hl with hl | hl
            · exact hI l hl
            · simp at hl; subst hl; exact hr.nrm hcm hI)
        simp only [jn_eq, chk]
        by_cases r1 : x.Rule = 1
        · have hR : RightP cnf pre x ↔ (0 ≤ x.A ∧ x.A < cnf.length ∧ x.B = 0 ∧ x.Piv = 0 ∧ cnf[x.A.toNat]? = some x.Lits) := by simp [RightP, r1]
          rw [if_pos (by simpa using r1)]
          by_cases a1 : x.A < 0
          · rw [if_neg (show ¬ RightP cnf pre x from fun h => by have := (hR.1 h).1; omega)]; simp [a1]
          · by_cases a2 : x.A ≥ (cnf.length : Int)
            · rw [if_neg (show ¬ RightP cnf pre x from fun h => by have := (hR.1 h).2.1; omega)]; simp [a1, a2]
            · by_cases a3 : x.B = 0
              · by_cases a4 : x.Piv = 0
                · obtain ⟨c, hcc⟩ : ∃ c, cnf[x.A.toNat]? = some c := ⟨_, List.getElem?_eq_getElem (by omega)⟩
                  by_cases a5 : x.Lits = c
                  · have hr : RightP cnf pre x := hR.2 ⟨by omega, by omega, a3, a4, by rw [hcc, a5]⟩
                    rw [if_pos hr]
                    simp only [a1, a2, a3, a4, decide_false, Bool.false_eq_true, if_false, bne_self_eq_false]
                    rw [getI_eq (by omega) hcc, Same_eq]
                    simpa [a5] using hk hr
                  · rw [if_neg (show ¬ RightP cnf pre x from fun h => by have := (hR.1 h).2.2.2.2; rw [hcc] at this; injection this with this; exact a5 this.symm)]
                    simp only [a1, a2, a3, a4, decide_false, Bool.false_eq_true, if_false, bne_self_eq_false]
                    rw [getI_eq (by omega) hcc, Same_eq]
                    simp [a5]
                · rw [if_neg (show ¬ RightP cnf pre x from fun h => a4 (hR.1 h).2.2.2.1)]; simp [a1, a2, a3, a4]
              · rw [if_neg (show ¬ RightP cnf pre x from fun h => a3 (hR.1 h).2.2.1)]; simp [a1, a2, a3]
        · rw [if_neg (by simpa using r1)]
          by_cases r2 : x.Rule = 2
          · have hR : RightP cnf pre x ↔ (0 ≤ x.A ∧ 0 ≤ x.B ∧ ∃ la lb, pre[x.A.toNat]? = some la ∧ pre[x.B.toNat]? = some lb ∧ resS la.Lits lb.Lits x.Piv = (x.Lits, true)) := by simp [RightP, r2]
            rw [if_pos (by simpa using r2)]
            by_cases a1 : x.A < 0
            · rw [if_neg (show ¬ RightP cnf pre x from fun h => by have := (hR.1 h).1; omega)]; simp [a1]
            · by_cases a2 : x.A ≥ (pre.length : Int)
              · rw [if_neg (show ¬ RightP cnf pre x from fun h => by
                  obtain ⟨_, _, la, lb, e1, _⟩ := hR.1 h
                  have := (List.getElem?_eq_some_iff.1 e1).1; omega)]
                simp [a1, a2]
              · by_cases a3 : x.B < 0
                · rw [if_neg (show ¬ RightP cnf pre x from fun h => by have := (hR.1 h).2.1; omega)]; simp [a1, a2, a3]
                · by_cases a4 : x.B ≥ (pre.length : Int)
                  · rw [if_neg (show ¬ RightP cnf pre x from fun h => by
                      obtain ⟨_, _, la, lb, _, e1, _⟩ := hR.1 h
                      have := (List.getElem?_eq_some_iff.1 e1).1; omega)]
                    simp [a1, a2, a3, a4]
                  · obtain ⟨la, hla⟩ : ∃ c, pre[x.A.toNat]? = some c := ⟨_, List.getElem?_eq_getElem (by omega)⟩
                    obtain ⟨lb, hlb⟩ : ∃ c, pre[x.B.toNat]? = some c := ⟨_, List.getElem?_eq_getElem (by omega)⟩
                    have gla : p.Lines[x.A.toNat]? = some la := by rw [hfull, List.getElem?_append_left (by omega)]; exact hla
                    have glb : p.Lines[x.B.toNat]? = some lb := by rw [hfull, List.getElem?_append_left (by omega)]; exact hlb
                    simp only [a1, a2, a3, a4, decide_false, Bool.false_eq_true, if_false]
                    rw [getI_eq (by omega) gla, getI_eq (by omega) glb, Resolvent_eq (hI _ (List.mem_of_getElem? hla)) (hI _ (List.mem_of_getElem? hlb)) hxk]
                    simp only [Option.bind_some]
                    by_cases a5 : resS la.Lits lb.Lits x.Piv = (x.Lits, true)
                    · have hr : RightP cnf pre x := hR.2 ⟨by omega, by omega, la, lb, hla, hlb, a5⟩
                      rw [if_pos hr, a5]
                      simpa [Same_eq] using hk hr
                    · rw [if_neg (show ¬ RightP cnf pre x from fun h => by
                        obtain ⟨_, _, la', lb', e1, e2, e3⟩ := hR.1 h
                        rw [hla] at e1; injection e1 with e1; subst e1
                        rw [hlb] at e2; injection e2 with e2; subst e2
                        exact a5 e3)]
                      rcases hm : resS la.Lits lb.Lits x.Piv with ⟨m, b⟩
                      rw [hm] at a5
                      cases b with
                      | false => simp
                      | true =>
                        have : m ≠ x.Lits := fun e => a5 (by rw [e])
                        simp [Same_eq, this]
          · rw [if_neg (by simpa using r2), if_neg (show ¬ RightP cnf pre x from fun h => by rcases h with h | h; exact r1 h.1; exact r2 h.1)]
      · cases chk cnf [] p.Lines <;> simp
    · simp only [hf, if_false]
      cases hcu : p.Cubes with
      | true => simp
      | false =>
        by_cases c1 : p.Lines.length = 0
        · simp [c1]
        · have c2 : ¬ p.Lines.length ≤ 1000000 := fun h => hf ⟨hcu, by omega, h⟩
          simp only [Bool.false_eq_true, if_false]
          rw [if_neg (by simpa using c1), if_pos (by simp; omega)]
          simp

/-! ### A list of lines is a proof -/
def Good (cnf : List (List Int)) (l : List S_api_Line) : Prop := ∀ (k : Nat) (x : S_api_Line), l[k]? = some x → RightP cnf (l.take k) x

theorem Good.app {cnf : List (List Int)} {l : List S_api_Line} (h : Good cnf l) {x : S_api_Line} (hx : RightP cnf l x) : Good cnf (l ++ [x]) := by
  intro k y hk
  have hkl : k < (l ++ [x]).length := (List.getElem?_eq_some_iff.1 hk).1
  rw [List.length_append, List.length_singleton] at hkl
  by_cases e : k < l.length
  · rw [List.getElem?_append_left e] at hk
    rw [List.take_append_of_le_length (by omega)]
    exact h k y hk
  · have : k = l.length := by omega
    subst this
    simp only [List.getElem?_concat_length, Option.some.injEq] at hk
    subst hk
    simpa using hx

theorem chk_good {cnf : List (List Int)} : ∀ (xs pre : List S_api_Line), Good cnf (pre ++ xs) → chk cnf pre xs = none
  | [], _, _ => rfl
  | x :: xs, pre, h => by
    have := h pre.length x (by simp)
    rw [List.take_left] at this
    rw [chk, if_pos this]
    exact chk_good xs (pre ++ [x]) (by simpa using h)
theorem good_chk {cnf : List (List Int)} {l : List S_api_Line} (h : chk cnf [] l = none) : Good cnf l := by
  intro k x hk
  have hkl : k < l.length := (List.getElem?_eq_some_iff.1 hk).1
  have e : l = l.take k ++ x :: l.drop (k + 1) := by
    rw [← List.take_append_drop k l]
    rw [List.getElem?_eq_getElem hkl] at hk; injection hk with hk
    rw [List.take_append_drop, ← hk, ← List.drop_eq_getElem_cons hkl, List.take_append_drop]
  have := chk_all' l [] h (l.take k) x (l.drop (k + 1)) e
  simpa using this

theorem Good.nrm {cnf : List (List Int)} {l : List S_api_Line} (hc : ∀ c ∈ cnf, nrmB 0 c = true) (h : Good cnf l) : ∀ (k : Nat) (x : S_api_Line), l[k]? = some x → nrmB 0 x.Lits = true := by
  intro k
  induction k using Nat.strongRecOn with
  | _ k ih =>
    intro x hx
    refine (h k x hx).nrm hc (fun y hy => ?_)
    obtain ⟨i, hi, e⟩ := List.mem_iff_getElem.1 hy
    rw [List.length_take] at hi
    rw [List.getElem_take] at e
    exact ih i (by omega) y (by rw [← e]; exact List.getElem?_eq_getElem (by omega))

/-! sizes of clauses -/
def tot : List (List Int) → Nat
  | [] => 0
  | c :: cs => c.length + tot cs
theorem cnfB_iff : ∀ {l : List (List Int)} {n : Nat}, n ≤ 200000 → (cnfB (n : Int) l = true ↔ n + tot l ≤ 200000 ∧ ∀ c ∈ l, nrmB 0 c = true)
  | [], n, hn => by simp [cnfB, tot, hn]
  | c :: cs, n, hn => by
    simp only [cnfB, tot, Bool.and_eq_true, List.mem_cons, forall_eq_or_imp]
    by_cases hc : nrmB 0 c = true
    · have hl := nrm_len' hc
      rw [wrap_id (by omega) (by omega)]
      have e : (n : Int) + (c.length : Int) = ((n + c.length : Nat) : Int) := by omega
      rw [e]
      by_cases h : n + c.length ≤ 200000
      · rw [cnfB_iff h]
        simp only [hc, true_and, Bool.not_eq_true', decide_eq_false_iff_not]
        constructor
        · rintro ⟨_, h1, h2⟩; exact ⟨by omega, h2⟩
        · rintro ⟨h1, h2⟩; exact ⟨by omega, by omega, h2⟩
      · constructor
        · rintro ⟨h1, _⟩; simp only [Bool.not_eq_true', decide_eq_false_iff_not] at h1; omega
        · rintro ⟨h1, _⟩; omega
    · simp [hc]

theorem tot_app (a b : List (List Int)) : tot (a ++ b) = tot a + tot b := by
  induction a with
  | nil => simp [tot]
  | cons c a ih => simp only [List.cons_append, tot, ih]; omega
theorem undF_tot (a : List Int) : ∀ (xs : List (List Int)) (j : Nat) (s : List (List Int) × List Int), tot (undF a j xs s).1 ≤ tot s.1 + tot xs
  | [], _, s => by simp [undF, tot]
  | c :: cs, j, s => by
    rw [undF]
    refine Nat.le_trans (undF_tot a cs (j + 1) _) ?_
    split
    · simp only [tot]; omega
    · simp only [tot_app, tot]
      have : (lessL c a).length ≤ c.length := List.length_filter_le _ _
      omega

theorem undS_cnf {cnf : List (List Int)} {a : List Int} (h : (undS cnf a).2.2 = 0) : (decide ((undS cnf a).1.length ≤ 20000) && cnfB 0 (undS cnf a).1) = true := by
  unfold undS at h ⊢
  split at h
  · rename_i hc
    rw [if_pos hc]
    simp only [Bool.and_eq_true, decide_eq_true_eq] at hc ⊢
    obtain ⟨h1, h2, h3, h4⟩ := undF_ok a cnf [] ([], []) (cnf := cnf) rfl (by simp)
    have h2' : (undF a 0 cnf ([], [])).1.length ≤ cnf.length := h2
    have h3' : ∀ c ∈ (undF a 0 cnf ([], [])).1, ∃ d ∈ cnf, c = lessL d a := h3
    have ht := undF_tot a cnf 0 ([], [])
    have hb := (cnfB_iff (n := 0) (by omega)).1 hc.1.2
    refine ⟨by omega, (cnfB_iff (n := 0) (by omega)).2 ⟨by simp only [tot] at ht; omega, fun c hc => ?_⟩⟩
    obtain ⟨d, hd, e⟩ := h3' c hc
    rw [e]; exact nrm_filter _ (hb.2 d hd)
  · simp at h

/-- a proof, told whole -/
theorem checkS_good {cnf : List (List Int)} {l : List S_api_Line} (hc : (decide (cnf.length ≤ 20000) && cnfB 0 cnf) = true) (hg : Good cnf l) {x : S_api_Line} (hx : l.getLast? = some x) (hl : l.length ≤ 1000000) : checkS cnf (S_api_Proof.mk false l) = (x.Lits, 0, 0) := by
  unfold checkS
  have hf : FitsP (S_api_Proof.mk false l) := ⟨rfl, by
    simp only
    cases l with
    | nil => simp at hx
    | cons a b => simp, hl⟩
  rw [if_pos hc, if_pos hf, chk_good l [] (by simpa using hg)]
  simp [hx]
end Go.Sk.X

namespace Go.Sk.X
open Go Go.Sk

/-! ### What a line needs is asked for -/
theorem getD_set {m : List Bool} {i j : Nat} : (m.set i true).getD j false = if i = j ∧ i < m.length then true else m.getD j false := by
  rw [List.getD_eq_getElem?_getD, List.getD_eq_getElem?_getD]
  by_cases e : i = j
  · subst e
    by_cases h : i < m.length
    · rw [List.getElem?_set_self h]; simp [h]
    · rw [List.getElem?_eq_none (by simpa using Nat.le_of_not_lt h)]
      simp [h]
  · rw [List.getElem?_set_ne e]; simp [e]

theorem need1_mono {l : List S_api_Line} {k i : Nat} {m : List Bool} (h : m.getD i false = true) : (need1 l k m).getD i false = true := by
  unfold need1
  split
  · split
    · split
      · rw [getD_set, getD_set]; split
        · rfl
        · split
          · rfl
          · exact h
      · exact h
    · exact h
  · exact h
theorem need1_same {l : List S_api_Line} (ho : OrdL l) {k i : Nat} {m : List Bool} (hi : k ≤ i) : (need1 l k m).getD i false = m.getD i false := by
  unfold need1
  split
  · split
    · rename_i x hx
      split
      · rename_i hr
        have := ho k x hx hr
        rw [getD_set, if_neg (by omega), getD_set, if_neg (by omega)]
      · rfl
    · rfl
  · rfl
theorem need1_asks {l : List S_api_Line} (ho : OrdL l) {k : Nat} {m : List Bool} {x : S_api_Line} (hm : m.length = l.length) (hx : l[k]? = some x) (hr : x.Rule = 2) (h : m.getD k false = true) : (need1 l k m).getD x.A.toNat false = true ∧ (need1 l k m).getD x.B.toNat false = true := by
  have hk : k < l.length := (List.getElem?_eq_some_iff.1 hx).1
  have := ho k x hx hr
  unfold need1
  rw [if_pos h, hx]
  simp only [hr, if_true]
  constructor
  · rw [getD_set]; split
    · rfl
    · rw [getD_set, if_pos ⟨rfl, by omega⟩]
  · rw [getD_set, if_pos ⟨rfl, by rw [List.length_set]; omega⟩]

theorem needF_spec {l : List S_api_Line} (ho : OrdL l) : ∀ (k : Nat) (m : List Bool), m.length = l.length →
    (∀ i, m.getD i false = true → (needF l k m).getD i false = true) ∧ (∀ i, k ≤ i → (needF l k m).getD i false = m.getD i false) ∧
    (∀ i x, i < k → (needF l k m).getD i false = true → l[i]? = some x → x.Rule = 2 → (needF l k m).getD x.A.toNat false = true ∧ (needF l k m).getD x.B.toNat false = true)
  | 0, m, _ => ⟨fun _ h => h, fun _ _ => rfl, fun i x h => absurd h (Nat.not_lt_zero _)⟩
  | k + 1, m, hm => by
    obtain ⟨h1, h2, h3⟩ := needF_spec ho k (need1 l k m) (by rw [need1_length]; exact hm)
    refine ⟨fun i h => h1 i (need1_mono h), fun i hi => ?_, fun i x hi hf hx hr => ?_⟩
    · rw [needF, h2 i (by omega), need1_same ho (by omega)]
    · rw [needF] at hf ⊢
      by_cases e : i < k
      · exact h3 i x e hf hx hr
      · have e2 : i = k := by omega
        subst e2
        rw [h2 i (Nat.le_refl _), need1_same ho (Nat.le_refl _)] at hf
        have := need1_asks ho hm hx hr hf
        exact ⟨h1 _ this.1, h1 _ this.2⟩

theorem needS_asks {l : List S_api_Line} (ho : OrdL l) {last : Nat} {i : Nat} {x : S_api_Line} (hf : (needS l last).getD i false = true) (hx : l[i]? = some x) (hr : x.Rule = 2) : (needS l last).getD x.A.toNat false = true ∧ (needS l last).getD x.B.toNat false = true := by
  by_cases hi : i < last + 1
  · exact (needF_spec ho (last + 1) _ (by simp)).2.2 i x hi hf hx hr
  · rw [needS_behind ho i (by omega)] at hf; simp at hf
theorem needS_last {l : List S_api_Line} (ho : OrdL l) {last : Nat} (h : last < l.length) : (needS l last).getD last false = true := by
  refine (needF_spec ho (last + 1) _ (by simp)).1 last ?_
  rw [getD_set, if_pos ⟨rfl, by simpa using h⟩]

theorem Good.ord {cnf : List (List Int)} {l : List S_api_Line} (h : Good cnf l) : OrdL l := by
  intro k x hk hr
  rcases h k x hk with ⟨r1, _⟩ | ⟨_, a, b, la, lb, e1, e2, _⟩
  · omega
  · have h1 := (List.getElem?_eq_some_iff.1 e1).1
    have h2 := (List.getElem?_eq_some_iff.1 e2).1
    rw [List.length_take] at h1 h2
    omega

/-! ### What is kept is a proof -/
structure KeepI (cnf : List (List Int)) (l : List S_api_Line) (f : List Bool) (j : Nat) (s : List Int × List S_api_Line) : Prop where
  len : s.1.length = l.length
  le : s.2.length ≤ j
  good : Good cnf s.2
  at_ : ∀ (i : Nat) (x : S_api_Line), i < j → f.getD i false = true → l[i]? = some x → ∃ (k : Nat) (y : S_api_Line), s.1[i]? = some (k : Int) ∧ s.2[k]? = some y ∧ y.Lits = x.Lits
  last : ∀ (i : Nat) (x : S_api_Line), i < j → f.getD i false = true → l[i]? = some x → (∀ m, i < m → m < j → f.getD m false = false) → ∃ y, s.2.getLast? = some y ∧ y.Lits = x.Lits

theorem keepF_good {cnf : List (List Int)} {l : List S_api_Line} (hg : Good cnf l) {last : Nat} : ∀ (bs : List Bool) (j : Nat) (s : List Int × List S_api_Line), bs = (needS l last).drop j → j + bs.length = l.length → KeepI cnf l (needS l last) j s → KeepI cnf l (needS l last) l.length (keepF l j bs s)
  | [], j, s, hb, hj, h => by
    have : j = l.length := by simpa using hj
    subst this; exact h
  | b :: bs, j, s, hb, hj, h => by
    have ho := hg.ord
    have hjl : j < l.length := by simp only [List.length_cons] at hj; omega
    have hjn : j < (needS l last).length := by rw [needS_length]; exact hjl
    have hd : (needS l last).drop j = (needS l last)[j] :: (needS l last).drop (j + 1) := List.drop_eq_getElem_cons hjn
    rw [hd] at hb
    injection hb with hb1 hb2
    have hbj : (needS l last).getD j false = b := by rw [List.getD_eq_getElem?_getD, List.getElem?_eq_getElem hjn, hb1]; rfl
    refine keepF_good hg bs (j + 1) _ hb2 (by simp only [List.length_cons] at hj; omega) ?_
    cases b with
    | false =>
      simp only [Bool.false_eq_true, if_false]
      refine ⟨h.len, by have := h.le; omega, h.good, fun i x hi hf hx => ?_, fun i x hi hf hx hm => ?_⟩
      · by_cases e : i = j
        · subst e; rw [hbj] at hf; simp at hf
        · exact h.at_ i x (by omega) hf hx
      · by_cases e : i = j
        · subst e; rw [hbj] at hf; simp at hf
        · exact h.last i x (by omega) hf hx (fun m h1 h2 => hm m h1 (by omega))
    | true =>
      simp only [if_true]
      obtain ⟨x, hx⟩ : ∃ x, l[j]? = some x := ⟨_, List.getElem?_eq_getElem hjl⟩
      have hle := h.le
      have hlen := h.len
      -- the line that is added
      have hright : RightP cnf s.2 (S_api_Line.mk x.Rule (if x.Rule = 2 then s.1.getD x.A.toNat 0 else x.A) (if x.Rule = 2 then s.1.getD x.B.toNat 0 else x.B) x.Piv x.Lits) := by
        rcases hg j x hx with ⟨r1, r2⟩ | ⟨r1, r2, r3, la, lb, e1, e2, e3⟩
        · left
          have : ¬ x.Rule = 2 := by omega
          simp only [this, if_false]
          exact ⟨r1, r2⟩
        · right
          have hla := (List.getElem?_eq_some_iff.1 e1).1
          have hlb := (List.getElem?_eq_some_iff.1 e2).1
          rw [List.length_take] at hla hlb
          rw [List.getElem?_take_of_lt (by omega)] at e1 e2
          have hask := needS_asks ho hbj hx r1
          obtain ⟨ka, ya, p1, p2, p3⟩ := h.at_ _ la (by omega) hask.1 e1
          obtain ⟨kb, yb, q1, q2, q3⟩ := h.at_ _ lb (by omega) hask.2 e2
          have ga : s.1.getD x.A.toNat 0 = (ka : Int) := by rw [List.getD_eq_getElem?_getD, p1]; rfl
          have gb : s.1.getD x.B.toNat 0 = (kb : Int) := by rw [List.getD_eq_getElem?_getD, q1]; rfl
          simp only [r1, if_true, ga, gb]
          exact ⟨trivial, by omega, by omega, ya, yb, by rw [Int.toNat_natCast]; exact p2, by rw [Int.toNat_natCast]; exact q2, by rw [p3, q3]; exact e3⟩
      have hk1 : keep1 l j s = (s.1.set j (s.2.length : Int), s.2 ++ [S_api_Line.mk x.Rule (if x.Rule = 2 then s.1.getD x.A.toNat 0 else x.A) (if x.Rule = 2 then s.1.getD x.B.toNat 0 else x.B) x.Piv x.Lits]) := by unfold keep1; rw [hx]
      rw [hk1]
      refine ⟨by simpa using hlen, by simp; omega, h.good.app hright, fun i y hi hf hy => ?_, fun i y hi hf hy hm => ?_⟩
      · by_cases e : i = j
        · subst e
          rw [hx] at hy; injection hy with hy; subst hy
          exact ⟨s.2.length, _, List.getElem?_set_self (by omega), List.getElem?_concat_length, rfl⟩
        · obtain ⟨k, z, h1, h2, h3⟩ := h.at_ i y (by omega) hf hy
          refine ⟨k, z, ?_, ?_, h3⟩
          · simp only; rw [List.getElem?_set_ne (by omega)]; exact h1
          · simp only; rw [List.getElem?_append_left (List.getElem?_eq_some_iff.1 h2).1]; exact h2
      · by_cases e : i = j
        · subst e
          rw [hx] at hy; injection hy with hy; subst hy
          exact ⟨_, List.getLast?_concat, rfl⟩
        · have := hm j (by omega) (by omega)
          rw [hbj] at this; simp at this

theorem keptS_good {cnf : List (List Int)} {l : List S_api_Line} (hg : Good cnf l) {last : Nat} {x : S_api_Line} (hx : l[last]? = some x) : Good cnf (keptS l last).Lines ∧ (keptS l last).Lines.length ≤ l.length ∧ ∃ y, (keptS l last).Lines.getLast? = some y ∧ y.Lits = x.Lits := by
  have hl : last < l.length := (List.getElem?_eq_some_iff.1 hx).1
  have := keepF_good hg (last := last) (needS l last) 0 (List.replicate l.length 0, []) rfl (by rw [needS_length]; simp) ⟨by simp, by simp, fun k y hk => by simp at hk, fun i y hi => absurd hi (Nat.not_lt_zero _), fun i y hi => absurd hi (Nat.not_lt_zero _)⟩
  exact ⟨this.good, this.le, this.last last x hl (needS_last hg.ord hl) hx (fun m h1 h2 => needS_behind hg.ord m h1)⟩

/-! ### Resolvents, told by what they hold -/
theorem resS_iff {a b m : List Int} {p : Int} (ha : nrmB 0 a = true) (hb : nrmB 0 b = true) (h : resS a b p = (m, true)) : NoClash p a b ∧ ∀ z, z ∈ m ↔ (z ∈ a ∧ z ≠ p) ∨ (z ∈ b ∧ z ≠ -p) := by
  unfold resS at h
  split at h
  · rename_i hc
    by_cases hn : NoClash p a b
    · obtain ⟨m', h1, h2⟩ := mg_some (by omega) _ a b 0 (Nat.le_refl _) (by omega) ha hb hn
      rw [h1] at h
      injection h with h _; subst h
      refine ⟨hn, fun z => (h2 z).trans ?_⟩
      simp [hc.2.1, hc.2.2]
    · rw [mg_none (by omega) _ a b 0 (Nat.le_refl _) (by omega) ha hb hn] at h
      simp at h
  · simp at h
theorem resS_ok {a b : List Int} {p : Int} (ha : nrmB 0 a = true) (hb : nrmB 0 b = true) (h1 : 1 ≤ p) (h2 : p ∈ a) (h3 : -p ∈ b) (hn : NoClash p a b) : ∃ m, resS a b p = (m, true) := by
  unfold resS
  rw [if_pos ⟨h1, h2, h3⟩]
  obtain ⟨m', h1, _⟩ := mg_some (by omega) _ a b 0 (Nat.le_refl _) (by omega) ha hb hn
  exact ⟨m', by rw [h1]⟩

theorem Good.lits {cnf : List (List Int)} {l : List S_api_Line} (hc : ∀ c ∈ cnf, nrmB 0 c = true) (h : Good cnf l) : ∀ (k : Nat) (x : S_api_Line), l[k]? = some x → ∀ z ∈ x.Lits, ∃ c ∈ cnf, z ∈ c := by
  intro k
  induction k using Nat.strongRecOn with
  | _ k ih =>
    intro x hx z hz
    rcases h k x hx with ⟨_, _, _, _, _, r⟩ | ⟨r1, r2, r3, la, lb, e1, e2, e3⟩
    · exact ⟨_, List.mem_of_getElem? r, hz⟩
    · have hla := (List.getElem?_eq_some_iff.1 e1).1
      have hlb := (List.getElem?_eq_some_iff.1 e2).1
      rw [List.length_take] at hla hlb
      rw [List.getElem?_take_of_lt (by omega)] at e1 e2
      rcases ((resS_iff (h.nrm hc _ _ e1) (h.nrm hc _ _ e2) e3).2 z).1 hz with ⟨hz, _⟩ | ⟨hz, _⟩
      · exact ih _ (by omega) la e1 z hz
      · exact ih _ (by omega) lb e2 z hz

theorem Good.wf {cnf : List (List Int)} {l : List S_api_Line} (hc : ∀ c ∈ cnf, nrmB 0 c = true) (hcl : cnf.length ≤ 20000) (h : Good cnf l) (hl : l.length ≤ 1000000) : W_S_api_Proof (S_api_Proof.mk false l) := by
  refine ⟨trivial, by simp only; omega, fun x hx => ?_⟩
  obtain ⟨k, hk, e⟩ := List.mem_iff_getElem.1 hx
  have hx : l[k]? = some x := by rw [List.getElem?_eq_getElem hk, e]
  have hn := h.nrm hc k x hx
  have hlen := nrm_len' hn
  have hL : InL (InK .i64) x.Lits := ⟨by omega, fun z hz => by have := nrm_mem hn z hz; exact inK64.2 (by omega)⟩
  have ku : ∀ n : Int, 0 ≤ n → n ≤ 2 → InK .u8 n := fun n h0 h1 => ⟨by show (0 : Int) ≤ n; exact h0, by show n ≤ (255 : Int); omega⟩
  rcases h k x hx with ⟨r1, r2, r3, r4, r5, r6⟩ | ⟨r1, r2, r3, la, lb, e1, e2, e3⟩
  · exact ⟨ku _ (by omega) (by omega), inK64.2 (by omega), inK64.2 (by omega), inK64.2 (by omega), hL⟩
  · have hla := (List.getElem?_eq_some_iff.1 e1).1
    have hlb := (List.getElem?_eq_some_iff.1 e2).1
    rw [List.length_take] at hla hlb
    rw [List.getElem?_take_of_lt (by omega)] at e1 e2
    obtain ⟨q1, q2, _⟩ := resS_mem (h.nrm hc _ _ e1) (h.nrm hc _ _ e2) e3
    have := nrm_mem (h.nrm hc _ _ e1) _ q2
    exact ⟨ku _ (by omega) (by omega), inK64.2 (by omega), inK64.2 (by omega), inK64.2 (by omega), hL⟩
end Go.Sk.X

namespace Go.Sk.X
open Go Go.Sk

def Has1 {R : Type} (Post : R → Prop) (x : Option R) : Prop := ∃ r, x = some r ∧ Post r

theorem rangeF_ex {α S R : Type} {Post : R → Prop} {f : Nat → α → S → (S → Option R) → Option R} {k : S → Option R} (full : List α) (I : List α → S → Prop) (h0 : ∀ s, I full s → Has1 Post (k s))
    (h1 : ∀ pre x xs s kk, full = pre ++ x :: xs → I pre s → (∀ s', I (pre ++ [x]) s' → Has1 Post (kk s')) → Has1 Post (f pre.length x s kk)) : ∀ xs pre s, full = pre ++ xs → I pre s → Has1 Post (rangeF f pre.length xs s k)
  | [], pre, s, hf, hI => by
    rw [List.append_nil] at hf; subst hf
    exact h0 s hI
  | x :: xs, pre, s, hf, hI => by
    refine h1 pre x xs s _ hf hI (fun s' hs' => ?_)
    have := rangeF_ex full I h0 h1 xs (pre ++ [x]) s' (by simp [hf]) hs'
    rw [List.length_append] at this
    exact this

/-! ### The clauses under an assignment -/
theorem undF_back (a : List Int) {cnf : List (List Int)} : ∀ (xs pre : List (List Int)) (s : List (List Int) × List Int), cnf = pre ++ xs → s.1.length = s.2.length →
    (∀ (k : Nat) (c : List Int), s.1[k]? = some c → ∃ (i : Nat) (d : List Int), s.2[k]? = some (i : Int) ∧ cnf[i]? = some d ∧ c = lessL d a ∧ hitB d a = false) →
    ∀ (k : Nat) (c : List Int), (undF a pre.length xs s).1[k]? = some c → ∃ (i : Nat) (d : List Int), (undF a pre.length xs s).2[k]? = some (i : Int) ∧ cnf[i]? = some d ∧ c = lessL d a ∧ hitB d a = false
  | [], pre, s, hf, hl, h => h
  | c :: cs, pre, s, hf, hl, h => by
    have hc : cnf[pre.length]? = some c := by rw [hf]; simp
    have := undF_back a (cnf := cnf) cs (pre ++ [c]) (if hitB c a = true then s else (s.1 ++ [lessL c a], s.2 ++ [(pre.length : Int)])) (by simp [hf]) (by split; exact hl; simp [hl]) (by
      split
      · exact h
      · rename_i hh
        intro k d hk
        simp only at hk
        have hkl : k < (s.1 ++ [lessL c a]).length := (List.getElem?_eq_some_iff.1 hk).1
        rw [List.length_append, List.length_singleton] at hkl
        by_cases e : k < s.1.length
        · rw [List.getElem?_append_left e] at hk
          obtain ⟨i, d', h1, h2⟩ := h k d hk
          exact ⟨i, d', by simp only; rw [List.getElem?_append_left (by omega)]; exact h1, h2⟩
        · have e2 : k = s.1.length := by omega
          subst e2
          rw [List.getElem?_concat_length] at hk
          injection hk with hk
          exact ⟨pre.length, c, by simp only; rw [hl, List.getElem?_concat_length], hc, hk.symm, by simpa using hh⟩)
    simpa only [List.length_append, List.length_singleton, undF] using this

theorem undS_back {cnf : List (List Int)} {a : List Int} (h : (undS cnf a).2.2 = 0) : ∀ (k : Nat) (c : List Int), (undS cnf a).1[k]? = some c → ∃ (i : Nat) (d : List Int), (undS cnf a).2.1[k]? = some (i : Int) ∧ cnf[i]? = some d ∧ c = lessL d a ∧ hitB d a = false := by
  unfold undS at h ⊢
  split at h
  · rename_i hc
    rw [if_pos hc]
    exact undF_back a (cnf := cnf) cnf [] ([], []) rfl rfl (fun k c hk => by simp at hk)
  · simp at h

/-- no literal of the assignment is left, and no negation of one -/
theorem und_free {cnf : List (List Int)} {a : List Int} (h0 : InL (InL (InK .i64)) cnf) (h : (undS cnf a).2.2 = 0) {l : List S_api_Line} (hg : Good (undS cnf a).1 l) {k : Nat} {x : S_api_Line} (hx : l[k]? = some x) : ∀ z ∈ x.Lits, z ∉ a ∧ -z ∉ a := by
  obtain ⟨hw, hl, hl2, hc, hn, hcn, han, hl3⟩ := undS_ok h0 h
  have hcn2 : ∀ c ∈ (undS cnf a).1, nrmB 0 c = true := fun c hh => by obtain ⟨d, hd, e⟩ := hc c hh; rw [e]; exact nrm_filter _ (hcn d hd)
  intro z hz
  obtain ⟨c, hcm, hzc⟩ := hg.lits hcn2 k x hx z hz
  obtain ⟨i, hi, e⟩ := List.mem_iff_getElem.1 hcm
  obtain ⟨j, d, h1, h2, h3, h4⟩ := undS_back h i c (by rw [List.getElem?_eq_getElem hi, e])
  rw [h3] at hzc
  have hm := List.mem_filter.1 hzc
  exact ⟨hit_false.1 h4 z hm.1, by simpa using hm.2⟩

/-! ### What Restrict returns -/
structure ResJ (cl : List (List Int)) (a : List Int) (n : Nat) (pre : List S_api_Line) (s : List Int × List S_api_Line) : Prop where
  base : ResI a n pre s
  good : Good cl s.2
  sub : ∀ (i : Nat) (x : S_api_Line), pre[i]? = some x → hitB x.Lits a = false → ∃ (k : Nat) (y : S_api_Line), s.1[i]? = some (k : Int) ∧ s.2[k]? = some y ∧ ∀ z ∈ y.Lits, z ∈ x.Lits

theorem resJ_hit {cl : List (List Int)} {a : List Int} {n : Nat} {pre : List S_api_Line} {x : S_api_Line} {s : List Int × List S_api_Line} (h : ResJ cl a n pre s) (hx : hitB x.Lits a = true) : ResJ cl a n (pre ++ [x]) s := by
  refine ⟨resI_hit h.base hx, h.good, fun i y hi hn => ?_⟩
  have hil : i < (pre ++ [x]).length := (List.getElem?_eq_some_iff.1 hi).1
  rw [List.length_append, List.length_singleton] at hil
  by_cases e : i < pre.length
  · rw [List.getElem?_append_left e] at hi
    exact h.sub i y hi hn
  · have e2 : i = pre.length := by omega
    subst e2
    rw [List.getElem?_concat_length] at hi
    injection hi with hi; subst hi
    rw [hx] at hn; simp at hn
theorem resJ_set {cl : List (List Int)} {a : List Int} {n : Nat} {pre : List S_api_Line} {x : S_api_Line} {s : List Int × List S_api_Line} (h : ResJ cl a n pre s) (hp : pre.length < n) {k : Nat} {y : S_api_Line} (hk : s.2[k]? = some y) (hs : ∀ z ∈ y.Lits, z ∈ x.Lits) : ResJ cl a n (pre ++ [x]) (s.1.set pre.length (k : Int), s.2) := by
  refine ⟨resI_set h.base hp (List.getElem?_eq_some_iff.1 hk).1, h.good, fun i w hi hn => ?_⟩
  have hil : i < (pre ++ [x]).length := (List.getElem?_eq_some_iff.1 hi).1
  rw [List.length_append, List.length_singleton] at hil
  have h1 := h.base.len
  by_cases e : i < pre.length
  · rw [List.getElem?_append_left e] at hi
    obtain ⟨k, y, h1, h2, h3⟩ := h.sub i w hi hn
    exact ⟨k, y, by simp only; rw [List.getElem?_set_ne (by omega)]; exact h1, h2, h3⟩
  · have e2 : i = pre.length := by omega
    subst e2
    rw [List.getElem?_concat_length] at hi
    injection hi with hi; subst hi
    exact ⟨k, y, by simp only; rw [List.getElem?_set_self (by omega)], hk, hs⟩
theorem resJ_app {cl : List (List Int)} {a : List Int} {n : Nat} {pre : List S_api_Line} {x : S_api_Line} {s : List Int × List S_api_Line} (h : ResJ cl a n pre s) (hp : pre.length < n) {l : S_api_Line} (hl : nrmB 0 l.Lits = true) (hr : RightP cl s.2 l) (hs : ∀ z ∈ l.Lits, z ∈ x.Lits) : ResJ cl a n (pre ++ [x]) (s.1.set pre.length (s.2.length : Int), s.2 ++ [l]) := by
  refine ⟨resI_app h.base hp hl (fun e => ?_), h.good.app hr, fun i w hi hn => ?_⟩
  · rcases hr with ⟨r1, _⟩ | ⟨_, r2, r3, la, lb, e1, e2, _⟩
    · omega
    · have h1 := (List.getElem?_eq_some_iff.1 e1).1
      have h2 := (List.getElem?_eq_some_iff.1 e2).1
      omega
  · have hil : i < (pre ++ [x]).length := (List.getElem?_eq_some_iff.1 hi).1
    rw [List.length_append, List.length_singleton] at hil
    have h1 := h.base.len
    by_cases e : i < pre.length
    · rw [List.getElem?_append_left e] at hi
      obtain ⟨k, y, h1, h2, h3⟩ := h.sub i w hi hn
      exact ⟨k, y, by simp only; rw [List.getElem?_set_ne (by omega)]; exact h1, by simp only; rw [List.getElem?_append_left (List.getElem?_eq_some_iff.1 h2).1]; exact h2, h3⟩
    · have e2 : i = pre.length := by omega
      subst e2
      rw [List.getElem?_concat_length] at hi
      injection hi with hi; subst hi
      exact ⟨s.2.length, l, by simp only; rw [List.getElem?_set_self (by omega)], List.getElem?_concat_length, hs⟩

theorem Restrict_spec {cnf : List (List Int)} {a : List Int} {p : S_api_Proof} (h0 : InL (InL (InK .i64)) cnf) (h1 : W_S_api_Proof p) (h2 : InL (InK .i64) a) (hu : (undS cnf a).2.2 = 0) (hk : (checkS cnf p).2.2 = 0) (hh : hitB (checkS cnf p).1 a = false) :
    Has1 (fun r => r.2 = 0 ∧ r.1.Cubes = false ∧ Good (undS cnf a).1 r.1.Lines ∧ r.1.Lines.length ≤ p.Lines.length ∧ ∃ y, r.1.Lines.getLast? = some y ∧ ∀ z ∈ y.Lits, z ∈ (checkS cnf p).1) (F_proof_Restrict cnf p a) := by
  unfold F_proof_Restrict
  rw [Under_prog h0 h2]
  simp only [Option.bind_some]
  obtain ⟨hw, hl, hl2, hc, hn, hcn, han, hl3⟩ := undS_ok h0 hu
  have hat := undS_at hu
  have hcn2 : ∀ c ∈ (undS cnf a).1, nrmB 0 c = true := fun c hh => by obtain ⟨d, hd, e⟩ := hc c hh; rw [e]; exact nrm_filter _ (hcn d hd)
  simp only [hu, bne_self_eq_false, Bool.false_eq_true, if_false]
  rw [Check_prog h0 h1]
  simp only [Option.bind_some, hk, bne_self_eq_false, Bool.false_eq_true, if_false]
  obtain ⟨_, hfit, hchk, xl, hxl, hxe⟩ := checkS_ok hk
  rw [hits_eq _ _ h2.1]
  simp only [Option.bind_some, hh, Bool.false_eq_true, if_false]
  have hpl := hfit.2.2
  have hp0 := hfit.2.1
  rw [okI_eq (by omega)]
  have hG := good_chk hchk
  refine rangeF_ex p.Lines (fun pre s => ResJ (undS cnf a).1 a p.Lines.length pre s) (fun s hJ => ?_) (fun pre x xs s kk hf hJ hkk => ?_) p.Lines [] (List.replicate p.Lines.length 0, []) rfl ⟨⟨by simp, by simp, by simp, fun k y hk => by simp at hk, fun i y hi => by simp at hi⟩, fun k y hk => by simp at hk, fun i y hi => by simp at hi⟩
  · have hI := hJ.base
    obtain ⟨y, e1, e2, e3, _⟩ := last_get hp0 (by omega)
    rw [hxl] at e1
    injection e1 with e1; subst e1
    rw [hxe] at hh
    obtain ⟨k, y, g1, g2, g3⟩ := hJ.sub _ _ e2 hh
    have hkl := (List.getElem?_eq_some_iff.1 g2).1
    rw [getI_eq e3 g1]
    have hle := hI.le
    rw [Kept_prog hI.ord (fun l hl => by have := nrm_len' (hI.nrm l hl); omega) hkl (by omega)]
    obtain ⟨q1, q2, y', q3, q4⟩ := keptS_good hJ.good g2
    exact ⟨_, rfl, rfl, rfl, q1, by simp only; omega, y', q3, fun z hz => by rw [hxe]; exact g3 z (by rw [← q4]; exact hz)⟩
  · have hI := hJ.base
    have hx : W_S_api_Line x := h1.2.2 x (by rw [hf]; simp)
    have hxP := inK64.1 hx.2.2.2.1
    have hlen : p.Lines.length = pre.length + (xs.length + 1) := by rw [hf]; simp
    have hr : RightP cnf pre x := by have := hG pre.length x (by rw [hf]; simp); rwa [hf, List.take_left] at this
    have hb : ∀ l ∈ pre, nrmB 0 l.Lits = true := fun l hl => by
      obtain ⟨i, hi, e⟩ := List.mem_iff_getElem.1 hl
      exact hG.nrm hcn i l (by rw [hf, List.getElem?_append_left hi, List.getElem?_eq_getElem hi, e])
    have hxn := hr.nrm hcn hb
    have hle := hI.le
    have hlt := hI.len
    rw [jn_eq, hits_eq _ _ h2.1]
    simp only [Option.bind_some]
    have gj : s.1[((pre.length : Nat) : Int).toNat]? = some (s.1.getD pre.length 0) := by rw [Int.toNat_natCast]; exact getD_get (by omega)
    by_cases hxh : hitB x.Lits a = true
    · rw [if_pos hxh]
      exact hkk s (resJ_hit hJ hxh)
    · rw [if_neg hxh]
      simp only [Bool.not_eq_true] at hxh
      have fs : ∀ (k : Nat) (y : S_api_Line), s.2[k]? = some y → (∀ z ∈ y.Lits, z ∈ x.Lits) → Has1 (fun r => r.2 = 0 ∧ r.1.Cubes = false ∧ Good (undS cnf a).1 r.1.Lines ∧ r.1.Lines.length ≤ p.Lines.length ∧ ∃ y, r.1.Lines.getLast? = some y ∧ ∀ z ∈ y.Lits, z ∈ (checkS cnf p).1) (getI s.1 ((pre.length : Nat) : Int) (fun _ => kk (s.1.set (((pre.length : Nat) : Int).toNat) (k : Int), s.2))) := fun k y hk hy => by
        rw [getI_eq (by omega) gj, Int.toNat_natCast]
        exact hkk _ (resJ_set hJ (by omega) hk hy)
      rcases hr with ⟨r1, r2, r3, r4, r5, r6⟩ | ⟨r1, r2, r3, la, lb, e1, e2, e3⟩
      · rw [if_pos (by simp [r1])]
        obtain ⟨k, g1, g2⟩ := hat.at_ x.A.toNat x.Lits (by omega) r6 hxh
        have eA : ((x.A.toNat : Nat) : Int) = x.A := by omega
        rw [eA] at g1
        simp only at g1 g2
        rw [Search_eq hat.asc (by simp only; omega) g1]
        simp only [Option.bind_some]
        have g2' : (undS cnf a).1[((k : Nat) : Int).toNat]? = some (lessL x.Lits a) := by rw [Int.toNat_natCast]; exact g2
        rw [getI_eq (by omega) g2', getI_eq (by omega) gj, capN_eq (by simp; omega), Int.toNat_natCast]
        have hkl := (List.getElem?_eq_some_iff.1 g2).1
        exact hkk _ (resJ_app hJ (by omega) (nrm_filter _ hxn) (.inl ⟨rfl, by simp only; omega, by simp only; omega, rfl, rfl, by simp only; rw [Int.toNat_natCast]; exact g2⟩) (fun z hz => (List.mem_filter.1 hz).1))
      · rw [if_neg (by simp [r1])]
        have hna := hb _ (List.mem_of_getElem? e1)
        have hnb := hb _ (List.mem_of_getElem? e2)
        obtain ⟨q1, q2, q3, q4, q5⟩ := resS_mem hna hnb e3
        obtain ⟨qn, qm⟩ := resS_iff hna hnb e3
        have hla : x.A.toNat < pre.length := (List.getElem?_eq_some_iff.1 e1).1
        have hlb : x.B.toNat < pre.length := (List.getElem?_eq_some_iff.1 e2).1
        have gA : s.1[x.A.toNat]? = some (s.1.getD x.A.toNat 0) := getD_get (by omega)
        have gB : s.1[x.B.toNat]? = some (s.1.getD x.B.toNat 0) := getD_get (by omega)
        rw [getI_eq r2 gA, getI_eq r3 gB, Contains_eq _ _ h2.1]
        simp only [Option.bind_some]
        have xf := hit_false.1 hxh
        have okA : x.Piv ∉ a → ∃ (k : Nat) (y : S_api_Line), s.1.getD x.A.toNat 0 = (k : Int) ∧ s.2[k]? = some y ∧ ∀ z ∈ y.Lits, z ∈ la.Lits := fun hp => by
          obtain ⟨k, y, h5, h6, h7⟩ := hJ.sub _ _ e1 (hit_false.2 (fun z hz => by
            by_cases e : z = x.Piv
            · rw [e]; exact hp
            · exact xf z (q4 z hz e)))
          rw [gA] at h5; injection h5 with h5
          exact ⟨k, y, h5, h6, h7⟩
        have okB : -x.Piv ∉ a → ∃ (k : Nat) (y : S_api_Line), s.1.getD x.B.toNat 0 = (k : Int) ∧ s.2[k]? = some y ∧ ∀ z ∈ y.Lits, z ∈ lb.Lits := fun hp => by
          obtain ⟨k, y, h5, h6, h7⟩ := hJ.sub _ _ e2 (hit_false.2 (fun z hz => by
            by_cases e : z = -x.Piv
            · rw [e]; exact hp
            · exact xf z (q5 z hz e)))
          rw [gB] at h5; injection h5 with h5
          exact ⟨k, y, h5, h6, h7⟩
        by_cases hpa : x.Piv ∈ a
        · rw [if_pos (by simpa using hpa)]
          have hnp : -x.Piv ∉ a := fun h => by
            have := nrm_two han (by omega) hpa h (by rw [av_neg]); omega
          obtain ⟨k, y, e, hk, hy⟩ := okB hnp
          rw [e]
          refine fs k y hk (fun z hz => q5 z (hy z hz) (fun ez => ?_))
          have := (und_free h0 hu hJ.good hk z hz).2
          rw [ez, Int.neg_neg] at this
          exact this hpa
        · rw [if_neg (by simpa using hpa), jn_eq, wrap_neg (by omega) (by omega), Contains_eq _ _ h2.1]
          simp only [Option.bind_some]
          obtain ⟨k, lr, eA, glr, hyA⟩ := okA hpa
          have hkA := (List.getElem?_eq_some_iff.1 glr).1
          rw [eA]
          by_cases hpn : -x.Piv ∈ a
          · simp only [hpn, decide_true, if_true]
            refine fs k lr glr (fun z hz => q4 z (hyA z hz) (fun ez => ?_))
            have := (und_free h0 hu hJ.good glr z hz).2
            rw [ez] at this
            exact this hpn
          · obtain ⟨m, ls, eB, gls, hyB⟩ := okB hpn
            have hkB := (List.getElem?_eq_some_iff.1 gls).1
            rw [eB]
            simp only [hpn, decide_false, Bool.false_eq_true, if_false]
            have nlr := hI.nrm _ (List.mem_of_getElem? glr)
            have nls := hI.nrm _ (List.mem_of_getElem? gls)
            have glr' : s.2[((k : Nat) : Int).toNat]? = some lr := by rw [Int.toNat_natCast]; exact glr
            have gls' : s.2[((m : Nat) : Int).toNat]? = some ls := by rw [Int.toNat_natCast]; exact gls
            rw [getI_eq (by omega) glr', contains_small nlr]
            simp only [Option.bind_some]
            by_cases hm1 : x.Piv ∈ lr.Lits
            · simp only [hm1, decide_true, Bool.not_true, Bool.false_eq_true, if_false]
              rw [getI_eq (by omega) gls', contains_small nls]
              simp only [Option.bind_some]
              by_cases hm2 : -x.Piv ∈ ls.Lits
              · simp only [hm2, decide_true, Bool.not_true, Bool.false_eq_true, if_false]
                rw [getI_eq (by omega) glr', resolvent_eq nlr nls hx.2.2.2.1]
                simp only [Option.bind_some]
                rw [getI_eq (by omega) gj, capN_eq (by simp; omega), Int.toNat_natCast]
                have hnc : NoClash x.Piv lr.Lits ls.Lits := fun z hz e hz2 => qn z (hyA z hz) e (hyB _ hz2)
                obtain ⟨w, hw⟩ := resS_ok nlr nls q1 hm1 hm2 hnc
                have hwm := (resS_iff nlr nls hw).2
                rw [hw]
                exact hkk _ (resJ_app hJ (by omega) (resS_nrm nlr nls hw) (.inr ⟨rfl, by simp only; omega, by simp only; omega, lr, ls, by simp only; exact glr', by simp only; exact gls', hw⟩) (fun z hz => (qm z).2 (by
                  rcases (hwm z).1 hz with ⟨u, v⟩ | ⟨u, v⟩
                  · exact .inl ⟨hyA z u, v⟩
                  · exact .inr ⟨hyB z u, v⟩)))
              · simp only [hm2, decide_false, Bool.not_false, if_true]
                exact fs m ls gls (fun z hz => q5 z (hyB z hz) (fun ez => hm2 (by rw [← ez]; exact hz)))
            · simp only [hm1, decide_false, Bool.not_false, if_true]
              exact fs k lr glr (fun z hz => q4 z (hyA z hz) (fun ez => hm1 (by rw [← ez]; exact hz)))

/-! ### What Lift returns -/
theorem Lift_spec {cnf : List (List Int)} {a : List Int} {q : S_api_Proof} (h0 : InL (InL (InK .i64)) cnf) (h2 : InL (InK .i64) a) (hu : (undS cnf a).2.2 = 0) (hcq : q.Cubes = false) (hg : Good (undS cnf a).1 q.Lines) (hql : q.Lines.length ≤ 1000000) (hq0 : q.Lines ≠ []) :
    Has1 (fun r => r.2 = 0 ∧ r.1.Cubes = false ∧ r.1.Lines.length = q.Lines.length ∧ Good cnf r.1.Lines ∧ ∀ (k : Nat) (x : S_api_Line), q.Lines[k]? = some x → ∃ u, r.1.Lines[k]? = some u ∧ (∀ z ∈ x.Lits, z ∈ u.Lits) ∧ ∀ z ∈ u.Lits, z ∈ x.Lits ∨ -z ∈ a) (F_proof_Lift cnf a q) := by
  obtain ⟨hw, hl, hl2, hc, hn, hcn, han, hl3⟩ := undS_ok h0 hu
  have hcn2 : ∀ c ∈ (undS cnf a).1, nrmB 0 c = true := fun c hh => by obtain ⟨d, hd, e⟩ := hc c hh; rw [e]; exact nrm_filter _ (hcn d hd)
  have hqe : q = S_api_Proof.mk false q.Lines := by cases q; simp only at hcq; rw [hcq]
  have hqw : W_S_api_Proof q := by rw [hqe]; exact hg.wf hcn2 (by omega) hql
  obtain ⟨xl, hxl⟩ : ∃ x, q.Lines.getLast? = some x := by
    cases h : q.Lines.getLast? with
    | none => exact absurd (List.getLast?_eq_none_iff.1 h) hq0
    | some x => exact ⟨x, rfl⟩
  have hck := checkS_good (undS_cnf hu) hg hxl hql
  unfold F_proof_Lift
  rw [Under_prog h0 h2]
  simp only [Option.bind_some, hu, bne_self_eq_false, Bool.false_eq_true, if_false]
  rw [Check_prog hw hqw, hqe, hck]
  simp only [Option.bind_some, bne_self_eq_false, Bool.false_eq_true, if_false]
  refine rangeF_ex q.Lines (fun pre s => s.length = pre.length ∧ Good cnf s ∧ ∀ (k : Nat) (x : S_api_Line), pre[k]? = some x → ∃ u, s[k]? = some u ∧ (∀ z ∈ x.Lits, z ∈ u.Lits) ∧ ∀ z ∈ u.Lits, z ∈ x.Lits ∨ -z ∈ a) (fun s hI => ⟨_, rfl, rfl, rfl, hI.1, hI.2.1, hI.2.2⟩) (fun pre x xs s kk hf hI hkk => ?_) q.Lines [] [] rfl ⟨rfl, fun k y hk => by simp at hk, fun k y hk => by simp at hk⟩
  have hlen : q.Lines.length = pre.length + (xs.length + 1) := by rw [hf]; simp
  have hxq : q.Lines[pre.length]? = some x := by rw [hf]; simp
  have hr : RightP (undS cnf a).1 pre x := by have := hg pre.length x hxq; rwa [hf, List.take_left] at this
  have hx : W_S_api_Line x := hqw.2.2 x (by rw [hf]; simp)
  have fin : ∀ (A : Int) (l : List Int), RightP cnf s (S_api_Line.mk x.Rule A x.B x.Piv l) → (∀ z ∈ x.Lits, z ∈ l) → (∀ z ∈ l, z ∈ x.Lits ∨ -z ∈ a) → Has1 (fun r => r.2 = 0 ∧ r.1.Cubes = false ∧ r.1.Lines.length = q.Lines.length ∧ Good cnf r.1.Lines ∧ ∀ (k : Nat) (x : S_api_Line), q.Lines[k]? = some x → ∃ u, r.1.Lines[k]? = some u ∧ (∀ z ∈ x.Lits, z ∈ u.Lits) ∧ ∀ z ∈ u.Lits, z ∈ x.Lits ∨ -z ∈ a) (capN (s.length + [(S_api_Line.mk x.Rule A x.B x.Piv l)].length) (kk (s ++ [(S_api_Line.mk x.Rule A x.B x.Piv l)]))) := by
    intro A l hl h5 h6
    rw [capN_eq (by simp; omega)]
    refine hkk _ ⟨by simp [hI.1], hI.2.1.app hl, fun k y hk => ?_⟩
    have hkl : k < (pre ++ [x]).length := (List.getElem?_eq_some_iff.1 hk).1
    rw [List.length_append, List.length_singleton] at hkl
    by_cases e : k < pre.length
    · rw [List.getElem?_append_left e] at hk
      obtain ⟨u, h1, h2⟩ := hI.2.2 k y hk
      exact ⟨u, by rw [List.getElem?_append_left (by omega)]; exact h1, h2⟩
    · have e2 : k = pre.length := by omega
      subst e2
      rw [List.getElem?_concat_length] at hk
      injection hk with hk; subst hk
      exact ⟨_, by rw [← hI.1]; exact List.getElem?_concat_length, h5, h6⟩
  simp only [jn_eq]
  rcases hr with ⟨r1, r2, r3, r4, r5, r6⟩ | ⟨r1, r2, r3, la, lb, e1, e2, e3⟩
  · rw [if_pos (by simp [r1])]
    obtain ⟨i, d, g1, g2, g3, g4⟩ := undS_back hu _ _ r6
    have g2' : cnf[((i : Nat) : Int).toNat]? = some d := by rw [Int.toNat_natCast]; exact g2
    have hil := (List.getElem?_eq_some_iff.1 g2).1
    have hnm := hcn _ (List.mem_of_getElem? g2)
    rw [getI_eq r2 g1, getI_eq (by omega) g2', Clone_eq _ (by have := nrm_len' hnm; omega)]
    simp only [Option.bind_some]
    refine fin _ _ (.inl ⟨r1, by simp only; omega, by simp only; omega, r4, r5, g2'⟩) (fun z hz => ?_) (fun z hz => ?_)
    · rw [g3] at hz; exact (List.mem_filter.1 hz).1
    · by_cases e : -z ∈ a
      · exact .inr e
      · left; rw [g3]; exact List.mem_filter.2 ⟨hz, by simpa using e⟩
  · rw [if_neg (by simp [r1])]
    obtain ⟨ua, ga, ga2, ga3⟩ := hI.2.2 _ _ e1
    obtain ⟨ub, gb, gb2, gb3⟩ := hI.2.2 _ _ e2
    have n1 := hI.2.1.nrm hcn _ _ ga
    have n2 := hI.2.1.nrm hcn _ _ gb
    have hla := (List.getElem?_eq_some_iff.1 e1).1
    have hlb := (List.getElem?_eq_some_iff.1 e2).1
    have qa : q.Lines[x.A.toNat]? = some la := by rw [hf, List.getElem?_append_left hla]; exact e1
    have qb : q.Lines[x.B.toNat]? = some lb := by rw [hf, List.getElem?_append_left hlb]; exact e2
    have m1 := hg.nrm hcn2 _ _ qa
    have m2 := hg.nrm hcn2 _ _ qb
    have fa := und_free h0 hu hg qa
    have fb := und_free h0 hu hg qb
    rw [getI_eq r2 ga, getI_eq r3 gb, resolvent_eq n1 n2 hx.2.2.2.1]
    simp only [Option.bind_some]
    obtain ⟨p1, p2, p3, _⟩ := resS_mem m1 m2 e3
    obtain ⟨pn, pm⟩ := resS_iff m1 m2 e3
    have hnc : NoClash x.Piv ua.Lits ub.Lits := fun z hz e hz2 => by
      rcases ga3 z hz with h5 | h5
      · rcases gb3 _ hz2 with h6 | h6
        · exact pn z h5 e h6
        · rw [Int.neg_neg] at h6; exact (fa z h5).1 h6
      · rcases gb3 _ hz2 with h6 | h6
        · exact (fb _ h6).1 h5
        · rw [Int.neg_neg] at h6
          have h7 := nrm_two han (by omega) h5 h6 (av_neg z)
          have h8 := (nrm_mem han _ h6).1
          have : z = 0 := by omega
          subst this
          simp [av] at h8
    obtain ⟨w, hw⟩ := resS_ok n1 n2 p1 (ga2 _ p2) (gb2 _ p3) hnc
    have hwm := (resS_iff n1 n2 hw).2
    rw [hw]
    refine fin _ _ (.inr ⟨r1, r2, r3, ua, ub, ga, gb, hw⟩) (fun z hz => (hwm z).2 ?_) (fun z hz => ?_)
    · rcases (pm z).1 hz with ⟨u, v⟩ | ⟨u, v⟩
      · exact .inl ⟨ga2 z u, v⟩
      · exact .inr ⟨gb2 z u, v⟩
    · rcases (hwm z).1 hz with ⟨u, v⟩ | ⟨u, v⟩
      · rcases ga3 z u with h5 | h5
        · exact .inl ((pm z).2 (.inl ⟨h5, v⟩))
        · exact .inr h5
      · rcases gb3 z u with h5 | h5
        · exact .inl ((pm z).2 (.inr ⟨h5, v⟩))
        · exact .inr h5
end Go.Sk.X

namespace Go.Sk.X
open Go Go.Sk

/-! ### Sizes -/
theorem zLine {x : S_api_Line} (h : Z_S_api_Line x) : W_S_api_Line x := ⟨h.1, h.2.1, h.2.2.1, h.2.2.2.1, h.2.2.2.2.wide (fun _ h => h)⟩
theorem zProof {p : S_api_Proof} (h : Z_S_api_Proof p) : W_S_api_Proof p := ⟨h.1, h.2.wide (fun _ h => zLine h)⟩

theorem rangeF_fold {α S R : Type} (g : S → α → S) (k : S → Option R) : ∀ (xs : List α) (j : Nat) (s : S), rangeF (fun _ x s k => k (g s x)) j xs s k = k (xs.foldl g s)
  | [], _, _ => rfl
  | x :: xs, j, s => rangeF_fold g k xs (j + 1) (g s x)

theorem sum_small : ∀ (xs : List S_api_Line) (s : Int), (∀ x ∈ xs, x.Lits.length ≤ 140737488351232) → 0 ≤ s → s + xs.length * 140737488351232 ≤ 9223372036854775807 →
    s ≤ xs.foldl (fun s x => IntKind.wrap .i64 (s + ((x.Lits.length : Nat) : Int))) s ∧ ∀ x ∈ xs, (x.Lits.length : Int) ≤ xs.foldl (fun s x => IntKind.wrap .i64 (s + ((x.Lits.length : Nat) : Int))) s
  | [], s, _, _, _ => ⟨Int.le_refl _, fun x h => by simp at h⟩
  | y :: ys, s, h, h0, hs => by
    have hy := h y (by simp)
    simp only [List.length_cons] at hs
    simp only [List.foldl_cons]
    rw [wrap_id (by omega) (by omega)]
    obtain ⟨h1, h2⟩ := sum_small ys (s + (y.Lits.length : Int)) (fun x hx => h x (by simp [hx])) (by omega) (by omega)
    refine ⟨by omega, fun x hx => ?_⟩
    rcases List.mem_cons.1 hx with rfl | hx
    · omega
    · exact h2 x hx

theorem large_small {p : S_api_Proof} (hz : Z_S_api_Proof p) (h : F_skolemlaw10_large [] p = some false) : p.Lines.length ≤ 300 ∧ ∀ x ∈ p.Lines, x.Lits.length ≤ 2000 := by
  unfold F_skolemlaw10_large at h
  rw [rangeF_nil, rangeF_fold (fun s (x : S_api_Line) => IntKind.wrap .i64 (s + ((x.Lits.length : Nat) : Int)))] at h
  simp only [List.length_nil] at h
  rw [if_neg (by simp), if_neg (by simp)] at h
  by_cases h3 : p.Lines.length > 300
  · rw [if_pos (by simp; omega)] at h; simp at h
  · rw [if_neg (by simp; omega)] at h
    simp only [Option.some.injEq, decide_eq_false_iff_not] at h
    obtain ⟨_, h2⟩ := sum_small p.Lines 0 (fun x hx => (hz.2.2 x hx).2.2.2.2.1) (by omega) (by omega)
    exact ⟨by omega, fun x hx => by have := h2 x hx; omega⟩

/-! ### Order -/
def okLine (j : Nat) (x : S_api_Line) : Bool := decide (x.Rule = 1) || (decide (x.Rule = 2) && (decide (0 ≤ x.A) && decide (x.A < j) && decide (0 ≤ x.B) && decide (x.B < j)))
def ordF : Nat → List S_api_Line → Bool
  | _, [] => true
  | j, x :: xs => okLine j x && ordF (j + 1) xs

open Classical in
theorem fits_eq (p : S_api_Proof) : F_proof_fits p = some (decide (FitsP p)) := by
  unfold F_proof_fits FitsP
  cases p.Cubes with
  | true => simp
  | false =>
    by_cases c1 : 0 < p.Lines.length
    · rw [if_pos (by simp), if_pos (by simpa using c1)]
      simp [c1]; omega
    · rw [if_pos (by simp), if_neg (by simpa using c1)]
      simp [c1]

open Classical in
theorem ordered_eq (p : S_api_Proof) : F_proof_ordered p = some (decide (FitsP p) && ordF 0 p.Lines) := by
  unfold F_proof_ordered
  rw [fits_eq]
  simp only [Option.bind_some]
  by_cases hf : FitsP p
  · simp only [hf, decide_true, Bool.not_true, Bool.false_eq_true, if_false, Bool.true_and]
    refine rangeF_eq (fun j xs _ => some (ordF j xs)) (fun _ _ => rfl) (fun j x xs s kk hk => ?_) p.Lines 0 ()
    rw [jn_eq, hk, ordF, okLine]
    by_cases r1 : x.Rule = 1
    · simp [r1]
    · by_cases r2 : x.Rule = 2
      · have e1 : decide (imn x.A x.B < 0) = !(decide (0 ≤ x.A) && decide (0 ≤ x.B)) := by
          by_cases b1 : 0 ≤ x.A <;> by_cases b2 : 0 ≤ x.B <;> simp only [b1, b2, decide_true, decide_false, Bool.and_true, Bool.and_false, Bool.not_true, Bool.not_false, decide_eq_true_eq, decide_eq_false_iff_not] <;> (unfold imn; split <;> omega)
        have e2 : decide (imx x.A x.B ≥ (j : Int)) = !(decide (x.A < j) && decide (x.B < j)) := by
          by_cases b1 : x.A < (j : Int) <;> by_cases b2 : x.B < (j : Int) <;> simp only [b1, b2, decide_true, decide_false, Bool.and_true, Bool.and_false, Bool.not_true, Bool.not_false, decide_eq_true_eq, decide_eq_false_iff_not] <;> (unfold imx; split <;> omega)
        rw [e1, e2]
        by_cases b1 : 0 ≤ x.A <;> by_cases b2 : 0 ≤ x.B <;> by_cases b3 : x.A < (j : Int) <;> by_cases b4 : x.B < (j : Int) <;> simp [r1, r2, b1, b2, b3, b4]
      · simp [r1, r2]
  · simp [hf]

open Classical in
theorem Ordered_eq (p : S_api_Proof) : F_skolemref10_Ordered p = some (decide (FitsP p) && ordF 0 p.Lines) := by
  unfold F_skolemref10_Ordered
  rw [jn_eq]
  by_cases hf : FitsP p
  · obtain ⟨f1, f2, f3⟩ := id hf
    rw [if_neg (by simp [f1]), if_neg (by simp; intro e; rw [e] at f2; simp at f2)]
    simp only
    rw [if_neg (by simp; omega)]
    simp only [hf, decide_true, Bool.true_and]
    refine rangeF_eq (fun j xs _ => some (ordF j xs)) (fun _ _ => rfl) (fun j x xs s kk hk => ?_) p.Lines 0 ()
    simp only [jn_eq]
    rw [hk, ordF, okLine]
    by_cases r1 : x.Rule = 1
    · simp [r1]
    · by_cases r2 : x.Rule = 2
      · have n1 : decide (x.A < 0) = !decide (0 ≤ x.A) := (decide_eq_decide.2 (show (x.A < 0) ↔ ¬ (0 ≤ x.A) by omega)).trans decide_not
        have n2 : decide (x.B < 0) = !decide (0 ≤ x.B) := (decide_eq_decide.2 (show (x.B < 0) ↔ ¬ (0 ≤ x.B) by omega)).trans decide_not
        have n3 : decide (x.A ≥ (j : Int)) = !decide (x.A < (j : Int)) := (decide_eq_decide.2 (show (x.A ≥ (j : Int)) ↔ ¬ (x.A < (j : Int)) by omega)).trans decide_not
        have n4 : decide (x.B ≥ (j : Int)) = !decide (x.B < (j : Int)) := (decide_eq_decide.2 (show (x.B ≥ (j : Int)) ↔ ¬ (x.B < (j : Int)) by omega)).trans decide_not
        rw [n1, n2, n3, n4]
        by_cases b1 : 0 ≤ x.A <;> by_cases b2 : 0 ≤ x.B <;> by_cases b3 : x.A < (j : Int) <;> by_cases b4 : x.B < (j : Int) <;> simp [r1, r2, b1, b2, b3, b4]
      · simp [r1, r2]
  · simp only [hf, decide_false, Bool.false_and]
    cases hcu : p.Cubes with
    | true => simp
    | false =>
      by_cases c1 : p.Lines.length = 0
      · simp [c1]
      · have c2 : ¬ p.Lines.length ≤ 1000000 := fun h => hf ⟨hcu, by omega, h⟩
        simp only [Bool.false_eq_true, if_false]
        rw [if_neg (by simpa using c1), if_pos (by simp; omega)]

/-! ### Copies -/
def copyL (n : Int) (x : S_api_Line) : S_api_Line := S_api_Line.mk x.Rule (if x.Rule = 2 then IntKind.wrap .i64 (x.A + n) else x.A) (if x.Rule = 2 then IntKind.wrap .i64 (x.B + n) else x.B) x.Piv x.Lits

theorem copyL_zero {x : S_api_Line} (h : W_S_api_Line x) : copyL 0 x = x := by
  have h1 := inK64.1 h.2.1
  have h2 := inK64.1 h.2.2.1
  unfold copyL
  rw [Int.add_zero, Int.add_zero, wrap_id h1.1 h1.2, wrap_id h2.1 h2.2]
  simp

theorem copied_eq {p : S_api_Proof} (n : Int) (hl : p.Lines.length ≤ 1000000) (hs : ∀ x ∈ p.Lines, x.Lits.length ≤ 2000) : F_proof_copied p n = some (p.Lines.map (copyL n)) := by
  unfold F_proof_copied
  refine rangeF_pre p.Lines (fun pre s => s = pre.map (copyL n)) (fun _ _ _ => some (p.Lines.map (copyL n))) (fun s h => by rw [h]) (fun pre x xs s kk hf hI hk => ?_) p.Lines [] [] rfl rfl
  have hlen : p.Lines.length = pre.length + (xs.length + 1) := by rw [hf]; simp
  have hx := hs x (by rw [hf]; simp)
  subst hI
  rw [Clone_eq _ (by omega)]
  simp only [Option.bind_some, jn_eq]
  have hk := hk (pre.map (copyL n) ++ [copyL n x]) (by simp)
  by_cases r : x.Rule = 2
  · rw [if_pos (by simpa using r), capN_eq (by simp; omega)]
    simpa only [copyL, r, if_true] using hk
  · rw [if_neg (by simpa using r), capN_eq (by simp; omega)]
    simpa only [copyL, r, if_false] using hk

theorem Join_both {p q : S_api_Proof} {piv : Int} (hp : W_S_api_Proof p) (hq : W_S_api_Proof q) (hv : InK .i64 piv) (lp : p.Lines.length ≤ 300) (lq : q.Lines.length ≤ 300) (sp : ∀ x ∈ p.Lines, x.Lits.length ≤ 2000) (sq : ∀ x ∈ q.Lines, x.Lits.length ≤ 2000) :
    Both (F_proof_Join p q piv) (F_skolemref10_Join p q piv) := by
  classical
  unfold F_proof_Join F_skolemref10_Join
  simp only [jn_eq]
  rw [ordered_eq, ordered_eq, Ordered_eq, Ordered_eq]
  simp only [Option.bind_some]
  have hvb := inK64.1 hv
  by_cases h1 : (decide (FitsP p) && ordF 0 p.Lines) = true
  · rw [h1]
    simp only [Bool.not_true, Bool.false_eq_true, if_false]
    by_cases h2 : (decide (FitsP q) && ordF 0 q.Lines) = true
    · rw [h2]
      simp only [Bool.not_true, Bool.false_eq_true, if_false]
      by_cases h3 : piv < 1
      · simp only [h3, decide_true, if_true]; exact ⟨_, rfl, rfl⟩
      · by_cases h4 : piv > 65536
        · simp only [h3, h4, decide_true, decide_false, Bool.false_eq_true, if_false, if_true]; exact ⟨_, rfl, rfl⟩
        · simp only [h3, h4, decide_false, Bool.false_eq_true, if_false]
          simp only [Bool.and_eq_true, decide_eq_true_eq] at h1 h2
          have fp := h1.1
          have fq := h2.1
          obtain ⟨c, _, c2, c3, c4⟩ := last_get fp.2.1 (by omega)
          obtain ⟨d, _, d2, d3, d4⟩ := last_get fq.2.1 (by omega)
          have hcW := (hp.2.2 c c4).2.2.2.2
          have hdW := (hq.2.2 d d4).2.2.2.2
          rw [getI_eq c3 c2, getI_eq d3 d2, getI_eq c3 c2, getI_eq d3 d2, normal_eq, normal_eq, Normal_eq hcW.1, Normal_eq hdW.1]
          simp only [Option.bind_some]
          by_cases n1 : nrmB 0 c.Lits = true
          · by_cases n2 : nrmB 0 d.Lits = true
            · simp only [n1, n2, Bool.not_true, Bool.false_eq_true, if_false]
              rw [contains_small n1, Has_eq]
              simp only [Option.bind_some]
              have ep : p = S_api_Proof.mk false p.Lines := by have := fp.1; cases p; simp only at this; rw [this]
              have eq : q = S_api_Proof.mk false q.Lines := by have := fq.1; cases q; simp only at this; rw [this]
              have cp : ∀ (r : S_api_Proof), W_S_api_Proof r → r.Lines.map (copyL 0) = r.Lines := fun r hr => by
                rw [List.map_congr_left (fun x hx => copyL_zero (hr.2.2 x hx)), List.map_id']
              by_cases m1 : piv ∈ c.Lits
              · simp only [m1, decide_true, Bool.not_true, Bool.false_eq_true, if_false]
                rw [wrap_neg (by omega) (by omega), contains_small n2, Has_eq]
                simp only [Option.bind_some]
                by_cases m2 : -piv ∈ d.Lits
                · simp only [m2, decide_true, Bool.not_true, Bool.false_eq_true, if_false]
                  rw [resolvent_eq n1 n2 hv, Resolvent_eq n1 n2 hv]
                  simp only [Option.bind_some]
                  by_cases m3 : (resS c.Lits d.Lits piv).2 = true
                  · simp only [m3, Bool.not_true, Bool.false_eq_true, if_false]
                    by_cases m4 : IntKind.wrap .i64 (IntKind.wrap .i64 (((p.Lines.length : Nat) : Int) + ((q.Lines.length : Nat) : Int)) + 1) > 1000000
                    · simp only [m4, decide_true, if_true]; exact ⟨_, rfl, rfl⟩
                    · simp only [m4, decide_false, Bool.false_eq_true, if_false]
                      rw [copied_eq 0 (by omega) sp, copied_eq ((p.Lines.length : Nat) : Int) (by omega) sq, cp p hp]
                      simp only [Option.bind_some]
                      rw [capN_eq (by simp; omega), capN_eq (by simp; omega), capN_eq (by omega)]
                      refine ⟨_, rfl, ?_⟩
                      refine rangeF_pre q.Lines (fun pre s => s = p.Lines ++ pre.map (copyL ((p.Lines.length : Nat) : Int))) (fun _ _ _ => _) (fun s h => ?_) (fun pre x xs s kk hf hI hk => ?_) q.Lines [] p.Lines rfl (by simp)
                      · rw [h, capN_eq (by simp; omega)]
                      · have hlen : q.Lines.length = pre.length + (xs.length + 1) := by rw [hf]; simp
                        subst hI
                        have hk := hk (p.Lines ++ pre.map (copyL ((p.Lines.length : Nat) : Int)) ++ [copyL ((p.Lines.length : Nat) : Int) x]) (by simp)
                        by_cases r : x.Rule = 2
                        · rw [if_pos (by simpa using r), capN_eq (by simp; omega)]
                          simpa only [copyL, r, if_true] using hk
                        · rw [if_neg (by simpa using r), capN_eq (by simp; omega)]
                          simpa only [copyL, r, if_false] using hk
                  · simp only [Bool.not_eq_true] at m3
                    simp only [m3, Bool.not_false, if_true]
                    exact ⟨_, rfl, rfl⟩
                · simp only [m2, decide_false, Bool.not_false, if_true]
                  rw [copied_eq 0 (by omega) sq, cp q hq]
                  simp only [Option.bind_some]
                  rw [← eq]
                  exact ⟨_, rfl, rfl⟩
              · simp only [m1, decide_false, Bool.not_false, if_true]
                rw [copied_eq 0 (by omega) sp, cp p hp]
                simp only [Option.bind_some]
                rw [← ep]
                exact ⟨_, rfl, rfl⟩
            · simp only [Bool.not_eq_true] at n2
              simp only [n1, n2, Bool.not_true, Bool.not_false, Bool.false_eq_true, if_false, if_true]
              exact ⟨_, rfl, rfl⟩
          · simp only [Bool.not_eq_true] at n1
            simp only [n1, Bool.not_false, if_true]
            exact ⟨_, rfl, rfl⟩
    · simp only [Bool.not_eq_true] at h2
      rw [h2]
      simp only [Bool.not_false, if_true]
      exact ⟨_, rfl, rfl⟩
  · simp only [Bool.not_eq_true] at h1
    rw [h1]
    simp only [Bool.not_false, if_true]
    exact ⟨_, rfl, rfl⟩

theorem law_ProofJoins {a0 a1 : S_api_Proof} {a2 : Int} (h0 : Z_S_api_Proof a0) (h1 : Z_S_api_Proof a1) (h2 : InK .i64 a2) : F_skolemlaw10_ProofJoins a0 a1 a2 = some true := by
  obtain ⟨b, hb⟩ := large_some [] a0
  obtain ⟨c, hc⟩ := large_some [] a1
  unfold F_skolemlaw10_ProofJoins
  rw [jn_eq, hb, hc]
  have hd : F_skolemlaw10_head.bind (fun y => some y) = some true := by simp [F_skolemlaw10_head]
  cases b with
  | true => simpa using hd
  | false =>
    cases c with
    | true => simpa using hd
    | false =>
      have l0 := large_small h0 hb
      have l1 := large_small h1 hc
      obtain ⟨r, e1, e2⟩ := Join_both (zProof h0) (zProof h1) h2 l0.1 l1.1 l0.2 l1.2
      simp only [Option.bind_some, Bool.false_eq_true, if_false]
      rw [e1, e2]
      simp [SameProof_self, hd]
end Go.Sk.X

namespace Go.Sk.X
open Go Go.Sk

/-! ### Why a line is asked for -/
theorem need1_why {l : List S_api_Line} {k i : Nat} {m : List Bool} (h : (need1 l k m).getD i false = true) : m.getD i false = true ∨ (m.getD k false = true ∧ ∃ x, l[k]? = some x ∧ x.Rule = 2 ∧ (x.A.toNat = i ∨ x.B.toNat = i)) := by
  unfold need1 at h
  split at h
  · rename_i hk
    split at h
    · rename_i x hx
      split at h
      · rename_i hr
        rw [getD_set] at h
        split at h
        · rename_i hb; exact .inr ⟨hk, x, hx, hr, .inr hb.1⟩
        · rw [getD_set] at h
          split at h
          · rename_i ha; exact .inr ⟨hk, x, hx, hr, .inl ha.1⟩
          · exact .inl h
      · exact .inl h
    · exact .inl h
  · exact .inl h
theorem needF_why {l : List S_api_Line} (ho : OrdL l) : ∀ (k : Nat) (m : List Bool), m.length = l.length → ∀ i, (needF l k m).getD i false = true →
    m.getD i false = true ∨ ∃ (j : Nat) (x : S_api_Line), (needF l k m).getD j false = true ∧ l[j]? = some x ∧ x.Rule = 2 ∧ (x.A.toNat = i ∨ x.B.toNat = i)
  | 0, m, _, i, h => .inl h
  | k + 1, m, hm, i, h => by
    rw [needF] at h ⊢
    rcases needF_why ho k (need1 l k m) (by rw [need1_length]; exact hm) i h with h1 | h1
    · rcases need1_why h1 with h2 | ⟨hk, x, hx, hr, hi⟩
      · exact .inl h2
      · refine .inr ⟨k, x, ?_, hx, hr, hi⟩
        rw [(needF_spec ho k (need1 l k m) (by rw [need1_length]; exact hm)).2.1 k (Nat.le_refl _), need1_same ho (Nat.le_refl _)]
        exact hk
    · exact .inr h1
theorem needS_why {l : List S_api_Line} (ho : OrdL l) {last i : Nat} (h : (needS l last).getD i false = true) : i = last ∨ ∃ (j : Nat) (x : S_api_Line), (needS l last).getD j false = true ∧ l[j]? = some x ∧ x.Rule = 2 ∧ (x.A.toNat = i ∨ x.B.toNat = i) := by
  rcases needF_why ho (last + 1) _ (by simp) i h with h1 | h1
  · rw [getD_set] at h1
    split at h1
    · rename_i e; exact .inl e.1.symm
    · rw [List.getD_eq_getElem?_getD, List.getElem?_replicate] at h1
      split at h1 <;> simp at h1
  · exact .inr h1

/-! ### Where kept lines stand -/
structure KeepU (l : List S_api_Line) (f : List Bool) (j : Nat) (s : List Int × List S_api_Line) : Prop where
  len : s.1.length = l.length
  at_ : ∀ (i : Nat) (x : S_api_Line), i < j → f.getD i false = true → l[i]? = some x → ∃ (k : Nat) (y : S_api_Line), s.1[i]? = some (k : Int) ∧ s.2[k]? = some y ∧ y.Rule = x.Rule ∧ (x.Rule = 2 → s.1[x.A.toNat]? = some y.A ∧ s.1[x.B.toNat]? = some y.B) ∧ (x.Rule ≠ 2 → y.A = x.A)
  back : ∀ (k : Nat) (y : S_api_Line), s.2[k]? = some y → ∃ (i : Nat), i < j ∧ f.getD i false = true ∧ s.1[i]? = some (k : Int)
  mono : ∀ (i i' k k' : Nat), i < i' → i' < j → f.getD i false = true → f.getD i' false = true → s.1[i]? = some (k : Int) → s.1[i']? = some (k' : Int) → k < k'
  top : ∀ (i k : Nat), i < j → f.getD i false = true → (∀ m, i < m → m < j → f.getD m false = false) → s.1[i]? = some (k : Int) → k + 1 = s.2.length

theorem keepF_used {l : List S_api_Line} (ho : OrdL l) {last : Nat} : ∀ (bs : List Bool) (j : Nat) (s : List Int × List S_api_Line), bs = (needS l last).drop j → j + bs.length = l.length → KeepU l (needS l last) j s → KeepU l (needS l last) l.length (keepF l j bs s)
  | [], j, s, hb, hj, h => by
    have : j = l.length := by simpa using hj
    subst this; exact h
  | b :: bs, j, s, hb, hj, h => by
    have hjl : j < l.length := by simp only [List.length_cons] at hj; omega
    have hjn : j < (needS l last).length := by rw [needS_length]; exact hjl
    have hd : (needS l last).drop j = (needS l last)[j] :: (needS l last).drop (j + 1) := List.drop_eq_getElem_cons hjn
    rw [hd] at hb
    injection hb with hb1 hb2
    have hbj : (needS l last).getD j false = b := by rw [List.getD_eq_getElem?_getD, List.getElem?_eq_getElem hjn, hb1]; rfl
    refine keepF_used ho bs (j + 1) _ hb2 (by simp only [List.length_cons] at hj; omega) ?_
    cases b with
    | false =>
      have ne : ∀ i, (needS l last).getD i false = true → i ≠ j := fun i hf e => by subst e; rw [hbj] at hf; simp at hf
      simp only [Bool.false_eq_true, if_false]
      refine ⟨h.len, fun i x hi hf hx => ?_, fun k y hk => ?_, fun i i' k k' h1 h2 h3 h4 h5 h6 => ?_, fun i k h1 h2 h3 h4 => ?_⟩
      · exact h.at_ i x (by have := ne i hf; omega) hf hx
      · obtain ⟨i, h1, h2⟩ := h.back k y hk
        exact ⟨i, by omega, h2⟩
      · exact h.mono i i' k k' h1 (by have := ne i' h4; omega) h3 h4 h5 h6
      · exact h.top i k (by have := ne i h2; omega) h2 (fun m a b => h3 m a (by omega)) h4
    | true =>
      simp only [if_true]
      obtain ⟨x, hx⟩ : ∃ x, l[j]? = some x := ⟨_, List.getElem?_eq_getElem hjl⟩
      have hlen := h.len
      have hk1 : keep1 l j s = (s.1.set j (s.2.length : Int), s.2 ++ [S_api_Line.mk x.Rule (if x.Rule = 2 then s.1.getD x.A.toNat 0 else x.A) (if x.Rule = 2 then s.1.getD x.B.toNat 0 else x.B) x.Piv x.Lits]) := by unfold keep1; rw [hx]
      rw [hk1]
      have old : ∀ i, i ≠ j → (s.1.set j (s.2.length : Int))[i]? = s.1[i]? := fun i hi => List.getElem?_set_ne (by omega)
      have new : (s.1.set j (s.2.length : Int))[j]? = some (s.2.length : Int) := List.getElem?_set_self (by omega)
      refine ⟨by simpa using hlen, fun i y hi hf hy => ?_, fun k y hk => ?_, fun i i' k k' h1 h2 h3 h4 h5 h6 => ?_, fun i k h1 h2 h3 h4 => ?_⟩
      · by_cases e : i = j
        · subst e
          rw [hx] at hy; injection hy with hy; subst hy
          refine ⟨s.2.length, _, new, List.getElem?_concat_length, rfl, fun hr => ?_, fun hr => ?_⟩
          · have hoo := ho _ _ hx hr
            simp only [hr, if_true]
            rw [old _ (by omega), old _ (by omega)]
            exact ⟨getD_get (by omega), getD_get (by omega)⟩
          · simp only [hr, if_false]
        · obtain ⟨k, z, h1, h2, h3, h4, h5⟩ := h.at_ i y (by omega) hf hy
          refine ⟨k, z, ?_, ?_, h3, fun hr => ?_, h5⟩
          · simp only; rw [old i e]; exact h1
          · simp only; rw [List.getElem?_append_left (List.getElem?_eq_some_iff.1 h2).1]; exact h2
          · have hoo := ho _ _ hy hr
            simp only
            rw [old _ (by omega), old _ (by omega)]
            exact h4 hr
      · by_cases e : k < s.2.length
        · simp only at hk
          rw [List.getElem?_append_left e] at hk
          obtain ⟨i, h1, h2, h3⟩ := h.back k y hk
          exact ⟨i, by omega, h2, by simp only; rw [old i (by omega)]; exact h3⟩
        · have hkl := (List.getElem?_eq_some_iff.1 hk).1
          simp only [List.length_append, List.length_singleton] at hkl
          have : k = s.2.length := by omega
          subst this
          exact ⟨j, by omega, hbj, new⟩
      · simp only at h5 h6
        by_cases e : i' = j
        · subst e
          rw [new] at h6
          rw [old i (by omega)] at h5
          obtain ⟨y, hy⟩ : ∃ y, l[i]? = some y := ⟨_, List.getElem?_eq_getElem (by omega)⟩
          obtain ⟨k2, z, g1, g2, _⟩ := h.at_ i y h1 h3 hy
          rw [h5] at g1; injection g1 with g1
          have := (List.getElem?_eq_some_iff.1 g2).1
          injection h6 with h6
          omega
        · rw [old i (by omega)] at h5
          rw [old i' e] at h6
          exact h.mono i i' k k' h1 (by omega) h3 h4 h5 h6
      · simp only at h4 ⊢
        by_cases e : i = j
        · subst e
          rw [new] at h4; injection h4 with h4
          simp; omega
        · have := h3 j (by omega) (by omega)
          rw [hbj] at this; simp at this

theorem keptS_used {l : List S_api_Line} (ho : OrdL l) {last : Nat} (hl : last < l.length) {i : Nat} {y : S_api_Line} (hy : (keptS l last).Lines[i]? = some y) :
    (i + 1 = (keptS l last).Lines.length ∨ ∃ (k : Nat) (z : S_api_Line), i < k ∧ (keptS l last).Lines[k]? = some z ∧ z.Rule = 2 ∧ (z.A = i ∨ z.B = i)) ∧
    (y.Rule = 1 → ∃ (n : Nat) (x : S_api_Line), (needS l last).getD n false = true ∧ l[n]? = some x ∧ x.Rule = 1 ∧ x.A = y.A) := by
  have hI := keepF_used ho (last := last) (needS l last) 0 (List.replicate l.length 0, []) rfl (by rw [needS_length]; simp) ⟨by simp, fun i y hi => absurd hi (Nat.not_lt_zero _), fun k y hk => by simp at hk, fun i i' k k' _ hi => absurd hi (Nat.not_lt_zero _), fun i k hi => absurd hi (Nat.not_lt_zero _)⟩
  have hy : (keepF l 0 (needS l last) (List.replicate l.length 0, [])).2[i]? = some y := hy
  show (i + 1 = (keepF l 0 (needS l last) (List.replicate l.length 0, [])).2.length ∨ ∃ (k : Nat) (z : S_api_Line), i < k ∧ (keepF l 0 (needS l last) (List.replicate l.length 0, [])).2[k]? = some z ∧ z.Rule = 2 ∧ (z.A = i ∨ z.B = i)) ∧ _
  generalize keepF l 0 (needS l last) (List.replicate l.length 0, []) = s at hI hy
  obtain ⟨n, h1, h2, h3⟩ := hI.back i y hy
  obtain ⟨x, hx⟩ : ∃ x, l[n]? = some x := ⟨_, List.getElem?_eq_getElem h1⟩
  refine ⟨?_, fun hr => ?_⟩
  · rcases needS_why ho h2 with e | ⟨j, x', g1, g2, g3, g4⟩
    · subst e
      exact .inl (hI.top n i h1 h2 (fun m a b => needS_behind ho m a) h3)
    · right
      have hjl := (List.getElem?_eq_some_iff.1 g2).1
      have hoo := ho _ _ g2 g3
      obtain ⟨k, z, p1, p2, p3, p4, _⟩ := hI.at_ j x' hjl g1 g2
      obtain ⟨pa, pb⟩ := p4 g3
      have hnj : n < j := by omega
      refine ⟨k, z, hI.mono n j i k hnj hjl h2 g1 h3 p1, p2, by omega, ?_⟩
      rcases g4 with g4 | g4
      · rw [g4, h3] at pa; injection pa with pa; exact .inl pa.symm
      · rw [g4, h3] at pb; injection pb with pb; exact .inr pb.symm
  · obtain ⟨k, z, p1, p2, p3, _, p5⟩ := hI.at_ n x h1 h2 hx
    rw [h3] at p1; injection p1 with p1
    have : k = i := by omega
    subst this
    rw [hy] at p2; injection p2 with p2; subst p2
    exact ⟨n, x, h2, hx, by omega, (p5 (by omega)).symm⟩

/-! ### Loops of which only an end is asked -/
theorem upF_ex {S R : Type} {Post : R → Prop} {f : Int → S → (S → Option R) → Option R} {k : S → Option R} (lo : Int) (n : Nat) (I : Nat → S → Prop) (h0 : ∀ s, I n s → Has1 Post (k s))
    (h1 : ∀ j s kk, j < n → I j s → (∀ s', I (j + 1) s' → Has1 Post (kk s')) → Has1 Post (f (lo + j) s kk)) : ∀ m j s, j + m = n → I j s → Has1 Post (upF f m (lo + j) s k)
  | 0, j, s, hf, hI => by
    have : j = n := by omega
    subst this; exact h0 s hI
  | m + 1, j, s, hf, hI => by
    rw [upF_succ]
    refine h1 j s _ (by omega) hI (fun s' hs' => ?_)
    have := upF_ex lo n I h0 h1 m (j + 1) s' (by omega) hs'
    have e : lo + ((j + 1 : Nat) : Int) = lo + j + 1 := by omega
    rw [e] at this
    exact this
theorem upF_ex0 {S R : Type} {Post : R → Prop} {f : Int → S → (S → Option R) → Option R} {k : S → Option R} (lo : Int) (n : Nat) (I : Nat → S → Prop) (h0 : ∀ s, I n s → Has1 Post (k s))
    (h1 : ∀ j s kk, j < n → I j s → (∀ s', I (j + 1) s' → Has1 Post (kk s')) → Has1 Post (f (lo + j) s kk)) (s : S) (hI : I 0 s) : Has1 Post (upF f n lo s k) := by
  have h := upF_ex lo n I h0 h1 n 0 s (by omega) hI
  rwa [show lo + ((0 : Nat) : Int) = lo by simp] at h
theorem whileF_ex {S R : Type} {Post : R → Prop} {b : (S → Option R) → S → Option R} (μ : S → Nat) (I : S → Prop)
    (step : ∀ s k, I s → (∀ s', I s' → μ s' < μ s → Has1 Post (k s')) → Has1 Post (b k s)) : ∀ n s, I s → μ s < n → Has1 Post (whileF n b s)
  | 0, s, _, h => absurd h (Nat.not_lt_zero _)
  | n + 1, s, hI, h => by
    rw [whileF_succ]
    exact step s _ hI (fun s' h1 h2 => whileF_ex μ I step n s' h1 (by omega))

theorem ordF_of {l : List S_api_Line} : ∀ {j : Nat}, (∀ (k : Nat) (x : S_api_Line), l[k]? = some x → okLine (j + k) x = true) → ordF j l = true := by
  induction l with
  | nil => intros; rfl
  | cons x xs ih =>
    intro j h
    rw [ordF, Bool.and_eq_true]
    refine ⟨h 0 x rfl, ih (fun k y hk => ?_)⟩
    have := h (k + 1) y (by simpa using hk)
    rw [show j + 1 + k = j + (k + 1) by omega]; exact this
theorem Good.ordF {cnf : List (List Int)} {l : List S_api_Line} (h : Good cnf l) : Go.Sk.X.ordF 0 l = true := by
  refine ordF_of (fun k x hk => ?_)
  rw [Nat.zero_add]
  have ho := h.ord k x hk
  unfold okLine
  rcases h k x hk with ⟨r1, _⟩ | ⟨r1, _⟩
  · simp [r1]
  · have := ho r1
    simp [r1, this]

/-! ### Core -/
theorem srt_length (s : List Int) : (srt s).length = s.length := by unfold srt; exact List.length_mergeSort _
theorem mem_srt {s : List Int} {z : Int} : z ∈ srt s ↔ z ∈ s := by unfold srt; exact List.mem_mergeSort

theorem take_set_len {l : List Int} {w : Nat} {v : Int} (h : w < l.length) : (l.set w v).take (w + 1) = l.take w ++ [v] := by
  rw [List.take_set]
  rw [List.take_succ_eq_append_getElem h, List.set_append_right _ _ (by simp; omega)]
  simp [Nat.min_eq_left (Nat.le_of_lt h)]

theorem compact_ex {s : List Int} (hs : s.length ≤ 1000000) {Post : List Int × Int → Prop} (hp : ∀ c : List Int, (∀ z ∈ s, z ∈ c) → Post (c, 0)) {k398 : List Int × Nat → Option (List Int × Int)} (hk : ∀ (a : List Int) (n : Nat), k398 (a, n) = some ((a.take (0 + n)).drop 0, 0)) :
    Has1 Post (if (decide (((s.length : Nat) : Int) < (2 : Int))) = true then (k398 ((srt s), s.length)) else (whileF 1000000000000 (fun k402 (s400 : Int) => (if (decide (s400 < ((s.length : Nat) : Int))) = true then (getI (srt s) s400 (fun x542 => (getI (srt s) (IntKind.wrap .i64 (s400 - (1 : Int))) (fun x543 => (if (x542 == x543) = true then (okI (0 ≤ s400 ∧ s400.toNat ≤ s.length) (okI (-9223372036854775808 ≤ (1 : Int) ∧ (((s.length - s400.toNat) : Nat) : Int) ≤ 9223372036854775807) (upF (fun (j549 : Int) (s546 : (Int × (List Int))) k548 => (jn (fun (s595 : (Int × (List Int))) => (k548 (s595.1, s595.2))) (fun k597 => (okI (0 ≤ j549 ∧ j549.toNat < (s.length - s400.toNat)) (getI s546.2 (((s400.toNat + j549.toNat) : Nat) : Int) (fun x598 => (okI (0 ≤ (IntKind.wrap .i64 (j549 - (1 : Int))) ∧ (IntKind.wrap .i64 (j549 - (1 : Int))).toNat < (s.length - s400.toNat)) (getI s546.2 (((s400.toNat + (IntKind.wrap .i64 (j549 - (1 : Int))).toNat) : Nat) : Int) (fun x600 => (if (x598 != x600) = true then (okI (0 ≤ j549 ∧ j549.toNat < (s.length - s400.toNat)) (getI s546.2 (((s400.toNat + j549.toNat) : Nat) : Int) (fun x603 => (getI s546.2 s546.1 (fun x605 => (k597 ((IntKind.wrap .i64 (s546.1 + (1 : Int))), (s546.2.set s546.1.toNat x603)))))))) else (k597 (s546.1, s546.2)))))))))))) (((((s.length - s400.toNat) : Nat) : Int) - (1 : Int)).toNat) (1 : Int) (s400, (srt s)) (fun (s546 : (Int × (List Int))) => (okI (0 ≤ s546.1 ∧ s546.1.toNat ≤ s546.2.length) (okI (s546.1.toNat + (s546.2.length - s546.1.toNat) ≤ s546.2.length) (okI (0 ≤ s546.1 ∧ s546.1.toNat ≤ s546.2.length) (k398 ((s546.2.take s546.1.toNat ++ List.replicate (s546.2.length - s546.1.toNat) (0 : Int) ++ s546.2.drop (s546.1.toNat + (s546.2.length - s546.1.toNat))), s546.1.toNat))))))))) else (k402 (IntKind.wrap .i64 (s400 + (1 : Int))))))))) else (k398 ((srt s), s.length)))) (1 : Int))) := by
  have hlen := srt_length s
  have all : Has1 Post (k398 (srt s, s.length)) := by
    rw [hk]
    refine ⟨_, rfl, hp _ (fun z hz => ?_)⟩
    rw [Nat.zero_add, List.drop_zero, List.take_of_length_le (by omega)]
    exact mem_srt.2 hz
  split
  · exact all
  · refine whileF_ex (S := Int) (fun i => s.length - i.toNat) (fun i => 1 ≤ i ∧ i ≤ s.length) (fun i kk hI hkk => ?_) _ (1 : Int) ?_ ?_
    · by_cases hi : i < (s.length : Int)
      · rw [if_pos (by simpa using hi)]
        obtain ⟨u, hu⟩ : ∃ u, (srt s)[i.toNat]? = some u := ⟨_, List.getElem?_eq_getElem (by omega)⟩
        obtain ⟨v, hv⟩ : ∃ v, (srt s)[i.toNat - 1]? = some v := ⟨_, List.getElem?_eq_getElem (by omega)⟩
        rw [getI_eq (by omega) hu, wrap_id (by omega) (by omega), getI_eq (by omega) (by rw [show (i - 1).toNat = i.toNat - 1 by omega]; exact hv)]
        by_cases huv : u = v
        · rw [if_pos (by simpa using huv), okI_eq (by omega), okI_eq (by omega)]
          generalize hm : s.length - i.toNat = m
          rw [show ((m : Int) - 1).toNat = m - 1 by omega]
          refine upF_ex0 (1 : Int) (m - 1) (fun j (st : Int × List Int) => st.2.length = s.length ∧ 1 ≤ st.1 ∧ st.1 ≤ i + j ∧ (∀ n, i.toNat + j ≤ n → st.2[n]? = (srt s)[n]?) ∧ (∀ n z, n < i.toNat + j + 1 → (srt s)[n]? = some z → z ∈ st.2.take st.1.toNat)) (fun st hst => ?_) (fun j st kk hj hst hk2 => ?_) (i, srt s) ?_
          · obtain ⟨g1, g2, g3, g4, g5⟩ := hst
            rw [okI_eq (by omega), okI_eq (by omega), okI_eq (by omega), hk]
            refine ⟨_, rfl, hp _ (fun z hz => ?_)⟩
            rw [Nat.zero_add, List.drop_zero, List.append_assoc, List.take_append_of_le_length (by rw [List.length_take]; omega), List.take_take, Nat.min_self]
            obtain ⟨n, hn⟩ := List.getElem?_of_mem (mem_srt.2 hz)
            have hnl := (List.getElem?_eq_some_iff.1 hn).1
            exact g5 n z (by omega) hn
          · obtain ⟨g1, g2, g3, g4, g5⟩ := hst
            have et : (1 + (j : Int)).toNat = j + 1 := by omega
            have ew : IntKind.wrap .i64 (1 + (j : Int) - 1) = (j : Int) := by rw [wrap_id (by omega) (by omega)]; omega
            simp only [jn_eq]
            rw [okI_eq (by omega), ew, et, Int.toNat_natCast]
            obtain ⟨a, ha⟩ : ∃ a, (srt s)[i.toNat + (j + 1)]? = some a := ⟨_, List.getElem?_eq_getElem (by omega)⟩
            obtain ⟨b, hb⟩ : ∃ b, (srt s)[i.toNat + j]? = some b := ⟨_, List.getElem?_eq_getElem (by omega)⟩
            have ha' : st.2[(((i.toNat + (j + 1) : Nat)) : Int).toNat]? = some a := by rw [Int.toNat_natCast, g4 _ (by omega)]; exact ha
            have hb' : st.2[(((i.toNat + j : Nat)) : Int).toNat]? = some b := by rw [Int.toNat_natCast, g4 _ (by omega)]; exact hb
            rw [getI_eq (by omega) ha', okI_eq (by omega), getI_eq (by omega) hb']
            by_cases hab : a = b
            · rw [if_neg (by simpa using hab)]
              refine hk2 _ ⟨g1, g2, by simp only; omega, fun n hn => g4 n (by omega), fun n z hn hz => ?_⟩
              by_cases en : n = i.toNat + (j + 1)
              · subst en
                rw [ha] at hz; injection hz with hz
                exact g5 (i.toNat + j) z (by omega) (by rw [hb, ← hab, hz])
              · exact g5 n z (by omega) hz
            · rw [if_pos (by simpa using hab), okI_eq (by omega), getI_eq (by omega) ha']
              obtain ⟨c, hc⟩ : ∃ c, st.2[st.1.toNat]? = some c := ⟨_, List.getElem?_eq_getElem (by omega)⟩
              rw [getI_eq (by omega) hc, wrap_id (by omega) (by omega)]
              have e2 : (st.1 + 1).toNat = st.1.toNat + 1 := by omega
              refine hk2 _ ⟨by simpa using g1, by simp only; omega, by simp only; omega, fun n hn => ?_, fun n z hn hz => ?_⟩
              · simp only; rw [List.getElem?_set_ne (by omega)]; exact g4 n (by omega)
              · simp only
                rw [e2, take_set_len (by omega)]
                by_cases en : n = i.toNat + (j + 1)
                · subst en
                  rw [ha] at hz; injection hz with hz
                  simp [hz]
                · exact List.mem_append.2 (.inl (g5 n z (by omega) hz))
          · refine ⟨hlen, hI.1, by simp, fun n _ => rfl, fun n z hn hz => ?_⟩
            simp only
            by_cases en : n < i.toNat
            · exact List.mem_of_getElem? (by rw [List.getElem?_take_of_lt en]; exact hz)
            · have : n = i.toNat := by omega
              subst this
              rw [hu] at hz; injection hz with hz
              refine List.mem_of_getElem? (i := i.toNat - 1) ?_
              rw [List.getElem?_take_of_lt (by omega), hv, ← huv, hz]
        · rw [if_neg (by simpa using huv), wrap_id (by omega) (by omega)]
          exact hkk _ ⟨by omega, by omega⟩ (by omega)
      · rw [if_neg (by simpa using hi)]
        exact all
    · exact ⟨Int.le_refl _, by simp at *; omega⟩
    · omega

theorem compact_jn {s : List Int} (hs : s.length ≤ 1000000) {Post : List Int × Int → Prop} (hp : ∀ c : List Int, (∀ z ∈ s, z ∈ c) → Post (c, 0)) :
    Has1 Post (jn (fun (s396 : ((List Int) × Nat)) => (some (((s396.1.take (0 + s396.2)).drop 0), (0 : Int)))) (fun k398 => (if (decide (((s.length : Nat) : Int) < (2 : Int))) = true then (k398 ((srt s), s.length)) else (whileF 1000000000000 (fun k402 (s400 : Int) => (if (decide (s400 < ((s.length : Nat) : Int))) = true then (getI (srt s) s400 (fun x542 => (getI (srt s) (IntKind.wrap .i64 (s400 - (1 : Int))) (fun x543 => (if (x542 == x543) = true then (okI (0 ≤ s400 ∧ s400.toNat ≤ s.length) (okI (-9223372036854775808 ≤ (1 : Int) ∧ (((s.length - s400.toNat) : Nat) : Int) ≤ 9223372036854775807) (upF (fun (j549 : Int) (s546 : (Int × (List Int))) k548 => (jn (fun (s595 : (Int × (List Int))) => (k548 (s595.1, s595.2))) (fun k597 => (okI (0 ≤ j549 ∧ j549.toNat < (s.length - s400.toNat)) (getI s546.2 (((s400.toNat + j549.toNat) : Nat) : Int) (fun x598 => (okI (0 ≤ (IntKind.wrap .i64 (j549 - (1 : Int))) ∧ (IntKind.wrap .i64 (j549 - (1 : Int))).toNat < (s.length - s400.toNat)) (getI s546.2 (((s400.toNat + (IntKind.wrap .i64 (j549 - (1 : Int))).toNat) : Nat) : Int) (fun x600 => (if (x598 != x600) = true then (okI (0 ≤ j549 ∧ j549.toNat < (s.length - s400.toNat)) (getI s546.2 (((s400.toNat + j549.toNat) : Nat) : Int) (fun x603 => (getI s546.2 s546.1 (fun x605 => (k597 ((IntKind.wrap .i64 (s546.1 + (1 : Int))), (s546.2.set s546.1.toNat x603)))))))) else (k597 (s546.1, s546.2)))))))))))) (((((s.length - s400.toNat) : Nat) : Int) - (1 : Int)).toNat) (1 : Int) (s400, (srt s)) (fun (s546 : (Int × (List Int))) => (okI (0 ≤ s546.1 ∧ s546.1.toNat ≤ s546.2.length) (okI (s546.1.toNat + (s546.2.length - s546.1.toNat) ≤ s546.2.length) (okI (0 ≤ s546.1 ∧ s546.1.toNat ≤ s546.2.length) (k398 ((s546.2.take s546.1.toNat ++ List.replicate (s546.2.length - s546.1.toNat) (0 : Int) ++ s546.2.drop (s546.1.toNat + (s546.2.length - s546.1.toNat))), s546.1.toNat))))))))) else (k402 (IntKind.wrap .i64 (s400 + (1 : Int))))))))) else (k398 ((srt s), s.length)))) (1 : Int))))) :=
  compact_ex hs hp (k398 := fun (s396 : ((List Int) × Nat)) => (some (((s396.1.take (0 + s396.2)).drop 0), (0 : Int)))) (fun a n => rfl)

theorem Core_spec {p : S_api_Proof} (hf : FitsP p) (ho : OrdL p.Lines) (hord : ordF 0 p.Lines = true) : ∃ c, F_proof_Core p = some (c, 0) ∧ ∀ (i : Nat) (x : S_api_Line), (needS p.Lines (p.Lines.length - 1)).getD i false = true → p.Lines[i]? = some x → x.Rule = 1 → x.A ∈ c := by
  have f2 := hf.2.1
  have f3 := hf.2.2
  have main : Has1 (fun (r : List Int × Int) => r.2 = 0 ∧ ∀ (i : Nat) (x : S_api_Line), (needS p.Lines (p.Lines.length - 1)).getD i false = true → p.Lines[i]? = some x → x.Rule = 1 → x.A ∈ r.1) (F_proof_Core p) := by
    unfold F_proof_Core
    rw [ordered_eq]
    simp only [Option.bind_some, hf, hord, decide_true, Bool.true_and, Bool.not_true, Bool.false_eq_true, if_false]
    rw [wrap_id (by omega) (by omega), show ((p.Lines.length : Nat) : Int) - 1 = ((p.Lines.length - 1 : Nat) : Int) by omega, Needed_prog ho (by omega) f3]
    simp only [Option.bind_some]
    have hnl := needS_length p.Lines (p.Lines.length - 1)
    generalize needS p.Lines (p.Lines.length - 1) = nd at hnl
    refine rangeF_ex nd (fun pre s => s.length ≤ pre.length ∧ ∀ (i : Nat) (x : S_api_Line), i < pre.length → nd.getD i false = true → p.Lines[i]? = some x → x.Rule = 1 → x.A ∈ s) (fun s hs => ?_) (fun pre b bs s kk hfull hs hkk => ?_) nd [] [] rfl ⟨by simp, by simp⟩
    · rw [okI_eq (by omega)]
      refine compact_jn (by omega) (fun c hc => ⟨rfl, fun i x h1 h2 h3 => hc _ (hs.2 i x ?_ h1 h2 h3)⟩)
      have := (List.getElem?_eq_some_iff.1 h2).1
      omega
    · have hlen : p.Lines.length = pre.length + (bs.length + 1) := by rw [← hnl, hfull]; simp
      obtain ⟨x, hx⟩ : ∃ x, p.Lines[pre.length]? = some x := ⟨_, List.getElem?_eq_getElem (by omega)⟩
      have hb : nd.getD pre.length false = b := by rw [hfull, List.getD_eq_getElem?_getD, List.getElem?_append_right (Nat.le_refl _)]; simp
      simp only [jn_eq]
      rw [getI_nat, hx]
      simp only
      have no : (b = true → ¬ x.Rule = 1) → Has1 (fun (r : List Int × Int) => r.2 = 0 ∧ ∀ (i : Nat) (x : S_api_Line), nd.getD i false = true → p.Lines[i]? = some x → x.Rule = 1 → x.A ∈ r.1) (kk s) := fun h => hkk s ⟨by simp; omega, fun i y hi h1 h2 h3 => by
        by_cases e : i = pre.length
        · subst e
          rw [hx] at h2; injection h2 with h2; subst h2
          exact absurd h3 (h (by rw [← hb]; exact h1))
        · simp at hi; exact hs.2 i y (by omega) h1 h2 h3⟩
      cases b with
      | false =>
        simp only [Bool.false_eq_true, if_false]
        exact no (fun h => by simp at h)
      | true =>
        simp only [if_true]
        by_cases hr : x.Rule = 1
        · rw [if_pos (by simpa using hr), capN_eq (by simp; omega)]
          refine hkk _ ⟨by simp; omega, fun i y hi h1 h2 h3 => ?_⟩
          by_cases e : i = pre.length
          · subst e
            rw [hx] at h2; injection h2 with h2; subst h2
            simp
          · simp at hi; exact List.mem_append.2 (.inl (hs.2 i y (by omega) h1 h2 h3))
        · rw [if_neg (by simpa using hr)]
          exact no (fun _ => hr)
  obtain ⟨⟨c, e⟩, h1, h2, h3⟩ := main
  simp only at h2 h3
  subst h2
  exact ⟨c, h1, h3⟩

/-! ### The law -/
theorem law_ProofLess {a0 : List (List Int)} {a1 : S_api_Proof} (h0 : InL (InL (InK .i64)) a0) (h1 : W_S_api_Proof a1) : F_skolemlaw10_ProofLess a0 a1 = some true := by
  obtain ⟨b, hb⟩ := large_some a0 a1
  unfold F_skolemlaw10_ProofLess
  rw [hb]
  have hd : F_skolemlaw10_head.bind (fun y => some y) = some true := by simp [F_skolemlaw10_head]
  cases b with
  | true => simpa using hd
  | false =>
    simp only [Option.bind_some, Bool.false_eq_true, if_false]
    rw [Check9_eq h0 h1]
    simp only [Option.bind_some, chk9]
    by_cases hk : (checkS a0 a1).2.2 = 0
    · simp only [hk, decide_true, Bool.not_true, Bool.false_eq_true, if_false]
      obtain ⟨hcn, hfit, hchk, xl, hxl, hxe⟩ := checkS_ok hk
      have hcnf : (decide (a0.length ≤ 20000) && cnfB 0 a0) = true := by
        cases h : (decide (a0.length ≤ 20000) && cnfB 0 a0) with
        | true => rfl
        | false => unfold checkS at hk; rw [h] at hk; simp at hk
      have hg := good_chk hchk
      have ho := hg.ord
      have hord := hg.ordF
      have f2 := hfit.2.1
      have f3 := hfit.2.2
      have hxl' : a1.Lines[a1.Lines.length - 1]? = some xl := by rw [← List.getLast?_eq_getElem?]; exact hxl
      obtain ⟨c, hc, hcore⟩ := Core_spec hfit ho hord
      obtain ⟨kg, kl, y, ky, kyl⟩ := keptS_good hg hxl'
      have hT : F_proof_Trim a1 = some (keptS a1.Lines (a1.Lines.length - 1), 0) := by
        unfold F_proof_Trim
        rw [ordered_eq]
        simp only [Option.bind_some, hfit, hord, decide_true, Bool.true_and, Bool.not_true, Bool.false_eq_true, if_false]
        rw [wrap_id (by omega) (by omega), show ((a1.Lines.length : Nat) : Int) - 1 = ((a1.Lines.length - 1 : Nat) : Int) by omega, Kept_prog ho (fun x hx => ?_) (by omega) f3]
        · rfl
        · obtain ⟨n, hn⟩ := List.getElem?_of_mem hx
          have := nrm_len' (hg.nrm hcn n x hn)
          omega
      have used := fun i y hy => keptS_used ho (last := a1.Lines.length - 1) (by omega) (i := i) (y := y) hy
      have hke : keptS a1.Lines (a1.Lines.length - 1) = S_api_Proof.mk false (keptS a1.Lines (a1.Lines.length - 1)).Lines := rfl
      generalize keptS a1.Lines (a1.Lines.length - 1) = q at *
      have hqw : W_S_api_Proof q := by rw [hke]; exact kg.wf hcn (by simp only [Bool.and_eq_true, decide_eq_true_eq] at hcnf; exact hcnf.1) (by omega)
      have hcq : checkS a0 q = (y.Lits, 0, 0) := by rw [hke]; exact checkS_good hcnf kg ky (by omega)
      rw [hT]
      simp only [Option.bind_some]
      rw [Check_prog h0 hqw, hcq]
      simp only [Option.bind_some]
      rw [hc]
      simp only [Option.bind_some, jn_eq, bne_self_eq_false, Bool.false_eq_true, if_false]
      rw [Same_eq, hxe, kyl]
      simp only [Option.bind_some, decide_true, Bool.not_true, Bool.false_eq_true, if_false]
      have main : Has1 (fun r => r = true) (rangeF (fun (j133 : Nat) (x134 : S_api_Line) (s130 : Unit) k132 => (okI (-9223372036854775808 ≤ ((j133 + 1 : Nat) : Int) ∧ ((q.Lines.length : Nat) : Int) ≤ 9223372036854775807) (upF (fun (j282 : Int) (s279 : Bool) k281 => (if s279 = true then (k281 true) else (getI q.Lines j282 (fun x314 => (if (x314.Rule == (2 : Int)) = true then (if (x314.A == ((j133 : Nat) : Int)) = true then (k281 true) else (k281 (x314.B == ((j133 : Nat) : Int)))) else (k281 false)))))) ((((q.Lines.length : Nat) : Int) - ((j133 + 1 : Nat) : Int)).toNat) ((j133 + 1 : Nat) : Int) (((j133 : Nat) : Int) == (IntKind.wrap .i64 (((q.Lines.length : Nat) : Int) - (1 : Int)))) (fun (s279 : Bool) => (if (!s279) = true then (some false) else (if (x134.Rule == (1 : Int)) = true then ((F_skolemref09_Has c x134.A).bind (fun y326 => (if (!y326) = true then (some false) else (k132 ())))) else (k132 ()))))))) 0 q.Lines () (fun (s130 : Unit) => (F_skolemlaw10_head.bind (fun y327 => (some y327))))) := by
        refine rangeF_ex (Post := fun r => r = true) q.Lines (fun _ _ => True) (fun _ _ => ⟨true, hd, rfl⟩) (fun pre x xs s kk hfull _ hkk => ?_) q.Lines [] () rfl trivial
        have hxi : q.Lines[pre.length]? = some x := by rw [hfull, List.getElem?_append_right (Nat.le_refl _)]; simp
        have hpl := (List.getElem?_eq_some_iff.1 hxi).1
        obtain ⟨u1, u2⟩ := used _ _ hxi
        rw [okI_eq (by omega)]
        have e2 : (((q.Lines.length : Nat) : Int) - ((pre.length + 1 : Nat) : Int)).toNat = q.Lines.length - (pre.length + 1) := by omega
        rw [e2]
        refine upF_ex0 ((pre.length + 1 : Nat) : Int) (q.Lines.length - (pre.length + 1)) (fun j (s : Bool) => s = true ∨ ∃ (k : Nat) (z : S_api_Line), pre.length + 1 + j ≤ k ∧ q.Lines[k]? = some z ∧ z.Rule = 2 ∧ (z.A = pre.length ∨ z.B = pre.length)) (fun s hs => ?_) (fun j s kk2 hj hs hk2 => ?_) _ ?_
        · have : s = true := by
            rcases hs with h | ⟨k, z, g1, g2, _⟩
            · exact h
            · have := (List.getElem?_eq_some_iff.1 g2).1; omega
          subst this
          simp only [Bool.not_true, Bool.false_eq_true, if_false]
          by_cases hr : x.Rule = 1
          · rw [if_pos (by simpa using hr), Has_eq]
            obtain ⟨n, w, w1, w2, w3, w4⟩ := u2 hr
            have := hcore n w w1 w2 w3
            rw [w4] at this
            simp [this, hkk () trivial]
          · rw [if_neg (by simpa using hr)]
            exact hkk () trivial
        · cases s with
          | true => simp only [if_true]; exact hk2 true (.inl rfl)
          | false =>
            simp only [Bool.false_eq_true, if_false]
            rcases hs with h | ⟨k, z, g1, g2, g3, g4⟩
            · simp at h
            · obtain ⟨v, hv⟩ : ∃ v, q.Lines[pre.length + 1 + j]? = some v := ⟨_, List.getElem?_eq_getElem (by omega)⟩
              have ei : (((pre.length + 1 : Nat) : Int) + (j : Int)).toNat = pre.length + 1 + j := by omega
              rw [getI_eq (by omega) (by rw [ei]; exact hv)]
              by_cases ek : k = pre.length + 1 + j
              · subst ek
                rw [g2] at hv; injection hv with hv; subst hv
                rw [if_pos (by simpa using g3)]
                by_cases ea : z.A = (pre.length : Int)
                · rw [if_pos (by simpa using ea)]; exact hk2 true (.inl rfl)
                · rw [if_neg (by simpa using ea)]
                  exact hk2 _ (.inl (by simpa using g4.resolve_left ea))
              · have rest : ∀ b : Bool, Has1 (fun r => r = true) (kk2 b) := fun b => hk2 b (.inr ⟨k, z, by omega, g2, g3, g4⟩)
                split
                · split
                  · exact rest _
                  · exact rest _
                · exact rest _
        · rcases u1 with h | ⟨k, z, g1, g2⟩
          · left
            rw [wrap_id (by omega) (by omega)]
            simp; omega
          · exact .inr ⟨k, z, by omega, g2⟩
      obtain ⟨r, hr, rfl⟩ := main
      refine Eq.trans ?_ hr
      congr 1
    · simp [hk, hd]
end Go.Sk.X
