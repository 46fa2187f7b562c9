/- The plain law of CleanDecides, part 1: about numbers and lists alone. It has no conditions. -/
import Derived.Test.YtokbhdfaccahbaaGreatDoorXCleanDecidesF
set_option linter.unusedVariables false
set_option linter.unusedSimpArgs false
namespace Go.Sk
open Go

/-! ### Plain words -/
theorem jn_eq {S R : Type} (f : S → Option R) (g : (S → Option R) → Option R) : jn f g = g f := rfl
theorem rangeF_nil {α S R : Type} (f : Nat → α → S → (S → Option R) → Option R) (i : Nat) (s : S) (k : S → Option R) : rangeF f i [] s k = k s := rfl
theorem rangeF_cons {α S R : Type} (f : Nat → α → S → (S → Option R) → Option R) (i : Nat) (x : α) (xs : List α) (s : S) (k : S → Option R) : rangeF f i (x :: xs) s k = f i x s (fun s' => rangeF f (i + 1) xs s' k) := rfl
theorem upF_zero {S R : Type} (f : Int → S → (S → Option R) → Option R) (i : Int) (s : S) (k : S → Option R) : upF f 0 i s k = k s := rfl
theorem upF_succ {S R : Type} (f : Int → S → (S → Option R) → Option R) (n : Nat) (i : Int) (s : S) (k : S → Option R) : upF f (n + 1) i s k = f i s (fun s' => upF f n (i + 1) s' k) := rfl
theorem whileF_succ {S R : Type} (n : Nat) (b : (S → Option R) → S → Option R) (s : S) : whileF (n + 1) b s = b (whileF n b) s := rfl

/-- a while loop by a measure -/
theorem whileF_by {S R : Type} {b : (S → Option R) → S → Option R} (μ : S → Nat) (I : S → Prop) (g : S → Option R)
    (step : ∀ s k, I s → (∀ s', I s' → μ s' < μ s → k s' = g s') → b k s = g s) : ∀ n s, I s → μ s < n → whileF n b s = g s
  | 0, s, _, h => absurd h (Nat.not_lt_zero _)
  | n + 1, s, hI, h => by
    rw [whileF_succ]
    exact step s _ hI (fun s' h1 h2 => whileF_by μ I g step n s' h1 (by omega))

theorem rangeF_eq {α S R : Type} {f : Nat → α → S → (S → Option R) → Option R} {k : S → Option R} (g : Nat → List α → S → Option R) (h0 : ∀ j s, g j [] s = k s)
    (h1 : ∀ j x xs s kk, (∀ s', kk s' = g (j + 1) xs s') → f j x s kk = g j (x :: xs) s) : ∀ xs j s, rangeF f j xs s k = g j xs s
  | [], j, s => (h0 j s).symm
  | x :: xs, j, s => h1 j x xs s _ (fun s' => rangeF_eq g h0 h1 xs (j + 1) s')

/-- where what went before matters -/
theorem rangeF_pre {α S R : Type} {f : Nat → α → S → (S → Option R) → Option R} {k : S → Option R} (full : List α) (I : List α → S → Prop) (g : List α → List α → S → Option R) (h0 : ∀ s, I full s → k s = g full [] s)
    (h1 : ∀ pre x xs s kk, full = pre ++ x :: xs → I pre s → (∀ s', I (pre ++ [x]) s' → kk s' = g (pre ++ [x]) xs s') → f pre.length x s kk = g pre (x :: xs) s) : ∀ xs pre s, full = pre ++ xs → I pre s → rangeF f pre.length xs s k = g pre xs s
  | [], pre, s, hf, hI => by
    rw [List.append_nil] at hf; subst hf
    exact h0 s hI
  | x :: xs, pre, s, hf, hI => by
    refine h1 pre x xs s _ hf hI (fun s' hs' => ?_)
    have := rangeF_pre full I g h0 h1 xs (pre ++ [x]) s' (by simp [hf]) hs'
    rw [List.length_append] at this
    exact this

theorem wrap_id {n : Int} (h0 : -9223372036854775808 ≤ n) (h1 : n ≤ 9223372036854775807) : IntKind.wrap .i64 n = n := by
  simp only [IntKind.wrap, IntKind.bits, IntKind.signed]
  simp only [Bool.true_and]
  split <;> rename_i h <;> simp only [ge_iff_le, decide_eq_true_eq] at h <;> omega

theorem inK64 {n : Int} : InK .i64 n ↔ -9223372036854775808 ≤ n ∧ n ≤ 9223372036854775807 := Iff.rfl

/-! ### Normal lists of literals -/
def av (x : Int) : Int := if x < 0 then -x else x
def nrmB (last : Int) : List Int → Bool
  | [] => true
  | x :: xs => decide (-65536 ≤ x) && decide (x ≤ 65536) && decide (last < av x) && nrmB (av x) xs

theorem av_nonneg (x : Int) : 0 ≤ av x := by unfold av; split <;> omega
theorem av_neg (x : Int) : av (-x) = av x := by unfold av; split <;> split <;> omega
theorem av_eq {x y : Int} (h : av x = av y) : x = y ∨ x = -y := by unfold av at h; split at h <;> split at h <;> omega

theorem nrm_cons {c x : Int} {xs : List Int} : nrmB c (x :: xs) = true ↔ -65536 ≤ x ∧ x ≤ 65536 ∧ c < av x ∧ nrmB (av x) xs = true := by
  simp [nrmB, and_assoc]
theorem nrm_mono {c c' : Int} (h : c' ≤ c) : ∀ {l : List Int}, nrmB c l = true → nrmB c' l = true
  | [], _ => rfl
  | x :: xs, h' => by
    rw [nrm_cons] at h' ⊢
    exact ⟨h'.1, h'.2.1, by omega, h'.2.2.2⟩
theorem nrm_mem : ∀ {c : Int} {l : List Int}, nrmB c l = true → ∀ x ∈ l, c < av x ∧ -65536 ≤ x ∧ x ≤ 65536
  | c, [], _, x, h => by simp at h
  | c, y :: ys, h, x, hx => by
    rw [nrm_cons] at h
    rcases List.mem_cons.1 hx with rfl | hx
    · exact ⟨h.2.2.1, h.1, h.2.1⟩
    · have := nrm_mem h.2.2.2 x hx
      exact ⟨by omega, this.2⟩
theorem nrm_ext : ∀ {l l' : List Int} {c c' : Int}, nrmB c l = true → nrmB c' l' = true → (∀ x, x ∈ l ↔ x ∈ l') → l = l'
  | [], [], _, _, _, _, _ => rfl
  | [], y :: ys, _, _, _, _, h => by have := (h y).2 (by simp); simp at this
  | x :: xs, [], _, _, _, _, h => by have := (h x).1 (by simp); simp at this
  | x :: xs, y :: ys, c, c', h1, h2, h => by
    rw [nrm_cons] at h1 h2
    have hxy : x = y := by
      have hx := (h x).1 (by simp)
      have hy := (h y).2 (by simp)
      rcases List.mem_cons.1 hx with e | hx
      · exact e
      · rcases List.mem_cons.1 hy with e | hy
        · exact e.symm
        · have := (nrm_mem h2.2.2.2 x hx).1
          have := (nrm_mem h1.2.2.2 y hy).1
          omega
    subst hxy
    congr 1
    refine nrm_ext h1.2.2.2 h2.2.2.2 (fun z => ⟨fun hz => ?_, fun hz => ?_⟩)
    · rcases List.mem_cons.1 ((h z).1 (by simp [hz])) with e | e
      · subst e; have := (nrm_mem h1.2.2.2 z hz).1; omega
      · exact e
    · rcases List.mem_cons.1 ((h z).2 (by simp [hz])) with e | e
      · subst e; have := (nrm_mem h2.2.2.2 z hz).1; omega
      · exact e
theorem nrm_filter (p : Int → Bool) : ∀ {l : List Int} {c : Int}, nrmB c l = true → nrmB c (l.filter p) = true
  | [], _, h => rfl
  | x :: xs, c, h => by
    rw [nrm_cons] at h
    simp only [List.filter_cons]
    split
    · rw [nrm_cons]; exact ⟨h.1, h.2.1, h.2.2.1, nrm_filter p h.2.2.2⟩
    · exact nrm_mono (by omega) (nrm_filter p h.2.2.2)
theorem nrm_two {c : Int} {l : List Int} (h : nrmB c l = true) (hc : 0 ≤ c) {x y : Int} (hx : x ∈ l) (hy : y ∈ l) (e : av x = av y) : x = y := by
  induction l generalizing c with
  | nil => simp at hx
  | cons z zs ih =>
    rw [nrm_cons] at h
    rcases List.mem_cons.1 hx with e1 | hx1 <;> rcases List.mem_cons.1 hy with e2 | hy1
    · rw [e1, e2]
    · subst e1; have := (nrm_mem h.2.2.2 y hy1).1; omega
    · subst e2; have := (nrm_mem h.2.2.2 x hx1).1; omega
    · exact ih h.2.2.2 (av_nonneg z) hx1 hy1

/-- a literal among sorted ones, unless its variable is there -/
def ins (x : Int) : List Int → List Int
  | [] => [x]
  | y :: ys => if av x < av y then x :: y :: ys else if av x = av y then y :: ys else y :: ins x ys

theorem nrm_ins {x : Int} (h1 : -65536 ≤ x) (h2 : x ≤ 65536) : ∀ {l : List Int} {c : Int}, c < av x → nrmB c l = true → nrmB c (ins x l) = true
  | [], c, hc, _ => by rw [ins, nrm_cons]; exact ⟨h1, h2, hc, rfl⟩
  | y :: ys, c, hc, h => by
    have h' := nrm_cons.1 h
    simp only [ins]
    split
    · rw [nrm_cons, nrm_cons]; exact ⟨h1, h2, hc, h'.1, h'.2.1, by assumption, h'.2.2.2⟩
    · split
      · exact h
      · rw [nrm_cons]; exact ⟨h'.1, h'.2.1, h'.2.2.1, nrm_ins h1 h2 (by omega) h'.2.2.2⟩

theorem mem_ins {x z : Int} : ∀ {l : List Int}, (∀ y ∈ l, av y = av x → y = x) → (z ∈ ins x l ↔ z = x ∨ z ∈ l)
  | [], _ => by simp [ins]
  | y :: ys, h => by
    simp only [ins]
    split
    · simp
    · split
      · rename_i e
        have := h y (by simp) e.symm
        subst this
        simp
      · rw [List.mem_cons, mem_ins (fun w hw => h w (by simp [hw])), List.mem_cons]
        constructor
        · rintro (h | h | h) <;> simp [h]
        · rintro (h | h | h) <;> simp [h]

end Go.Sk

namespace Go.Sk
open Go

/-! ### Loops: what is shown of an end -/
def Has1 {R : Type} (Post : R → Prop) (x : Option R) : Prop := ∃ r, x = some r ∧ Post r

theorem rangeF_ex {α S R : Type} {Post : R → Prop} {f : Nat → α → S → (S → Option R) → Option R} {k : S → Option R} (full : List α) (I : List α → S → Prop) (h0 : ∀ s, I full s → Has1 Post (k s))
    (h1 : ∀ pre x xs s kk, full = pre ++ x :: xs → I pre s → (∀ s', I (pre ++ [x]) s' → Has1 Post (kk s')) → Has1 Post (f pre.length x s kk)) : ∀ xs pre s, full = pre ++ xs → I pre s → Has1 Post (rangeF f pre.length xs s k)
  | [], pre, s, hf, hI => by
    rw [List.append_nil] at hf; subst hf
    exact h0 s hI
  | x :: xs, pre, s, hf, hI => by
    refine h1 pre x xs s _ hf hI (fun s' hs' => ?_)
    have := rangeF_ex full I h0 h1 xs (pre ++ [x]) s' (by simp [hf]) hs'
    rw [List.length_append] at this
    exact this
theorem upF_ex {S R : Type} {Post : R → Prop} {f : Int → S → (S → Option R) → Option R} {k : S → Option R} (lo : Int) (n : Nat) (I : Nat → S → Prop) (h0 : ∀ s, I n s → Has1 Post (k s))
    (h1 : ∀ j s kk, j < n → I j s → (∀ s', I (j + 1) s' → Has1 Post (kk s')) → Has1 Post (f (lo + j) s kk)) : ∀ m j s, j + m = n → I j s → Has1 Post (upF f m (lo + j) s k)
  | 0, j, s, hf, hI => by
    have : j = n := by omega
    subst this; exact h0 s hI
  | m + 1, j, s, hf, hI => by
    rw [upF_succ]
    refine h1 j s _ (by omega) hI (fun s' hs' => ?_)
    have := upF_ex lo n I h0 h1 m (j + 1) s' (by omega) hs'
    have e : lo + ((j + 1 : Nat) : Int) = lo + j + 1 := by omega
    rw [e] at this
    exact this
theorem upF_ex0 {S R : Type} {Post : R → Prop} {f : Int → S → (S → Option R) → Option R} {k : S → Option R} (lo : Int) (n : Nat) (I : Nat → S → Prop) (h0 : ∀ s, I n s → Has1 Post (k s))
    (h1 : ∀ j s kk, j < n → I j s → (∀ s', I (j + 1) s' → Has1 Post (kk s')) → Has1 Post (f (lo + j) s kk)) (s : S) (hI : I 0 s) : Has1 Post (upF f n lo s k) := by
  have h := upF_ex lo n I h0 h1 n 0 s (by omega) hI
  rwa [show lo + ((0 : Nat) : Int) = lo by simp] at h
theorem whileF_ex {S R : Type} {Post : R → Prop} {b : (S → Option R) → S → Option R} (μ : S → Nat) (I : S → Prop)
    (step : ∀ s k, I s → (∀ s', I s' → μ s' < μ s → Has1 Post (k s')) → Has1 Post (b k s)) : ∀ n s, I s → μ s < n → Has1 Post (whileF n b s)
  | 0, s, _, h => absurd h (Nat.not_lt_zero _)
  | n + 1, s, hI, h => by
    rw [whileF_succ]
    exact step s _ hI (fun s' h1 h2 => whileF_ex μ I step n s' h1 (by omega))
/-- a loop that only collects -/
theorem rangeF_fold {α S R : Type} (g : S → α → S) (k : S → Option R) : ∀ (xs : List α) (j : Nat) (s : S), rangeF (fun _ x s k => k (g s x)) j xs s k = k (xs.foldl g s)
  | [], _, _ => rfl
  | x :: xs, j, s => by rw [rangeF_cons]; exact rangeF_fold g k xs (j + 1) (g s x)

/-! ### Variables that ascend -/
def rsB (c : Int) : List Int → Bool
  | [] => true
  | x :: xs => decide (c < x) && (decide (x ≤ 65536) && rsB x xs)
theorem rsB_cons {c x : Int} {xs : List Int} : rsB c (x :: xs) = true ↔ c < x ∧ x ≤ 65536 ∧ rsB x xs = true := by simp [rsB]
theorem rsB_mem : ∀ {l : List Int} {c : Int}, rsB c l = true → ∀ x ∈ l, c < x ∧ x ≤ 65536
  | [], _, _, x, hx => by simp at hx
  | y :: l, c, h, x, hx => by
    obtain ⟨h1, h2, h3⟩ := rsB_cons.1 h
    rcases List.mem_cons.1 hx with rfl | hx
    · exact ⟨h1, h2⟩
    · have := rsB_mem h3 x hx
      exact ⟨by omega, this.2⟩
theorem rsB_nodup : ∀ {l : List Int} {c : Int}, rsB c l = true → l.Nodup
  | [], _, _ => List.nodup_nil
  | y :: l, c, h => by
    obtain ⟨h1, h2, h3⟩ := rsB_cons.1 h
    exact List.nodup_cons.2 ⟨fun hm => by have := (rsB_mem h3 y hm).1; omega, rsB_nodup h3⟩
def lastD (l : List Int) : Int := (l.getLast?).getD 0
theorem lastD_app (l : List Int) (x : Int) : lastD (l ++ [x]) = x := by simp [lastD]
theorem lastD_get {l : List Int} (h : 0 < l.length) : l[l.length - 1]? = some (lastD l) := by
  unfold lastD
  rw [List.getLast?_eq_getElem?]
  have : l.length - 1 < l.length := by omega
  rw [List.getElem?_eq_getElem this]; rfl

/-! ### Maps in which only the keys count -/
theorem mget_fold {β : Type} (v : β) : ∀ (xs : List Int) (m : List (Int × β)) (k : Int), mget (xs.foldl (fun m x => mset m x v) m) k = if k ∈ xs then some v else mget m k
  | [], m, k => by simp
  | x :: xs, m, k => by
    rw [List.foldl_cons, mget_fold v xs, mget_mset]
    by_cases h1 : k ∈ xs
    · simp [h1]
    · by_cases h2 : k = x <;> simp [h1, h2]
end Go.Sk

namespace Go.Sk.X
open Go Go.Sk

theorem rises_eq (a : List Int) (hl : a.length ≤ 4194304) : F_prefix_rises a = some (rsB 0 a) := by
  refine rangeF_pre a (fun pre _ => 0 ≤ lastD pre) (fun pre xs _ => some (rsB (lastD pre) xs)) (fun _ _ => rfl) ?_ a [] () rfl (by decide)
  intro pre x xs s kk hf hI hk
  have hlen : pre.length < a.length := by rw [hf]; simp
  simp only [jn_eq, rsB]
  by_cases h1 : x < 1
  · have : ¬ lastD pre < x := by omega
    simp [h1, this]
  by_cases h2 : x > 65536
  · have : ¬ x ≤ 65536 := by omega
    simp [h1, h2, this]
  have hk' := hk () (by rw [lastD_app]; omega)
  rw [lastD_app] at hk'
  have h3 : x ≤ 65536 := by omega
  by_cases hp : 0 < pre.length
  · have e : IntKind.wrap .i64 (((pre.length : Nat) : Int) - 1) = ((pre.length - 1 : Nat) : Int) := by rw [wrap_id (by omega) (by omega)]; omega
    have hg : a[pre.length - 1]? = some (lastD pre) := by
      rw [hf, List.getElem?_append_left (by omega)]
      exact lastD_get hp
    have hp' : ((pre.length : Nat) : Int) > 0 := by omega
    simp only [h1, h2, hp', e, getI_nat, hg, decide_false, decide_true, if_true, if_false, Bool.false_eq_true]
    by_cases h4 : lastD pre ≥ x
    · have : ¬ lastD pre < x := by omega
      simp [h4, this]
    · have : lastD pre < x := by omega
      simp [h4, this, h3, hk']
  · have : pre = [] := List.eq_nil_of_length_eq_zero (by omega)
    subst this
    have h4 : lastD ([] : List Int) < x := by show (0 : Int) < x; omega
    simp [h1, h2, h3, h4, hk']

theorem rises3_eq (a : List Int) (hl : a.length ≤ 4194304) : F_skolemref03_Rises a = some (rsB 0 a) := rises_eq a hl

theorem abs3_eq {x : Int} (h0 : -9223372036854775807 ≤ x) (h1 : x ≤ 9223372036854775807) : F_skolemref03_Abs x = some (av x) := by
  unfold F_skolemref03_Abs av
  by_cases h : x < 0
  · have e : IntKind.wrap .i64 (0 - x) = -x := by rw [wrap_id (by omega) (by omega)]; omega
    simp only [h, decide_true, if_true, e]
  · simp [h]
theorem absp_eq {x : Int} (h0 : -9223372036854775807 ≤ x) (h1 : x ≤ 9223372036854775807) : F_prefix_abs x = some (av x) := by
  unfold F_prefix_abs av imx
  have e : IntKind.wrap .i64 (0 - x) = -x := by rw [wrap_id (by omega) (by omega)]; omega
  rw [e]
  by_cases h : x < 0
  · rw [if_pos (by omega), if_pos h]
  · rw [if_neg (by omega), if_neg h]

theorem normal_eq (a : List Int) (hl : a.length ≤ 4194304) : F_skolemref03_Normal a = some (nrmB 0 a) := by
  refine rangeF_pre a (fun pre _ => pre = [] ∨ (-65536 ≤ lastD pre ∧ lastD pre ≤ 65536)) (fun pre xs _ => some (nrmB (if pre = [] then 0 else av (lastD pre)) xs)) (fun _ _ => rfl) ?_ a [] () rfl (.inl rfl)
  intro pre x xs s kk hf hI hk
  have hlen : pre.length < a.length := by rw [hf]; simp
  simp only [jn_eq, nrmB]
  have av0 := av_nonneg (lastD pre)
  by_cases h0 : x = 0
  · subst h0
    have : av 0 = 0 := rfl
    have h5 : ¬ (if pre = [] then 0 else av (lastD pre)) < av 0 := by rw [this]; split <;> omega
    simp [h5]
  have h0' : (x == 0) = false := by simp [h0]
  by_cases h1 : x < -65536
  · have : ¬ -65536 ≤ x := by omega
    simp [h0', h1, this]
  by_cases h2 : x > 65536
  · have : ¬ x ≤ 65536 := by omega
    simp [h0', h1, h2, this]
  have hk' := hk () (.inr (by rw [lastD_app]; omega))
  rw [lastD_app] at hk'
  simp only [List.append_eq_nil_iff, List.cons_ne_self, and_false, if_false, reduceCtorEq] at hk'
  have h3 : x ≤ 65536 := by omega
  have h3' : -65536 ≤ x := by omega
  by_cases hp : 0 < pre.length
  · have e : IntKind.wrap .i64 (((pre.length : Nat) : Int) - 1) = ((pre.length - 1 : Nat) : Int) := by rw [wrap_id (by omega) (by omega)]; omega
    have hg : a[pre.length - 1]? = some (lastD pre) := by
      rw [hf, List.getElem?_append_left (by omega)]
      exact lastD_get hp
    have hp' : ((pre.length : Nat) : Int) > 0 := by omega
    have hne : pre ≠ [] := by intro e; subst e; simp at hp
    rcases hI with rfl | ⟨i1, i2⟩
    · exact absurd rfl hne
    simp only [h0', h1, h2, hp', e, getI_nat, hg, abs3_eq (x := x) (by omega) (by omega), abs3_eq (x := lastD pre) (by omega) (by omega), Option.bind_some, decide_false, decide_true, if_true, if_false, Bool.false_eq_true, hne]
    by_cases h4 : av (lastD pre) ≥ av x
    · have : ¬ av (lastD pre) < av x := by omega
      simp [h4, this]
    · have : av (lastD pre) < av x := by omega
      simp [h4, this, h3, h3', hk']
  · have : pre = [] := List.eq_nil_of_length_eq_zero (by omega)
    subst this
    have h4 : 0 < av x := by unfold av; split <;> omega
    simp [h0', h1, h2, h3, h3', h4, hk']

theorem has_eq (l : List Int) (v : Int) : F_skolemref03_Has l v = some (decide (v ∈ l)) := by
  refine rangeF_eq (fun _ xs _ => some (decide (v ∈ xs))) (fun _ _ => by simp) ?_ l 0 ()
  intro j x xs s kk hk
  by_cases h : x = v
  · subst h; simp
  · have : ¬ v = x := fun e => h e.symm
    simp [h, hk, this]
theorem has1_eq (l : List Int) (v : Int) : F_skolemref01_Has l v = some (decide (v ∈ l)) := has_eq l v

theorem part_eq (l u : List Int) : F_skolemref03_Part l u = some (l.all fun x => decide (x ∈ u)) := by
  refine rangeF_eq (fun _ xs _ => some (xs.all fun x => decide (x ∈ u))) (fun _ _ => rfl) ?_ l 0 ()
  intro j x xs s kk hk
  simp only [has_eq, Option.bind_some]
  by_cases h : x ∈ u <;> simp [h, hk]

def singB (pre : List Int) : List Int → Bool
  | [] => true
  | x :: xs => decide (1 ≤ x) && (decide (x ≤ 65536) && (!decide (x ∈ pre) && singB (pre ++ [x]) xs))
theorem single_eq (a : List Int) : F_skolemref03_single a = some (singB [] a) := by
  refine rangeF_pre a (fun pre _ => True) (fun pre xs _ => some (singB pre xs)) (fun _ _ => rfl) ?_ a [] () rfl trivial
  intro pre x xs s kk hf hI hk
  have hlen : pre.length < a.length := by rw [hf]; simp
  have hk' := hk () trivial
  simp only [jn_eq, singB]
  by_cases h1 : x < 1
  · have : ¬ 1 ≤ x := by omega
    simp [h1, this]
  by_cases h2 : x > 65536
  · have : ¬ x ≤ 65536 := by omega
    simp [h1, h2, this]
  have h3 : x ≤ 65536 := by omega
  have h4 : 1 ≤ x := by omega
  have ht : a.take (((pre.length : Nat) : Int)).toNat = pre := by rw [hf]; simp
  have ho : 0 ≤ ((pre.length : Nat) : Int) ∧ ((pre.length : Nat) : Int).toNat ≤ a.length := ⟨by omega, by omega⟩
  rw [okI_eq ho, ht, has_eq]
  by_cases h5 : x ∈ pre <;> simp [h1, h2, h3, h4, h5, hk']
theorem sing_iff : ∀ (l pre : List Int), singB pre l = true ↔ (∀ x ∈ l, 1 ≤ x ∧ x ≤ 65536) ∧ l.Nodup ∧ ∀ x ∈ l, x ∉ pre
  | [], pre => by simp [singB]
  | y :: l, pre => by
    simp only [singB, Bool.and_eq_true, decide_eq_true_eq, Bool.not_eq_true', decide_eq_false_iff_not, sing_iff l (pre ++ [y]), List.mem_append, List.mem_singleton, not_or, List.mem_cons, List.not_mem_nil, or_false, forall_eq_or_imp, List.nodup_cons]
    constructor
    · rintro ⟨a, b, c, d, e, f⟩
      exact ⟨⟨⟨a, b⟩, d⟩, ⟨fun hm => (f y hm).2 rfl, e⟩, c, fun x hx => (f x hx).1⟩
    · rintro ⟨⟨⟨a, b⟩, d⟩, ⟨f, e⟩, c, g⟩
      exact ⟨a, b, c, d, e, fun x hx => ⟨g x hx, fun e => f (e ▸ hx)⟩⟩

def varsD (d : S_api_Dqbf) : List Int := d.Exist.map (·.Var)

theorem all_eq (d : S_api_Dqbf) (h : d.Univ.length + d.Exist.length ≤ 8388608) : F_skolemref03_All d = some (d.Univ ++ varsD d) := by
  unfold F_skolemref03_All
  rw [capN_eq (by simp; omega)]
  refine rangeF_pre d.Exist (fun pre s => s.length = d.Univ.length + pre.length) (fun _ xs s => some (s ++ xs.map (·.Var))) (fun s _ => by simp) ?_ d.Exist [] ([] ++ d.Univ) rfl (by simp)
  intro pre x xs s kk hf hI hk
  have hlen : pre.length < d.Exist.length := by rw [hf]; simp
  rw [capN_eq (by simp; omega), hk _ (by simp [hI]; omega)]
  simp

def tot (cs : List (List Int)) : Nat := (cs.map List.length).sum
theorem tot_app (a b : List (List Int)) : tot (a ++ b) = tot a + tot b := by simp [tot]
theorem tot_cons (a : List Int) (b : List (List Int)) : tot (a :: b) = a.length + tot b := by simp [tot]
theorem tot_mem {cs : List (List Int)} {c : List Int} (h : c ∈ cs) : c.length ≤ tot cs := by
  obtain ⟨a, b, rfl⟩ := List.append_of_mem h
  rw [tot_app, tot_cons]; omega

theorem cnf_eq (cs : List (List Int)) (h : tot cs ≤ 4194304) : F_skolemref03_Cnf cs = some (cs.all (nrmB 0) && (decide (cs.length ≤ 20000) && decide (tot cs ≤ 200000))) := by
  refine rangeF_pre cs (fun pre s => s = (tot pre : Int)) (fun pre xs s => some (xs.all (nrmB 0) && (decide (cs.length ≤ 20000) && decide (tot cs ≤ 200000)))) ?_ ?_ cs [] 0 rfl rfl
  · rintro s rfl
    by_cases h1 : cs.length ≤ 20000
    · have : ((cs.length : Nat) : Int) ≤ 20000 := by omega
      by_cases h2 : tot cs ≤ 200000
      · have h3 : (tot cs : Int) ≤ 200000 := by omega
        simp [this, h1, h2, h3]
      · have h3 : ¬ (tot cs : Int) ≤ 200000 := by omega
        simp [this, h1, h2, h3]
    · have : ¬ ((cs.length : Nat) : Int) ≤ 20000 := by omega
      simp [this, h1]
  · intro pre x xs s kk hf hI hk
    have ht : tot pre + x.length ≤ tot cs := by rw [hf, tot_app, tot_cons]; omega
    rw [normal_eq x (by omega), Option.bind_some]
    have hk' := hk (IntKind.wrap .i64 (s + ((x.length : Nat) : Int))) (by rw [hI, wrap_id (by omega) (by omega), tot_app]; simp [tot])
    by_cases hx : nrmB 0 x = true
    · simp [hx, hk']
    · simp [hx]

theorem within_in (u : List Int) (kk : Unit → Option Bool) (c : List Int) (hr : ∀ x ∈ c, -65536 ≤ x ∧ x ≤ 65536) (hl : c.length ≤ 4194304) (R : Option Bool) (hk : kk () = R) :
    whileF 1000000000000 (fun k130 (s128 : Int) => (if (decide (s128 < ((c.length : Nat) : Int))) = true then (getI c s128 (fun x146 => ((F_skolemref03_Abs x146).bind (fun y147 => ((F_skolemref03_Has u y147).bind (fun y148 => (if (!y148) = true then (some false) else (k130 (IntKind.wrap .i64 (s128 + (1 : Int))))))))))) else (kk ()))) (0 : Int)
      = if (c.all fun x => decide (av x ∈ u)) = true then R else some false := by
  have := whileF_by (b := (fun k130 (s128 : Int) => (if (decide (s128 < ((c.length : Nat) : Int))) = true then (getI c s128 (fun x146 => ((F_skolemref03_Abs x146).bind (fun y147 => ((F_skolemref03_Has u y147).bind (fun y148 => (if (!y148) = true then (some false) else (k130 (IntKind.wrap .i64 (s128 + (1 : Int))))))))))) else (kk ())))) (fun s : Int => c.length - s.toNat) (fun s => 0 ≤ s ∧ s ≤ c.length) (fun s => if ((c.drop s.toNat).all fun x => decide (av x ∈ u)) = true then R else some false) ?_ 1000000000000 0 (by simp) (by simp; omega)
  · simpa using this
  · intro s k ⟨h0, h1⟩ hs
    by_cases h2 : s < ((c.length : Nat) : Int)
    · obtain ⟨n, rfl⟩ : ∃ n : Nat, s = n := ⟨s.toNat, by omega⟩
      have hn : n < c.length := by omega
      have hd : c.drop n = c[n] :: c.drop (n + 1) := by rw [List.drop_eq_getElem_cons hn]
      have hm := hr c[n] (List.getElem_mem hn)
      have hw : IntKind.wrap .i64 (((n : Nat) : Int) + 1) = ((n + 1 : Nat) : Int) := by rw [wrap_id (by omega) (by omega)]; omega
      have hs' := hs ((n + 1 : Nat) : Int) ⟨by omega, by omega⟩ (by simp; omega)
      simp only [h2, decide_true, if_true, getI_nat, List.getElem?_eq_getElem hn, abs3_eq (x := c[n]) (by omega) (by omega), has_eq, Option.bind_some, hw, hs', Int.toNat_natCast, hd, List.all_cons]
      by_cases h3 : av c[n] ∈ u <;> simp [h3]
    · have : s.toNat = c.length := by omega
      simp [h2, this, hk]

theorem within_eq (cs : List (List Int)) (u : List Int) (hr : ∀ c ∈ cs, nrmB 0 c = true) (hl : tot cs ≤ 4194304) : F_skolemref03_within cs u = some (cs.all fun c => c.all fun x => decide (av x ∈ u)) := by
  refine rangeF_pre cs (fun pre _ => True) (fun _ xs _ => some (xs.all fun c => c.all fun x => decide (av x ∈ u))) (fun _ _ => rfl) ?_ cs [] () rfl trivial
  intro pre x xs s kk hf hI hk
  have hx : x ∈ cs := by rw [hf]; simp
  rw [within_in u kk x (fun y hy => (nrm_mem (hr x hx) y hy).2) (Nat.le_trans (tot_mem hx) hl) _ (hk () trivial)]
  by_cases h : (x.all fun x => decide (av x ∈ u)) = true
  · rw [if_pos h]; simp only [List.all_cons, h, Bool.true_and]
  · rw [if_neg h]; simp only [List.all_cons, Bool.eq_false_iff.2 h, Bool.false_and]
end Go.Sk.X

namespace Go.Sk.X
open Go Go.Sk

structure Sm (d : S_api_Dqbf) : Prop where
  univ : d.Univ.length ≤ 2097152
  exist : d.Exist.length ≤ 2097152
  cls : d.Clauses.length ≤ 2097152
  tot : tot d.Clauses ≤ 2097152
  on : (d.Exist.map fun e => e.On.length).sum ≤ 2097152

theorem Sm.onE {d : S_api_Dqbf} (h : Sm d) {e : S_api_Dep} (he : e ∈ d.Exist) : e.On.length ≤ 2097152 := by
  have := h.on
  obtain ⟨a, b, hh⟩ := List.append_of_mem he
  rw [hh] at this
  simp at this
  omega

def depB (u : List Int) (e : S_api_Dep) : Bool := rsB 0 e.On && e.On.all fun x => decide (x ∈ u)
/-- what both mean by a formula that they may take -/
def MayD (d : S_api_Dqbf) : Bool :=
  (d.Exist.all fun e => !decide (e.Var ∈ d.Univ) && depB d.Univ e) && (rsB 0 d.Univ && (rsB 0 (varsD d) && (decide (d.Univ.length + d.Exist.length ≤ 1024) &&
    (decide (d.Clauses.length ≤ 20000) && ((d.Clauses.all fun c => nrmB 0 c && c.all fun x => decide (av x ∈ d.Univ ++ varsD d)) && decide (tot d.Clauses ≤ 200000))))))

theorem may3_eq {d : S_api_Dqbf} (h : Sm d) : F_skolemref03_MayDqbf d = some (MayD d) := by
  unfold F_skolemref03_MayDqbf
  have hv : (varsD d).length = d.Exist.length := by simp [varsD]
  have hA : (d.Univ ++ varsD d).length = d.Univ.length + d.Exist.length := by simp [hv]
  have h1 := h.univ
  have h2 := h.exist
  rw [all_eq d (by omega), Option.bind_some]
  simp only [jn_eq]
  by_cases hlen : d.Univ.length + d.Exist.length ≤ 1024
  case neg =>
    have : (((d.Univ ++ varsD d).length : Nat) : Int) > 1024 := by omega
    simp only [this, decide_true, if_true, MayD, hlen, decide_false, Bool.false_and, Bool.and_false]
  have hlen' : ¬ (((d.Univ ++ varsD d).length : Nat) : Int) > 1024 := by omega
  simp only [hlen', decide_false, Bool.false_eq_true, if_false, single_eq, Option.bind_some, rises3_eq d.Univ (by omega)]
  by_cases hU : rsB 0 d.Univ = true
  case neg =>
    have hU' := Bool.eq_false_iff.2 hU
    by_cases hs : singB [] (d.Univ ++ varsD d) = true <;> simp [hs, hU', MayD]
  have ho : 0 ≤ ((d.Univ.length : Nat) : Int) ∧ (((d.Univ.length : Nat) : Int)).toNat ≤ (d.Univ ++ varsD d).length := ⟨by omega, by omega⟩
  have hd : (d.Univ ++ varsD d).drop (((d.Univ.length : Nat) : Int)).toNat = varsD d := by simp
  rw [okI_eq ho, hd, rises3_eq (varsD d) (by omega)]
  simp only [Option.bind_some]
  by_cases hV : rsB 0 (varsD d) = true
  case neg =>
    have hV' := Bool.eq_false_iff.2 hV
    by_cases hs : singB [] (d.Univ ++ varsD d) = true <;> simp [hs, hU, hV', MayD]
  -- one of each, since both rise
  have hs : singB [] (d.Univ ++ varsD d) = true ↔ ∀ e ∈ d.Exist, e.Var ∉ d.Univ := by
    rw [sing_iff]
    constructor
    · rintro ⟨_, a, _⟩ e he hm
      exact (List.nodup_append.1 a).2.2 _ hm _ (List.mem_map.2 ⟨e, he, rfl⟩) rfl
    · intro hx
      refine ⟨fun x hm => ?_, List.nodup_append.2 ⟨rsB_nodup hU, rsB_nodup hV, ?_⟩, by simp⟩
      · rcases List.mem_append.1 hm with hm | hm
        · have := rsB_mem hU x hm; omega
        · have := rsB_mem hV x hm; omega
      · rintro x hm y hy rfl
        obtain ⟨e, he, rfl⟩ := List.mem_map.1 hy
        exact hx e he hm
  by_cases hS : singB [] (d.Univ ++ varsD d) = true
  case neg =>
    have hS' := Bool.eq_false_iff.2 hS
    have : ∃ e ∈ d.Exist, e.Var ∈ d.Univ := by
      refine Classical.byContradiction fun hc => hS (hs.2 fun e he hm => hc ⟨e, he, hm⟩)
    obtain ⟨e, he, hm⟩ := this
    have hall : (d.Exist.all fun e => !decide (e.Var ∈ d.Univ) && depB d.Univ e) = false := by
      rw [List.all_eq_false]
      exact ⟨e, he, by simp [hm]⟩
    simp [hS', MayD, hall]
  have hS2 := hs.1 hS
  have hall : (d.Exist.all fun e => !decide (e.Var ∈ d.Univ) && depB d.Univ e) = d.Exist.all (depB d.Univ) := by
    rw [Bool.eq_iff_iff]
    simp only [List.all_eq_true, Bool.and_eq_true, Bool.not_eq_true', decide_eq_false_iff_not]
    exact ⟨fun q e he => (q e he).2, fun q e he => ⟨hS2 e he, q e he⟩⟩
  rw [cnf_eq d.Clauses (Nat.le_trans h.tot (by decide))]
  simp only [hS, hU, hV, Bool.not_true, Bool.false_eq_true, if_false, Option.bind_some]
  -- the deps
  have hdeps : (rangeF (fun (j146 : Nat) (x147 : S_api_Dep) (s143 : Unit) k145 => (((F_skolemref03_Rises x147.On).bind (fun y185 => (if (!y185) = true then (if True then (some false) else (k145 ())) else ((F_skolemref03_Part x147.On d.Univ).bind (fun y187 => (if (!y187) = true then (some false) else (k145 ()))))))))) 0 d.Exist () (fun (s143 : Unit) => (some true))) = some (d.Exist.all (depB d.Univ)) := by
    refine rangeF_pre d.Exist (fun pre _ => True) (fun _ xs _ => some (xs.all (depB d.Univ))) (fun _ _ => rfl) ?_ d.Exist [] () rfl trivial
    intro pre x xs s kk hf hI hk
    have hx : x ∈ d.Exist := by rw [hf]; simp
    rw [rises3_eq x.On (Nat.le_trans (h.onE hx) (by decide)), Option.bind_some, part_eq, Option.bind_some, hk () trivial, List.all_cons, depB]
    by_cases a : rsB 0 x.On = true
    · by_cases b : (x.On.all fun x => decide (x ∈ d.Univ)) = true
      · rw [a, b]; simp
      · rw [a, Bool.eq_false_iff.2 b]; simp
    · rw [Bool.eq_false_iff.2 a]; simp
  rw [hdeps]
  unfold MayD
  rw [hall, hU, hV]
  by_cases hN : d.Clauses.all (nrmB 0) = true
  case neg =>
    have hN' := Bool.eq_false_iff.2 hN
    have : (d.Clauses.all fun c => nrmB 0 c && c.all fun x => decide (av x ∈ d.Univ ++ varsD d)) = false := by
      rw [List.all_eq_false] at hN' ⊢
      obtain ⟨c, hc, hn⟩ := hN'
      exact ⟨c, hc, by simp [Bool.eq_false_iff.2 hn]⟩
    simp only [hN', this, Bool.false_and, Bool.and_false, Bool.not_false, if_true]
  have hN2 := List.all_eq_true.1 hN
  rw [within_eq d.Clauses _ hN2 (Nat.le_trans h.tot (by decide)), Option.bind_some]
  have hW : (d.Clauses.all fun c => nrmB 0 c && c.all fun x => decide (av x ∈ d.Univ ++ varsD d)) = d.Clauses.all fun c => c.all fun x => decide (av x ∈ d.Univ ++ varsD d) := by
    rw [Bool.eq_iff_iff]
    simp only [List.all_eq_true, Bool.and_eq_true]
    exact ⟨fun q e he => (q e he).2, fun q e he => ⟨hN2 e he, q e he⟩⟩
  rw [hW, hN]
  generalize (d.Clauses.all fun c => c.all fun x => decide (av x ∈ d.Univ ++ varsD d)) = w
  generalize d.Exist.all (depB d.Univ) = e
  by_cases a : d.Clauses.length ≤ 20000 <;> by_cases b : tot d.Clauses ≤ 200000 <;> cases w <;> cases e <;> simp [a, b, hlen]

/-! the program's own -/
theorem fold2 (xs : List Int) : ∀ (m m' : List (Int × Bool)), xs.foldl (fun (s : List (Int × Bool) × List (Int × Bool)) x => (mset s.1 x true, mset s.2 x true)) (m, m') = (xs.foldl (fun m x => mset m x true) m, xs.foldl (fun m x => mset m x true) m') := by
  induction xs with
  | nil => intro m m'; rfl
  | cons x xs ih => intro m m'; rw [List.foldl_cons, List.foldl_cons, List.foldl_cons, ih]

theorem findF_eq (m : Int → Bool) (kk : Int → Option Bool) (l : List Int) (R : Option Bool) (hb : ∀ j : Nat, kk (j : Int) = some false) (hk : kk (-1) = R) :
    rangeF (fun (j1617 : Nat) (x1618 : Int) (s1614 : Unit) k1616 => (if (!(m x1618)) = true then (kk ((j1617 : Nat) : Int)) else (k1616 ()))) 0 l () (fun (s1614 : Unit) => kk (-1 : Int)) = if (l.all m) = true then R else some false := by
  refine rangeF_eq (fun _ xs _ => if (xs.all m) = true then R else some false) (fun _ _ => hk.symm) ?_ l 0 ()
  intro j x xs s k2 h2
  by_cases h : m x = true
  · simp [h, h2]
  · simp [Bool.eq_false_iff.2 h, hb]

theorem lits_in (m : Int → Bool) (kk : Int → Option Bool) (l : List Int) (R : Option Bool) (hk : ∀ s, kk s = R) :
    rangeF (fun (j3902 : Nat) (x3903 : Int) (s3899 : Int) k3901 => (jn (fun (s4091 : Bool) => (if s4091 = true then (some false) else ((F_prefix_abs x3903).bind (fun y4095 => (k3901 y4095))))) (fun k4093 => (if (x3903 == (0 : Int)) = true then (k4093 true) else (if (decide (x3903 < (-65536 : Int))) = true then (k4093 true) else (if (decide (x3903 > (65536 : Int))) = true then (k4093 true) else ((F_prefix_abs x3903).bind (fun y4099 => (if (decide (y4099 ≤ s3899)) = true then (k4093 true) else ((F_prefix_abs x3903).bind (fun y4101 => (k4093 (!(m y4101)))))))))))))) 0 l (0 : Int) kk
      = if (nrmB 0 l && l.all fun x => m (av x)) = true then R else some false := by
  refine rangeF_pre l (fun _ s => 0 ≤ s) (fun _ xs s => if (nrmB s xs && xs.all fun x => m (av x)) = true then R else some false) (fun s _ => by simp [nrmB, hk]) ?_ l [] 0 rfl (by decide)
  intro pre x xs s k2 hf hI h2
  simp only [jn_eq]
  by_cases h0 : x = 0
  · subst h0
    have h5 : ¬ s < av 0 := by show ¬ s < 0; omega
    simp [h5, nrmB]
  have h0' : (x == 0) = false := by simp [h0]
  by_cases h1 : x < -65536
  · have : ¬ -65536 ≤ x := by omega
    simp [h0', h1, this, nrmB]
  by_cases h3 : x > 65536
  · have : ¬ x ≤ 65536 := by omega
    simp [h0', h1, h3, this, nrmB]
  have e1 : -65536 ≤ x := by omega
  have e2 : x ≤ 65536 := by omega
  rw [absp_eq (x := x) (by omega) (by omega)]
  simp only [h0', h1, h3, decide_false, Bool.false_eq_true, if_false, Option.bind_some, nrmB, e1, e2, decide_true, Bool.true_and, List.all_cons]
  by_cases h4 : av x ≤ s
  · have : ¬ s < av x := by omega
    simp [h4, this]
  · have h5 : s < av x := by omega
    rw [h2 (av x) (av_nonneg x)]
    cases h6 : m (av x) <;> simp [h4, h5, h6]
    
theorem mayp_eq {d : S_api_Dqbf} (h : Sm d) : F_prefix_MayDqbf d = some (MayD d) := by
  unfold F_prefix_MayDqbf
  rw [rangeF_fold (fun (s : List (Int × Bool) × List (Int × Bool)) x => (mset s.1 x true, mset s.2 x true)), fold2]
  have h1 := h.univ
  have h2 := h.exist
  have h3 := h.tot
  have hmu : ∀ x, ((mget (d.Univ.foldl (fun m x => mset m x true) []) x).getD false) = decide (x ∈ d.Univ) := by
    intro x; rw [mget_fold]; by_cases hx : x ∈ d.Univ <;> simp [hx, mget]
  generalize hM : d.Univ.foldl (fun m x => mset m x true) ([] : List (Int × Bool)) = M at hmu ⊢
  simp only [hmu, jn_eq]
  refine (rangeF_pre d.Exist (fun pre s => s = pre.map (·.Var)) (fun _ xs _ => some ((xs.all fun e => !decide (e.Var ∈ d.Univ) && depB d.Univ e) && (rsB 0 d.Univ && (rsB 0 (varsD d) && (decide (d.Univ.length + d.Exist.length ≤ 1024) &&
    (decide (d.Clauses.length ≤ 20000) && ((d.Clauses.all fun c => nrmB 0 c && c.all fun x => decide (av x ∈ d.Univ ++ varsD d)) && decide (tot d.Clauses ≤ 200000)))))))) ?_ ?_ d.Exist [] [] rfl rfl)
  · rintro s rfl
    have hv : (d.Exist.map (·.Var)).length = d.Exist.length := by simp
    rw [rangeF_fold (fun m x => mset m x true)]
    have hma : ∀ x, (mget ((d.Exist.map (·.Var)).foldl (fun m x => mset m x true) M) x).isSome = decide (x ∈ d.Univ ++ varsD d) := by
      intro x
      rw [mget_fold, ← hM, mget_fold]
      by_cases a : x ∈ d.Exist.map (·.Var)
      · rw [if_pos a]; simp [varsD]; exact .inr (by simpa using a)
      · rw [if_neg a]
        by_cases b : x ∈ d.Univ
        · rw [if_pos b]; simp [b]
        · rw [if_neg b]
          have : x ∉ d.Univ ++ varsD d := by simp only [List.mem_append, not_or]; exact ⟨b, a⟩
          simp [mget, this]
    simp only [hma, rises_eq d.Univ (by omega), Option.bind_some, List.all_nil, Bool.true_and]
    by_cases hU : rsB 0 d.Univ = true
    case neg => simp [Bool.eq_false_iff.2 hU]
    rw [rises_eq _ (by rw [hv]; omega), Option.bind_some]
    by_cases hV : rsB 0 (varsD d) = true
    case neg =>
      have : rsB 0 (d.Exist.map (·.Var)) = false := Bool.eq_false_iff.2 hV
      simp [hU, this, Bool.eq_false_iff.2 hV]
    have hV' : rsB 0 (d.Exist.map (·.Var)) = true := hV
    rw [hv, wrap_id (by omega) (by omega)]
    by_cases hl : d.Univ.length + d.Exist.length ≤ 1024
    case neg =>
      have : ¬ ((d.Univ.length : Int) + (d.Exist.length : Int) ≤ 1024) := by omega
      simp [hU, hV', hl, this]
    have hl' : ((d.Univ.length : Int) + (d.Exist.length : Int) ≤ 1024) := by omega
    simp only [hU, hV, hV', hl, hl', decide_true, if_true, Bool.true_and]
    by_cases hc : d.Clauses.length ≤ 20000
    case neg =>
      have : ((d.Clauses.length : Nat) : Int) > 20000 := by omega
      simp [hc, this]
    have hc' : ¬ ((d.Clauses.length : Nat) : Int) > 20000 := by omega
    simp only [hc, hc', decide_true, decide_false, Bool.false_eq_true, if_false, Bool.true_and]
    have key := rangeF_pre (f := (fun (j3491 : Nat) (x3492 : (List Int)) (s3488 : Int) (k3490 : Int → Option Bool) => (rangeF (fun (j3902 : Nat) (x3903 : Int) (s3899 : Int) k3901 => (jn (fun (s4091 : Bool) => (if s4091 = true then (some false) else ((F_prefix_abs x3903).bind (fun y4095 => (k3901 y4095))))) (fun k4093 => (if (x3903 == (0 : Int)) = true then (k4093 true) else (if (decide (x3903 < (-65536 : Int))) = true then (k4093 true) else (if (decide (x3903 > (65536 : Int))) = true then (k4093 true) else ((F_prefix_abs x3903).bind (fun y4099 => (if (decide (y4099 ≤ s3899)) = true then (k4093 true) else ((F_prefix_abs x3903).bind (fun y4101 => (k4093 (!(decide (y4101 ∈ d.Univ ++ varsD d))))))))))))))) 0 x3492 (0 : Int) (fun (s3899 : Int) => (k3490 (IntKind.wrap .i64 (s3488 + ((x3492.length : Nat) : Int)))))))) (k := fun s3488 => some (decide (s3488 ≤ (200000 : Int))))
      d.Clauses (fun pre s => s = (tot pre : Int)) (fun _ xs _ => some ((xs.all fun c => nrmB 0 c && c.all fun x => decide (av x ∈ d.Univ ++ varsD d)) && decide (tot d.Clauses ≤ 200000))) ?_ ?_ d.Clauses [] 0 rfl rfl
    · simp only [jn_eq, if_true, List.length_nil] at key
      rw [key]; simp
    · rintro s rfl
      by_cases ht : tot d.Clauses ≤ 200000
      · have h3 : (tot d.Clauses : Int) ≤ 200000 := by omega
        simp [ht, h3]
      · have h3 : ¬ (tot d.Clauses : Int) ≤ 200000 := by omega
        simp [ht, h3]
    · intro pre x xs s kk hf hI hk
      have ht : tot pre + x.length ≤ tot d.Clauses := by rw [hf, tot_app, tot_cons]; omega
      have hk' := hk (IntKind.wrap .i64 (s + ((x.length : Nat) : Int))) (by rw [hI, wrap_id (by omega) (by omega), tot_app]; simp [tot])
      rw [lits_in (fun y => decide (y ∈ d.Univ ++ varsD d)) _ x _ (fun _ => hk'), List.all_cons]
      by_cases hx : (nrmB 0 x && x.all fun x => decide (av x ∈ d.Univ ++ varsD d)) = true
      · rw [if_pos hx, hx, Bool.true_and]
      · rw [if_neg hx, Bool.eq_false_iff.2 hx, Bool.false_and, Bool.false_and]
  · intro pre x xs s kk hf hI hk
    have hx : x ∈ d.Exist := by rw [hf]; simp
    have hlen : pre.length < d.Exist.length := by rw [hf]; simp
    have hk' := hk (s ++ [x.Var]) (by rw [hI]; simp)
    rw [List.all_cons]
    by_cases hu : x.Var ∈ d.Univ
    · simp [hu]
    rw [rises_eq x.On (Nat.le_trans (h.onE hx) (by decide)), Option.bind_some, depB]
    by_cases a : rsB 0 x.On = true
    case neg => simp [hu, Bool.eq_false_iff.2 a]
    simp only [hu, a, decide_false, Bool.false_eq_true, if_false, Bool.not_true]
    have hA : ∀ j : Nat, (if (decide (((j : Nat) : Int) ≥ (0 : Int))) = true then (some false) else (capN (s.length + [x.Var].length) (kk (s ++ [x.Var])))) = some false := fun j => by
      have : ((j : Nat) : Int) ≥ 0 := by omega
      simp [this]
    have hB : (if (decide ((-1 : Int) ≥ (0 : Int))) = true then (some false) else (capN (s.length + [x.Var].length) (kk (s ++ [x.Var])))) = kk (s ++ [x.Var]) := by
      rw [capN_eq (by rw [hI]; simp; omega)]; simp
    rw [findF_eq (fun y => decide (y ∈ d.Univ)) (fun s1611 => (if (decide (s1611 ≥ (0 : Int))) = true then (some false) else (capN (s.length + [x.Var].length) (kk (s ++ [x.Var]))))) x.On (kk (s ++ [x.Var])) hA hB]
    rw [hk']
    by_cases b : (x.On.all fun y => decide (y ∈ d.Univ)) = true
    · rw [if_pos b, b]; simp
    · rw [if_neg b, Bool.eq_false_iff.2 b]; simp
end Go.Sk.X

namespace Go.Sk.X
open Go Go.Sk

structure May (d : S_api_Dqbf) : Prop where
  dj : ∀ e ∈ d.Exist, e.Var ∉ d.Univ
  on : ∀ e ∈ d.Exist, rsB 0 e.On = true ∧ ∀ x ∈ e.On, x ∈ d.Univ
  ru : rsB 0 d.Univ = true
  rv : rsB 0 (varsD d) = true
  len : d.Univ.length + d.Exist.length ≤ 1024
  nrm : ∀ c ∈ d.Clauses, nrmB 0 c = true
  wi : ∀ c ∈ d.Clauses, ∀ x ∈ c, av x ∈ d.Univ ∨ av x ∈ varsD d
theorem may_of {d : S_api_Dqbf} (h : MayD d = true) : May d := by
  simp only [MayD, Bool.and_eq_true, List.all_eq_true, decide_eq_true_eq, Bool.not_eq_true', decide_eq_false_iff_not, depB, List.mem_append] at h
  obtain ⟨h1, h2, h3, h4, h5, h6, h7⟩ := h
  exact ⟨fun e he => (h1 e he).1, fun e he => (h1 e he).2, h2, h3, h4, fun c hc => (h6 c hc).1, fun c hc => (h6 c hc).2⟩
theorem May.sep {d : S_api_Dqbf} (h : May d) {x : Int} (h1 : x ∈ d.Univ) : x ∉ varsD d := fun hm => by
  obtain ⟨e, he, rfl⟩ := List.mem_map.1 hm
  exact h.dj e he h1

def plainB (d : S_api_Dqbf) (c : List Int) : Bool := c.all fun x => decide (av x ∈ d.Univ)
def dec (d : S_api_Dqbf) : Int := if MayD d = true then (if (d.Clauses.any (plainB d)) = true then 2 else if d.Clauses = [] then 1 else 0) else 0

theorem wrapu (n : Int) : IntKind.wrap .u64 n = n % 18446744073709551616 := by
  simp only [IntKind.wrap, IntKind.bits, IntKind.signed]
  simp
theorem litsVar_eq {x : Int} (h0 : -65536 ≤ x) (h1 : x ≤ 65536) : F_lits_Var x = some (av x) := by
  unfold F_lits_Var F_lits_size av
  by_cases h : x < 0
  · have e : IntKind.wrap .u64 (0 - IntKind.wrap .u64 x) = -x := by rw [wrapu, wrapu]; omega
    have e2 : -x ≤ 65536 := by omega
    simp only [h, decide_true, if_true, e, Option.bind_some, e2, wrap_id (n := -x) (by omega) (by omega)]
  · have e : IntKind.wrap .u64 x = x := by rw [wrapu]; omega
    simp [h, e, h1, wrap_id (n := x) (by omega) (by omega)]
theorem rVar_eq {x : Int} (h0 : -65536 ≤ x) (h1 : x ≤ 65536) (hx : x ≠ 0) : F_skolemref01_Var x = some (av x) := by
  have hs : F_skolemref01_size x = some (av x) := by
    unfold F_skolemref01_size av
    by_cases h : x < 0
    · have e : IntKind.wrap .u64 ((IntKind.wrap .u64 (IntKind.wrap .i64 (0 - (IntKind.wrap .i64 (x + (1 : Int)))))) + (1 : Int)) = -x := by
        rw [wrap_id (n := x + 1) (by omega) (by omega), wrap_id (n := 0 - (x + 1)) (by omega) (by omega), wrapu, wrapu]; omega
      simp only [h, decide_true, if_true, e]
    · have e : IntKind.wrap .u64 x = x := by rw [wrapu]; omega
      simp [h, e]
  have hv : av x ≤ 65536 := by unfold av; split <;> omega
  have hv0 := av_nonneg x
  unfold F_skolemref01_Var F_skolemref01_literal
  simp [hs, hx, hv, wrap_id (n := av x) (by omega) (by omega)]

theorem mget_foldV (es : List S_api_Dep) : ∀ (m : List (Int × List Int)) (k : Int), (mget (es.foldl (fun m e => mset m e.Var e.On) m) k).isSome = (decide (k ∈ es.map (·.Var)) || (mget m k).isSome) := by
  induction es with
  | nil => intro m k; simp
  | cons e es ih =>
    intro m k
    rw [List.foldl_cons, ih, mget_mset]
    by_cases h : k = e.Var
    · simp [h]
    · simp [h]

theorem litsLoop (b : Int → Bool) (kk : Int → Option Int) (c : List Int) (hr : ∀ x ∈ c, -65536 ≤ x ∧ x ≤ 65536) (A R : Option Int) (hb : ∀ j : Nat, kk (j : Int) = A) (hk : kk (-1) = R) :
    rangeF (fun (j11049 : Nat) (x11050 : Int) (s11046 : Unit) k11048 => ((F_lits_Var x11050).bind (fun y11084 => (Option.bind (some ()) (fun (y11085 : Unit) => (if b y11084 = true then (kk ((j11049 : Nat) : Int)) else (k11048 ()))))))) 0 c () (fun (s11046 : Unit) => kk (-1 : Int))
      = if (c.any fun x => b (av x)) = true then A else R := by
  refine rangeF_pre c (fun _ _ => True) (fun _ xs _ => if (xs.any fun x => b (av x)) = true then A else R) (fun _ _ => hk) ?_ c [] () rfl trivial
  intro pre x xs s k2 hf hI h2
  have hx := hr x (by rw [hf]; simp)
  rw [litsVar_eq hx.1 hx.2]
  simp only [Option.bind_some, List.any_cons]
  by_cases h : b (av x) = true
  · simp [h, hb]
  · simp [Bool.eq_false_iff.2 h, h2 () trivial]

theorem decC_eq {d : S_api_Dqbf} (h : Sm d) : F_clean_Decided d = some (dec d) := by
  unfold F_clean_Decided
  rw [mayp_eq h, Option.bind_some, dec]
  by_cases hM : MayD d = true
  case neg => simp [Bool.eq_false_iff.2 hM]
  have hm := may_of hM
  simp only [hM, Bool.not_true, Bool.false_eq_true, if_false, if_true]
  rw [rangeF_fold (fun s x => mset s x true), rangeF_fold (fun (s : List (Int × List Int)) (e : S_api_Dep) => mset s e.Var e.On)]
  have hin : (fun (j146 : Nat) (x147 : (List Int)) (s143 : (List (Int × Int))) (k145 : List (Int × Int) → Option Int) => (rangeF (fun (j161 : Nat) (x162 : Int) (s158 : (List (Int × Int))) k160 => (k160 (mset s158 x162 (IntKind.wrap .i64 (((mget s158 x162).getD (0 : Int)) + (1 : Int)))))) 0 x147 s143 (fun (s158 : (List (Int × Int))) => (k145 s158))))
      = fun _ x s k => k (x.foldl (fun s y => mset s y (IntKind.wrap .i64 (((mget s y).getD (0 : Int)) + (1 : Int)))) s) := by
    funext j x s k
    exact rangeF_fold (fun s y => mset s y (IntKind.wrap .i64 (((mget s y).getD (0 : Int)) + (1 : Int)))) k x 0 s
  rw [hin, rangeF_fold]
  have hmg : ∀ y, (mget (d.Exist.foldl (fun (s : List (Int × List Int)) (e : S_api_Dep) => mset s e.Var e.On) []) y).isSome = decide (y ∈ varsD d) := by
    intro y; rw [mget_foldV]; simp [mget, varsD]
  generalize d.Exist.foldl (fun (s : List (Int × List Int)) (e : S_api_Dep) => mset s e.Var e.On) ([] : List (Int × List Int)) = M at hmg ⊢
  simp only [hmg, jn_eq]
  have hend : ∀ (n : Nat), (if (decide (((n : Nat) : Int) ≥ (0 : Int))) = true then (some (2 : Int)) else (if (((d.Clauses.length : Nat) : Int) == (0 : Int)) = true then (some (1 : Int)) else (some (0 : Int)))) = some 2 := fun n => by
    have : ((n : Nat) : Int) ≥ 0 := by omega
    simp [this]
  refine rangeF_pre d.Clauses (fun _ _ => True) (fun _ xs _ => some (if (xs.any (plainB d)) = true then 2 else if d.Clauses = [] then 1 else 0)) ?_ ?_ d.Clauses [] () rfl trivial
  · intro s _
    by_cases hc : d.Clauses = []
    · simp [hc]
    · have : ¬ ((d.Clauses.length : Nat) : Int) = 0 := by
        have := List.length_pos_iff.2 hc; omega
      simp [hc, this]
  · intro pre x xs s kk hf hI hk
    have hx : x ∈ d.Clauses := by rw [hf]; simp
    have hr := fun y hy => (nrm_mem (hm.nrm x hx) y hy).2
    have hA : ∀ j : Nat, (if (!(decide (((j : Nat) : Int) ≥ (0 : Int)))) = true then (if (decide (((pre.length : Nat) : Int) ≥ (0 : Int))) = true then (some (2 : Int)) else (if (((d.Clauses.length : Nat) : Int) == (0 : Int)) = true then (some (1 : Int)) else (some (0 : Int)))) else kk ()) = kk () := fun j => by
      have : ((j : Nat) : Int) ≥ 0 := by omega
      simp [this]
    have hB : (if (!(decide ((-1 : Int) ≥ (0 : Int)))) = true then (if (decide (((pre.length : Nat) : Int) ≥ (0 : Int))) = true then (some (2 : Int)) else (if (((d.Clauses.length : Nat) : Int) == (0 : Int)) = true then (some (1 : Int)) else (some (0 : Int)))) else kk ()) = some 2 := by
      rw [hend]; simp
    rw [litsLoop (fun y => decide (y ∈ varsD d)) (fun s11042 => if (!(decide (s11042 ≥ (0 : Int)))) = true then (if (decide (((pre.length : Nat) : Int) ≥ (0 : Int))) = true then (some (2 : Int)) else (if (((d.Clauses.length : Nat) : Int) == (0 : Int)) = true then (some (1 : Int)) else (some (0 : Int)))) else kk ()) x hr _ _ hA hB, hk () trivial]
    have hp : plainB d x = !(x.any fun y => decide (av y ∈ varsD d)) := by
      rw [Bool.eq_iff_iff]
      simp only [plainB, List.all_eq_true, decide_eq_true_eq, Bool.not_eq_true', List.any_eq_false]
      constructor
      · exact fun q y hy => hm.sep (q y hy)
      · exact fun q y hy => (hm.wi x hx y hy).resolve_right (q y hy)
    rw [List.any_cons, hp]
    cases (x.any fun y => decide (av y ∈ varsD d)) <;> simp

theorem plainLoop (d : S_api_Dqbf) (c : List Int) (hn : nrmB 0 c = true) (hl : c.length ≤ 4194304) (R : Option Int) (kk : Unit → Option Int) (hk : kk () = R) :
    whileF 1000000000000 (fun k150 (s148 : (Bool × Int)) => (if (decide (s148.2 < ((c.length : Nat) : Int))) = true then (jn (fun (s180 : Bool) => (k150 (s180, (IntKind.wrap .i64 (s148.2 + (1 : Int)))))) (fun k182 => (if s148.1 = true then (getI c s148.2 (fun x184 => ((F_skolemref01_Var x184).bind (fun y185 => ((F_skolemref13_Universal d y185).bind (fun y186 => (k182 y186))))))) else (k182 false)))) else (if s148.1 = true then (some (2 : Int)) else (kk ())))) (true, (0 : Int))
      = if plainB d c = true then some 2 else R := by
  have := whileF_by (b := (fun k150 (s148 : (Bool × Int)) => (if (decide (s148.2 < ((c.length : Nat) : Int))) = true then (jn (fun (s180 : Bool) => (k150 (s180, (IntKind.wrap .i64 (s148.2 + (1 : Int)))))) (fun k182 => (if s148.1 = true then (getI c s148.2 (fun x184 => ((F_skolemref01_Var x184).bind (fun y185 => ((F_skolemref13_Universal d y185).bind (fun y186 => (k182 y186))))))) else (k182 false)))) else (if s148.1 = true then (some (2 : Int)) else (kk ()))))) (fun s : Bool × Int => c.length - s.2.toNat) (fun s => 0 ≤ s.2 ∧ s.2 ≤ c.length) (fun s => if (s.1 && (c.drop s.2.toNat).all fun x => decide (av x ∈ d.Univ)) = true then some 2 else R) ?_ 1000000000000 (true, 0) (by simp) (by simp; omega)
  · simpa [plainB] using this
  · rintro ⟨f, i⟩ k ⟨h0, h1⟩ hs
    simp only [jn_eq] at h0 h1 hs ⊢
    by_cases h2 : i < ((c.length : Nat) : Int)
    · obtain ⟨n, rfl⟩ : ∃ n : Nat, i = n := ⟨i.toNat, by omega⟩
      have hlt : n < c.length := by omega
      have hd : c.drop n = c[n] :: c.drop (n + 1) := by rw [List.drop_eq_getElem_cons hlt]
      have hm := nrm_mem hn c[n] (List.getElem_mem hlt)
      have hne : c[n] ≠ 0 := by intro e; rw [e] at hm; exact absurd hm.1 (by decide)
      have hw : IntKind.wrap .i64 (((n : Nat) : Int) + 1) = ((n + 1 : Nat) : Int) := by rw [wrap_id (by omega) (by omega)]; omega
      have hs' := fun b => hs (b, ((n + 1 : Nat) : Int)) ⟨by show (0 : Int) ≤ ((n + 1 : Nat) : Int); omega, by show ((n + 1 : Nat) : Int) ≤ (c.length : Int); omega⟩ (by simp; omega)
      have hU : ∀ v, F_skolemref13_Universal d v = some (decide (v ∈ d.Univ)) := fun v => by
        unfold F_skolemref13_Universal; rw [has1_eq]; rfl
      cases f
      · simp only [h2, decide_true, if_true, Bool.false_eq_true, if_false, hw, hs', Bool.false_and]
      · simp only [h2, decide_true, if_true, getI_nat, List.getElem?_eq_getElem hlt, rVar_eq hm.2.1 hm.2.2 hne, hU, Option.bind_some, hw, hs', Int.toNat_natCast, hd, List.all_cons, Bool.true_and]
    · have : i.toNat = c.length := by omega
      cases f <;> simp [h2, this, hk]

theorem decR_eq {d : S_api_Dqbf} (h : Sm d) : F_skolemref13_Decided d = some (dec d) := by
  unfold F_skolemref13_Decided
  rw [may3_eq h, Option.bind_some, dec]
  by_cases hM : MayD d = true
  case neg => simp [Bool.eq_false_iff.2 hM]
  have hm := may_of hM
  simp only [hM, Bool.not_true, Bool.false_eq_true, if_false, if_true]
  refine rangeF_pre d.Clauses (fun _ _ => True) (fun _ xs _ => some (if (xs.any (plainB d)) = true then 2 else if d.Clauses = [] then 1 else 0)) ?_ ?_ d.Clauses [] () rfl trivial
  · intro s _
    by_cases hc : d.Clauses = []
    · simp [hc]
    · have : ¬ ((d.Clauses.length : Nat) : Int) = 0 := by
        have := List.length_pos_iff.2 hc; omega
      simp [hc, this]
  · intro pre x xs s kk hf hI hk
    have hx : x ∈ d.Clauses := by rw [hf]; simp
    rw [plainLoop d x (hm.nrm x hx) (Nat.le_trans (tot_mem hx) (Nat.le_trans h.tot (by decide))) _ kk (hk () trivial), List.any_cons]
    cases plainB d x <;> simp
end Go.Sk.X

namespace Go.Sk.X
open Go Go.Sk

theorem rangeF_run {α S R : Type} {f : Nat → α → S → (S → Option R) → Option R} {k : S → Option R} (full : List α) (I : List α → S → Prop)
    (h1 : ∀ pre x xs s, full = pre ++ x :: xs → I pre s → ∃ s', I (pre ++ [x]) s' ∧ ∀ kk, f pre.length x s kk = kk s') : ∀ xs pre s, full = pre ++ xs → I pre s → ∃ s', I full s' ∧ rangeF f pre.length xs s k = k s'
  | [], pre, s, hf, hI => by
    rw [List.append_nil] at hf; subst hf
    exact ⟨s, hI, rfl⟩
  | x :: xs, pre, s, hf, hI => by
    obtain ⟨s', i, e⟩ := h1 pre x xs s hf hI
    obtain ⟨s2, i2, e2⟩ := rangeF_run full I h1 xs (pre ++ [x]) s' (by simp [hf]) i
    rw [List.length_append] at e2
    exact ⟨s2, i2, by rw [rangeF_cons, e]; exact e2⟩
theorem upF_run {S R : Type} {f : Int → S → (S → Option R) → Option R} {k : S → Option R} (n : Nat) (I : Nat → S → Prop)
    (h1 : ∀ (j : Nat) s, j < n → I j s → ∃ s', I (j + 1) s' ∧ ∀ kk, f (j : Int) s kk = kk s') : ∀ m j s, j + m = n → I j s → ∃ s', I n s' ∧ upF f m (j : Int) s k = k s'
  | 0, j, s, hf, hI => by
    have : j = n := by omega
    subst this; exact ⟨s, hI, rfl⟩
  | m + 1, j, s, hf, hI => by
    obtain ⟨s', i, e⟩ := h1 j s (by omega) hI
    obtain ⟨s2, i2, e2⟩ := upF_run n I h1 m (j + 1) s' (by omega) i
    refine ⟨s2, i2, ?_⟩
    rw [upF_succ, e]
    have : ((j + 1 : Nat) : Int) = (j : Int) + 1 := by omega
    rw [this] at e2
    exact e2

theorem wu0 (n : Int) : 0 ≤ IntKind.wrap .u64 n := by rw [wrapu]; omega
theorem pw_le {n m : Nat} (h : n ≤ m) : 2 ^ n ≤ 2 ^ m := Nat.pow_le_pow_right (by decide) h
theorem pw_eq (n : Nat) (h : n ≤ 62) : IntKind.wrap .i64 ((1 : Int) * 2 ^ (min (IntKind.wrap .u64 ((n : Nat) : Int)).toNat (IntKind.bits .i64))) = ((2 ^ n : Nat) : Int) := by
  have e1 : (IntKind.wrap .u64 ((n : Nat) : Int)).toNat = n := by rw [wrapu]; omega
  have e2 : IntKind.bits .i64 = 64 := rfl
  have e3 : min n 64 = n := by omega
  rw [e1, e2, e3]
  have : 2 ^ n ≤ 2 ^ 62 := pw_le h
  have h4 : (1 : Int) * (2 : Int) ^ n = ((2 ^ n : Nat) : Int) := by simp
  rw [h4]
  generalize 2 ^ n = m at this ⊢
  have h62 : (2 : Nat) ^ 62 = 4611686018427387904 := rfl
  exact wrap_id (by omega) (by omega)
theorem pw_eqT (n : Nat) (h : n ≤ 62) : IntKind.wrap .i64 ((1 : Int) * 2 ^ (min ((n : Nat) : Int).toNat (IntKind.bits .i64))) = ((2 ^ n : Nat) : Int) := by
  have := pw_eq n h
  rwa [show (IntKind.wrap .u64 ((n : Nat) : Int)).toNat = ((n : Nat) : Int).toNat by rw [wrapu]; omega] at this
theorem wi_ok (x : Int) : -9223372036854775808 ≤ (0 : Int) ∧ IntKind.wrap .i64 x ≤ 9223372036854775807 := by
  refine ⟨by decide, ?_⟩
  simp only [IntKind.wrap, IntKind.bits, IntKind.signed]
  simp only [Bool.true_and]
  split <;> rename_i h <;> simp only [ge_iff_le, decide_eq_true_eq] at h <;> omega

/-! points -/
def pbit (n : Int) (i : Nat) : Bool := (IntKind.wrap .i64 ((BitVec.ofInt (IntKind.bits .i64) (Int.fdiv n (2 ^ (min (IntKind.wrap .u64 ((i : Nat) : Int)).toNat (IntKind.bits .i64)))) &&& BitVec.ofInt (IntKind.bits .i64) (1 : Int)).toNat : Int)) == (0 : Int)
def nn : List Bool → Nat
  | [] => 0
  | b :: l => (if b = true then 0 else 1) + 2 * nn l
theorem nn_lt : ∀ l : List Bool, nn l < 2 ^ l.length
  | [] => by decide
  | b :: l => by
    have := nn_lt l
    have e : 2 ^ (l.length + 1) = 2 * 2 ^ l.length := by rw [Nat.pow_succ]; omega
    simp only [nn, List.length_cons, e]
    split <;> omega
theorem pick : ∀ (l : List Bool), l.length ≤ 4 → ∀ (i : Nat) (b : Bool), l[i]? = some b → pbit (nn l : Int) i = b
  | [], _, i, b, h => by simp at h
  | [a], _, i, b, h => by
    have key : ∀ a : Bool, pbit (nn [a] : Int) 0 = a := by decide +kernel
    rcases i with _ | i
    · simp at h; subst h; exact key a
    · simp at h
  | [a, c], _, i, b, h => by
    have key : ∀ a c : Bool, pbit (nn [a, c] : Int) 0 = a ∧ pbit (nn [a, c] : Int) 1 = c := by decide +kernel
    rcases i with _ | _ | i
    · simp at h; subst h; exact (key a c).1
    · simp at h; subst h; exact (key a c).2
    · simp at h
  | [a, c, e], _, i, b, h => by
    have key : ∀ a c e : Bool, pbit (nn [a, c, e] : Int) 0 = a ∧ pbit (nn [a, c, e] : Int) 1 = c ∧ pbit (nn [a, c, e] : Int) 2 = e := by decide +kernel
    rcases i with _ | _ | _ | i
    · simp at h; subst h; exact (key a c e).1
    · simp at h; subst h; exact (key a c e).2.1
    · simp at h; subst h; exact (key a c e).2.2
    · simp at h
  | [a, c, e, g], _, i, b, h => by
    have key : ∀ a c e g : Bool, pbit (nn [a, c, e, g] : Int) 0 = a ∧ pbit (nn [a, c, e, g] : Int) 1 = c ∧ pbit (nn [a, c, e, g] : Int) 2 = e ∧ pbit (nn [a, c, e, g] : Int) 3 = g := by decide +kernel
    rcases i with _ | _ | _ | _ | i
    · simp at h; subst h; exact (key a c e g).1
    · simp at h; subst h; exact (key a c e g).2.1
    · simp at h; subst h; exact (key a c e g).2.2.1
    · simp at h; subst h; exact (key a c e g).2.2.2
    · simp at h
  | _ :: _ :: _ :: _ :: _ :: _, h, _, _, _ => by simp at h

def pointL (n : Int) : Nat → List Int → List Int
  | _, [] => []
  | j, x :: xs => (if pbit n j = true then -x else x) :: pointL n (j + 1) xs
theorem pointL_len (n : Int) : ∀ (u : List Int) (j : Nat), (pointL n j u).length = u.length
  | [], _ => rfl
  | x :: xs, j => by simp [pointL, pointL_len n xs]
theorem pointL_mem (n : Int) : ∀ (u : List Int) (j : Nat) (y : Int), y ∈ pointL n j u → ∃ i x, u[i]? = some x ∧ y = if pbit n (j + i) = true then -x else x
  | [], _, y, h => by simp [pointL] at h
  | x :: xs, j, y, h => by
    simp only [pointL, List.mem_cons] at h
    rcases h with rfl | h
    · exact ⟨0, x, rfl, rfl⟩
    · obtain ⟨i, z, h1, h2⟩ := pointL_mem n xs (j + 1) y h
      exact ⟨i + 1, z, by simpa using h1, by rw [h2, show j + 1 + i = j + (i + 1) by omega]⟩
theorem point_eq (u : List Int) (n : Int) (hu : ∀ x ∈ u, 0 < x ∧ x ≤ 65536) (hl : u.length ≤ 1024) : F_skolemref04_Point u n = some (pointL n 0 u) := by
  refine rangeF_pre u (fun pre s => s.length = pre.length) (fun pre xs s => some (s ++ pointL n pre.length xs)) (fun s _ => by simp [pointL]) ?_ u [] [] rfl rfl
  intro pre x xs s kk hf hI hk
  have hx := hu x (by rw [hf]; simp)
  have hlen : pre.length < u.length := by rw [hf]; simp
  have hw : IntKind.wrap .i64 (0 - x) = -x := by rw [wrap_id (by omega) (by omega)]; omega
  have hc : ∀ y : Int, s.length + [y].length ≤ 1099511627776 := fun y => by rw [hI]; simp; omega
  have hk' : ∀ y : Int, kk (s ++ [y]) = some (s ++ [y] ++ pointL n (pre.length + 1) xs) := fun y => by
    have := hk (s ++ [y]) (by simp [hI])
    simpa using this
  simp only [jn_eq]
  rw [okI_eq (wu0 _), pointL]
  show (if pbit n pre.length = true then _ else _) = _
  by_cases h : pbit n pre.length = true
  · rw [if_pos h, if_pos h, capN_eq (hc _), hw, hk']; simp
  · rw [if_neg h, if_neg h, capN_eq (hc _), hk']; simp

/-! tables -/
def TabOk (d : S_api_Dqbf) (t : S_api_Table) : Prop := t.Bits.length = 2 ^ t.On.length ∧ t.On.length ≤ 4 ∧ t.Var ∈ varsD d
theorem at_ok (t : S_api_Table) (p : List Int) (h : t.Bits.length = 2 ^ t.On.length) (hl : t.On.length ≤ 4) : ∃ b, F_skolemref04_At t p = some b := by
  unfold F_skolemref04_At
  have := rangeF_run (R := Bool) (f := (fun (j104 : Nat) (x105 : Int) (s101 : Int) k103 => (jn (fun (s127 : Int) => (k103 s127)) (fun k129 => ((F_skolemref03_Has p x105).bind (fun y130 => (if y130 = true then (okI (0 ≤ (IntKind.wrap .u64 ((j104 : Nat) : Int))) (k129 (IntKind.wrap .i64 (s101 + (IntKind.wrap .i64 ((1 : Int) * 2 ^ (min (IntKind.wrap .u64 ((j104 : Nat) : Int)).toNat (IntKind.bits .i64)))))))) else (k129 s101)))))))) (k := (fun (s101 : Int) => (getI t.Bits s101 (fun x133 => (some x133))))) t.On (fun pre s => ∃ m : Nat, s = m ∧ m < 2 ^ pre.length) ?_ t.On [] 0 rfl ⟨0, rfl, by simp⟩
  · obtain ⟨s, ⟨m, rfl, hm⟩, e⟩ := this
    rw [List.length_nil] at e
    rw [e]
    have hm' : m < t.Bits.length := by rw [h]; exact hm
    exact ⟨t.Bits[m], by rw [getI_nat, List.getElem?_eq_getElem hm']⟩
  · rintro pre x xs s hf ⟨m, rfl, hm⟩
    have hlen : pre.length < t.On.length := by rw [hf]; simp
    have e : 2 ^ (pre.length + 1) = 2 * 2 ^ pre.length := by rw [Nat.pow_succ]; omega
    have hb : 2 ^ pre.length ≤ 2 ^ 4 := pw_le (by omega)
    have h16 : (2 : Nat) ^ 4 = 16 := rfl
    rw [has_eq, List.length_append, List.length_singleton, e]
    by_cases hx : x ∈ p
    · refine ⟨((m + 2 ^ pre.length : Nat) : Int), ⟨_, rfl, by omega⟩, fun kk => ?_⟩
      simp only [jn_eq, hx, decide_true, Option.bind_some, if_true]
      rw [okI_eq (wu0 _), pw_eq _ (by omega), wrap_id (by omega) (by omega)]
      congr 1
    · refine ⟨m, ⟨_, rfl, by omega⟩, fun kk => ?_⟩
      simp [jn_eq, hx]
theorem lit_ok (v : Int) (h0 : 0 < v) (h1 : v ≤ 65536) (b : Bool) : ∃ y, F_skolemref04_Lit v b = some y ∧ av y = v := by
  unfold F_skolemref04_Lit
  cases b
  · refine ⟨-v, by simp only [Bool.false_eq_true, if_false]; rw [wrap_id (by omega) (by omega)]; congr 1; omega, ?_⟩
    unfold av; split <;> omega
  · refine ⟨v, by simp, ?_⟩
    unfold av; split <;> omega

def satB (cs : List (List Int)) (a : List Int) : Bool := cs.all fun c => c.any fun x => decide (x ∈ a)
theorem satLoop (a c : List Int) (hl : c.length ≤ 4194304) (R : Option Bool) (kk : Unit → Option Bool) (hk : kk () = R) :
    whileF 1000000000000 (fun k142 (s140 : (Bool × Int)) => (if (decide (s140.2 < ((c.length : Nat) : Int))) = true then (jn (fun (s167 : Bool) => (k142 (s167, (IntKind.wrap .i64 (s140.2 + (1 : Int)))))) (fun k169 => (if s140.1 = true then (k169 true) else (getI c s140.2 (fun x171 => ((F_skolemref03_Has a x171).bind (fun y172 => (k169 y172)))))))) else (if (!s140.1) = true then (some false) else (kk ())))) (false, (0 : Int))
      = if (c.any fun x => decide (x ∈ a)) = true then R else some false := by
  have := whileF_by (b := (fun k142 (s140 : (Bool × Int)) => (if (decide (s140.2 < ((c.length : Nat) : Int))) = true then (jn (fun (s167 : Bool) => (k142 (s167, (IntKind.wrap .i64 (s140.2 + (1 : Int)))))) (fun k169 => (if s140.1 = true then (k169 true) else (getI c s140.2 (fun x171 => ((F_skolemref03_Has a x171).bind (fun y172 => (k169 y172)))))))) else (if (!s140.1) = true then (some false) else (kk ()))))) (fun s : Bool × Int => c.length - s.2.toNat) (fun s => 0 ≤ s.2 ∧ s.2 ≤ c.length) (fun s => if (s.1 || (c.drop s.2.toNat).any fun x => decide (x ∈ a)) = true then R else some false) ?_ 1000000000000 (false, 0) (by simp) (by simp; omega)
  · simpa using this
  · rintro ⟨f, i⟩ k ⟨h0, h1⟩ hs
    simp only [jn_eq] at h0 h1 hs ⊢
    by_cases h2 : i < ((c.length : Nat) : Int)
    · obtain ⟨n, rfl⟩ : ∃ n : Nat, i = n := ⟨i.toNat, by omega⟩
      have hlt : n < c.length := by omega
      have hd : c.drop n = c[n] :: c.drop (n + 1) := by rw [List.drop_eq_getElem_cons hlt]
      have hw : IntKind.wrap .i64 (((n : Nat) : Int) + 1) = ((n + 1 : Nat) : Int) := by rw [wrap_id (by omega) (by omega)]; omega
      have hs' := fun b => hs (b, ((n + 1 : Nat) : Int)) ⟨by show (0 : Int) ≤ ((n + 1 : Nat) : Int); omega, by show ((n + 1 : Nat) : Int) ≤ (c.length : Int); omega⟩ (by simp; omega)
      cases f
      · simp only [h2, decide_true, if_true, Bool.false_eq_true, if_false, getI_nat, List.getElem?_eq_getElem hlt, has_eq, Option.bind_some, hw, hs', Int.toNat_natCast, hd, List.any_cons, Bool.false_or]
      · simp only [h2, decide_true, if_true, hw, hs', Bool.true_or]
    · have : i.toNat = c.length := by omega
      cases f <;> simp [h2, this, hk]
theorem sat_eq (cs : List (List Int)) (a : List Int) (h : tot cs ≤ 2097152) : F_skolemref04_Satisfied cs a = some (satB cs a) := by
  refine rangeF_pre cs (fun _ _ => True) (fun _ xs _ => some (satB xs a)) (fun _ _ => rfl) ?_ cs [] () rfl trivial
  intro pre x xs s kk hf hI hk
  have hx : x ∈ cs := by rw [hf]; simp
  rw [satLoop a x (Nat.le_trans (tot_mem hx) (Nat.le_trans h (by decide))) _ kk (hk () trivial)]
  by_cases hs : (x.any fun y => decide (y ∈ a)) = true
  · rw [if_pos hs]; simp only [satB, List.all_cons, hs, Bool.true_and]
  · rw [if_neg hs]; simp only [satB, List.all_cons, Bool.eq_false_iff.2 hs, Bool.false_and]

/-! the sum of the sizes of tables -/
def sz (es : List S_api_Dep) : Nat := (es.map fun e => 2 ^ e.On.length).sum
theorem sz_app (a b : List S_api_Dep) : sz (a ++ b) = sz a + sz b := by simp [sz]
theorem sz_cons (a : S_api_Dep) (b : List S_api_Dep) : sz (a :: b) = 2 ^ a.On.length + sz b := by simp [sz]

structure Few (d : S_api_Dqbf) : Prop where
  on : ∀ e ∈ d.Exist, e.On.length ≤ 4
  univ : d.Univ.length ≤ 4
  bits : sz d.Exist ≤ 12

theorem bits_eq {d : S_api_Dqbf} (h : Few d) (hl : d.Exist.length ≤ 1024) : F_skolemref04_bits d = some (sz d.Exist : Int) := by
  have := whileF_by (R := Int) (b := (fun k103 (s101 : (Int × Int)) => (jn (fun (s141 : Bool) => (if s141 = true then (getI d.Exist s101.2 (fun x145 => (okI (0 ≤ (IntKind.wrap .u64 (imn ((x145.On.length : Nat) : Int) (10 : Int)))) (k103 ((IntKind.wrap .i64 (s101.1 + (IntKind.wrap .i64 ((1 : Int) * 2 ^ (min (IntKind.wrap .u64 (imn ((x145.On.length : Nat) : Int) (10 : Int))).toNat (IntKind.bits .i64)))))), (IntKind.wrap .i64 (s101.2 + (1 : Int)))))))) else (some s101.1))) (fun k143 => (if (decide (s101.2 < ((d.Exist.length : Nat) : Int))) = true then (k143 (decide (s101.1 ≤ (16 : Int)))) else (k143 false)))))) (fun s : Int × Int => d.Exist.length - s.2.toNat) (fun s => 0 ≤ s.2 ∧ s.2 ≤ d.Exist.length ∧ s.1 = (sz (d.Exist.take s.2.toNat) : Int)) (fun s => some (sz d.Exist : Int)) ?_ 1000000000000 (0, 0) (by simp [sz]) (by simp; omega)
  · exact this
  · rintro ⟨f, i⟩ k ⟨h0, h1, h2⟩ hs
    simp only [jn_eq] at h0 h1 h2 hs ⊢
    have hle : sz (d.Exist.take i.toNat) ≤ sz d.Exist := by
      have : sz d.Exist = sz (d.Exist.take i.toNat) + sz (d.Exist.drop i.toNat) := by rw [← sz_app, List.take_append_drop]
      omega
    have hb := h.bits
    by_cases h3 : i < ((d.Exist.length : Nat) : Int)
    · obtain ⟨n, rfl⟩ : ∃ n : Nat, i = n := ⟨i.toNat, by omega⟩
      have hlt : n < d.Exist.length := by omega
      have h16 : f ≤ 16 := by omega
      have ho := h.on d.Exist[n] (List.getElem_mem hlt)
      have hi : imn ((d.Exist[n].On.length : Nat) : Int) 10 = ((d.Exist[n].On.length : Nat) : Int) := by unfold imn; rw [if_neg (by omega)]
      have hp : 2 ^ d.Exist[n].On.length ≤ 2 ^ 4 := pw_le ho
      have hq : (2 : Nat) ^ 4 = 16 := rfl
      have hw : IntKind.wrap .i64 (((n : Nat) : Int) + 1) = ((n + 1 : Nat) : Int) := by rw [wrap_id (by omega) (by omega)]; omega
      simp only [h3, h16, decide_true, if_true, getI_nat, List.getElem?_eq_getElem hlt, hi]
      rw [okI_eq (wu0 _), pw_eq _ (by omega), hw]
      refine hs _ ⟨?_, ?_, ?_⟩ ?_
      · show (0 : Int) ≤ ((n + 1 : Nat) : Int); omega
      · show ((n + 1 : Nat) : Int) ≤ (d.Exist.length : Int); omega
      · show IntKind.wrap .i64 (f + ((2 ^ d.Exist[n].On.length : Nat) : Int)) = (sz (d.Exist.take ((n + 1 : Nat) : Int).toNat) : Int)
        generalize hG : 2 ^ d.Exist[n].On.length = g at hp ⊢
        have hcc : (0 : Int) ≤ (sz (d.Exist.take ((n : Nat) : Int).toNat) : Int) := Int.natCast_nonneg _
        rw [wrap_id (by omega) (by omega), Int.toNat_natCast, List.take_add_one, List.getElem?_eq_getElem hlt, Option.toList_some, sz_app, h2, Int.toNat_natCast]
        simp [sz, hG]
      · simp; omega
    · have : i.toNat = d.Exist.length := by omega
      rw [this, List.take_length] at h2
      simp [h3, h2]

theorem numbered_ok {d : S_api_Dqbf} (h : Few d) (hl : d.Exist.length ≤ 1024) (n : Int) : ∃ ts, F_skolemref04_numbered d n = some ts ∧ (∀ t ∈ ts, TabOk d t) ∧ ts.length = d.Exist.length := by
  unfold F_skolemref04_numbered
  rw [bits_eq h hl, Option.bind_some]
  have := rangeF_run (R := List S_api_Table) (f := (fun (j105 : Nat) (x106 : S_api_Dep) (s102 : (Int × (List S_api_Table))) k104 => (capN (x106.On.length) (okI (-9223372036854775808 ≤ (0 : Int) ∧ (IntKind.wrap .i64 ((1 : Int) * 2 ^ (min (IntKind.wrap .u64 ((x106.On.length : Nat) : Int)).toNat (IntKind.bits .i64)))) ≤ 9223372036854775807) (upF (fun (j183 : Int) (s180 : (Int × (List Bool))) k182 => (okI (0 ≤ (IntKind.wrap .u64 ((x106.On.length : Nat) : Int))) (okI (0 ≤ (IntKind.wrap .u64 (IntKind.wrap .i64 (s180.1 - (1 : Int))))) (capN (s180.2.length + [((IntKind.wrap .i64 ((BitVec.ofInt (IntKind.bits .i64) (Int.fdiv n (2 ^ (min (IntKind.wrap .u64 (IntKind.wrap .i64 (s180.1 - (1 : Int)))).toNat (IntKind.bits .i64)))) &&& BitVec.ofInt (IntKind.bits .i64) (1 : Int)).toNat : Int)) == (1 : Int))].length) (k182 ((IntKind.wrap .i64 (s180.1 - (1 : Int))), (s180.2 ++ [((IntKind.wrap .i64 ((BitVec.ofInt (IntKind.bits .i64) (Int.fdiv n (2 ^ (min (IntKind.wrap .u64 (IntKind.wrap .i64 (s180.1 - (1 : Int)))).toNat (IntKind.bits .i64)))) &&& BitVec.ofInt (IntKind.bits .i64) (1 : Int)).toNat : Int)) == (1 : Int))]))))))) (((IntKind.wrap .i64 ((1 : Int) * 2 ^ (min (IntKind.wrap .u64 ((x106.On.length : Nat) : Int)).toNat (IntKind.bits .i64)))) - (0 : Int)).toNat) (0 : Int) (s102.1, ([] : List Bool)) (fun (s180 : (Int × (List Bool))) => (okI (0 ≤ (IntKind.wrap .u64 ((x106.On.length : Nat) : Int))) (capN (s102.2.length + [(S_api_Table.mk x106.Var x106.On s180.2)].length) (k104 (s180.1, (s102.2 ++ [(S_api_Table.mk x106.Var x106.On s180.2)]))))))))))) (k := fun (s102 : (Int × (List S_api_Table))) => (some s102.2)) d.Exist (fun pre s => s.2.length = pre.length ∧ ∀ t ∈ s.2, TabOk d t) ?_ d.Exist [] ((sz d.Exist : Int), []) rfl ⟨rfl, by simp⟩
  · obtain ⟨s, ⟨hq, hi⟩, e⟩ := this
    exact ⟨s.2, e, hi, hq⟩
  · rintro pre x xs s hf ⟨hI, hT⟩
    have hx : x ∈ d.Exist := by rw [hf]; simp
    have ho := h.on x hx
    have hlen : pre.length < d.Exist.length := by rw [hf]; simp
    have hp : 2 ^ x.On.length ≤ 2 ^ 4 := pw_le ho
    have hq : (2 : Nat) ^ 4 = 16 := rfl
    have hn : (((2 ^ x.On.length : Nat) : Int) - 0).toNat = 2 ^ x.On.length := by rw [Int.sub_zero, Int.toNat_natCast]
    -- the bits of one table
    let b := fun z : Int => ((IntKind.wrap .i64 ((BitVec.ofInt (IntKind.bits .i64) (Int.fdiv n (2 ^ (min (IntKind.wrap .u64 (IntKind.wrap .i64 (z - (1 : Int)))).toNat (IntKind.bits .i64)))) &&& BitVec.ofInt (IntKind.bits .i64) (1 : Int)).toNat : Int)) == (1 : Int))
    have up : ∃ s' : Int × List Bool, s'.2.length = 2 ^ x.On.length ∧ ∀ kk : Int × List Bool → Option (List S_api_Table), upF (fun (j183 : Int) (s180 : (Int × (List Bool))) k182 => (okI (0 ≤ (IntKind.wrap .u64 ((x.On.length : Nat) : Int))) (okI (0 ≤ (IntKind.wrap .u64 (IntKind.wrap .i64 (s180.1 - (1 : Int))))) (capN (s180.2.length + [b s180.1].length) (k182 ((IntKind.wrap .i64 (s180.1 - (1 : Int))), (s180.2 ++ [b s180.1]))))))) (2 ^ x.On.length) (0 : Int) (s.1, ([] : List Bool)) kk = kk s' := by
      generalize 2 ^ x.On.length = N at hp
      have st : ∀ m (j : Nat) (q : Int × List Bool), j + m = N → q.2.length = j → ∃ s' : Int × List Bool, s'.2.length = N ∧ ∀ kk : Int × List Bool → Option (List S_api_Table), upF (fun (j183 : Int) (s180 : (Int × (List Bool))) k182 => (okI (0 ≤ (IntKind.wrap .u64 ((x.On.length : Nat) : Int))) (okI (0 ≤ (IntKind.wrap .u64 (IntKind.wrap .i64 (s180.1 - (1 : Int))))) (capN (s180.2.length + [b s180.1].length) (k182 ((IntKind.wrap .i64 (s180.1 - (1 : Int))), (s180.2 ++ [b s180.1]))))))) m (j : Int) q kk = kk s' := by
        intro m
        induction m with
        | zero => intro j q h1 h2; exact ⟨q, by omega, fun kk => rfl⟩
        | succ m ih =>
          intro j q h1 h2
          obtain ⟨s', e1, e2⟩ := ih (j + 1) (IntKind.wrap .i64 (q.1 - 1), q.2 ++ [b q.1]) (by omega) (by simp [h2])
          refine ⟨s', e1, fun kk => ?_⟩
          rw [upF_succ, okI_eq (wu0 _), okI_eq (wu0 _), capN_eq (by rw [h2]; simp; omega)]
          exact e2 kk
      exact st N 0 (s.1, []) (by omega) rfl
    obtain ⟨s', e1, e2⟩ := up
    refine ⟨(s'.1, s.2 ++ [S_api_Table.mk x.Var x.On s'.2]), ⟨by simp [hI], fun t ht => ?_⟩, fun kk => ?_⟩
    · rcases List.mem_append.1 ht with ht | ht
      · exact hT t ht
      · rw [List.mem_singleton] at ht; subst ht
        exact ⟨e1, ho, List.mem_map.2 ⟨x, hx, rfl⟩⟩
    · rw [capN_eq (by omega), okI_eq (wi_ok _), pw_eq _ (by omega), hn]
      refine (e2 _).trans ?_
      rw [okI_eq (wu0 _), capN_eq (by rw [hI]; simp; omega)]
end Go.Sk.X

namespace Go.Sk.X
open Go Go.Sk

/-- one point of the table's inputs -/
theorem win_step {d : S_api_Dqbf} (h : Sm d) (hm : May d) {ts : List S_api_Table} (ht : ∀ t ∈ ts, TabOk d t) (hl : ts.length ≤ 4096) (n : Int) :
    ∃ lits : List Int, (∀ y ∈ lits, av y ∈ varsD d) ∧ ∀ kk : Unit → Option Bool,
      (okI (0 ≤ (IntKind.wrap .u64 ((d.Univ.length : Nat) : Int))) ((F_skolemref04_Point d.Univ n).bind (fun y128 => (capN (([] : List Int).length + y128.length) (rangeF (fun (j133 : Nat) (x134 : S_api_Table) (s130 : (List Int)) k132 => ((F_skolemref04_At x134 y128).bind (fun y141 => ((F_skolemref04_Lit x134.Var y141).bind (fun y142 => (capN (s130.length + [y142].length) (k132 (s130 ++ [y142])))))))) 0 ts (([] : List Int) ++ y128) (fun (s130 : (List Int)) => ((F_skolemref04_Satisfied d.Clauses s130).bind (fun y144 => (if (!y144) = true then (some false) else (kk ())))))))))) = if satB d.Clauses (pointL n 0 d.Univ ++ lits) = true then kk () else some false := by
  have hpl := pointL_len n d.Univ 0
  have hu := hm.len
  have all : ∀ (xs : List S_api_Table) (j : Nat) (s l : List Int), (∀ t ∈ xs, TabOk d t) → s = pointL n 0 d.Univ ++ l → l.length + xs.length ≤ 4096 → (∀ y ∈ l, av y ∈ varsD d) → ∃ l2 : List Int, (∀ y ∈ l2, av y ∈ varsD d) ∧ ∀ kk : List Int → Option Bool, rangeF (fun (j133 : Nat) (x134 : S_api_Table) (s130 : (List Int)) k132 => ((F_skolemref04_At x134 (pointL n 0 d.Univ)).bind (fun y141 => ((F_skolemref04_Lit x134.Var y141).bind (fun y142 => (capN (s130.length + [y142].length) (k132 (s130 ++ [y142])))))))) j xs s kk = kk (pointL n 0 d.Univ ++ l2) := by
    intro xs
    induction xs with
    | nil => intro j s l _ hs _ hl; exact ⟨l, hl, fun kk => by rw [rangeF_nil, hs]⟩
    | cons x xs ih =>
      intro j s l htx hs hlen hl
      have hx := htx x (by simp)
      obtain ⟨b, hb⟩ := at_ok x (pointL n 0 d.Univ) hx.1 hx.2.1
      have hv := rsB_mem hm.rv x.Var hx.2.2
      obtain ⟨y, hy, hay⟩ := lit_ok x.Var (by omega) (by omega) b
      have hlen' : l.length + (xs.length + 1) ≤ 4096 := by simpa using hlen
      obtain ⟨l2, e1, e2⟩ := ih (j + 1) (s ++ [y]) (l ++ [y]) (fun t ht => htx t (by simp [ht])) (by rw [hs, List.append_assoc]) (by simp; omega) (fun z hz => by
        rcases List.mem_append.1 hz with hz | hz
        · exact hl z hz
        · rw [List.mem_singleton] at hz; rw [hz, hay]; exact hx.2.2)
      refine ⟨l2, e1, fun kk => ?_⟩
      rw [rangeF_cons, hb, Option.bind_some, hy, Option.bind_some, capN_eq (by rw [hs]; simp; omega)]
      exact e2 kk
  obtain ⟨l2, e1, e2⟩ := all ts 0 (pointL n 0 d.Univ) [] ht (by simp) (by simpa using hl) (by simp)
  refine ⟨l2, e1, fun kk => ?_⟩
  rw [okI_eq (wu0 _), point_eq d.Univ n (fun x hx => rsB_mem hm.ru x hx) (by omega), Option.bind_some, capN_eq (by simp; omega), List.nil_append, e2, sat_eq _ _ h.tot, Option.bind_some]
  cases satB d.Clauses (pointL n 0 d.Univ ++ l2) <;> simp

theorem win_all {d : S_api_Dqbf} (h : Sm d) (hm : May d) (hf : Few d) (hc : d.Clauses = []) {ts : List S_api_Table} (ht : ∀ t ∈ ts, TabOk d t) (hl : ts.length ≤ 4096) : F_skolemref04_win d ts = some true := by
  unfold F_skolemref04_win
  have hu := hf.univ
  rw [okI_eq (wi_ok _)]
  have hx := upF_ex0 (Post := fun b => b = true) (k := fun _ : Unit => okI (0 ≤ (IntKind.wrap .u64 ((d.Univ.length : Nat) : Int))) (some true)) 0 (((IntKind.wrap .i64 ((1 : Int) * 2 ^ (min (IntKind.wrap .u64 ((d.Univ.length : Nat) : Int)).toNat (IntKind.bits .i64)))) - (0 : Int)).toNat)
    (fun _ _ => True) (fun s _ => ⟨true, by rw [okI_eq (wu0 _)], rfl⟩) (f := (fun (j104 : Int) (s101 : Unit) k103 => (okI (0 ≤ (IntKind.wrap .u64 ((d.Univ.length : Nat) : Int))) ((F_skolemref04_Point d.Univ j104).bind (fun y128 => (capN (([] : List Int).length + y128.length) (rangeF (fun (j133 : Nat) (x134 : S_api_Table) (s130 : (List Int)) k132 => ((F_skolemref04_At x134 y128).bind (fun y141 => ((F_skolemref04_Lit x134.Var y141).bind (fun y142 => (capN (s130.length + [y142].length) (k132 (s130 ++ [y142])))))))) 0 ts (([] : List Int) ++ y128) (fun (s130 : (List Int)) => ((F_skolemref04_Satisfied d.Clauses s130).bind (fun y144 => (if (!y144) = true then (some false) else (k103 ()))))))))))))
    (fun j s kk hj _ hk => by
      obtain ⟨lits, _, e⟩ := win_step h hm ht hl (0 + (j : Int))
      show Has1 _ (okI _ _)
      rw [e kk, if_pos (by rw [hc]; rfl)]
      exact hk () trivial) () trivial
  obtain ⟨b, e, rfl⟩ := hx
  exact e

theorem win_none {d : S_api_Dqbf} (h : Sm d) (hm : May d) (hf : Few d) {c : List Int} (hc : c ∈ d.Clauses) (hp : plainB d c = true) {ts : List S_api_Table} (ht : ∀ t ∈ ts, TabOk d t) (hl : ts.length ≤ 4096) : F_skolemref04_win d ts = some false := by
  unfold F_skolemref04_win
  have hu := hf.univ
  have hN : (((2 ^ d.Univ.length : Nat) : Int) - 0).toNat = 2 ^ d.Univ.length := by rw [Int.sub_zero, Int.toNat_natCast]
  rw [okI_eq (wi_ok _), pw_eq _ (by omega), hN]
  let bs := d.Univ.map fun x => decide (x ∈ c)
  have hbl : bs.length = d.Univ.length := by simp [bs]
  have hn0 : nn bs < 2 ^ d.Univ.length := by rw [← hbl]; exact nn_lt bs
  have hcn := hm.nrm c hc
  have hpl := List.all_eq_true.1 hp
  -- the point that this clause says no to
  have hsat : ∀ lits : List Int, (∀ y ∈ lits, av y ∈ varsD d) → satB d.Clauses (pointL (nn bs : Int) 0 d.Univ ++ lits) = false := by
    intro lits hlits
    rw [satB, List.all_eq_false]
    refine ⟨c, hc, ?_⟩
    simp only [Bool.not_eq_true, List.any_eq_false, decide_eq_true_eq, List.mem_append, not_or]
    intro x hx
    have hxu : av x ∈ d.Univ := by simpa using hpl x hx
    refine ⟨fun hmem => ?_, fun hmem => hm.sep hxu (hlits x hmem)⟩
    obtain ⟨i, u, h1, h2⟩ := pointL_mem _ _ _ _ hmem
    have hum : u ∈ d.Univ := List.mem_of_getElem? h1
    have hu0 := (rsB_mem hm.ru u hum).1
    have hb : bs[i]? = some (decide (u ∈ c)) := by simp [bs, h1]
    have hbit := pick bs (by omega) i _ hb
    rw [Nat.zero_add, hbit] at h2
    by_cases huc : u ∈ c
    · simp only [huc, decide_true, if_true] at h2
      have := nrm_two hcn (by decide) hx huc (by rw [h2, av_neg])
      omega
    · simp only [huc, decide_false, Bool.false_eq_true, if_false] at h2
      exact huc (h2 ▸ hx)
  have hx := upF_ex0 (Post := fun b => b = false) (k := fun _ : Unit => okI (0 ≤ (IntKind.wrap .u64 ((d.Univ.length : Nat) : Int))) (some true)) 0 (2 ^ d.Univ.length)
    (fun j _ => j ≤ nn bs) (fun s hj => absurd hn0 (by omega)) (f := (fun (j104 : Int) (s101 : Unit) k103 => (okI (0 ≤ (IntKind.wrap .u64 ((d.Univ.length : Nat) : Int))) ((F_skolemref04_Point d.Univ j104).bind (fun y128 => (capN (([] : List Int).length + y128.length) (rangeF (fun (j133 : Nat) (x134 : S_api_Table) (s130 : (List Int)) k132 => ((F_skolemref04_At x134 y128).bind (fun y141 => ((F_skolemref04_Lit x134.Var y141).bind (fun y142 => (capN (s130.length + [y142].length) (k132 (s130 ++ [y142])))))))) 0 ts (([] : List Int) ++ y128) (fun (s130 : (List Int)) => ((F_skolemref04_Satisfied d.Clauses s130).bind (fun y144 => (if (!y144) = true then (some false) else (k103 ()))))))))))))
    (fun j s kk hj hI hk => by
      obtain ⟨lits, hlits, e⟩ := win_step h hm ht hl (0 + (j : Int))
      show Has1 _ (okI _ _)
      rw [e kk]
      rcases Nat.lt_or_ge j (nn bs) with hlt | hge
      · split
        · exact hk () hlt
        · exact ⟨false, rfl, rfl⟩
      · have hj : j = nn bs := by omega
        have e0 : (0 : Int) + (j : Int) = (nn bs : Int) := by omega
        rw [e0, hsat lits hlits] 
        exact ⟨false, rfl, rfl⟩) () (Nat.zero_le _)
  obtain ⟨b, e, rfl⟩ := hx
  exact e

theorem check_eq {d : S_api_Dqbf} (h : Sm d) (hM : MayD d = true) (hf : Few d) : F_skolemref04_check d = some 0 := by
  unfold F_skolemref04_check
  have hm := may_of hM
  have hl := hm.len
  have hu := hf.univ
  have hb := hf.bits
  have h1 : ¬ ((d.Univ.length : Nat) : Int) > 8 := by omega
  have h2 : ¬ (sz d.Exist : Int) > 16 := by omega
  simp only [may3_eq h, hM, Option.bind_some, jn_eq, bits_eq hf (by omega), h1, h2, decide_false, Bool.not_true, Bool.false_eq_true, if_false]


theorem dqbf_eq {d : S_api_Dqbf} (h : Sm d) (hM : MayD d = true) (hf : Few d) (hd : dec d ≠ 0) : F_skolemref04_Dqbf d = some (dec d, 0) := by
  have hm := may_of hM
  have hl := hm.len
  have hb := hf.bits
  unfold F_skolemref04_Dqbf F_skolemref04_Skolem
  rw [check_eq h hM hf, Option.bind_some]
  have hpw := pw_eq (sz d.Exist) (by omega)
  have hp : 2 ^ sz d.Exist ≤ 2 ^ 12 := pw_le hb
  have hq : (2 : Nat) ^ 12 = 4096 := rfl
  simp only [bits_eq hf (by omega : d.Exist.length ≤ 1024), Option.bind_some]
  simp only [hpw]
  generalize hG : 2 ^ sz d.Exist = N at hp
  have hN : 0 < N := by rw [← hG]; exact Nat.two_pow_pos _
  have h00 : ((0 : Int) != 0) = false := rfl
  simp only [h00, Bool.false_eq_true, if_false]
  simp only [dec, hM, if_true] at hd ⊢
  by_cases hA : (d.Clauses.any (plainB d)) = true
  · obtain ⟨c, hc, hpc⟩ := List.any_eq_true.1 hA
    have hw := whileF_by (R := List S_api_Table × Int) (b := (fun k105 (s103 : Int) => (okI (0 ≤ (IntKind.wrap .u64 (sz d.Exist : Int))) (if (decide (s103 < ((N : Nat) : Int))) = true then ((F_skolemref04_numbered d s103).bind (fun y129 => ((F_skolemref04_win d y129).bind (fun y130 => (if y130 = true then (some (y129, (0 : Int))) else (k105 (IntKind.wrap .i64 (s103 + (1 : Int))))))))) else (some (([] : List S_api_Table), (6 : Int))))))) (fun s => N - s.toNat) (fun s => 0 ≤ s ∧ s ≤ N) (fun _ => some ([], 6)) ?_ 1000000000000 0 (by simp) (by simp; omega)
    · rw [hw]; simp [hA]
    · rintro s k ⟨h0, h1⟩ hs
      rw [okI_eq (wu0 _)]
      by_cases h2 : s < ((N : Nat) : Int)
      · obtain ⟨ts, e, ht, htl⟩ := numbered_ok hf (by omega) s
        have hw : IntKind.wrap .i64 (s + 1) = s + 1 := by rw [wrap_id (by omega) (by omega)]
        have hs' := hs (s + 1) ⟨by omega, by omega⟩ (by omega)
        simp only [h2, decide_true, if_true, e, Option.bind_some, win_none h hm hf hc hpc ht (by omega), Bool.false_eq_true, if_false, hw, hs']
      · simp [h2]
  · have hC : d.Clauses = [] := by
      by_cases hC : d.Clauses = []
      · exact hC
      · simp [hA, hC] at hd
    obtain ⟨ts, e, ht, htl⟩ := numbered_ok hf (by omega) 0
    have h2 : (0 : Int) < ((N : Nat) : Int) := by omega
    rw [show (1000000000000 : Nat) = 999999999999 + 1 from rfl, whileF_succ, okI_eq (wu0 _)]
    simp only [h2, decide_true, if_true, e, Option.bind_some, win_all h hm hf hC ht (by omega)]
    simp [hA, hC]

theorem truth_ok {d : S_api_Dqbf} (h : Sm d) (hM : MayD d = true) (hd : dec d ≠ 0) : Has1 (fun v => v = 0 ∨ v = dec d) (F_skolemlaw13_truth d) := by
  have hm := may_of hM
  have hl := hm.len
  refine rangeF_ex (Post := fun v => v = 0 ∨ v = dec d) d.Exist (fun pre s => s = (sz pre : Int) ∧ sz pre ≤ 16 * pre.length ∧ ∀ e ∈ pre, e.On.length ≤ 4) ?_ ?_ d.Exist [] 0 rfl ⟨rfl, by simp [sz], by simp⟩
  · rintro s ⟨rfl, _, ho⟩
    simp only [jn_eq]
    by_cases h1 : ((d.Univ.length : Nat) : Int) > 4
    · exact ⟨0, by simp only [h1, decide_true, if_true], .inl rfl⟩
    by_cases h2 : (sz d.Exist : Int) > 12
    · exact ⟨0, by simp only [h1, h2, decide_true, decide_false, Bool.false_eq_true, if_false, if_true], .inl rfl⟩
    have hf : Few d := ⟨ho, by omega, by omega⟩
    exact ⟨dec d, by simp only [h1, h2, decide_false, Bool.false_eq_true, if_false, dqbf_eq h hM hf hd, Option.bind_some], .inr rfl⟩
  · rintro pre x xs s kk hf ⟨rfl, hs, ho⟩ hk
    have hlen : pre.length < d.Exist.length := by rw [hf]; simp
    by_cases h1 : ((x.On.length : Nat) : Int) > 4
    · exact ⟨0, by simp only [h1, decide_true, if_true], .inl rfl⟩
    have hp : 2 ^ x.On.length ≤ 2 ^ 4 := pw_le (by omega)
    have hq : (2 : Nat) ^ 4 = 16 := rfl
    have h0 : (0 : Int) ≤ ((x.On.length : Nat) : Int) := Int.natCast_nonneg _
    simp only [h1, decide_false, Bool.false_eq_true, if_false]
    rw [okI_eq h0, pw_eqT _ (by omega)]
    generalize hG : 2 ^ x.On.length = g at hp ⊢
    have hs0 : (0 : Int) ≤ (sz pre : Int) := Int.natCast_nonneg _
    refine hk _ ⟨?_, ?_, ?_⟩
    · rw [wrap_id (by omega) (by omega), sz_app, sz_cons, hG]; simp [sz]
    · rw [sz_app, sz_cons, hG, List.length_append, List.length_singleton]
      have h00 : sz [] = 0 := rfl
      omega
    · intro e he
      rcases List.mem_append.1 he with he | he
      · exact ho e he
      · rw [List.mem_singleton] at he; subst he; omega

theorem large_ok {d : S_api_Dqbf} : Has1 (fun _ => True) (F_skolemlaw13_large d) := by
  unfold F_skolemlaw13_large
  rw [rangeF_fold (fun s (x : List Int) => IntKind.wrap .i64 (s + ((x.length : Nat) : Int))), rangeF_fold (fun s (x : S_api_Dep) => IntKind.wrap .i64 (s + (IntKind.wrap .i64 ((1 : Int) + ((x.On.length : Nat) : Int)))))]
  split
  · exact ⟨_, rfl, trivial⟩
  · exact ⟨_, rfl, trivial⟩

theorem awake_eq : F_skolemlaw13_awake = some true := by decide +kernel

theorem cleanDecides_eq {d : S_api_Dqbf} (h : Sm d) : F_skolemlaw13_CleanDecides d = some true := by
  unfold F_skolemlaw13_CleanDecides
  obtain ⟨b, hb, _⟩ := large_ok (d := d)
  rw [hb, awake_eq, decC_eq h, decR_eq h]
  simp only [Option.bind_some, jn_eq, may3_eq h]
  have hne : (dec d != dec d) = false := by simp
  simp only [hne, Bool.false_eq_true, if_false, if_true]
  cases b
  · by_cases h0 : dec d = 0
    · simp [h0]
    · have hM : MayD d = true := by
        cases hM : MayD d
        · exact absurd (by simp [dec, hM]) h0
        · rfl
      obtain ⟨v, hv, hP⟩ := truth_ok h hM h0
      have h0' : (dec d == 0) = false := by simp [h0]
      rw [hv]
      rcases hP with rfl | rfl
      · simp [h0', hM]
      · simp [h0', hM]
  · simp
end Go.Sk.X
