/- The plain law of TruthQbf, part 1: about numbers and lists alone. It has no conditions. -/
import Derived.Test.YtppmnjikhealeaaXTruthQbfF
set_option linter.unusedVariables false
set_option linter.unusedSimpArgs false
namespace Go.Sk
open Go

/-! ### Plain words -/
theorem jn_eq {S R : Type} (f : S → Option R) (g : (S → Option R) → Option R) : jn f g = g f := rfl
theorem rangeF_nil {α S R : Type} (f : Nat → α → S → (S → Option R) → Option R) (i : Nat) (s : S) (k : S → Option R) : rangeF f i [] s k = k s := rfl
theorem rangeF_cons {α S R : Type} (f : Nat → α → S → (S → Option R) → Option R) (i : Nat) (x : α) (xs : List α) (s : S) (k : S → Option R) : rangeF f i (x :: xs) s k = f i x s (fun s' => rangeF f (i + 1) xs s' k) := rfl
theorem upF_zero {S R : Type} (f : Int → S → (S → Option R) → Option R) (i : Int) (s : S) (k : S → Option R) : upF f 0 i s k = k s := rfl
theorem upF_succ {S R : Type} (f : Int → S → (S → Option R) → Option R) (n : Nat) (i : Int) (s : S) (k : S → Option R) : upF f (n + 1) i s k = f i s (fun s' => upF f n (i + 1) s' k) := rfl
theorem whileF_succ {S R : Type} (n : Nat) (b : (S → Option R) → S → Option R) (s : S) : whileF (n + 1) b s = b (whileF n b) s := rfl

/-- a while loop by a measure -/
theorem whileF_by {S R : Type} {b : (S → Option R) → S → Option R} (μ : S → Nat) (I : S → Prop) (g : S → Option R)
    (step : ∀ s k, I s → (∀ s', I s' → μ s' < μ s → k s' = g s') → b k s = g s) : ∀ n s, I s → μ s < n → whileF n b s = g s
  | 0, s, _, h => absurd h (Nat.not_lt_zero _)
  | n + 1, s, hI, h => by
    rw [whileF_succ]
    exact step s _ hI (fun s' h1 h2 => whileF_by μ I g step n s' h1 (by omega))

theorem rangeF_eq {α S R : Type} {f : Nat → α → S → (S → Option R) → Option R} {k : S → Option R} (g : Nat → List α → S → Option R) (h0 : ∀ j s, g j [] s = k s)
    (h1 : ∀ j x xs s kk, (∀ s', kk s' = g (j + 1) xs s') → f j x s kk = g j (x :: xs) s) : ∀ xs j s, rangeF f j xs s k = g j xs s
  | [], j, s => (h0 j s).symm
  | x :: xs, j, s => h1 j x xs s _ (fun s' => rangeF_eq g h0 h1 xs (j + 1) s')

/-- where what went before matters -/
theorem rangeF_pre {α S R : Type} {f : Nat → α → S → (S → Option R) → Option R} {k : S → Option R} (full : List α) (I : List α → S → Prop) (g : List α → List α → S → Option R) (h0 : ∀ s, I full s → k s = g full [] s)
    (h1 : ∀ pre x xs s kk, full = pre ++ x :: xs → I pre s → (∀ s', I (pre ++ [x]) s' → kk s' = g (pre ++ [x]) xs s') → f pre.length x s kk = g pre (x :: xs) s) : ∀ xs pre s, full = pre ++ xs → I pre s → rangeF f pre.length xs s k = g pre xs s
  | [], pre, s, hf, hI => by
    rw [List.append_nil] at hf; subst hf
    exact h0 s hI
  | x :: xs, pre, s, hf, hI => by
    refine h1 pre x xs s _ hf hI (fun s' hs' => ?_)
    have := rangeF_pre full I g h0 h1 xs (pre ++ [x]) s' (by simp [hf]) hs'
    rw [List.length_append] at this
    exact this

theorem wrap_id {n : Int} (h0 : -9223372036854775808 ≤ n) (h1 : n ≤ 9223372036854775807) : IntKind.wrap .i64 n = n := by
  simp only [IntKind.wrap, IntKind.bits, IntKind.signed]
  simp only [Bool.true_and]
  split <;> rename_i h <;> simp only [ge_iff_le, decide_eq_true_eq] at h <;> omega

theorem inK64 {n : Int} : InK .i64 n ↔ -9223372036854775808 ≤ n ∧ n ≤ 9223372036854775807 := Iff.rfl

/-! ### Normal lists of literals -/
def av (x : Int) : Int := if x < 0 then -x else x
def nrmB (last : Int) : List Int → Bool
  | [] => true
  | x :: xs => decide (-65536 ≤ x) && decide (x ≤ 65536) && decide (last < av x) && nrmB (av x) xs

theorem av_nonneg (x : Int) : 0 ≤ av x := by unfold av; split <;> omega
theorem av_neg (x : Int) : av (-x) = av x := by unfold av; split <;> split <;> omega
theorem av_eq {x y : Int} (h : av x = av y) : x = y ∨ x = -y := by unfold av at h; split at h <;> split at h <;> omega

theorem nrm_cons {c x : Int} {xs : List Int} : nrmB c (x :: xs) = true ↔ -65536 ≤ x ∧ x ≤ 65536 ∧ c < av x ∧ nrmB (av x) xs = true := by
  simp [nrmB, and_assoc]
theorem nrm_mono {c c' : Int} (h : c' ≤ c) : ∀ {l : List Int}, nrmB c l = true → nrmB c' l = true
  | [], _ => rfl
  | x :: xs, h' => by
    rw [nrm_cons] at h' ⊢
    exact ⟨h'.1, h'.2.1, by omega, h'.2.2.2⟩
theorem nrm_mem : ∀ {c : Int} {l : List Int}, nrmB c l = true → ∀ x ∈ l, c < av x ∧ -65536 ≤ x ∧ x ≤ 65536
  | c, [], _, x, h => by simp at h
  | c, y :: ys, h, x, hx => by
    rw [nrm_cons] at h
    rcases List.mem_cons.1 hx with rfl | hx
    · exact ⟨h.2.2.1, h.1, h.2.1⟩
    · have := nrm_mem h.2.2.2 x hx
      exact ⟨by omega, this.2⟩
theorem nrm_ext : ∀ {l l' : List Int} {c c' : Int}, nrmB c l = true → nrmB c' l' = true → (∀ x, x ∈ l ↔ x ∈ l') → l = l'
  | [], [], _, _, _, _, _ => rfl
  | [], y :: ys, _, _, _, _, h => by have := (h y).2 (by simp); simp at this
  | x :: xs, [], _, _, _, _, h => by have := (h x).1 (by simp); simp at this
  | x :: xs, y :: ys, c, c', h1, h2, h => by
    rw [nrm_cons] at h1 h2
    have hxy : x = y := by
      have hx := (h x).1 (by simp)
      have hy := (h y).2 (by simp)
      rcases List.mem_cons.1 hx with e | hx
      · exact e
      · rcases List.mem_cons.1 hy with e | hy
        · exact e.symm
        · have := (nrm_mem h2.2.2.2 x hx).1
          have := (nrm_mem h1.2.2.2 y hy).1
          omega
    subst hxy
    congr 1
    refine nrm_ext h1.2.2.2 h2.2.2.2 (fun z => ⟨fun hz => ?_, fun hz => ?_⟩)
    · rcases List.mem_cons.1 ((h z).1 (by simp [hz])) with e | e
      · subst e; have := (nrm_mem h1.2.2.2 z hz).1; omega
      · exact e
    · rcases List.mem_cons.1 ((h z).2 (by simp [hz])) with e | e
      · subst e; have := (nrm_mem h2.2.2.2 z hz).1; omega
      · exact e
theorem nrm_filter (p : Int → Bool) : ∀ {l : List Int} {c : Int}, nrmB c l = true → nrmB c (l.filter p) = true
  | [], _, h => rfl
  | x :: xs, c, h => by
    rw [nrm_cons] at h
    simp only [List.filter_cons]
    split
    · rw [nrm_cons]; exact ⟨h.1, h.2.1, h.2.2.1, nrm_filter p h.2.2.2⟩
    · exact nrm_mono (by omega) (nrm_filter p h.2.2.2)
theorem nrm_two {c : Int} {l : List Int} (h : nrmB c l = true) (hc : 0 ≤ c) {x y : Int} (hx : x ∈ l) (hy : y ∈ l) (e : av x = av y) : x = y := by
  induction l generalizing c with
  | nil => simp at hx
  | cons z zs ih =>
    rw [nrm_cons] at h
    rcases List.mem_cons.1 hx with e1 | hx1 <;> rcases List.mem_cons.1 hy with e2 | hy1
    · rw [e1, e2]
    · subst e1; have := (nrm_mem h.2.2.2 y hy1).1; omega
    · subst e2; have := (nrm_mem h.2.2.2 x hx1).1; omega
    · exact ih h.2.2.2 (av_nonneg z) hx1 hy1

/-- a literal among sorted ones, unless its variable is there -/
def ins (x : Int) : List Int → List Int
  | [] => [x]
  | y :: ys => if av x < av y then x :: y :: ys else if av x = av y then y :: ys else y :: ins x ys

theorem nrm_ins {x : Int} (h1 : -65536 ≤ x) (h2 : x ≤ 65536) : ∀ {l : List Int} {c : Int}, c < av x → nrmB c l = true → nrmB c (ins x l) = true
  | [], c, hc, _ => by rw [ins, nrm_cons]; exact ⟨h1, h2, hc, rfl⟩
  | y :: ys, c, hc, h => by
    have h' := nrm_cons.1 h
    simp only [ins]
    split
    · rw [nrm_cons, nrm_cons]; exact ⟨h1, h2, hc, h'.1, h'.2.1, by assumption, h'.2.2.2⟩
    · split
      · exact h
      · rw [nrm_cons]; exact ⟨h'.1, h'.2.1, h'.2.2.1, nrm_ins h1 h2 (by omega) h'.2.2.2⟩

theorem mem_ins {x z : Int} : ∀ {l : List Int}, (∀ y ∈ l, av y = av x → y = x) → (z ∈ ins x l ↔ z = x ∨ z ∈ l)
  | [], _ => by simp [ins]
  | y :: ys, h => by
    simp only [ins]
    split
    · simp
    · split
      · rename_i e
        have := h y (by simp) e.symm
        subst this
        simp
      · rw [List.mem_cons, mem_ins (fun w hw => h w (by simp [hw])), List.mem_cons]
        constructor
        · rintro (h | h | h) <;> simp [h]
        · rintro (h | h | h) <;> simp [h]

end Go.Sk

namespace Go.Sk
open Go

/-! ### Loops: what is shown of an end -/
def Has1 {R : Type} (Post : R → Prop) (x : Option R) : Prop := ∃ r, x = some r ∧ Post r

theorem rangeF_ex {α S R : Type} {Post : R → Prop} {f : Nat → α → S → (S → Option R) → Option R} {k : S → Option R} (full : List α) (I : List α → S → Prop) (h0 : ∀ s, I full s → Has1 Post (k s))
    (h1 : ∀ pre x xs s kk, full = pre ++ x :: xs → I pre s → (∀ s', I (pre ++ [x]) s' → Has1 Post (kk s')) → Has1 Post (f pre.length x s kk)) : ∀ xs pre s, full = pre ++ xs → I pre s → Has1 Post (rangeF f pre.length xs s k)
  | [], pre, s, hf, hI => by
    rw [List.append_nil] at hf; subst hf
    exact h0 s hI
  | x :: xs, pre, s, hf, hI => by
    refine h1 pre x xs s _ hf hI (fun s' hs' => ?_)
    have := rangeF_ex full I h0 h1 xs (pre ++ [x]) s' (by simp [hf]) hs'
    rw [List.length_append] at this
    exact this
theorem upF_ex {S R : Type} {Post : R → Prop} {f : Int → S → (S → Option R) → Option R} {k : S → Option R} (lo : Int) (n : Nat) (I : Nat → S → Prop) (h0 : ∀ s, I n s → Has1 Post (k s))
    (h1 : ∀ j s kk, j < n → I j s → (∀ s', I (j + 1) s' → Has1 Post (kk s')) → Has1 Post (f (lo + j) s kk)) : ∀ m j s, j + m = n → I j s → Has1 Post (upF f m (lo + j) s k)
  | 0, j, s, hf, hI => by
    have : j = n := by omega
    subst this; exact h0 s hI
  | m + 1, j, s, hf, hI => by
    rw [upF_succ]
    refine h1 j s _ (by omega) hI (fun s' hs' => ?_)
    have := upF_ex lo n I h0 h1 m (j + 1) s' (by omega) hs'
    have e : lo + ((j + 1 : Nat) : Int) = lo + j + 1 := by omega
    rw [e] at this
    exact this
theorem upF_ex0 {S R : Type} {Post : R → Prop} {f : Int → S → (S → Option R) → Option R} {k : S → Option R} (lo : Int) (n : Nat) (I : Nat → S → Prop) (h0 : ∀ s, I n s → Has1 Post (k s))
    (h1 : ∀ j s kk, j < n → I j s → (∀ s', I (j + 1) s' → Has1 Post (kk s')) → Has1 Post (f (lo + j) s kk)) (s : S) (hI : I 0 s) : Has1 Post (upF f n lo s k) := by
  have h := upF_ex lo n I h0 h1 n 0 s (by omega) hI
  rwa [show lo + ((0 : Nat) : Int) = lo by simp] at h
theorem whileF_ex {S R : Type} {Post : R → Prop} {b : (S → Option R) → S → Option R} (μ : S → Nat) (I : S → Prop)
    (step : ∀ s k, I s → (∀ s', I s' → μ s' < μ s → Has1 Post (k s')) → Has1 Post (b k s)) : ∀ n s, I s → μ s < n → Has1 Post (whileF n b s)
  | 0, s, _, h => absurd h (Nat.not_lt_zero _)
  | n + 1, s, hI, h => by
    rw [whileF_succ]
    exact step s _ hI (fun s' h1 h2 => whileF_ex μ I step n s' h1 (by omega))
/-- a loop that only collects -/
theorem rangeF_fold {α S R : Type} (g : S → α → S) (k : S → Option R) : ∀ (xs : List α) (j : Nat) (s : S), rangeF (fun _ x s k => k (g s x)) j xs s k = k (xs.foldl g s)
  | [], _, _ => rfl
  | x :: xs, j, s => by rw [rangeF_cons]; exact rangeF_fold g k xs (j + 1) (g s x)

/-! ### Variables that ascend -/
def rsB (c : Int) : List Int → Bool
  | [] => true
  | x :: xs => decide (c < x) && (decide (x ≤ 65536) && rsB x xs)
theorem rsB_cons {c x : Int} {xs : List Int} : rsB c (x :: xs) = true ↔ c < x ∧ x ≤ 65536 ∧ rsB x xs = true := by simp [rsB]
theorem rsB_mem : ∀ {l : List Int} {c : Int}, rsB c l = true → ∀ x ∈ l, c < x ∧ x ≤ 65536
  | [], _, _, x, hx => by simp at hx
  | y :: l, c, h, x, hx => by
    obtain ⟨h1, h2, h3⟩ := rsB_cons.1 h
    rcases List.mem_cons.1 hx with rfl | hx
    · exact ⟨h1, h2⟩
    · have := rsB_mem h3 x hx
      exact ⟨by omega, this.2⟩
theorem rsB_nodup : ∀ {l : List Int} {c : Int}, rsB c l = true → l.Nodup
  | [], _, _ => List.nodup_nil
  | y :: l, c, h => by
    obtain ⟨h1, h2, h3⟩ := rsB_cons.1 h
    exact List.nodup_cons.2 ⟨fun hm => by have := (rsB_mem h3 y hm).1; omega, rsB_nodup h3⟩
def lastD (l : List Int) : Int := (l.getLast?).getD 0
theorem lastD_app (l : List Int) (x : Int) : lastD (l ++ [x]) = x := by simp [lastD]
theorem lastD_get {l : List Int} (h : 0 < l.length) : l[l.length - 1]? = some (lastD l) := by
  unfold lastD
  rw [List.getLast?_eq_getElem?]
  have : l.length - 1 < l.length := by omega
  rw [List.getElem?_eq_getElem this]; rfl

/-! ### Maps in which only the keys count -/
theorem mget_fold {β : Type} (v : β) : ∀ (xs : List Int) (m : List (Int × β)) (k : Int), mget (xs.foldl (fun m x => mset m x v) m) k = if k ∈ xs then some v else mget m k
  | [], m, k => by simp
  | x :: xs, m, k => by
    rw [List.foldl_cons, mget_fold v xs, mget_mset]
    by_cases h1 : k ∈ xs
    · simp [h1]
    · by_cases h2 : k = x <;> simp [h1, h2]
end Go.Sk

namespace Go.Sk.X
open Go Go.Sk

theorem abs3_eq {x : Int} (h0 : -9223372036854775807 ≤ x) (h1 : x ≤ 9223372036854775807) : F_skolemref03_Abs x = some (av x) := by
  unfold F_skolemref03_Abs av
  by_cases h : x < 0
  · have e : IntKind.wrap .i64 (0 - x) = -x := by rw [wrap_id (by omega) (by omega)]; omega
    simp only [h, decide_true, if_true, e]
  · simp [h]
theorem absp_eq {x : Int} (h0 : -9223372036854775807 ≤ x) (h1 : x ≤ 9223372036854775807) : F_prefix_abs x = some (av x) := by
  unfold F_prefix_abs av imx
  have e : IntKind.wrap .i64 (0 - x) = -x := by rw [wrap_id (by omega) (by omega)]; omega
  rw [e]
  by_cases h : x < 0
  · rw [if_pos (by omega), if_pos h]
  · rw [if_neg (by omega), if_neg h]
theorem normal_eq (a : List Int) (hl : a.length ≤ 4194304) : F_skolemref03_Normal a = some (nrmB 0 a) := by
  refine rangeF_pre a (fun pre _ => pre = [] ∨ (-65536 ≤ lastD pre ∧ lastD pre ≤ 65536)) (fun pre xs _ => some (nrmB (if pre = [] then 0 else av (lastD pre)) xs)) (fun _ _ => rfl) ?_ a [] () rfl (.inl rfl)
  intro pre x xs s kk hf hI hk
  have hlen : pre.length < a.length := by rw [hf]; simp
  simp only [jn_eq, nrmB]
  have av0 := av_nonneg (lastD pre)
  by_cases h0 : x = 0
  · subst h0
    have : av 0 = 0 := rfl
    have h5 : ¬ (if pre = [] then 0 else av (lastD pre)) < av 0 := by rw [this]; split <;> omega
    simp [h5]
  have h0' : (x == 0) = false := by simp [h0]
  by_cases h1 : x < -65536
  · have : ¬ -65536 ≤ x := by omega
    simp [h0', h1, this]
  by_cases h2 : x > 65536
  · have : ¬ x ≤ 65536 := by omega
    simp [h0', h1, h2, this]
  have hk' := hk () (.inr (by rw [lastD_app]; omega))
  rw [lastD_app] at hk'
  simp only [List.append_eq_nil_iff, List.cons_ne_self, and_false, if_false, reduceCtorEq] at hk'
  have h3 : x ≤ 65536 := by omega
  have h3' : -65536 ≤ x := by omega
  by_cases hp : 0 < pre.length
  · have e : IntKind.wrap .i64 (((pre.length : Nat) : Int) - 1) = ((pre.length - 1 : Nat) : Int) := by rw [wrap_id (by omega) (by omega)]; omega
    have hg : a[pre.length - 1]? = some (lastD pre) := by
      rw [hf, List.getElem?_append_left (by omega)]
      exact lastD_get hp
    have hp' : ((pre.length : Nat) : Int) > 0 := by omega
    have hne : pre ≠ [] := by intro e; subst e; simp at hp
    rcases hI with rfl | ⟨i1, i2⟩
    · exact absurd rfl hne
    simp only [h0', h1, h2, hp', e, getI_nat, hg, abs3_eq (x := x) (by omega) (by omega), abs3_eq (x := lastD pre) (by omega) (by omega), Option.bind_some, decide_false, decide_true, if_true, if_false, Bool.false_eq_true, hne]
    by_cases h4 : av (lastD pre) ≥ av x
    · have : ¬ av (lastD pre) < av x := by omega
      simp [h4, this]
    · have : av (lastD pre) < av x := by omega
      simp [h4, this, h3, h3', hk']
  · have : pre = [] := List.eq_nil_of_length_eq_zero (by omega)
    subst this
    have h4 : 0 < av x := by unfold av; split <;> omega
    simp [h0', h1, h2, h3, h3', h4, hk']
theorem has_eq (l : List Int) (v : Int) : F_skolemref03_Has l v = some (decide (v ∈ l)) := by
  refine rangeF_eq (fun _ xs _ => some (decide (v ∈ xs))) (fun _ _ => by simp) ?_ l 0 ()
  intro j x xs s kk hk
  by_cases h : x = v
  · subst h; simp
  · have : ¬ v = x := fun e => h e.symm
    simp [h, hk, this]
def singB (pre : List Int) : List Int → Bool
  | [] => true
  | x :: xs => decide (1 ≤ x) && (decide (x ≤ 65536) && (!decide (x ∈ pre) && singB (pre ++ [x]) xs))
theorem single_eq (a : List Int) : F_skolemref03_single a = some (singB [] a) := by
  refine rangeF_pre a (fun pre _ => True) (fun pre xs _ => some (singB pre xs)) (fun _ _ => rfl) ?_ a [] () rfl trivial
  intro pre x xs s kk hf hI hk
  have hlen : pre.length < a.length := by rw [hf]; simp
  have hk' := hk () trivial
  simp only [jn_eq, singB]
  by_cases h1 : x < 1
  · have : ¬ 1 ≤ x := by omega
    simp [h1, this]
  by_cases h2 : x > 65536
  · have : ¬ x ≤ 65536 := by omega
    simp [h1, h2, this]
  have h3 : x ≤ 65536 := by omega
  have h4 : 1 ≤ x := by omega
  have ht : a.take (((pre.length : Nat) : Int)).toNat = pre := by rw [hf]; simp
  have ho : 0 ≤ ((pre.length : Nat) : Int) ∧ ((pre.length : Nat) : Int).toNat ≤ a.length := ⟨by omega, by omega⟩
  rw [okI_eq ho, ht, has_eq]
  by_cases h5 : x ∈ pre <;> simp [h1, h2, h3, h4, h5, hk']
theorem sing_iff : ∀ (l pre : List Int), singB pre l = true ↔ (∀ x ∈ l, 1 ≤ x ∧ x ≤ 65536) ∧ l.Nodup ∧ ∀ x ∈ l, x ∉ pre
  | [], pre => by simp [singB]
  | y :: l, pre => by
    simp only [singB, Bool.and_eq_true, decide_eq_true_eq, Bool.not_eq_true', decide_eq_false_iff_not, sing_iff l (pre ++ [y]), List.mem_append, List.mem_singleton, not_or, List.mem_cons, List.not_mem_nil, or_false, forall_eq_or_imp, List.nodup_cons]
    constructor
    · rintro ⟨a, b, c, d, e, f⟩
      exact ⟨⟨⟨a, b⟩, d⟩, ⟨fun hm => (f y hm).2 rfl, e⟩, c, fun x hx => (f x hx).1⟩
    · rintro ⟨⟨⟨a, b⟩, d⟩, ⟨f, e⟩, c, g⟩
      exact ⟨a, b, c, d, e, fun x hx => ⟨g x hx, fun e => f (e ▸ hx)⟩⟩
def tot (cs : List (List Int)) : Nat := (cs.map List.length).sum
theorem tot_app (a b : List (List Int)) : tot (a ++ b) = tot a + tot b := by simp [tot]
theorem tot_cons (a : List Int) (b : List (List Int)) : tot (a :: b) = a.length + tot b := by simp [tot]
theorem tot_mem {cs : List (List Int)} {c : List Int} (h : c ∈ cs) : c.length ≤ tot cs := by
  obtain ⟨a, b, rfl⟩ := List.append_of_mem h
  rw [tot_app, tot_cons]; omega
theorem cnf_eq (cs : List (List Int)) (h : tot cs ≤ 4194304) : F_skolemref03_Cnf cs = some (cs.all (nrmB 0) && (decide (cs.length ≤ 20000) && decide (tot cs ≤ 200000))) := by
  refine rangeF_pre cs (fun pre s => s = (tot pre : Int)) (fun pre xs s => some (xs.all (nrmB 0) && (decide (cs.length ≤ 20000) && decide (tot cs ≤ 200000)))) ?_ ?_ cs [] 0 rfl rfl
  · rintro s rfl
    by_cases h1 : cs.length ≤ 20000
    · have : ((cs.length : Nat) : Int) ≤ 20000 := by omega
      by_cases h2 : tot cs ≤ 200000
      · have h3 : (tot cs : Int) ≤ 200000 := by omega
        simp [this, h1, h2, h3]
      · have h3 : ¬ (tot cs : Int) ≤ 200000 := by omega
        simp [this, h1, h2, h3]
    · have : ¬ ((cs.length : Nat) : Int) ≤ 20000 := by omega
      simp [this, h1]
  · intro pre x xs s kk hf hI hk
    have ht : tot pre + x.length ≤ tot cs := by rw [hf, tot_app, tot_cons]; omega
    rw [normal_eq x (by omega), Option.bind_some]
    have hk' := hk (IntKind.wrap .i64 (s + ((x.length : Nat) : Int))) (by rw [hI, wrap_id (by omega) (by omega), tot_app]; simp [tot])
    by_cases hx : nrmB 0 x = true
    · simp [hx, hk']
    · simp [hx]
theorem within_in (u : List Int) (kk : Unit → Option Bool) (c : List Int) (hr : ∀ x ∈ c, -65536 ≤ x ∧ x ≤ 65536) (hl : c.length ≤ 4194304) (R : Option Bool) (hk : kk () = R) :
    whileF 1000000000000 (fun k130 (s128 : Int) => (if (decide (s128 < ((c.length : Nat) : Int))) = true then (getI c s128 (fun x146 => ((F_skolemref03_Abs x146).bind (fun y147 => ((F_skolemref03_Has u y147).bind (fun y148 => (if (!y148) = true then (some false) else (k130 (IntKind.wrap .i64 (s128 + (1 : Int))))))))))) else (kk ()))) (0 : Int)
      = if (c.all fun x => decide (av x ∈ u)) = true then R else some false := by
  have := whileF_by (b := (fun k130 (s128 : Int) => (if (decide (s128 < ((c.length : Nat) : Int))) = true then (getI c s128 (fun x146 => ((F_skolemref03_Abs x146).bind (fun y147 => ((F_skolemref03_Has u y147).bind (fun y148 => (if (!y148) = true then (some false) else (k130 (IntKind.wrap .i64 (s128 + (1 : Int))))))))))) else (kk ())))) (fun s : Int => c.length - s.toNat) (fun s => 0 ≤ s ∧ s ≤ c.length) (fun s => if ((c.drop s.toNat).all fun x => decide (av x ∈ u)) = true then R else some false) ?_ 1000000000000 0 (by simp) (by simp; omega)
  · simpa using this
  · intro s k ⟨h0, h1⟩ hs
    by_cases h2 : s < ((c.length : Nat) : Int)
    · obtain ⟨n, rfl⟩ : ∃ n : Nat, s = n := ⟨s.toNat, by omega⟩
      have hn : n < c.length := by omega
      have hd : c.drop n = c[n] :: c.drop (n + 1) := by rw [List.drop_eq_getElem_cons hn]
      have hm := hr c[n] (List.getElem_mem hn)
      have hw : IntKind.wrap .i64 (((n : Nat) : Int) + 1) = ((n + 1 : Nat) : Int) := by rw [wrap_id (by omega) (by omega)]; omega
      have hs' := hs ((n + 1 : Nat) : Int) ⟨by omega, by omega⟩ (by simp; omega)
      simp only [h2, decide_true, if_true, getI_nat, List.getElem?_eq_getElem hn, abs3_eq (x := c[n]) (by omega) (by omega), has_eq, Option.bind_some, hw, hs', Int.toNat_natCast, hd, List.all_cons]
      by_cases h3 : av c[n] ∈ u <;> simp [h3]
    · have : s.toNat = c.length := by omega
      simp [h2, this, hk]
theorem within_eq (cs : List (List Int)) (u : List Int) (hr : ∀ c ∈ cs, nrmB 0 c = true) (hl : tot cs ≤ 4194304) : F_skolemref03_within cs u = some (cs.all fun c => c.all fun x => decide (av x ∈ u)) := by
  refine rangeF_pre cs (fun pre _ => True) (fun _ xs _ => some (xs.all fun c => c.all fun x => decide (av x ∈ u))) (fun _ _ => rfl) ?_ cs [] () rfl trivial
  intro pre x xs s kk hf hI hk
  have hx : x ∈ cs := by rw [hf]; simp
  rw [within_in u kk x (fun y hy => (nrm_mem (hr x hx) y hy).2) (Nat.le_trans (tot_mem hx) hl) _ (hk () trivial)]
  by_cases h : (x.all fun x => decide (av x ∈ u)) = true
  · rw [if_pos h]; simp only [List.all_cons, h, Bool.true_and]
  · rw [if_neg h]; simp only [List.all_cons, Bool.eq_false_iff.2 h, Bool.false_and]
theorem lits_in (m : Int → Bool) (kk : Int → Option Bool) (l : List Int) (R : Option Bool) (hk : ∀ s, kk s = R) :
    rangeF (fun (j3902 : Nat) (x3903 : Int) (s3899 : Int) k3901 => (jn (fun (s4091 : Bool) => (if s4091 = true then (some false) else ((F_prefix_abs x3903).bind (fun y4095 => (k3901 y4095))))) (fun k4093 => (if (x3903 == (0 : Int)) = true then (k4093 true) else (if (decide (x3903 < (-65536 : Int))) = true then (k4093 true) else (if (decide (x3903 > (65536 : Int))) = true then (k4093 true) else ((F_prefix_abs x3903).bind (fun y4099 => (if (decide (y4099 ≤ s3899)) = true then (k4093 true) else ((F_prefix_abs x3903).bind (fun y4101 => (k4093 (!(m y4101)))))))))))))) 0 l (0 : Int) kk
      = if (nrmB 0 l && l.all fun x => m (av x)) = true then R else some false := by
  refine rangeF_pre l (fun _ s => 0 ≤ s) (fun _ xs s => if (nrmB s xs && xs.all fun x => m (av x)) = true then R else some false) (fun s _ => by simp [nrmB, hk]) ?_ l [] 0 rfl (by decide)
  intro pre x xs s k2 hf hI h2
  simp only [jn_eq]
  by_cases h0 : x = 0
  · subst h0
    have h5 : ¬ s < av 0 := by show ¬ s < 0; omega
    simp [h5, nrmB]
  have h0' : (x == 0) = false := by simp [h0]
  by_cases h1 : x < -65536
  · have : ¬ -65536 ≤ x := by omega
    simp [h0', h1, this, nrmB]
  by_cases h3 : x > 65536
  · have : ¬ x ≤ 65536 := by omega
    simp [h0', h1, h3, this, nrmB]
  have e1 : -65536 ≤ x := by omega
  have e2 : x ≤ 65536 := by omega
  rw [absp_eq (x := x) (by omega) (by omega)]
  simp only [h0', h1, h3, decide_false, Bool.false_eq_true, if_false, Option.bind_some, nrmB, e1, e2, decide_true, Bool.true_and, List.all_cons]
  by_cases h4 : av x ≤ s
  · have : ¬ s < av x := by omega
    simp [h4, this]
  · have h5 : s < av x := by omega
    rw [h2 (av x) (av_nonneg x)]
    cases h6 : m (av x) <;> simp [h4, h5, h6]
def satB (cs : List (List Int)) (a : List Int) : Bool := cs.all fun c => c.any fun x => decide (x ∈ a)
theorem satLoop (a c : List Int) (hl : c.length ≤ 4194304) (R : Option Bool) (kk : Unit → Option Bool) (hk : kk () = R) :
    whileF 1000000000000 (fun k142 (s140 : (Bool × Int)) => (if (decide (s140.2 < ((c.length : Nat) : Int))) = true then (jn (fun (s167 : Bool) => (k142 (s167, (IntKind.wrap .i64 (s140.2 + (1 : Int)))))) (fun k169 => (if s140.1 = true then (k169 true) else (getI c s140.2 (fun x171 => ((F_skolemref03_Has a x171).bind (fun y172 => (k169 y172)))))))) else (if (!s140.1) = true then (some false) else (kk ())))) (false, (0 : Int))
      = if (c.any fun x => decide (x ∈ a)) = true then R else some false := by
  have := whileF_by (b := (fun k142 (s140 : (Bool × Int)) => (if (decide (s140.2 < ((c.length : Nat) : Int))) = true then (jn (fun (s167 : Bool) => (k142 (s167, (IntKind.wrap .i64 (s140.2 + (1 : Int)))))) (fun k169 => (if s140.1 = true then (k169 true) else (getI c s140.2 (fun x171 => ((F_skolemref03_Has a x171).bind (fun y172 => (k169 y172)))))))) else (if (!s140.1) = true then (some false) else (kk ()))))) (fun s : Bool × Int => c.length - s.2.toNat) (fun s => 0 ≤ s.2 ∧ s.2 ≤ c.length) (fun s => if (s.1 || (c.drop s.2.toNat).any fun x => decide (x ∈ a)) = true then R else some false) ?_ 1000000000000 (false, 0) (by simp) (by simp; omega)
  · simpa using this
  · rintro ⟨f, i⟩ k ⟨h0, h1⟩ hs
    simp only [jn_eq] at h0 h1 hs ⊢
    by_cases h2 : i < ((c.length : Nat) : Int)
    · obtain ⟨n, rfl⟩ : ∃ n : Nat, i = n := ⟨i.toNat, by omega⟩
      have hlt : n < c.length := by omega
      have hd : c.drop n = c[n] :: c.drop (n + 1) := by rw [List.drop_eq_getElem_cons hlt]
      have hw : IntKind.wrap .i64 (((n : Nat) : Int) + 1) = ((n + 1 : Nat) : Int) := by rw [wrap_id (by omega) (by omega)]; omega
      have hs' := fun b => hs (b, ((n + 1 : Nat) : Int)) ⟨by show (0 : Int) ≤ ((n + 1 : Nat) : Int); omega, by show ((n + 1 : Nat) : Int) ≤ (c.length : Int); omega⟩ (by simp; omega)
      cases f
      · simp only [h2, decide_true, if_true, Bool.false_eq_true, if_false, getI_nat, List.getElem?_eq_getElem hlt, has_eq, Option.bind_some, hw, hs', Int.toNat_natCast, hd, List.any_cons, Bool.false_or]
      · simp only [h2, decide_true, if_true, hw, hs', Bool.true_or]
    · have : i.toNat = c.length := by omega
      cases f <;> simp [h2, this, hk]
theorem sat_eq (cs : List (List Int)) (a : List Int) (h : tot cs ≤ 2097152) : F_skolemref04_Satisfied cs a = some (satB cs a) := by
  refine rangeF_pre cs (fun _ _ => True) (fun _ xs _ => some (satB xs a)) (fun _ _ => rfl) ?_ cs [] () rfl trivial
  intro pre x xs s kk hf hI hk
  have hx : x ∈ cs := by rw [hf]; simp
  rw [satLoop a x (Nat.le_trans (tot_mem hx) (Nat.le_trans h (by decide))) _ kk (hk () trivial)]
  by_cases hs : (x.any fun y => decide (y ∈ a)) = true
  · rw [if_pos hs]; simp only [satB, List.all_cons, hs, Bool.true_and]
  · rw [if_neg hs]; simp only [satB, List.all_cons, Bool.eq_false_iff.2 hs, Bool.false_and]
end Go.Sk.X

namespace Go.Sk.X
open Go Go.Sk

def flat (p : List S_api_Block) : List Int := p.flatMap (·.Vars)
def turnsP (p : List S_api_Block) : List S_truth_turn := p.flatMap fun b => b.Vars.map fun v => ⟨v, b.Exists⟩
theorem flat_app (a b : List S_api_Block) : flat (a ++ b) = flat a ++ flat b := by simp [flat]
theorem flat_one (a : S_api_Block) : flat [a] = a.Vars := by simp [flat]
theorem turns_v (p : List S_api_Block) : (turnsP p).map (·.v) = flat p := by
  induction p with
  | nil => rfl
  | cons b p ih =>
    simp only [turnsP, flat, List.flatMap_cons, List.map_append, List.map_map] at *
    rw [ih]; congr 1
    exact List.map_id _

theorem rangeF_app {α S R : Type} (g : α → S → (S → Option R) → Option R) (k : S → Option R) : ∀ (xs ys : List α) (i j : Nat) (s : S),
    rangeF (fun _ x s k => g x s k) i (xs ++ ys) s k = rangeF (fun _ x s k => g x s k) i xs s (fun s' => rangeF (fun _ x s k => g x s k) j ys s' k)
  | [], ys, i, j, s => by
    rw [List.nil_append, rangeF_nil]
    induction ys generalizing i j s with
    | nil => rfl
    | cons y ys ih => rw [rangeF_cons, rangeF_cons]; congr 1; funext s'; exact ih (i + 1) (j + 1) s'
  | x :: xs, ys, i, j, s => by
    rw [List.cons_append, rangeF_cons, rangeF_cons]; congr 1; funext s'; exact rangeF_app g k xs ys (i + 1) j s'
theorem rangeF_flat {α β S R : Type} (h : α → List β) (g : β → S → (S → Option R) → Option R) (k : S → Option R) : ∀ (xs : List α) (i j : Nat) (s : S),
    rangeF (fun _ x s k => rangeF (fun _ y s k => g y s k) 0 (h x) s (fun s => k s)) i xs s k = rangeF (fun _ y s k => g y s k) j (xs.flatMap h) s k
  | [], i, j, s => rfl
  | x :: xs, i, j, s => by
    rw [rangeF_cons, List.flatMap_cons, rangeF_app g k _ _ j 0]
    have e : (fun s => rangeF (fun _ x s k => rangeF (fun _ y s k => g y s k) 0 (h x) s (fun s => k s)) (i + 1) xs s k) = fun s => rangeF (fun _ y s k => g y s k) 0 (xs.flatMap h) s k := by
      funext s'; exact rangeF_flat h g k xs (i + 1) 0 s'
    rw [e]
    have := rangeF_app g (fun s => rangeF (fun _ y s k => g y s k) 0 (xs.flatMap h) s k) [] (h x) j 0 s
    rw [List.nil_append, rangeF_nil] at this
    exact this.symm
theorem rangeF_map {α β S R : Type} (f : α → β) (g : β → S → (S → Option R) → Option R) (k : S → Option R) : ∀ (xs : List α) (i : Nat) (s : S),
    rangeF (fun _ x s k => g (f x) s k) i xs s k = rangeF (fun _ y s k => g y s k) i (xs.map f) s k
  | [], i, s => rfl
  | x :: xs, i, s => by rw [rangeF_cons, List.map_cons, rangeF_cons]; congr 1; funext s'; exact rangeF_map f g k xs (i + 1) s'

theorem sumFold {α : Type} (f : α → Nat) (M : Nat) (hM : M = 140737488351232) : ∀ (ls : List α) (s : Nat), (∀ l ∈ ls, f l ≤ M) → s + ls.length * M ≤ 9223372036854775807 →
    ls.foldl (fun s (x : α) => IntKind.wrap .i64 (s + ((f x : Nat) : Int))) (s : Int) = ((s + (ls.map f).sum : Nat) : Int)
  | [], s, _, _ => by rw [List.foldl_nil, List.map_nil, List.sum_nil, Nat.add_zero]
  | l :: ls, s, h, hb => by
    have hl := h l (by simp)
    rw [List.length_cons, Nat.add_mul, Nat.one_mul] at hb
    have e : IntKind.wrap .i64 ((s : Int) + ((f l : Nat) : Int)) = ((s + f l : Nat) : Int) := by rw [wrap_id (by omega) (by omega)]; omega
    rw [List.foldl_cons, e, sumFold f M hM ls (s + f l) (fun x hx => h x (by simp [hx])) (by omega), List.map_cons, List.sum_cons, Nat.add_assoc]

structure Sq (q : S_api_Qbf) : Prop where
  bl : q.Prefix.length ≤ 60
  vs : (flat q.Prefix).length ≤ 100
  cl : q.Clauses.length ≤ 60
  tot : tot q.Clauses ≤ 300

theorem flat_len (p : List S_api_Block) : (flat p).length = (p.map fun b => b.Vars.length).sum := by
  induction p with
  | nil => rfl
  | cons b p ih => simp only [flat, List.flatMap_cons, List.length_append, List.map_cons, List.sum_cons] at *; omega

theorem great_eq {q : S_api_Qbf} (hz : Z_S_api_Qbf q) : ∃ b, F_skolemlaw04_great q = some b ∧ (b = false → Sq q) := by
  unfold F_skolemlaw04_great F_skolemlaw04_wide
  by_cases h1 : ((q.Prefix.length : Nat) : Int) > 60
  · exact ⟨true, by simp only [h1, decide_true, if_true], by simp⟩
  have hs1 := sumFold (fun b : S_api_Block => b.Vars.length) 140737488351232 rfl q.Prefix 0 (fun b hb => (hz.1.2 b hb).2.1) (by omega)
  rw [rangeF_fold (fun s (x : S_api_Block) => IntKind.wrap .i64 (s + ((x.Vars.length : Nat) : Int)))]
  rw [show ((0 : Nat) : Int) = 0 from rfl] at hs1
  rw [hs1, Nat.zero_add, ← flat_len]
  simp only [h1, decide_false, Bool.false_eq_true, if_false, jn_eq]
  by_cases h2 : ((q.Clauses.length : Nat) : Int) > 60
  · exact ⟨true, by simp [h2], by simp⟩
  by_cases h3 : (((flat q.Prefix).length : Nat) : Int) > 100
  · exact ⟨true, by simp [h2, h3], by simp⟩
  have hs2 := sumFold (fun b : List Int => b.length) 140737488351232 rfl q.Clauses 0 (fun b hb => (hz.2.2 b hb).1) (by omega)
  rw [rangeF_fold (fun s (x : List Int) => IntKind.wrap .i64 (s + ((x.length : Nat) : Int)))]
  rw [show ((0 : Nat) : Int) = 0 from rfl] at hs2
  rw [hs2, Nat.zero_add]
  simp only [h2, h3, decide_false, Bool.false_eq_true, if_false, Option.bind_some]
  by_cases h4 : (((q.Clauses.map fun b => b.length).sum : Nat) : Int) > 300
  · exact ⟨true, by simp [h4], by simp⟩
  · refine ⟨_, by simp only [h4, decide_false, Bool.false_eq_true, if_false]; exact (apply_ite some _ _ _).symm, fun _ => ⟨by omega, by omega, by omega, ?_⟩⟩
    unfold Go.Sk.X.tot
    have : (q.Clauses.map List.length).sum = (q.Clauses.map fun b => b.length).sum := rfl
    omega

/-! ### Which formulas may be taken -/
def altB : Option Bool → List S_api_Block → Bool
  | _, [] => true
  | o, b :: bs => !b.Vars.isEmpty && (!decide (o = some b.Exists) && altB (some b.Exists) bs)

theorem alt_loop (full : List S_api_Block) (hl : full.length ≤ 60) (K : Unit → Option Bool) :
    (rangeF (fun (j104 : Nat) (x105 : S_api_Block) (s101 : Unit) k103 => (jn (fun (s139 : Bool) => (if s139 = true then (some false) else (k103 ()))) (fun k141 => (if (((x105.Vars.length : Nat) : Int) == (0 : Int)) = true then (k141 true) else (if (decide (((j104 : Nat) : Int) > (0 : Int))) = true then (getI full (IntKind.wrap .i64 (((j104 : Nat) : Int) - (1 : Int))) (fun x145 => (k141 (x145.Exists == x105.Exists)))) else (k141 false)))))) 0 full () K)
      = if altB none full = true then K () else some false := by
  refine rangeF_pre full (fun _ _ => True) (fun pre xs _ => if altB (pre.getLast?.map (·.Exists)) xs = true then K () else some false) (fun s _ => by simp [altB]) ?_ full [] () rfl trivial
  intro pre x xs s kk hf hI hk
  have hlen : pre.length < full.length := by rw [hf]; simp
  have hk' := hk () trivial
  simp only [jn_eq, altB]
  rw [List.getLast?_append, List.getLast?_singleton] at hk'
  simp only [Option.some_or, Option.map_some] at hk'
  by_cases h0 : x.Vars = []
  · simp [h0]
  have h0' : (((x.Vars.length : Nat) : Int) == (0 : Int)) = false := by
    have : x.Vars.length ≠ 0 := fun e => h0 (List.eq_nil_of_length_eq_zero e)
    simp; exact h0
  have h0'' : x.Vars.isEmpty = false := by simpa using h0
  by_cases hp : 0 < pre.length
  · have e : IntKind.wrap .i64 (((pre.length : Nat) : Int) - 1) = ((pre.length - 1 : Nat) : Int) := by rw [wrap_id (by omega) (by omega)]; omega
    obtain ⟨y, hy⟩ : ∃ y, pre.getLast? = some y := by
      cases hh : pre.getLast? with
      | none => rw [List.getLast?_eq_none_iff] at hh; subst hh; simp at hp
      | some y => exact ⟨y, rfl⟩
    have hg : full[pre.length - 1]? = some y := by
      rw [hf, List.getElem?_append_left (by omega), ← List.getLast?_eq_getElem?, hy]
    have hp' : ((pre.length : Nat) : Int) > 0 := by omega
    simp only [h0', h0'', hp', e, getI_nat, hg, hy, hk', decide_true, if_true, Bool.false_eq_true, if_false, Option.map_some, Bool.not_false, Bool.true_and]
    by_cases he : y.Exists = x.Exists
    · simp [he]
    · have e1 : (y.Exists == x.Exists) = false := by simpa using he
      have e2 : ¬ (some y.Exists = some x.Exists) := fun h => he (Option.some.inj h)
      by_cases hA : altB (some x.Exists) xs = true <;> simp [e1, e2, hA]
  · have : pre = [] := List.eq_nil_of_length_eq_zero (by omega)
    subst this
    by_cases hA : altB (some x.Exists) xs = true <;> simp [h0', h0'', hk', h0, hA]

theorem len_fold : ∀ (xs pre : List Int), xs.Nodup → (∀ x ∈ xs, x ∉ pre) → ∀ m : List (Int × Bool), m.length = pre.length → (∀ x, (mget m x).isSome = decide (x ∈ pre)) → (xs.foldl (fun m x => mset m x true) m).length = pre.length + xs.length
  | [], pre, _, _, m, h, _ => by simpa using h
  | x :: xs, pre, hn, hd, m, h, hm => by
    rw [List.foldl_cons]
    have hx : x ∉ pre := hd x (by simp)
    have hset : ∀ (m : List (Int × Bool)), (mget m x).isSome = false → (mset m x true).length = m.length + 1 := by
      intro m
      induction m with
      | nil => intro _; rfl
      | cons p m ih =>
        obtain ⟨a, b⟩ := p
        intro hh
        simp only [mget] at hh
        by_cases e : (x == a) = true
        · rw [if_pos e] at hh; simp at hh
        · rw [if_neg e] at hh
          simp only [mset]
          rw [if_neg e, List.length_cons, ih hh, List.length_cons]
    have h1 := hset m (by rw [hm]; simpa using hx)
    have := len_fold xs (pre ++ [x]) (List.nodup_cons.1 hn).2 (fun y hy => by
      simp only [List.mem_append, List.mem_singleton, not_or]
      exact ⟨hd y (by simp [hy]), fun e => (List.nodup_cons.1 hn).1 (e ▸ hy)⟩) (mset m x true) (by simp [h1, h]) (fun y => by
      rw [mget_mset]
      by_cases e : y = x
      · subst e; simp
      · simp [e, hm])
    rw [this]; simp; omega

theorem count_eq (p : List S_api_Block) : F_prefix_count p = some (if singB [] (flat p) = true then (((flat p).length : Int), true) else (0, false)) := by
  unfold F_prefix_count
  have := rangeF_flat (fun b : S_api_Block => b.Vars) (fun (x2062 : Int) (s2058 : List (Int × Bool)) (k2060 : List (Int × Bool) → Option (Int × Bool)) => (jn (fun (s2441 : Bool) => (if s2441 = true then (some ((0 : Int), false)) else (k2060 (mset s2058 x2062 true)))) (fun k2443 => (if (decide (x2062 < (1 : Int))) = true then (k2443 true) else (if (decide (x2062 > (65536 : Int))) = true then (k2443 true) else (k2443 ((mget s2058 x2062).getD false))))))) (fun (s1275 : (List (Int × Bool))) => (some (((s1275.length : Nat) : Int), true))) p 0 0 []
  refine this.trans ?_
  change rangeF _ 0 (flat p) [] _ = _
  refine rangeF_pre (flat p) (fun pre s => s = pre.foldl (fun m x => mset m x true) []) (fun pre xs s => some (if singB pre xs = true then ((((pre.foldl (fun m x => mset m x true) ([] : List (Int × Bool))).length + xs.length : Nat) : Int), true) else ((0 : Int), false))) ?_ ?_ (flat p) [] [] rfl rfl |>.trans ?_
  · rintro s rfl; simp [singB]
  · intro pre x xs s kk hf hI hk
    subst hI
    have hk' := hk (mset (pre.foldl (fun m x => mset m x true) []) x true) (by simp)
    have hg : ((mget (pre.foldl (fun m x => mset m x true) ([] : List (Int × Bool))) x).getD false) = decide (x ∈ pre) := by
      rw [mget_fold]; by_cases hx : x ∈ pre <;> simp [hx, mget]
    simp only [jn_eq, singB, hg]
    by_cases h1 : x < 1
    · have : ¬ 1 ≤ x := by omega
      simp [h1, this]
    by_cases h2 : x > 65536
    · have : ¬ x ≤ 65536 := by omega
      simp [h1, h2, this]
    have h3 : x ≤ 65536 := by omega
    have h4 : 1 ≤ x := by omega
    by_cases h5 : x ∈ pre
    · simp [h1, h2, h3, h4, h5]
    · simp only [h1, h2, h3, h4, h5, decide_false, decide_true, Bool.false_eq_true, if_false, Bool.not_false, Bool.true_and, hk']
      by_cases h6 : singB (pre ++ [x]) xs = true
      · simp only [h6, if_true]
        have hs := (sing_iff xs (pre ++ [x])).1 h6
        have e : ∀ l : List Int, (l.foldl (fun m x => mset m x true) ([] : List (Int × Bool))).length + 0 = (l.foldl (fun m x => mset m x true) ([] : List (Int × Bool))).length := fun _ => rfl
        congr 3
        rw [List.foldl_append, List.length_cons]
        have hset : ∀ (m : List (Int × Bool)), (mget m x).isSome = false → (mset m x true).length = m.length + 1 := by
          intro m
          induction m with
          | nil => intro _; rfl
          | cons p m ih =>
            obtain ⟨a, b⟩ := p
            intro hh
            simp only [mget] at hh
            by_cases e : (x == a) = true
            · rw [if_pos e] at hh; simp at hh
            · rw [if_neg e] at hh
              simp only [mset]
              rw [if_neg e, List.length_cons, ih hh, List.length_cons]
        have := hset (pre.foldl (fun m x => mset m x true) []) (by rw [mget_fold, if_neg h5]; rfl)
        simp only [List.foldl_cons, List.foldl_nil, this]
        omega
      · simp [Bool.eq_false_iff.2 h6]
  · simp
end Go.Sk.X

namespace Go.Sk.X
open Go Go.Sk

/-- what both mean by a formula that they may take -/
def MayQ (q : S_api_Qbf) : Bool :=
  altB none q.Prefix && (singB [] (flat q.Prefix) && ((q.Clauses.all (nrmB 0)) && (q.Clauses.all fun c => c.all fun x => decide (av x ∈ flat q.Prefix))))

theorem flat_eq (p : List S_api_Block) (h : (flat p).length ≤ 100) : F_skolemref03_Flat p = some (flat p) := by
  unfold F_skolemref03_Flat
  refine rangeF_pre p (fun pre s => s = flat pre) (fun _ _ _ => some (flat p)) (fun s hs => by rw [hs]) ?_ p [] [] rfl rfl
  intro pre x xs s kk hf hI hk
  have hl : (flat pre).length + x.Vars.length ≤ (flat p).length := by rw [hf, flat_app]; simp [flat]
  subst hI
  rw [capN_eq (by omega), hk _ (by rw [flat_app, flat_one])]

theorem rmay_eq {q : S_api_Qbf} (h : Sq q) : F_skolemref03_MayQbf q = some (MayQ q) := by
  have h1 := h.bl
  have h2 := h.vs
  have h3 := h.tot
  have h4 := h.cl
  unfold F_skolemref03_MayQbf F_skolemref03_May
  rw [alt_loop q.Prefix h1]
  by_cases hA : altB none q.Prefix = true
  case neg => simp [hA, MayQ, Bool.eq_false_iff.2 hA]
  have hl : (((flat q.Prefix).length : Nat) : Int) ≤ 1024 := by omega
  simp only [hA, if_true, flat_eq q.Prefix h2, Option.bind_some, hl, decide_true, single_eq, MayQ, Bool.true_and]
  by_cases hS : singB [] (flat q.Prefix) = true
  case neg => simp [Bool.eq_false_iff.2 hS]
  have c1 : q.Clauses.length ≤ 20000 := by omega
  have c2 : Go.Sk.X.tot q.Clauses ≤ 200000 := by omega
  simp only [hS, if_true, cnf_eq q.Clauses (by omega), Option.bind_some, c1, c2, decide_true, Bool.and_true, Bool.true_and]
  by_cases hN : q.Clauses.all (nrmB 0) = true
  case neg => simp [Bool.eq_false_iff.2 hN]
  rw [hN]
  simp only [if_true, Bool.true_and]
  rw [within_eq q.Clauses _ (List.all_eq_true.1 hN) (by omega)]
  rfl

theorem pmay_eq {q : S_api_Qbf} (h : Sq q) : F_prefix_MayQbf q = some (MayQ q) := by
  have h1 := h.bl
  have h2 := h.vs
  have h3 := h.tot
  have h4 := h.cl
  unfold F_prefix_MayQbf F_prefix_May
  rw [alt_loop q.Prefix h1]
  by_cases hA : altB none q.Prefix = true
  case neg => simp [hA, MayQ, Bool.eq_false_iff.2 hA]
  rw [if_pos hA, count_eq, Option.bind_some]
  by_cases hS : singB [] (flat q.Prefix) = true
  case neg => simp [hA, MayQ, Bool.eq_false_iff.2 hS]
  have hl : (((flat q.Prefix).length : Nat) : Int) ≤ 1024 := by omega
  simp only [hS, if_true, hl, decide_true, Option.bind_some]
  -- where the variables stand
  have hpl := rangeF_ex (Post := fun Y : List (Int × S_prefix_place) => ∀ v, (mget Y v).isSome = decide (v ∈ flat q.Prefix)) (f := (fun (j2750 : Nat) (x2751 : S_api_Block) (s2747 : (List (Int × S_prefix_place))) k2749 => (rangeF (fun (j2885 : Nat) (x2886 : Int) (s2882 : (List (Int × S_prefix_place))) k2884 => (jn (fun (s2943 : (List (Int × S_prefix_place))) => (k2884 s2943)) (fun k2945 => (if (!(mget s2882 x2886).isSome) = true then (k2945 (mset s2882 x2886 (S_prefix_place.mk ((j2750 : Nat) : Int) x2751.Exists))) else (k2945 s2882))))) 0 x2751.Vars s2747 (fun (s2882 : (List (Int × S_prefix_place))) => (k2749 s2882))))) (k := (fun (s2747 : (List (Int × S_prefix_place))) => (some s2747)))
    q.Prefix (fun pre s => ∀ v, (mget s v).isSome = decide (v ∈ flat pre)) (fun s hs => ⟨s, rfl, hs⟩) ?_ q.Prefix [] [] rfl (by intro v; rfl)
  · obtain ⟨Y, hY, hm⟩ := hpl
    rw [List.length_nil] at hY
    rw [hY]
    have c1 : ¬ ((q.Clauses.length : Nat) : Int) > 20000 := by omega
    simp only [Option.bind_some, c1, decide_false, Bool.false_eq_true, if_false, hm]
    have key := rangeF_pre (f := (fun (j3491 : Nat) (x3492 : (List Int)) (s3488 : Int) (k3490 : Int → Option Bool) => (rangeF (fun (j3902 : Nat) (x3903 : Int) (s3899 : Int) k3901 => (jn (fun (s4091 : Bool) => (if s4091 = true then (some false) else ((F_prefix_abs x3903).bind (fun y4095 => (k3901 y4095))))) (fun k4093 => (if (x3903 == (0 : Int)) = true then (k4093 true) else (if (decide (x3903 < (-65536 : Int))) = true then (k4093 true) else (if (decide (x3903 > (65536 : Int))) = true then (k4093 true) else ((F_prefix_abs x3903).bind (fun y4099 => (if (decide (y4099 ≤ s3899)) = true then (k4093 true) else ((F_prefix_abs x3903).bind (fun y4101 => (k4093 (!(decide (y4101 ∈ flat q.Prefix))))))))))))))) 0 x3492 (0 : Int) (fun (s3899 : Int) => (k3490 (IntKind.wrap .i64 (s3488 + ((x3492.length : Nat) : Int)))))))) (k := fun s3488 => some (decide (s3488 ≤ (200000 : Int))))
      q.Clauses (fun pre s => s = (tot pre : Int)) (fun _ xs _ => some (xs.all fun c => nrmB 0 c && c.all fun x => decide (av x ∈ flat q.Prefix))) ?_ ?_ q.Clauses [] 0 rfl rfl
    · rw [List.length_nil] at key
      rw [key]
      simp only [Option.bind_some, MayQ, hA, hS, Bool.true_and]
      congr 1
      rw [Bool.eq_iff_iff]
      simp only [List.all_eq_true, Bool.and_eq_true]
      exact ⟨fun q => ⟨fun c hc => (q c hc).1, fun c hc => (q c hc).2⟩, fun q c hc => ⟨q.1 c hc, q.2 c hc⟩⟩
    · rintro s rfl
      have c2 : (tot q.Clauses : Int) ≤ 200000 := by omega
      simp [c2]
    · intro pre x xs s kk hf hI hk
      have ht : tot pre + x.length ≤ tot q.Clauses := by rw [hf, tot_app, tot_cons]; omega
      have hk' := hk (IntKind.wrap .i64 (s + ((x.length : Nat) : Int))) (by rw [hI, wrap_id (by omega) (by omega), tot_app]; simp [tot])
      rw [lits_in (fun y => decide (y ∈ flat q.Prefix)) _ x _ (fun _ => hk'), List.all_cons]
      by_cases hx : (nrmB 0 x && x.all fun x => decide (av x ∈ flat q.Prefix)) = true
      · rw [if_pos hx, hx, Bool.true_and]
      · rw [if_neg hx, Bool.eq_false_iff.2 hx, Bool.false_and]
  · intro pre x xs s kk hf hI hk
    refine rangeF_ex x.Vars (fun p2 s => ∀ v, (mget s v).isSome = decide (v ∈ flat pre ++ p2)) (fun s hs => ?_) ?_ x.Vars [] s rfl (by simpa using hI)
    · exact hk s (fun v => by rw [hs v, flat_app, flat_one])
    · intro p2 y ys s k2 hf2 hI2 hk2
      simp only [jn_eq]
      by_cases hy : (mget s y).isSome = true
      · rw [hy, Bool.not_true, if_neg (by decide)]
        refine hk2 s (fun v => ?_)
        rw [hI2 v]
        have hy' := hI2 y
        rw [hy] at hy'
        have hm : y ∈ flat pre ++ p2 := by simpa using hy'.symm
        rw [Bool.eq_iff_iff]
        simp only [decide_eq_true_eq, List.mem_append, List.mem_singleton] at hm ⊢
        constructor
        · rintro (a | a)
          · exact .inl a
          · exact .inr (.inl a)
        · rintro (a | a | rfl)
          · exact .inl a
          · exact .inr a
          · exact hm
      · rw [Bool.eq_false_iff.2 hy, Bool.not_false, if_pos rfl]
        refine hk2 _ (fun v => ?_)
        rw [mget_mset]
        by_cases e : v = y
        · subst e; simp
        · rw [if_neg e, hI2 v]
          simp [e]
end Go.Sk.X

namespace Go.Sk.X
open Go Go.Sk

/-! ### The turns of the game -/
theorem turns_app (a b : List S_api_Block) : turnsP (a ++ b) = turnsP a ++ turnsP b := by simp [turnsP]
theorem turns_len (p : List S_api_Block) : (turnsP p).length = (flat p).length := by rw [← turns_v, List.length_map]
def exs (p : List S_api_Block) : List Bool := (turnsP p).map (·.f_exists)

theorem of_eq (q : S_api_Qbf) (h : (flat q.Prefix).length ≤ 100) : F_truth_of q = some ⟨turnsP q.Prefix, q.Clauses⟩ := by
  unfold F_truth_of
  refine rangeF_pre q.Prefix (fun pre s => s = turnsP pre) (fun _ _ _ => some (S_truth_game.mk (turnsP q.Prefix) q.Clauses)) (fun s hs => by rw [hs]) ?_ q.Prefix [] [] rfl rfl
  intro pre x xs s kk hf hI hk
  have hl : (flat pre).length + x.Vars.length ≤ (flat q.Prefix).length := by rw [hf, flat_app]; simp [flat]
  have ht := turns_len pre
  refine rangeF_pre x.Vars (fun p2 s => s = turnsP pre ++ p2.map fun v => ⟨v, x.Exists⟩) (fun _ _ _ => some (S_truth_game.mk (turnsP q.Prefix) q.Clauses)) (fun s hs => hk s ?_) ?_ x.Vars [] s rfl (by simpa using hI)
  · rw [hs, turns_app]; simp [turnsP]
  · intro p2 y ys s k2 hf2 hI2 hk2
    have hl2 : p2.length < x.Vars.length := by rw [hf2]; simp
    subst hI2
    rw [capN_eq (by simp only [List.length_append, List.length_map, List.length_cons, List.length_nil]; omega), hk2 _ (by simp)]

theorem order_in (x : S_api_Block) (hl : x.Vars.length ≤ 1000) (kk : (List Int × List Bool) → Option (List Int × List Bool)) (l : List Int) (e : List Bool) (h1 : l.length ≤ 1000) (h2 : e.length ≤ 1000) :
    whileF 1000000000000 (fun k170 (s168 : (Int × (List Int) × (List Bool))) => (if (decide (s168.1 < ((x.Vars.length : Nat) : Int))) = true then (getI x.Vars s168.1 (fun x184 => (capN (s168.2.1.length + [x184].length) (capN (s168.2.2.length + [x.Exists].length) (k170 ((IntKind.wrap .i64 (s168.1 + (1 : Int))), (s168.2.1 ++ [x184]), (s168.2.2 ++ [x.Exists]))))))) else (kk (s168.2.1, s168.2.2)))) ((0 : Int), l, e)
      = kk (l ++ x.Vars, e ++ x.Vars.map fun _ => x.Exists) := by
  have := whileF_by (b := (fun k170 (s168 : (Int × (List Int) × (List Bool))) => (if (decide (s168.1 < ((x.Vars.length : Nat) : Int))) = true then (getI x.Vars s168.1 (fun x184 => (capN (s168.2.1.length + [x184].length) (capN (s168.2.2.length + [x.Exists].length) (k170 ((IntKind.wrap .i64 (s168.1 + (1 : Int))), (s168.2.1 ++ [x184]), (s168.2.2 ++ [x.Exists]))))))) else (kk (s168.2.1, s168.2.2)))))
    (fun s => x.Vars.length - s.1.toNat) (fun s => 0 ≤ s.1 ∧ s.1 ≤ x.Vars.length ∧ s.2.1 = l ++ x.Vars.take s.1.toNat ∧ s.2.2 = e ++ (x.Vars.take s.1.toNat).map fun _ => x.Exists) (fun _ => kk (l ++ x.Vars, e ++ x.Vars.map fun _ => x.Exists)) ?_ 1000000000000 (0, l, e) (by simp) (by simp; omega)
  · exact this
  · rintro ⟨i, l2, e2⟩ k ⟨h3, h4, h5, h6⟩ hs
    simp only [] at h3 h4 h5 h6 hs ⊢
    subst h5; subst h6
    by_cases h7 : i < ((x.Vars.length : Nat) : Int)
    · obtain ⟨n, rfl⟩ : ∃ n : Nat, i = n := ⟨i.toNat, by omega⟩
      have hlt : n < x.Vars.length := by omega
      have hw : IntKind.wrap .i64 (((n : Nat) : Int) + 1) = ((n + 1 : Nat) : Int) := by rw [wrap_id (by omega) (by omega)]; omega
      simp only [h7, decide_true, if_true, getI_nat, List.getElem?_eq_getElem hlt, hw, Int.toNat_natCast]
      rw [capN_eq (by simp only [List.length_append, List.length_take, List.length_cons, List.length_nil]; omega), capN_eq (by simp only [List.length_append, List.length_map, List.length_take, List.length_cons, List.length_nil]; omega)]
      refine hs _ ⟨by simp only []; omega, by simp only []; omega, ?_, ?_⟩ (by simp only [Int.toNat_natCast]; omega)
      · simp only [Int.toNat_natCast]
        rw [List.append_assoc, List.take_succ_eq_append_getElem hlt]
      · simp only [Int.toNat_natCast]
        rw [List.append_assoc, List.take_succ_eq_append_getElem hlt, List.map_append]; rfl
    · have : i.toNat = x.Vars.length := by omega
      simp [h7, this]
theorem order_eq (p : List S_api_Block) (h : (flat p).length ≤ 100) : F_skolemref04_order p = some (flat p, exs p) := by
  unfold F_skolemref04_order
  refine rangeF_pre p (fun pre s => s = (flat pre, exs pre)) (fun _ _ _ => some (flat p, exs p)) (fun s hs => by rw [hs]) ?_ p [] ([], []) rfl rfl
  intro pre x xs s kk hf hI hk
  have hl : (flat pre).length + x.Vars.length ≤ (flat p).length := by rw [hf, flat_app]; simp [flat]
  have ht := turns_len pre
  subst hI
  rw [order_in x (by omega) kk _ _ (by simp only []; omega) (by simp only [exs, List.length_map]; omega)]
  refine hk _ ?_
  rw [flat_app, flat_one]
  simp only [exs, turns_app, List.map_append]
  simp [turnsP]

/-! ### The game -/
def upd (f : Int → Bool) (v : Int) (b : Bool) : Int → Bool := fun u => if u = v then b else f u
def litF (f : Int → Bool) (x : Int) : Bool := if x < 0 then !f (-x) else f x
def satF (cs : List (List Int)) (f : Int → Bool) : Bool := cs.all fun c => c.any (litF f)
def gameB (cs : List (List Int)) : List S_truth_turn → (Int → Bool) → Bool
  | [], f => satF cs f
  | t :: ts, f => if (gameB cs ts (upd f t.v false) == t.f_exists) = true then t.f_exists else gameB cs ts (upd f t.v true)

theorem game_congr {cs : List (List Int)} (hnz : ∀ c ∈ cs, ∀ x ∈ c, x ≠ 0) : ∀ (ts : List S_truth_turn) (f g : Int → Bool), (∀ u, 1 ≤ u → u ∉ ts.map (·.v) → f u = g u) → gameB cs ts f = gameB cs ts g
  | [], f, g, h => by
    have key : ∀ c ∈ cs, ∀ x ∈ c, litF f x = litF g x := fun c hc x hx => by
      have h0 := hnz c hc x hx
      unfold litF
      by_cases h1 : x < 0
      · rw [if_pos h1, if_pos h1, h (-x) (by omega) (by simp)]
      · rw [if_neg h1, if_neg h1, h x (by omega) (by simp)]
    simp only [gameB, satF]
    rw [Bool.eq_iff_iff]
    simp only [List.all_eq_true, List.any_eq_true]
    constructor
    · intro a c hc
      obtain ⟨x, hx, e⟩ := a c hc
      exact ⟨x, hx, by rw [← key c hc x hx]; exact e⟩
    · intro a c hc
      obtain ⟨x, hx, e⟩ := a c hc
      exact ⟨x, hx, by rw [key c hc x hx]; exact e⟩
  | t :: ts, f, g, h => by
    have key : ∀ b, gameB cs ts (upd f t.v b) = gameB cs ts (upd g t.v b) := fun b => game_congr hnz ts _ _ (fun u h1 h2 => by
      unfold upd
      by_cases e : u = t.v
      · rw [if_pos e, if_pos e]
      · rw [if_neg e, if_neg e]
        exact h u h1 (by simp only [List.map_cons, List.mem_cons, not_or]; exact ⟨e, h2⟩))
    simp only [gameB, key]

/-! the program's -/
theorem lits_found (m : List (Int × Bool)) (c : List Int) (hr : ∀ x ∈ c, -65536 ≤ x ∧ x ≤ 65536) {R : Type} (kk : Int → Option R) (A B : Option R) (hA : ∀ j : Nat, kk (j : Int) = A) (hB : kk (-1) = B) :
    (rangeF (fun (j881 : Nat) (x882 : Int) (s878 : Unit) k880 => (jn (fun (s922 : Bool) => (if s922 = true then (kk ((j881 : Nat) : Int)) else (k880 ()))) (fun k924 => (if (decide (x882 < (0 : Int))) = true then (k924 (!((mget m (IntKind.wrap .i64 (0 - x882))).getD false))) else (k924 ((mget m x882).getD false)))))) 0 c () (fun (s878 : Unit) => (kk (-1 : Int))))
      = if (c.any (litF fun v => (mget m v).getD false)) = true then A else B := by
  refine rangeF_pre c (fun _ _ => True) (fun _ xs _ => if (xs.any (litF fun v => (mget m v).getD false)) = true then A else B) (fun _ _ => by simp [hB]) ?_ c [] () rfl trivial
  intro pre x xs s k2 hf hI h2
  have hx := hr x (by rw [hf]; simp)
  have hw : IntKind.wrap .i64 (0 - x) = -x := by rw [wrap_id (by omega) (by omega)]; omega
  rw [List.any_cons]
  simp only [jn_eq, hw, h2 () trivial, hA, litF]
  by_cases h : x < 0
  · simp only [h, decide_true, if_true]
    cases ((mget m (-x)).getD false) <;> simp
  · simp only [h, decide_false, Bool.false_eq_true, if_false]
    cases ((mget m x).getD false) <;> simp
theorem prog_sat (m : List (Int × Bool)) (cs : List (List Int)) (hr : ∀ c ∈ cs, ∀ x ∈ c, -65536 ≤ x ∧ x ≤ 65536) {R : Type} (kk : Bool → Option R) :
    (rangeF (fun (j519 : Nat) (x520 : (List Int)) (s516 : Unit) k518 => (jn (fun (s874 : Int) => (if (!(decide (s874 ≥ (0 : Int)))) = true then (kk false) else (k518 ()))) (fun k876 => (rangeF (fun (j881 : Nat) (x882 : Int) (s878 : Unit) k880 => (jn (fun (s922 : Bool) => (if s922 = true then (k876 ((j881 : Nat) : Int)) else (k880 ()))) (fun k924 => (if (decide (x882 < (0 : Int))) = true then (k924 (!((mget m (IntKind.wrap .i64 (0 - x882))).getD false))) else (k924 ((mget m x882).getD false)))))) 0 x520 () (fun (s878 : Unit) => (k876 (-1 : Int))))))) 0 cs () (fun (s516 : Unit) => (kk true)))
      = kk (satF cs fun v => (mget m v).getD false) := by
  refine rangeF_pre cs (fun _ _ => True) (fun _ xs _ => kk (satF xs fun v => (mget m v).getD false)) (fun _ _ => rfl) ?_ cs [] () rfl trivial
  intro pre x xs s k2 hf hI h2
  have e := lits_found m x (hr x (by rw [hf]; simp)) (fun (s874 : Int) => (if (!(decide (s874 ≥ (0 : Int)))) = true then (kk false) else (k2 ()))) (k2 ()) (kk false) (fun j => by
    have : ((j : Nat) : Int) ≥ 0 := by omega
    simp [this]) (by simp)
  refine e.trans ?_
  rw [h2 () trivial]
  simp only [satF, List.all_cons]
  by_cases h : (x.any (litF fun v => (mget m v).getD false)) = true
  · rw [if_pos h, h, Bool.true_and]
  · rw [if_neg h, Bool.eq_false_iff.2 h, Bool.false_and]

theorem left_eq (ts : List S_truth_turn) (cs : List (List Int)) (hnz : ∀ c ∈ cs, ∀ x ∈ c, x ≠ 0) (hr : ∀ c ∈ cs, ∀ x ∈ c, -65536 ≤ x ∧ x ≤ 65536) (hl : ts.length ≤ 1000) : ∀ (m n i : Nat) (mp : List (Int × Bool)), i + m = ts.length → m < n →
    ∃ mp', F_truth_game_left_c1 n ts cs (i : Int) mp = some (gameB cs (ts.drop i) (fun v => (mget mp v).getD false), mp') ∧ ∀ v, v ∉ (ts.drop i).map (·.v) → mget mp' v = mget mp v
  | 0, n, i, mp, hi, hn => by
    obtain ⟨n, rfl⟩ : ∃ k, n = k + 1 := ⟨n - 1, by omega⟩
    have hd : ts.drop i = [] := List.drop_eq_nil_of_le (by omega)
    have h1 : (((i : Nat) : Int) == ((ts.length : Nat) : Int)) = true := by simp; omega
    refine ⟨mp, ?_, fun _ _ => rfl⟩
    simp only [F_truth_game_left_c1, h1, if_true, jn_eq]
    rw [hd]
    exact prog_sat mp cs hr (fun s => some (s, mp))
  | m + 1, n, i, mp, hi, hn => by
    obtain ⟨n, rfl⟩ : ∃ k, n = k + 1 := ⟨n - 1, by omega⟩
    have hlt : i < ts.length := by omega
    have hd : ts.drop i = ts[i] :: ts.drop (i + 1) := by rw [List.drop_eq_getElem_cons hlt]
    have h1 : (((i : Nat) : Int) == ((ts.length : Nat) : Int)) = false := by simp; omega
    have hw : IntKind.wrap .i64 (((i : Nat) : Int) + 1) = ((i + 1 : Nat) : Int) := by rw [wrap_id (by omega) (by omega)]; omega
    generalize ht : ts[i] = t at hd
    obtain ⟨m1, e1, u1⟩ := left_eq ts cs hnz hr hl m n (i + 1) (mset mp t.v false) (by omega) (by omega)
    obtain ⟨m2, e2, u2⟩ := left_eq ts cs hnz hr hl m n (i + 1) (mset m1 t.v true) (by omega) (by omega)
    have f1 : (fun v => (mget (mset mp t.v false) v).getD false) = upd (fun v => (mget mp v).getD false) t.v false := by
      funext v
      rw [mget_mset]; unfold upd
      by_cases e : v = t.v <;> simp [e]
    have f2 : gameB cs (ts.drop (i + 1)) (fun v => (mget (mset m1 t.v true) v).getD false) = gameB cs (ts.drop (i + 1)) (upd (fun v => (mget mp v).getD false) t.v true) := by
      refine game_congr hnz _ _ _ (fun u _ hu => ?_)
      rw [mget_mset]; unfold upd
      by_cases e : u = t.v
      · simp [e]
      · rw [if_neg e, if_neg e, u1 u hu, mget_mset, if_neg e]
    rw [f1] at e1
    rw [f2] at e2
    have hg : ts[i]? = some t := by rw [List.getElem?_eq_getElem hlt, ht]
    simp only [F_truth_game_left_c1, h1, Bool.false_eq_true, if_false, getI_nat, hg, hw, e1, Option.bind_some, e2]
    rw [hd]
    simp only [gameB]
    by_cases hb : (gameB cs (ts.drop (i + 1)) (upd (fun v => (mget mp v).getD false) t.v false) == t.f_exists) = true
    · refine ⟨m1, by simp only [hb, if_true], fun v hv => ?_⟩
      simp only [List.map_cons, List.mem_cons, not_or] at hv
      rw [u1 v hv.2, mget_mset, if_neg hv.1]
    · refine ⟨m2, by simp only [hb, Bool.false_eq_true, if_false], fun v hv => ?_⟩
      simp only [List.map_cons, List.mem_cons, not_or] at hv
      rw [u2 v hv.2, mget_mset, if_neg hv.1, u1 v hv.2, mget_mset, if_neg hv.1]
end Go.Sk.X

namespace Go.Sk.X
open Go Go.Sk

/-! the reference's -/
structure Gd (q : S_api_Qbf) : Prop where
  one : ∀ v ∈ flat q.Prefix, 1 ≤ v ∧ v ≤ 65536
  nd : (flat q.Prefix).Nodup
  nrm : ∀ c ∈ q.Clauses, nrmB 0 c = true
  wi : ∀ c ∈ q.Clauses, ∀ x ∈ c, av x ∈ flat q.Prefix
theorem gd_of {q : S_api_Qbf} (h : MayQ q = true) : Gd q := by
  unfold MayQ at h
  simp only [Bool.and_eq_true] at h
  obtain ⟨_, h2, h3, h4⟩ := h
  obtain ⟨s1, s2, _⟩ := (sing_iff _ _).1 h2
  exact ⟨s1, s2, List.all_eq_true.1 h3, fun c hc x hx => by
    have := List.all_eq_true.1 (List.all_eq_true.1 h4 c hc) x hx
    simpa using this⟩
theorem Gd.lit {q : S_api_Qbf} (h : Gd q) {c : List Int} (hc : c ∈ q.Clauses) {x : Int} (hx : x ∈ c) : x ≠ 0 ∧ -65536 ≤ x ∧ x ≤ 65536 := by
  obtain ⟨h1, h2⟩ := nrm_mem (h.nrm c hc) x hx
  exact ⟨fun e => by subst e; simp [av] at h1, h2⟩

theorem nodup_inj {α β : Type} (f : α → β) : ∀ {l : List α}, (l.map f).Nodup → ∀ {x y : α}, x ∈ l → y ∈ l → f x = f y → x = y
  | [], _, x, y, hx, _, _ => by simp at hx
  | z :: l, h, x, y, hx, hy, e => by
    rw [List.map_cons, List.nodup_cons] at h
    rcases List.mem_cons.1 hx with rfl | hx' <;> rcases List.mem_cons.1 hy with rfl | hy'
    · rfl
    · exact absurd (e ▸ List.mem_map_of_mem hy') h.1
    · exact absurd (e ▸ List.mem_map_of_mem hx') h.1
    · exact nodup_inj f h.2 hx' hy' e

theorem sat_same {q : S_api_Qbf} (h : Gd q) {a : List Int} (ha : a.map av = flat q.Prefix) : satB q.Clauses a = satF q.Clauses (fun u => decide (u ∈ a)) := by
  have nd : (a.map av).Nodup := by rw [ha]; exact h.nd
  have key : ∀ c ∈ q.Clauses, ∀ x ∈ c, decide (x ∈ a) = litF (fun u => decide (u ∈ a)) x := by
    intro c hc x hx
    unfold litF
    by_cases h0 : x < 0
    · rw [if_pos h0, Bool.eq_iff_iff]
      simp only [decide_eq_true_eq, Bool.not_eq_true', decide_eq_false_iff_not]
      have hm := h.wi c hc x hx
      rw [← ha] at hm
      obtain ⟨y, hy, hyx⟩ := List.mem_map.1 hm
      constructor
      · intro h1 h2
        have := nodup_inj av nd h1 h2 (av_neg x).symm
        omega
      · intro h1
        rcases av_eq hyx with e | e
        · exact e ▸ hy
        · exact absurd (e ▸ hy) h1
    · rw [if_neg h0]
  simp only [satB, satF]
  rw [Bool.eq_iff_iff]
  simp only [List.all_eq_true, List.any_eq_true]
  constructor
  · intro b c hc
    obtain ⟨x, hx, e⟩ := b c hc
    exact ⟨x, hx, by rw [← key c hc x hx]; exact e⟩
  · intro b c hc
    obtain ⟨x, hx, e⟩ := b c hc
    exact ⟨x, hx, by rw [key c hc x hx]; exact e⟩

theorem rleft_eq {q : S_api_Qbf} (hq : Sq q) (h : Gd q) : ∀ (m n : Nat) (a : List Int), a.length + m = (flat q.Prefix).length → m < n → a.map av = (flat q.Prefix).take a.length →
    F_skolemref04_Left n q a = some (gameB q.Clauses ((turnsP q.Prefix).drop a.length) (fun u => decide (u ∈ a)))
  | 0, n, a, hi, hn, ha => by
    obtain ⟨n, rfl⟩ : ∃ k, n = k + 1 := ⟨n - 1, by omega⟩
    have hvs := hq.vs
    have htot := hq.tot
    have hd : (turnsP q.Prefix).drop a.length = [] := List.drop_eq_nil_of_le (by rw [turns_len]; omega)
    have h1 : (((a.length : Nat) : Int) == (((flat q.Prefix).length : Nat) : Int)) = true := by simp; omega
    simp only [F_skolemref04_Left, order_eq q.Prefix hvs, Option.bind_some, h1, if_true]
    rw [sat_eq q.Clauses a (by omega), Option.bind_some, hd, gameB, sat_same h]
    rw [ha, List.take_of_length_le (by omega)]
  | m + 1, n, a, hi, hn, ha => by
    obtain ⟨n, rfl⟩ : ∃ k, n = k + 1 := ⟨n - 1, by omega⟩
    have hvs := hq.vs
    have hlt : a.length < (flat q.Prefix).length := by omega
    have hlt' : a.length < (turnsP q.Prefix).length := by rw [turns_len]; exact hlt
    have h1 : (((a.length : Nat) : Int) == (((flat q.Prefix).length : Nat) : Int)) = false := by simp; omega
    have hd : (turnsP q.Prefix).drop a.length = (turnsP q.Prefix)[a.length] :: (turnsP q.Prefix).drop (a.length + 1) := by rw [List.drop_eq_getElem_cons hlt']
    generalize ht : (turnsP q.Prefix)[a.length] = t at hd
    have hg0 : (turnsP q.Prefix)[a.length]? = some t := by rw [List.getElem?_eq_getElem hlt', ht]
    have hgv : (flat q.Prefix)[a.length]? = some t.v := by rw [← turns_v, List.getElem?_map, hg0]; rfl
    have hge : (exs q.Prefix)[a.length]? = some t.f_exists := by rw [exs, List.getElem?_map, hg0]; rfl
    have hvm : t.v ∈ flat q.Prefix := List.mem_of_getElem? hgv
    have hv := h.one _ hvm
    have hw : IntKind.wrap .i64 (0 - t.v) = -t.v := by rw [wrap_id (by omega) (by omega)]; omega
    have hav1 : av t.v = t.v := by unfold av; rw [if_neg (by omega)]
    have hav2 : av (-t.v) = t.v := by rw [av_neg, hav1]
    have htake : (flat q.Prefix).take (a.length + 1) = (flat q.Prefix).take a.length ++ [t.v] := by
      rw [List.take_add_one, hgv]; rfl
    have hnot : t.v ∉ (flat q.Prefix).take a.length := by
      intro hm
      have hnd : ((flat q.Prefix).take (a.length + 1)).Nodup := h.nd.sublist (List.take_sublist ..)
      rw [htake, List.nodup_append] at hnd
      exact hnd.2.2 _ hm _ (by simp) rfl
    have hna : ∀ y ∈ a, av y ≠ t.v := fun y hy e => hnot (ha ▸ e ▸ List.mem_map_of_mem hy)
    have e1 := rleft_eq hq h m n (a ++ [-t.v]) (by simp; omega) (by omega) (by rw [List.map_append, List.map_cons, List.map_nil, hav2, ha, List.length_append, List.length_cons, List.length_nil, Nat.zero_add, htake])
    have e2 := rleft_eq hq h m n (a ++ [t.v]) (by simp; omega) (by omega) (by rw [List.map_append, List.map_cons, List.map_nil, hav1, ha, List.length_append, List.length_cons, List.length_nil, Nat.zero_add, htake])
    rw [List.length_append, List.length_cons, List.length_nil, Nat.zero_add] at e1 e2
    have hnz : ∀ c ∈ q.Clauses, ∀ x ∈ c, x ≠ 0 := fun c hc x hx => (h.lit hc hx).1
    have f1 : gameB q.Clauses ((turnsP q.Prefix).drop (a.length + 1)) (fun u => decide (u ∈ a ++ [-t.v])) = gameB q.Clauses ((turnsP q.Prefix).drop (a.length + 1)) (upd (fun u => decide (u ∈ a)) t.v false) := by
      refine game_congr hnz _ _ _ (fun u h1 _ => ?_)
      unfold upd
      by_cases e : u = t.v
      · rw [if_pos e]
        have h3 : u ∉ a := fun hm => hna u hm (by rw [e, hav1])
        have h4 : ¬ u = -t.v := by omega
        simp [h3, h4]
      · rw [if_neg e]
        have h4 : ¬ u = -t.v := by omega
        simp [h4]
    have f2 : gameB q.Clauses ((turnsP q.Prefix).drop (a.length + 1)) (fun u => decide (u ∈ a ++ [t.v])) = gameB q.Clauses ((turnsP q.Prefix).drop (a.length + 1)) (upd (fun u => decide (u ∈ a)) t.v true) := by
      refine game_congr hnz _ _ _ (fun u h1 _ => ?_)
      unfold upd
      by_cases e : u = t.v
      · simp [e]
      · simp [e]
    rw [f1] at e1
    rw [f2] at e2
    simp only [F_skolemref04_Left, order_eq q.Prefix hvs, Option.bind_some, h1, Bool.false_eq_true, if_false, getI_nat, hgv, hge, hw, List.nil_append]
    rw [capN_eq (by simp; omega)]
    rw [capN_eq (by simp; omega), e1, Option.bind_some, hd]
    simp only [gameB]
    by_cases hb : (gameB q.Clauses ((turnsP q.Prefix).drop (a.length + 1)) (upd (fun u => decide (u ∈ a)) t.v false) == t.f_exists) = true
    · rw [if_pos hb, if_pos hb]
      congr 1
      simpa using hb
    · rw [if_neg hb, if_neg hb]
      rw [capN_eq (by simp; omega), capN_eq (by simp; omega), e2]; rfl

/-! ### The law -/
theorem head_eq : F_skolemlaw04_head = some true := by decide +kernel

theorem qbf_p {q : S_api_Qbf} (h : Sq q) : F_truth_Qbf q = some (if MayQ q = true then (if (flat q.Prefix).length > 16 then (0, 3) else (if gameB q.Clauses (turnsP q.Prefix) (fun _ => false) = true then 1 else 2, 0)) else (0, 2)) := by
  have hvs := h.vs
  unfold F_truth_Qbf F_truth_small
  rw [pmay_eq h, Option.bind_some, of_eq q hvs]
  simp only [Option.bind_some, turns_len]
  by_cases hM : MayQ q = true
  case neg => simp [Bool.eq_false_iff.2 hM]
  have g := gd_of hM
  by_cases h16 : (flat q.Prefix).length > 16
  · have : (((flat q.Prefix).length : Nat) : Int) > 16 := by omega
    simp [hM, h16, this]
  have h16' : ¬ (((flat q.Prefix).length : Nat) : Int) > 16 := by omega
  obtain ⟨mp, e, _⟩ := left_eq (turnsP q.Prefix) q.Clauses (fun c hc x hx => (g.lit hc hx).1) (fun c hc x hx => (g.lit hc hx).2) (by rw [turns_len]; omega) (turnsP q.Prefix).length 1000000 0 [] (by omega) (by rw [turns_len]; omega)
  rw [List.drop_zero] at e
  have e' : F_truth_game_left_c1 1000000 (turnsP q.Prefix) q.Clauses 0 [] = some (gameB q.Clauses (turnsP q.Prefix) (fun _ => false), mp) := e
  simp only [hM, h16, h16', e', Bool.not_true, Bool.false_eq_true, if_true, if_false, decide_false, Option.bind_some, bne_self_eq_false, F_truth_value]
  by_cases hg : gameB q.Clauses (turnsP q.Prefix) (fun _ => false) = true
  · simp [hg]
  · simp [Bool.eq_false_iff.2 hg]
theorem qbf_r {q : S_api_Qbf} (h : Sq q) : F_skolemref04_Qbf q = some (if MayQ q = true then (if (flat q.Prefix).length > 16 then (0, 3) else (if gameB q.Clauses (turnsP q.Prefix) (fun _ => false) = true then 1 else 2, 0)) else (0, 2)) := by
  have hvs := h.vs
  unfold F_skolemref04_Qbf
  rw [rmay_eq h, Option.bind_some, order_eq q.Prefix hvs]
  simp only [Option.bind_some]
  by_cases hM : MayQ q = true
  case neg => simp [Bool.eq_false_iff.2 hM]
  have g := gd_of hM
  by_cases h16 : (flat q.Prefix).length > 16
  · have : (((flat q.Prefix).length : Nat) : Int) > 16 := by omega
    simp [hM, h16, this]
  have h16' : ¬ (((flat q.Prefix).length : Nat) : Int) > 16 := by omega
  have e := rleft_eq h g (flat q.Prefix).length 1000000 [] (by simp) (by omega) (by simp)
  rw [List.length_nil, List.drop_zero] at e
  have e' : F_skolemref04_Left 1000000 q [] = some (gameB q.Clauses (turnsP q.Prefix) (fun _ => false)) := by rw [e]; congr 2
  simp only [hM, h16, h16', e', Bool.not_true, Bool.false_eq_true, if_true, if_false, decide_false, Option.bind_some]
  by_cases hg : gameB q.Clauses (turnsP q.Prefix) (fun _ => false) = true
  · simp [hg]
  · simp [Bool.eq_false_iff.2 hg]

theorem law_TruthQbf {a0 : S_api_Qbf} (h0 : Z_S_api_Qbf a0) : F_skolemlaw04_TruthQbf a0 = some true := by
  obtain ⟨b, hb, hs⟩ := great_eq h0
  unfold F_skolemlaw04_TruthQbf
  rw [hb, Option.bind_some]
  cases b
  · have h := hs rfl
    rw [qbf_p h, qbf_r h, head_eq]
    simp
  · simp [head_eq]
end Go.Sk.X
