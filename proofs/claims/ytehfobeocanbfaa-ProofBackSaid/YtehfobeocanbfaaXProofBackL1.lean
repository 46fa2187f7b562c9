/- The plain law of ProofBack, part 1: about numbers and lists alone. It has no conditions. -/
import Derived.Test.YtehfobeocanbfaaXProofBackF
set_option linter.unusedVariables false
set_option linter.unusedSimpArgs false
namespace Go.Sk
open Go

/-! ### Plain words -/
theorem jn_eq {S R : Type} (f : S → Option R) (g : (S → Option R) → Option R) : jn f g = g f := rfl
theorem rangeF_nil {α S R : Type} (f : Nat → α → S → (S → Option R) → Option R) (i : Nat) (s : S) (k : S → Option R) : rangeF f i [] s k = k s := rfl
theorem rangeF_cons {α S R : Type} (f : Nat → α → S → (S → Option R) → Option R) (i : Nat) (x : α) (xs : List α) (s : S) (k : S → Option R) : rangeF f i (x :: xs) s k = f i x s (fun s' => rangeF f (i + 1) xs s' k) := rfl
theorem upF_zero {S R : Type} (f : Int → S → (S → Option R) → Option R) (i : Int) (s : S) (k : S → Option R) : upF f 0 i s k = k s := rfl
theorem upF_succ {S R : Type} (f : Int → S → (S → Option R) → Option R) (n : Nat) (i : Int) (s : S) (k : S → Option R) : upF f (n + 1) i s k = f i s (fun s' => upF f n (i + 1) s' k) := rfl
theorem whileF_succ {S R : Type} (n : Nat) (b : (S → Option R) → S → Option R) (s : S) : whileF (n + 1) b s = b (whileF n b) s := rfl

/-- a while loop by a measure -/
theorem whileF_by {S R : Type} {b : (S → Option R) → S → Option R} (μ : S → Nat) (I : S → Prop) (g : S → Option R)
    (step : ∀ s k, I s → (∀ s', I s' → μ s' < μ s → k s' = g s') → b k s = g s) : ∀ n s, I s → μ s < n → whileF n b s = g s
  | 0, s, _, h => absurd h (Nat.not_lt_zero _)
  | n + 1, s, hI, h => by
    rw [whileF_succ]
    exact step s _ hI (fun s' h1 h2 => whileF_by μ I g step n s' h1 (by omega))

theorem rangeF_eq {α S R : Type} {f : Nat → α → S → (S → Option R) → Option R} {k : S → Option R} (g : Nat → List α → S → Option R) (h0 : ∀ j s, g j [] s = k s)
    (h1 : ∀ j x xs s kk, (∀ s', kk s' = g (j + 1) xs s') → f j x s kk = g j (x :: xs) s) : ∀ xs j s, rangeF f j xs s k = g j xs s
  | [], j, s => (h0 j s).symm
  | x :: xs, j, s => h1 j x xs s _ (fun s' => rangeF_eq g h0 h1 xs (j + 1) s')

/-- where what went before matters -/
theorem rangeF_pre {α S R : Type} {f : Nat → α → S → (S → Option R) → Option R} {k : S → Option R} (full : List α) (I : List α → S → Prop) (g : List α → List α → S → Option R) (h0 : ∀ s, I full s → k s = g full [] s)
    (h1 : ∀ pre x xs s kk, full = pre ++ x :: xs → I pre s → (∀ s', I (pre ++ [x]) s' → kk s' = g (pre ++ [x]) xs s') → f pre.length x s kk = g pre (x :: xs) s) : ∀ xs pre s, full = pre ++ xs → I pre s → rangeF f pre.length xs s k = g pre xs s
  | [], pre, s, hf, hI => by
    rw [List.append_nil] at hf; subst hf
    exact h0 s hI
  | x :: xs, pre, s, hf, hI => by
    refine h1 pre x xs s _ hf hI (fun s' hs' => ?_)
    have := rangeF_pre full I g h0 h1 xs (pre ++ [x]) s' (by simp [hf]) hs'
    rw [List.length_append] at this
    exact this

theorem wrap_id {n : Int} (h0 : -9223372036854775808 ≤ n) (h1 : n ≤ 9223372036854775807) : IntKind.wrap .i64 n = n := by
  simp only [IntKind.wrap, IntKind.bits, IntKind.signed]
  simp only [Bool.true_and]
  split <;> rename_i h <;> simp only [ge_iff_le, decide_eq_true_eq] at h <;> omega

theorem inK64 {n : Int} : InK .i64 n ↔ -9223372036854775808 ≤ n ∧ n ≤ 9223372036854775807 := Iff.rfl

/-! ### Normal lists of literals -/
def av (x : Int) : Int := if x < 0 then -x else x
def nrmB (last : Int) : List Int → Bool
  | [] => true
  | x :: xs => decide (-65536 ≤ x) && decide (x ≤ 65536) && decide (last < av x) && nrmB (av x) xs

theorem av_nonneg (x : Int) : 0 ≤ av x := by unfold av; split <;> omega
theorem av_neg (x : Int) : av (-x) = av x := by unfold av; split <;> split <;> omega
theorem av_eq {x y : Int} (h : av x = av y) : x = y ∨ x = -y := by unfold av at h; split at h <;> split at h <;> omega

theorem nrm_cons {c x : Int} {xs : List Int} : nrmB c (x :: xs) = true ↔ -65536 ≤ x ∧ x ≤ 65536 ∧ c < av x ∧ nrmB (av x) xs = true := by
  simp [nrmB, and_assoc]
theorem nrm_mono {c c' : Int} (h : c' ≤ c) : ∀ {l : List Int}, nrmB c l = true → nrmB c' l = true
  | [], _ => rfl
  | x :: xs, h' => by
    rw [nrm_cons] at h' ⊢
    exact ⟨h'.1, h'.2.1, by omega, h'.2.2.2⟩
theorem nrm_mem : ∀ {c : Int} {l : List Int}, nrmB c l = true → ∀ x ∈ l, c < av x ∧ -65536 ≤ x ∧ x ≤ 65536
  | c, [], _, x, h => by simp at h
  | c, y :: ys, h, x, hx => by
    rw [nrm_cons] at h
    rcases List.mem_cons.1 hx with rfl | hx
    · exact ⟨h.2.2.1, h.1, h.2.1⟩
    · have := nrm_mem h.2.2.2 x hx
      exact ⟨by omega, this.2⟩
theorem nrm_ext : ∀ {l l' : List Int} {c c' : Int}, nrmB c l = true → nrmB c' l' = true → (∀ x, x ∈ l ↔ x ∈ l') → l = l'
  | [], [], _, _, _, _, _ => rfl
  | [], y :: ys, _, _, _, _, h => by have := (h y).2 (by simp); simp at this
  | x :: xs, [], _, _, _, _, h => by have := (h x).1 (by simp); simp at this
  | x :: xs, y :: ys, c, c', h1, h2, h => by
    rw [nrm_cons] at h1 h2
    have hxy : x = y := by
      have hx := (h x).1 (by simp)
      have hy := (h y).2 (by simp)
      rcases List.mem_cons.1 hx with e | hx
      · exact e
      · rcases List.mem_cons.1 hy with e | hy
        · exact e.symm
        · have := (nrm_mem h2.2.2.2 x hx).1
          have := (nrm_mem h1.2.2.2 y hy).1
          omega
    subst hxy
    congr 1
    refine nrm_ext h1.2.2.2 h2.2.2.2 (fun z => ⟨fun hz => ?_, fun hz => ?_⟩)
    · rcases List.mem_cons.1 ((h z).1 (by simp [hz])) with e | e
      · subst e; have := (nrm_mem h1.2.2.2 z hz).1; omega
      · exact e
    · rcases List.mem_cons.1 ((h z).2 (by simp [hz])) with e | e
      · subst e; have := (nrm_mem h2.2.2.2 z hz).1; omega
      · exact e
theorem nrm_filter (p : Int → Bool) : ∀ {l : List Int} {c : Int}, nrmB c l = true → nrmB c (l.filter p) = true
  | [], _, h => rfl
  | x :: xs, c, h => by
    rw [nrm_cons] at h
    simp only [List.filter_cons]
    split
    · rw [nrm_cons]; exact ⟨h.1, h.2.1, h.2.2.1, nrm_filter p h.2.2.2⟩
    · exact nrm_mono (by omega) (nrm_filter p h.2.2.2)
theorem nrm_two {c : Int} {l : List Int} (h : nrmB c l = true) (hc : 0 ≤ c) {x y : Int} (hx : x ∈ l) (hy : y ∈ l) (e : av x = av y) : x = y := by
  induction l generalizing c with
  | nil => simp at hx
  | cons z zs ih =>
    rw [nrm_cons] at h
    rcases List.mem_cons.1 hx with e1 | hx1 <;> rcases List.mem_cons.1 hy with e2 | hy1
    · rw [e1, e2]
    · subst e1; have := (nrm_mem h.2.2.2 y hy1).1; omega
    · subst e2; have := (nrm_mem h.2.2.2 x hx1).1; omega
    · exact ih h.2.2.2 (av_nonneg z) hx1 hy1

/-- a literal among sorted ones, unless its variable is there -/
def ins (x : Int) : List Int → List Int
  | [] => [x]
  | y :: ys => if av x < av y then x :: y :: ys else if av x = av y then y :: ys else y :: ins x ys

theorem nrm_ins {x : Int} (h1 : -65536 ≤ x) (h2 : x ≤ 65536) : ∀ {l : List Int} {c : Int}, c < av x → nrmB c l = true → nrmB c (ins x l) = true
  | [], c, hc, _ => by rw [ins, nrm_cons]; exact ⟨h1, h2, hc, rfl⟩
  | y :: ys, c, hc, h => by
    have h' := nrm_cons.1 h
    simp only [ins]
    split
    · rw [nrm_cons, nrm_cons]; exact ⟨h1, h2, hc, h'.1, h'.2.1, by assumption, h'.2.2.2⟩
    · split
      · exact h
      · rw [nrm_cons]; exact ⟨h'.1, h'.2.1, h'.2.2.1, nrm_ins h1 h2 (by omega) h'.2.2.2⟩

theorem mem_ins {x z : Int} : ∀ {l : List Int}, (∀ y ∈ l, av y = av x → y = x) → (z ∈ ins x l ↔ z = x ∨ z ∈ l)
  | [], _ => by simp [ins]
  | y :: ys, h => by
    simp only [ins]
    split
    · simp
    · split
      · rename_i e
        have := h y (by simp) e.symm
        subst this
        simp
      · rw [List.mem_cons, mem_ins (fun w hw => h w (by simp [hw])), List.mem_cons]
        constructor
        · rintro (h | h | h) <;> simp [h]
        · rintro (h | h | h) <;> simp [h]

end Go.Sk

namespace Go.Sk
open Go

/-! ### Loops: what is shown of an end -/
def Has1 {R : Type} (Post : R → Prop) (x : Option R) : Prop := ∃ r, x = some r ∧ Post r

theorem rangeF_ex {α S R : Type} {Post : R → Prop} {f : Nat → α → S → (S → Option R) → Option R} {k : S → Option R} (full : List α) (I : List α → S → Prop) (h0 : ∀ s, I full s → Has1 Post (k s))
    (h1 : ∀ pre x xs s kk, full = pre ++ x :: xs → I pre s → (∀ s', I (pre ++ [x]) s' → Has1 Post (kk s')) → Has1 Post (f pre.length x s kk)) : ∀ xs pre s, full = pre ++ xs → I pre s → Has1 Post (rangeF f pre.length xs s k)
  | [], pre, s, hf, hI => by
    rw [List.append_nil] at hf; subst hf
    exact h0 s hI
  | x :: xs, pre, s, hf, hI => by
    refine h1 pre x xs s _ hf hI (fun s' hs' => ?_)
    have := rangeF_ex full I h0 h1 xs (pre ++ [x]) s' (by simp [hf]) hs'
    rw [List.length_append] at this
    exact this
theorem upF_ex {S R : Type} {Post : R → Prop} {f : Int → S → (S → Option R) → Option R} {k : S → Option R} (lo : Int) (n : Nat) (I : Nat → S → Prop) (h0 : ∀ s, I n s → Has1 Post (k s))
    (h1 : ∀ j s kk, j < n → I j s → (∀ s', I (j + 1) s' → Has1 Post (kk s')) → Has1 Post (f (lo + j) s kk)) : ∀ m j s, j + m = n → I j s → Has1 Post (upF f m (lo + j) s k)
  | 0, j, s, hf, hI => by
    have : j = n := by omega
    subst this; exact h0 s hI
  | m + 1, j, s, hf, hI => by
    rw [upF_succ]
    refine h1 j s _ (by omega) hI (fun s' hs' => ?_)
    have := upF_ex lo n I h0 h1 m (j + 1) s' (by omega) hs'
    have e : lo + ((j + 1 : Nat) : Int) = lo + j + 1 := by omega
    rw [e] at this
    exact this
theorem upF_ex0 {S R : Type} {Post : R → Prop} {f : Int → S → (S → Option R) → Option R} {k : S → Option R} (lo : Int) (n : Nat) (I : Nat → S → Prop) (h0 : ∀ s, I n s → Has1 Post (k s))
    (h1 : ∀ j s kk, j < n → I j s → (∀ s', I (j + 1) s' → Has1 Post (kk s')) → Has1 Post (f (lo + j) s kk)) (s : S) (hI : I 0 s) : Has1 Post (upF f n lo s k) := by
  have h := upF_ex lo n I h0 h1 n 0 s (by omega) hI
  rwa [show lo + ((0 : Nat) : Int) = lo by simp] at h
theorem whileF_ex {S R : Type} {Post : R → Prop} {b : (S → Option R) → S → Option R} (μ : S → Nat) (I : S → Prop)
    (step : ∀ s k, I s → (∀ s', I s' → μ s' < μ s → Has1 Post (k s')) → Has1 Post (b k s)) : ∀ n s, I s → μ s < n → Has1 Post (whileF n b s)
  | 0, s, _, h => absurd h (Nat.not_lt_zero _)
  | n + 1, s, hI, h => by
    rw [whileF_succ]
    exact step s _ hI (fun s' h1 h2 => whileF_ex μ I step n s' h1 (by omega))
/-- a loop that only collects -/
theorem rangeF_fold {α S R : Type} (g : S → α → S) (k : S → Option R) : ∀ (xs : List α) (j : Nat) (s : S), rangeF (fun _ x s k => k (g s x)) j xs s k = k (xs.foldl g s)
  | [], _, _ => rfl
  | x :: xs, j, s => by rw [rangeF_cons]; exact rangeF_fold g k xs (j + 1) (g s x)

/-! ### Variables that ascend -/
def rsB (c : Int) : List Int → Bool
  | [] => true
  | x :: xs => decide (c < x) && (decide (x ≤ 65536) && rsB x xs)
theorem rsB_cons {c x : Int} {xs : List Int} : rsB c (x :: xs) = true ↔ c < x ∧ x ≤ 65536 ∧ rsB x xs = true := by simp [rsB]
theorem rsB_mem : ∀ {l : List Int} {c : Int}, rsB c l = true → ∀ x ∈ l, c < x ∧ x ≤ 65536
  | [], _, _, x, hx => by simp at hx
  | y :: l, c, h, x, hx => by
    obtain ⟨h1, h2, h3⟩ := rsB_cons.1 h
    rcases List.mem_cons.1 hx with rfl | hx
    · exact ⟨h1, h2⟩
    · have := rsB_mem h3 x hx
      exact ⟨by omega, this.2⟩
theorem rsB_nodup : ∀ {l : List Int} {c : Int}, rsB c l = true → l.Nodup
  | [], _, _ => List.nodup_nil
  | y :: l, c, h => by
    obtain ⟨h1, h2, h3⟩ := rsB_cons.1 h
    exact List.nodup_cons.2 ⟨fun hm => by have := (rsB_mem h3 y hm).1; omega, rsB_nodup h3⟩
def lastD (l : List Int) : Int := (l.getLast?).getD 0
theorem lastD_app (l : List Int) (x : Int) : lastD (l ++ [x]) = x := by simp [lastD]
theorem lastD_get {l : List Int} (h : 0 < l.length) : l[l.length - 1]? = some (lastD l) := by
  unfold lastD
  rw [List.getLast?_eq_getElem?]
  have : l.length - 1 < l.length := by omega
  rw [List.getElem?_eq_getElem this]; rfl

/-! ### Maps in which only the keys count -/
theorem mget_fold {β : Type} (v : β) : ∀ (xs : List Int) (m : List (Int × β)) (k : Int), mget (xs.foldl (fun m x => mset m x v) m) k = if k ∈ xs then some v else mget m k
  | [], m, k => by simp
  | x :: xs, m, k => by
    rw [List.foldl_cons, mget_fold v xs, mget_mset]
    by_cases h1 : k ∈ xs
    · simp [h1]
    · by_cases h2 : k = x <;> simp [h1, h2]
end Go.Sk

namespace Go.Sk.X
open Go Go.Sk

/-! ### Numbers as bytes -/
def zig (v : Int) : Nat := if v < 0 then (-2 * v - 1).toNat else (2 * v).toNat
def vint (u : Nat) : List Int := if h : u < 128 then [(u : Int)] else ((u % 128 + 128 : Nat) : Int) :: vint (u / 128)
termination_by u
decreasing_by omega
theorem wrapu64 (n : Int) : IntKind.wrap .u64 n = n % 18446744073709551616 := by
  simp only [IntKind.wrap, IntKind.bits, IntKind.signed]
  simp
theorem wrapu8 (n : Int) : IntKind.wrap .u8 n = n % 256 := by
  simp only [IntKind.wrap, IntKind.bits, IntKind.signed]
  simp
theorem wrapi64 (n : Int) : IntKind.wrap .u64 (IntKind.wrap .i64 n) = n % 18446744073709551616 := by
  rw [wrapu64]
  simp only [IntKind.wrap, IntKind.bits, IntKind.signed]
  simp only [Bool.true_and]
  split <;> rename_i h <;> simp only [ge_iff_le, decide_eq_true_eq] at h <;> omega

theorem refLoop : ∀ (k n u : Nat) (acc : List Int), u < 128 ^ (k + 1) → u < 18446744073709551616 → k < n → acc.length + k ≤ 1000 →
    whileF n (fun k107 (s105 : (Int × (List Int))) => (if (decide (s105.1 ≥ (128 : Int))) = true then (capN (s105.2.length + [(IntKind.wrap .u8 (IntKind.wrap .u64 ((Int.tmod s105.1 (128 : Int)) + (128 : Int))))].length) (k107 ((IntKind.wrap .u64 (Int.tdiv s105.1 (128 : Int))), (s105.2 ++ [(IntKind.wrap .u8 (IntKind.wrap .u64 ((Int.tmod s105.1 (128 : Int)) + (128 : Int))))])))) else (capN (s105.2.length + [(IntKind.wrap .u8 s105.1)].length) (some (s105.2 ++ [(IntKind.wrap .u8 s105.1)]))))) ((u : Int), acc) = some (acc ++ vint u) := by
  intro k
  induction k with
  | zero =>
    intro n u acc hu hb hn ha
    obtain ⟨m, rfl⟩ : ∃ m, n = m + 1 := ⟨n - 1, by omega⟩
    have hu' : u < 128 := by simpa using hu
    have h1 : ¬ ((u : Int) ≥ 128) := by omega
    have h2 : IntKind.wrap .u8 (u : Int) = (u : Int) := by rw [wrapu8]; omega
    rw [whileF_succ]
    simp only [h1, decide_false, Bool.false_eq_true, if_false, h2]
    rw [capN_eq (by simp; omega), vint, dif_pos hu']
  | succ k ih =>
    intro n u acc hu hb hn ha
    obtain ⟨m, rfl⟩ : ∃ m, n = m + 1 := ⟨n - 1, by omega⟩
    rw [whileF_succ]
    by_cases hu' : u < 128
    · have h1 : ¬ ((u : Int) ≥ 128) := by omega
      have h2 : IntKind.wrap .u8 (u : Int) = (u : Int) := by rw [wrapu8]; omega
      simp only [h1, decide_false, Bool.false_eq_true, if_false, h2]
      rw [capN_eq (by simp; omega), vint, dif_pos hu']
    · have h1 : (u : Int) ≥ 128 := by omega
      have ht : Int.tmod (u : Int) 128 = (u : Int) % 128 := Int.tmod_eq_emod_of_nonneg (by omega)
      have hd : Int.tdiv (u : Int) 128 = (u : Int) / 128 := Int.tdiv_eq_ediv_of_nonneg (by omega)
      have e1 : IntKind.wrap .u8 (IntKind.wrap .u64 (Int.tmod (u : Int) 128 + 128)) = ((u % 128 + 128 : Nat) : Int) := by rw [wrapu8, wrapu64, ht]; omega
      have e2 : IntKind.wrap .u64 (Int.tdiv (u : Int) 128) = ((u / 128 : Nat) : Int) := by rw [wrapu64, hd]; omega
      simp only [h1, decide_true, if_true, e1, e2]
      have hp : u / 128 < 128 ^ (k + 1) := by
        rw [Nat.div_lt_iff_lt_mul (by decide)]
        rw [Nat.pow_succ] at hu
        exact hu
      rw [capN_eq (by simp; omega), ih m (u / 128) _ hp (by omega) (by omega) (by simp; omega)]
      conv => rhs; rw [vint, dif_neg hu']
      simp
theorem zig_lt {v : Int} (h0 : -9223372036854775808 ≤ v) (h1 : v ≤ 9223372036854775807) : zig v < 18446744073709551616 := by
  unfold zig; split <;> omega
theorem number_eq {v : Int} (h0 : -9223372036854775808 ≤ v) (h1 : v ≤ 9223372036854775807) : F_skolemref10_Number v = some (vint (zig v)) := by
  unfold F_skolemref10_Number
  have hz := zig_lt h0 h1
  have hz2 : zig v < 128 ^ (10 + 1) := Nat.lt_of_lt_of_le hz (by decide)
  have key := refLoop 10 1000000000000 (zig v) [] hz2 hz (by decide) (by simp)
  rw [List.nil_append] at key
  simp only [jn_eq]
  by_cases h : v < 0
  · have e : IntKind.wrap .u64 ((IntKind.wrap .u64 ((2 : Int) * (IntKind.wrap .u64 (IntKind.wrap .i64 (0 - (IntKind.wrap .i64 (v + (1 : Int)))))))) + (1 : Int)) = (zig v : Int) := by
      rw [wrap_id (n := v + 1) (by omega) (by omega), wrapi64, wrapu64, wrapu64]
      unfold zig; rw [if_pos h]; omega
    simp only [h, decide_true, if_true, e]
    exact key
  · have e : IntKind.wrap .u64 ((2 : Int) * (IntKind.wrap .u64 v)) = (zig v : Int) := by
      rw [wrapu64, wrapu64]
      unfold zig; rw [if_neg h]; omega
    simp only [h, decide_false, Bool.false_eq_true, if_false, e]
    exact key

/-! the program's own way -/
theorem or128 : ∀ n : Nat, n < 256 → (BitVec.ofInt 8 (n : Int) ||| BitVec.ofInt 8 128).toNat = n % 128 + 128 := by decide +kernel
theorem zig_prog {v : Int} (h0 : -9223372036854775808 ≤ v) (h1 : v ≤ 9223372036854775807) :
    IntKind.wrap .u64 ((BitVec.ofInt (IntKind.bits .u64) (IntKind.wrap .u64 (IntKind.wrap .i64 (v * 2 ^ (min (1 : Int).toNat (IntKind.bits .i64))))) ^^^ BitVec.ofInt (IntKind.bits .u64) (IntKind.wrap .u64 (Int.fdiv v (2 ^ (min (63 : Int).toNat (IntKind.bits .i64)))))).toNat : Int) = (zig v : Int) := by
  have e1 : (2 : Int) ^ (min (1 : Int).toNat (IntKind.bits .i64)) = 2 := rfl
  have e2 : (2 : Int) ^ (min (63 : Int).toNat (IntKind.bits .i64)) = 9223372036854775808 := rfl
  have e3 : IntKind.bits .u64 = 64 := rfl
  rw [e1, e2, e3, wrapi64]
  by_cases h : v < 0
  · have f1 : Int.fdiv v 9223372036854775808 = -1 := by
      rw [Int.fdiv_eq_ediv_of_nonneg _ (by decide)]; omega
    have f2 : BitVec.ofInt 64 (IntKind.wrap .u64 (-1)) = BitVec.allOnes 64 := by decide +kernel
    rw [f1, f2, BitVec.xor_allOnes, BitVec.toNat_not, BitVec.toNat_ofInt, wrapu64]
    unfold zig; rw [if_pos h]
    omega
  · have f1 : Int.fdiv v 9223372036854775808 = 0 := by
      rw [Int.fdiv_eq_ediv_of_nonneg _ (by decide)]; omega
    have f2 : BitVec.ofInt 64 (IntKind.wrap .u64 0) = 0#64 := by decide +kernel
    rw [f1, f2, BitVec.xor_zero, BitVec.toNat_ofInt, wrapu64]
    unfold zig; rw [if_neg h]
    omega
end Go.Sk.X

namespace Go.Sk.X
open Go Go.Sk

theorem vint_len : ∀ (k u : Nat), u < 128 ^ (k + 1) → (vint u).length ≤ k + 1 := by
  intro k
  induction k with
  | zero => intro u hu; rw [vint, dif_pos (by simpa using hu)]; simp
  | succ k ih =>
    intro u hu
    rw [vint]
    split
    · simp
    · have hp : u / 128 < 128 ^ (k + 1) := by
        rw [Nat.div_lt_iff_lt_mul (by decide)]
        rw [Nat.pow_succ] at hu
        exact hu
      have := ih _ hp
      simp only [List.length_cons]; omega
theorem num_len {v : Int} (h0 : -9223372036854775808 ≤ v) (h1 : v ≤ 9223372036854775807) : (vint (zig v)).length ≤ 11 :=
  vint_len 10 _ (Nat.lt_of_lt_of_le (zig_lt h0 h1) (by decide))

theorem progLoop {R : Type} (kk : List Int → Option R) : ∀ (k n u : Nat) (acc : List Int), u < 128 ^ (k + 1) → k < n → acc.length + k ≤ 1000000 →
    whileF n (fun k435 (s433 : (Int × (List Int))) => (if (decide (s433.1 ≥ (128 : Int))) = true then (capN (s433.2.length + [(IntKind.wrap .u8 ((BitVec.ofInt (IntKind.bits .u8) (IntKind.wrap .u8 s433.1) ||| BitVec.ofInt (IntKind.bits .u8) (128 : Int)).toNat : Int))].length) (okI (0 ≤ (7 : Int)) (k435 ((Int.fdiv s433.1 (2 ^ (min (7 : Int).toNat (IntKind.bits .u64)))), (s433.2 ++ [(IntKind.wrap .u8 ((BitVec.ofInt (IntKind.bits .u8) (IntKind.wrap .u8 s433.1) ||| BitVec.ofInt (IntKind.bits .u8) (128 : Int)).toNat : Int))]))))) else (capN (s433.2.length + [(IntKind.wrap .u8 s433.1)].length) (kk (s433.2 ++ [(IntKind.wrap .u8 s433.1)]))))) ((u : Int), acc) = kk (acc ++ vint u) := by
  intro k
  induction k with
  | zero =>
    intro n u acc hu hn ha
    obtain ⟨m, rfl⟩ : ∃ m, n = m + 1 := ⟨n - 1, by omega⟩
    have hu' : u < 128 := by simpa using hu
    have h1 : ¬ ((u : Int) ≥ 128) := by omega
    have h2 : IntKind.wrap .u8 (u : Int) = (u : Int) := by rw [wrapu8]; omega
    rw [whileF_succ]
    simp only [h1, decide_false, Bool.false_eq_true, if_false, h2]
    rw [capN_eq (by simp; omega), vint, dif_pos hu']
  | succ k ih =>
    intro n u acc hu hn ha
    obtain ⟨m, rfl⟩ : ∃ m, n = m + 1 := ⟨n - 1, by omega⟩
    rw [whileF_succ]
    by_cases hu' : u < 128
    · have h1 : ¬ ((u : Int) ≥ 128) := by omega
      have h2 : IntKind.wrap .u8 (u : Int) = (u : Int) := by rw [wrapu8]; omega
      simp only [h1, decide_false, Bool.false_eq_true, if_false, h2]
      rw [capN_eq (by simp; omega), vint, dif_pos hu']
    · have h1 : (u : Int) ≥ 128 := by omega
      have e0 : IntKind.wrap .u8 (u : Int) = ((u % 256 : Nat) : Int) := by rw [wrapu8]; omega
      have e3 : IntKind.bits .u8 = 8 := rfl
      have e1 : IntKind.wrap .u8 ((BitVec.ofInt (IntKind.bits .u8) (IntKind.wrap .u8 (u : Int)) ||| BitVec.ofInt (IntKind.bits .u8) (128 : Int)).toNat : Int) = ((u % 128 + 128 : Nat) : Int) := by
        rw [e0, e3, or128 _ (by omega), wrapu8]; omega
      have e4 : (2 : Int) ^ (min (7 : Int).toNat (IntKind.bits .u64)) = 128 := rfl
      have e2 : Int.fdiv (u : Int) (2 ^ (min (7 : Int).toNat (IntKind.bits .u64))) = ((u / 128 : Nat) : Int) := by
        rw [e4, Int.fdiv_eq_ediv_of_nonneg _ (by decide)]; omega
      simp only [h1, decide_true, if_true, e1, e2]
      have hp : u / 128 < 128 ^ (k + 1) := by
        rw [Nat.div_lt_iff_lt_mul (by decide)]
        rw [Nat.pow_succ] at hu
        exact hu
      rw [capN_eq (by simp; omega), okI_eq (by decide), ih m (u / 128) _ hp (by omega) (by simp; omega)]
      conv => rhs; rw [vint, dif_neg hu']
      simp

theorem putNum {R : Type} {x : Int} (h0 : -9223372036854775808 ≤ x) (h1 : x ≤ 9223372036854775807) (acc : List Int) (ha : acc.length ≤ 900000) (kk : List Int → Option R) :
    (okI (0 ≤ (1 : Int)) (okI (0 ≤ (63 : Int)) (whileF 1000000000000 (fun k435 (s433 : (Int × (List Int))) => (if (decide (s433.1 ≥ (128 : Int))) = true then (capN (s433.2.length + [(IntKind.wrap .u8 ((BitVec.ofInt (IntKind.bits .u8) (IntKind.wrap .u8 s433.1) ||| BitVec.ofInt (IntKind.bits .u8) (128 : Int)).toNat : Int))].length) (okI (0 ≤ (7 : Int)) (k435 ((Int.fdiv s433.1 (2 ^ (min (7 : Int).toNat (IntKind.bits .u64)))), (s433.2 ++ [(IntKind.wrap .u8 ((BitVec.ofInt (IntKind.bits .u8) (IntKind.wrap .u8 s433.1) ||| BitVec.ofInt (IntKind.bits .u8) (128 : Int)).toNat : Int))]))))) else (capN (s433.2.length + [(IntKind.wrap .u8 s433.1)].length) (kk (s433.2 ++ [(IntKind.wrap .u8 s433.1)]))))) ((IntKind.wrap .u64 ((BitVec.ofInt (IntKind.bits .u64) (IntKind.wrap .u64 (IntKind.wrap .i64 (x * 2 ^ (min (1 : Int).toNat (IntKind.bits .i64))))) ^^^ BitVec.ofInt (IntKind.bits .u64) (IntKind.wrap .u64 (Int.fdiv x (2 ^ (min (63 : Int).toNat (IntKind.bits .i64)))))).toNat : Int)), acc)))) = kk (acc ++ vint (zig x)) := by
  rw [okI_eq (by decide), okI_eq (by decide), zig_prog h0 h1]
  exact progLoop kk 10 1000000000000 (zig x) acc (Nat.lt_of_lt_of_le (zig_lt h0 h1) (by decide)) (by decide) (by omega)

def lineB (l : S_api_Line) : List Int := l.Rule :: (vint (zig l.A) ++ (vint (zig l.B) ++ (vint (zig l.Piv) ++ (vint (zig (l.Lits.length : Int)) ++ l.Lits.flatMap fun x => vint (zig x)))))
def putB (p : S_api_Proof) : List Int := [82, 80, 1, if p.Cubes = true then 1 else 0] ++ (vint (zig (p.Lines.length : Int)) ++ p.Lines.flatMap lineB)
end Go.Sk.X

namespace Go.Sk.X
open Go Go.Sk

theorem rangeF_calcA {α S R : Type} {f : Nat → α → S → (S → Option R) → Option R} {k : S → Option R} (full : List α) (F : List α → S)
    (h : ∀ pre x xs, full = pre ++ x :: xs → ∀ kk, f pre.length x (F pre) kk = kk (F (pre ++ [x]))) : ∀ xs pre, full = pre ++ xs → rangeF f pre.length xs (F pre) k = k (F full)
  | [], pre, hf => by rw [List.append_nil] at hf; rw [hf, rangeF_nil]
  | x :: xs, pre, hf => by
    rw [rangeF_cons, h pre x xs hf]
    have := rangeF_calcA (k := k) full F h xs (pre ++ [x]) (by simp [hf])
    rw [List.length_append] at this
    exact this
theorem rangeF_calc {α S R : Type} {f : Nat → α → S → (S → Option R) → Option R} {k : S → Option R} (full : List α) (F : List α → S)
    (h : ∀ pre x xs, full = pre ++ x :: xs → ∀ kk, f pre.length x (F pre) kk = kk (F (pre ++ [x]))) (s0 : S) (hs : s0 = F []) : rangeF f 0 full s0 k = k (F full) := by
  subst hs; exact rangeF_calcA full F h full [] rfl

def litN (ls : List S_api_Line) : Nat := (ls.map fun l => l.Lits.length).sum
theorem litN_app (a b : List S_api_Line) : litN (a ++ b) = litN a + litN b := by simp [litN]
theorem litN_cons (a : S_api_Line) (b : List S_api_Line) : litN (a :: b) = a.Lits.length + litN b := by simp [litN]
structure Sp (p : S_api_Proof) : Prop where
  w : W_S_api_Proof p
  n : p.Lines.length ≤ 5000
  l : litN p.Lines ≤ 5000
theorem lits_len : ∀ (xs : List Int), (∀ x ∈ xs, -9223372036854775808 ≤ x ∧ x ≤ 9223372036854775807) → (xs.flatMap fun x => vint (zig x)).length ≤ 11 * xs.length
  | [], _ => by simp
  | x :: xs, h => by
    have h1 := num_len (h x (by simp)).1 (h x (by simp)).2
    have h2 := lits_len xs (fun y hy => h y (by simp [hy]))
    simp only [List.flatMap_cons, List.length_append, List.length_cons]; omega
theorem Sp.line {p : S_api_Proof} (h : Sp p) {l : S_api_Line} (hl : l ∈ p.Lines) : W_S_api_Line l := h.w.2.2 l hl
theorem line_len {l : S_api_Line} (h : W_S_api_Line l) (hn : l.Lits.length ≤ 5000) : (lineB l).length ≤ 45 + 11 * l.Lits.length := by
  obtain ⟨_, a, b, c, d⟩ := h
  have h1 := num_len a.1 a.2
  have h2 := num_len b.1 b.2
  have h3 := num_len c.1 c.2
  have h4 := num_len (v := (l.Lits.length : Int)) (by omega) (by omega)
  have h5 := lits_len l.Lits (fun x hx => d.2 x hx)
  simp only [lineB, List.length_cons, List.length_append]; omega
theorem lines_len : ∀ (ls : List S_api_Line), (∀ l ∈ ls, W_S_api_Line l) → litN ls ≤ 5000 → (ls.flatMap lineB).length ≤ 45 * ls.length + 11 * litN ls
  | [], _, _ => by simp
  | l :: ls, h, hn => by
    rw [litN_cons] at hn
    have h1 := line_len (h l (by simp)) (by omega)
    have h2 := lines_len ls (fun y hy => h y (by simp [hy])) (by omega)
    rw [litN_cons]
    simp only [List.flatMap_cons, List.length_append, List.length_cons]; omega

def PB {R : Type} (x : Int) (acc : List Int) (kk : List Int → Option R) : Option R :=
  (okI (0 ≤ (1 : Int)) (okI (0 ≤ (63 : Int)) (whileF 1000000000000 (fun k435 (s433 : (Int × (List Int))) => (if (decide (s433.1 ≥ (128 : Int))) = true then (capN (s433.2.length + [(IntKind.wrap .u8 ((BitVec.ofInt (IntKind.bits .u8) (IntKind.wrap .u8 s433.1) ||| BitVec.ofInt (IntKind.bits .u8) (128 : Int)).toNat : Int))].length) (okI (0 ≤ (7 : Int)) (k435 ((Int.fdiv s433.1 (2 ^ (min (7 : Int).toNat (IntKind.bits .u64)))), (s433.2 ++ [(IntKind.wrap .u8 ((BitVec.ofInt (IntKind.bits .u8) (IntKind.wrap .u8 s433.1) ||| BitVec.ofInt (IntKind.bits .u8) (128 : Int)).toNat : Int))]))))) else (capN (s433.2.length + [(IntKind.wrap .u8 s433.1)].length) (kk (s433.2 ++ [(IntKind.wrap .u8 s433.1)]))))) ((IntKind.wrap .u64 ((BitVec.ofInt (IntKind.bits .u64) (IntKind.wrap .u64 (IntKind.wrap .i64 (x * 2 ^ (min (1 : Int).toNat (IntKind.bits .i64))))) ^^^ BitVec.ofInt (IntKind.bits .u64) (IntKind.wrap .u64 (Int.fdiv x (2 ^ (min (63 : Int).toNat (IntKind.bits .i64)))))).toNat : Int)), acc))))
theorem PB_eq {R : Type} {x : Int} (h0 : -9223372036854775808 ≤ x) (h1 : x ≤ 9223372036854775807) (acc : List Int) (ha : acc.length ≤ 900000) (kk : List Int → Option R) : PB x acc kk = kk (acc ++ vint (zig x)) := putNum h0 h1 acc ha kk
theorem put_unfold (a0 : S_api_Proof) : F_proof_Put a0 = (if (decide (((a0.Lines.length : Nat) : Int) > (1000000 : Int))) = true then (some (([] : List Int), (3 : Int))) else (jn (fun (s103 : (List Int)) => (okI (-9223372036854775808 ≤ (0 : Int) ∧ ((1 : Nat) : Int) ≤ 9223372036854775807) (upF (fun (j367 : Int) (s364 : (List Int)) k366 => (getI [((a0.Lines.length : Nat) : Int)] j367 (fun x430 => PB x430 s364 k366))) ((((1 : Nat) : Int) - (0 : Int)).toNat) (0 : Int) s103 (fun (s364 : (List Int)) => (rangeF (fun (j453 : Nat) (x454 : S_api_Line) (s450 : (List Int)) k452 => (capN (s450.length + [x454.Rule].length) (okI (-9223372036854775808 ≤ (0 : Int) ∧ ((4 : Nat) : Int) ≤ 9223372036854775807) (upF (fun (j3062 : Int) (s3059 : (List Int)) k3061 => (getI [x454.A, x454.B, x454.Piv, ((x454.Lits.length : Nat) : Int)] j3062 (fun x3125 => PB x3125 s3059 k3061))) ((((4 : Nat) : Int) - (0 : Int)).toNat) (0 : Int) (s450 ++ [x454.Rule]) (fun (s3059 : (List Int)) => (rangeF (fun (j3210 : Nat) (x3211 : Int) (s3207 : (List Int)) k3209 => PB x3211 s3207 k3209) 0 x454.Lits s3059 (fun (s3207 : (List Int)) => (k452 s3207)))))))) 0 a0.Lines s364 (fun (s450 : (List Int)) => (some (s450, (0 : Int))))))))) (fun k105 => (if a0.Cubes = true then (k105 [(82 : Int), (80 : Int), (1 : Int), (1 : Int)]) else (k105 [(82 : Int), (80 : Int), (1 : Int), (0 : Int)]))))) := rfl
theorem jn_if {S R : Type} (c : Bool) (a b : S) (f : S → Option R) (r : Option R) (h : f (if c = true then a else b) = r) : jn f (fun k => if c = true then k a else k b) = r := by cases c <;> exact h
theorem put_eq {p : S_api_Proof} (h : Sp p) : F_proof_Put p = some (putB p, 0) := by
  rw [put_unfold]
  have hn := h.n
  have hln := h.l
  have h1 : ¬ ((p.Lines.length : Nat) : Int) > 1000000 := by omega
  simp only [h1, decide_false, Bool.false_eq_true, if_false]
  have eN := num_len (v := (p.Lines.length : Int)) (by omega) (by omega)
  have o1 : (((1 : Nat) : Int) - (0 : Int)).toNat = 1 := rfl
  have o4 : (((4 : Nat) : Int) - (0 : Int)).toNat = 4 := rfl
  have k1 : -9223372036854775808 ≤ (0 : Int) ∧ ((1 : Nat) : Int) ≤ 9223372036854775807 := by decide
  have k4 : -9223372036854775808 ≤ (0 : Int) ∧ ((4 : Nat) : Int) ≤ 9223372036854775807 := by decide
  have g : ∀ {R : Type} (a : Int) (kk : Int → Option R), getI [a] 0 kk = kk a := fun a kk => rfl
  unfold putB
  generalize hH : ([82, 80, 1, if p.Cubes = true then 1 else 0] : List Int) = hdr
  have hl4 : hdr.length = 4 := by rw [← hH]; rfl
  have he : (if p.Cubes = true then [(82 : Int), (80 : Int), (1 : Int), (1 : Int)] else [(82 : Int), (80 : Int), (1 : Int), (0 : Int)]) = hdr := by
    rw [← hH]; cases p.Cubes <;> rfl
  refine jn_if p.Cubes _ _ _ _ ?_
  rw [he]
  rw [okI_eq k1, o1, upF_succ, g, PB_eq (by omega) (by omega) _ (by omega), upF_zero]
  rw [rangeF_calc p.Lines (fun pre => hdr ++ vint (zig (p.Lines.length : Int)) ++ pre.flatMap lineB) ?_ _ (by simp)]
  · simp
  · intro pre x xs hf kk
    have hx : x ∈ p.Lines := by rw [hf]; simp
    obtain ⟨_, wa, wb, wc, wd⟩ := h.line hx
    have hpl := lines_len pre (fun l hl => h.line (by rw [hf]; simp [hl])) (by have := hln; rw [hf, litN_app] at this; omega)
    have hb : litN pre + x.Lits.length ≤ 5000 := by have := hln; rw [hf, litN_app, litN_cons] at this; omega
    have hp : pre.length < p.Lines.length := by rw [hf]; simp
    have na := num_len wa.1 wa.2
    have nb := num_len wb.1 wb.2
    have nc := num_len wc.1 wc.2
    have nd := num_len (v := (x.Lits.length : Int)) (by omega) (by omega)
    have g0 : ∀ (kk : Int → Option (List Int × Int)), getI [x.A, x.B, x.Piv, ((x.Lits.length : Nat) : Int)] 0 kk = kk x.A := fun kk => rfl
    have g1 : ∀ (kk : Int → Option (List Int × Int)), getI [x.A, x.B, x.Piv, ((x.Lits.length : Nat) : Int)] (0 + 1) kk = kk x.B := fun kk => rfl
    have g2 : ∀ (kk : Int → Option (List Int × Int)), getI [x.A, x.B, x.Piv, ((x.Lits.length : Nat) : Int)] (0 + 1 + 1) kk = kk x.Piv := fun kk => rfl
    have g3 : ∀ (kk : Int → Option (List Int × Int)), getI [x.A, x.B, x.Piv, ((x.Lits.length : Nat) : Int)] (0 + 1 + 1 + 1) kk = kk ((x.Lits.length : Nat) : Int) := fun kk => rfl
    rw [capN_eq (by simp only [List.length_append, List.length_cons, List.length_nil]; omega), okI_eq k4, o4]
    rw [upF_succ, g0, PB_eq wa.1 wa.2 _ (by simp only [List.length_append, List.length_cons, List.length_nil]; omega), upF_succ, g1, PB_eq wb.1 wb.2 _ (by simp only [List.length_append, List.length_cons, List.length_nil]; omega), upF_succ, g2, PB_eq wc.1 wc.2 _ (by simp only [List.length_append, List.length_cons, List.length_nil]; omega), upF_succ, g3, PB_eq (by omega) (by omega) _ (by simp only [List.length_append, List.length_cons, List.length_nil]; omega), upF_zero]
    rw [rangeF_calc x.Lits (fun q => hdr ++ vint (zig (p.Lines.length : Int)) ++ pre.flatMap lineB ++ [x.Rule] ++ vint (zig x.A) ++ vint (zig x.B) ++ vint (zig x.Piv) ++ vint (zig (x.Lits.length : Int)) ++ q.flatMap fun y => vint (zig y)) ?_ _ (by simp)]
    · simp [lineB]
    · intro q y ys hq kk2
      have hy := wd.2 y (by rw [hq]; simp)
      have hql := lits_len q (fun z hz => wd.2 z (by rw [hq]; simp [hz]))
      have hqn : q.length < x.Lits.length := by rw [hq]; simp
      rw [PB_eq hy.1 hy.2 _ (by simp only [List.length_append, List.length_cons, List.length_nil]; omega)]
      simp
end Go.Sk.X

namespace Go.Sk.X
open Go Go.Sk

theorem rput_eq {p : S_api_Proof} (h : Sp p) : F_skolemref10_Put p = some (putB p, 0) := by
  unfold F_skolemref10_Put
  have hn := h.n
  have hln := h.l
  have h1 : ¬ ((p.Lines.length : Nat) : Int) > 1000000 := by omega
  simp only [h1, decide_false, Bool.false_eq_true, if_false]
  have eN := num_len (v := (p.Lines.length : Int)) (by omega) (by omega)
  unfold putB
  generalize hH : ([82, 80, 1, if p.Cubes = true then 1 else 0] : List Int) = hdr
  have hl4 : hdr.length = 4 := by rw [← hH]; rfl
  have he : (if p.Cubes = true then [(82 : Int), (80 : Int), (1 : Int), (1 : Int)] else [(82 : Int), (80 : Int), (1 : Int), (0 : Int)]) = hdr := by
    rw [← hH]; cases p.Cubes <;> rfl
  refine jn_if p.Cubes _ _ _ _ ?_
  rw [he]
  rw [number_eq (by omega) (by omega), Option.bind_some, capN_eq (by omega)]
  rw [rangeF_calc p.Lines (fun pre => hdr ++ vint (zig (p.Lines.length : Int)) ++ pre.flatMap lineB) ?_ _ (by simp)]
  · simp
  · intro pre x xs hf kk
    have hx : x ∈ p.Lines := by rw [hf]; simp
    obtain ⟨_, wa, wb, wc, wd⟩ := h.line hx
    have hpl := lines_len pre (fun l hl => h.line (by rw [hf]; simp [hl])) (by have := hln; rw [hf, litN_app] at this; omega)
    have hb : litN pre + x.Lits.length ≤ 5000 := by have := hln; rw [hf, litN_app, litN_cons] at this; omega
    have hp : pre.length < p.Lines.length := by rw [hf]; simp
    have na := num_len wa.1 wa.2
    have nb := num_len wb.1 wb.2
    have nc := num_len wc.1 wc.2
    have nd := num_len (v := (x.Lits.length : Int)) (by omega) (by omega)
    rw [capN_eq (by simp only [List.length_append, List.length_cons, List.length_nil]; omega)]
    rw [number_eq wa.1 wa.2, Option.bind_some, capN_eq (by simp only [List.length_append, List.length_cons, List.length_nil]; omega)]
    rw [number_eq wb.1 wb.2, Option.bind_some, capN_eq (by simp only [List.length_append, List.length_cons, List.length_nil]; omega)]
    rw [number_eq wc.1 wc.2, Option.bind_some, capN_eq (by simp only [List.length_append, List.length_cons, List.length_nil]; omega)]
    rw [number_eq (by omega) (by omega), Option.bind_some, capN_eq (by simp only [List.length_append, List.length_cons, List.length_nil]; omega)]
    rw [rangeF_calc x.Lits (fun q => hdr ++ vint (zig (p.Lines.length : Int)) ++ pre.flatMap lineB ++ [x.Rule] ++ vint (zig x.A) ++ vint (zig x.B) ++ vint (zig x.Piv) ++ vint (zig (x.Lits.length : Int)) ++ q.flatMap fun y => vint (zig y)) ?_ _ (by simp)]
    · simp [lineB]
    · intro q y ys hq kk2
      have hy := wd.2 y (by rw [hq]; simp)
      have hql := lits_len q (fun z hz => wd.2 z (by rw [hq]; simp [hz]))
      have hqn : q.length < x.Lits.length := by rw [hq]; simp
      have ny := num_len hy.1 hy.2
      rw [number_eq hy.1 hy.2, Option.bind_some, capN_eq (by simp only [List.length_append, List.length_cons, List.length_nil]; omega)]
      simp
/-- what is too large to be tried -/
theorem large_eq {p : S_api_Proof} (hw : W_S_api_Proof p) : ∃ b, F_skolemlaw10_large [] p = some b ∧ (b = false → p.Lines.length ≤ 300) := by
  unfold F_skolemlaw10_large
  rw [rangeF_nil, rangeF_fold (fun s (x : S_api_Line) => IntKind.wrap .i64 (s + ((x.Lits.length : Nat) : Int)))]
  by_cases h : ((p.Lines.length : Nat) : Int) > 300
  · exact ⟨true, by simp [h], by simp⟩
  · refine ⟨_, by simp [h]; rfl, fun _ => by omega⟩
end Go.Sk.X

namespace Go.Sk.X
open Go Go.Sk

theorem same_refl (l : List Int) : F_skolemref09_Same l l = some true := by
  unfold F_skolemref09_Same
  have h1 : ((((l.length : Nat) : Int)) != ((l.length : Nat) : Int)) = false := by simp
  simp only [h1, Bool.false_eq_true, if_false]
  refine rangeF_pre l (fun _ _ => True) (fun _ _ _ => some true) (fun _ _ => rfl) ?_ l [] () rfl trivial
  intro pre x xs s kk hf hI hk
  have hg : l[pre.length]? = some x := by rw [hf]; simp
  rw [getI_nat, hg]
  simp [hk () trivial]
theorem sameProof_refl (p : S_api_Proof) : F_skolemref09_SameProof p p = some true := by
  unfold F_skolemref09_SameProof
  simp only [jn_eq]
  have h1 : (!(p.Cubes == p.Cubes)) = false := by simp
  have h2 : ((((p.Lines.length : Nat) : Int)) != ((p.Lines.length : Nat) : Int)) = false := by simp
  simp only [h1, h2, Bool.false_eq_true, if_false]
  refine rangeF_pre p.Lines (fun _ _ => True) (fun _ _ _ => some true) (fun _ _ => rfl) ?_ p.Lines [] () rfl trivial
  intro pre x xs s kk hf hI hk
  have hg : p.Lines[pre.length]? = some x := by rw [hf]; simp
  rw [getI_nat, hg]
  simp [same_refl, hk () trivial]
/-- what is left to show for ProofBytes: both read alike -/
theorem proofBytes_of {p : S_api_Proof} {b : List Int} (hw : W_S_api_Proof p) (hL : ∀ p', W_S_api_Proof p' → F_skolemlaw10_large [] p' = some false → Sp p') (hG : ∃ q e, F_proof_Get b = some (q, e) ∧ F_skolemref10_Get b = some (q, e)) : F_skolemlaw10_ProofBytes p b = some true := by
  obtain ⟨c, hc, _⟩ := large_eq hw
  obtain ⟨q, e, g1, g2⟩ := hG
  have hh : F_skolemlaw10_head = some true := rfl
  unfold F_skolemlaw10_ProofBytes
  simp only [jn_eq, hc, Option.bind_some, hh]
  cases c
  · have hs := hL p hw hc
    by_cases hl : ((b.length : Nat) : Int) > 5000
    · simp [hl]
    · simp [hl, put_eq hs, rput_eq hs, g1, g2, sameProof_refl]
  · simp
end Go.Sk.X

namespace Go.Sk.X
open Go Go.Sk

theorem byte_eq (b : List Int) : F_proof_source_byte ⟨b⟩ = some (match b with
    | [] => (none, ⟨[]⟩)
    | c :: t => (some c, ⟨t⟩)) := by
  unfold F_proof_source_byte
  cases b with
  | nil => simp
  | cons c t =>
    have h1 : (((c :: t).length : Nat) : Int) > 0 := by simp only [List.length_cons]; omega
    have h2 : 0 ≤ (1 : Int) ∧ (1 : Int).toNat ≤ (c :: t).length := ⟨by decide, by simp⟩
    simp only [h1, decide_true, Bool.not_true, Bool.false_eq_true, if_false]
    rw [getI_eq (x := c) (by decide) rfl, okI_eq h2]
    rfl
theorem one_eq (b : List Int) (bad : Bool) : F_skolemref10_reader_one ⟨b, bad⟩ = some (match b with
    | [] => (0, ⟨[], true⟩)
    | c :: t => (c, ⟨t, bad⟩)) := by
  unfold F_skolemref10_reader_one
  cases b with
  | nil => simp
  | cons c t =>
    have h1 : ((((c :: t).length : Nat) : Int) == 0) = false := by simp only [List.length_cons, beq_eq_false_iff_ne]; omega
    have h2 : 0 ≤ (1 : Int) ∧ (1 : Int).toNat ≤ (c :: t).length := ⟨by decide, by simp⟩
    simp only [h1, Bool.false_eq_true, if_false]
    rw [getI_eq (x := c) (by decide) rfl, okI_eq h2]
    rfl

theorem z_w {p : S_api_Proof} (h : Z_S_api_Proof p) : W_S_api_Proof p :=
  ⟨h.1, h.2.wide fun l hl => ⟨hl.1, hl.2.1, hl.2.2.1, hl.2.2.2.1, hl.2.2.2.2.wide fun _ h => h⟩⟩
theorem litFold : ∀ (ls : List S_api_Line) (s : Nat), (∀ l ∈ ls, l.Lits.length ≤ 140737488351232) → s + ls.length * 140737488351232 ≤ 9223372036854775807 →
    ls.foldl (fun s (x : S_api_Line) => IntKind.wrap .i64 (s + ((x.Lits.length : Nat) : Int))) (s : Int) = ((s + litN ls : Nat) : Int)
  | [], s, _, _ => by simp [litN]
  | l :: ls, s, h, hb => by
    have hl := h l (by simp)
    have hb' : s + (ls.length + 1) * 140737488351232 ≤ 9223372036854775807 := by simpa using hb
    rw [List.foldl_cons, wrap_id (by omega) (by omega)]
    have := litFold ls (s + l.Lits.length) (fun x hx => h x (by simp [hx])) (by omega)
    rw [litN_cons]
    rw [show ((s : Nat) : Int) + ((l.Lits.length : Nat) : Int) = ((s + l.Lits.length : Nat) : Int) by omega, this]
    omega
theorem sp_of {p : S_api_Proof} (hz : Z_S_api_Proof p) (h : F_skolemlaw10_large [] p = some false) : Sp p := by
  unfold F_skolemlaw10_large at h
  rw [rangeF_nil, rangeF_fold (fun s (x : S_api_Line) => IntKind.wrap .i64 (s + ((x.Lits.length : Nat) : Int)))] at h
  by_cases h3 : ((p.Lines.length : Nat) : Int) > 300
  · simp [h3] at h
  have hf := litFold p.Lines 0 (fun l hl => (hz.2.2 l hl).2.2.2.2.1) (by omega)
  rw [show ((0 : Nat) : Int) = 0 from rfl] at hf
  rw [hf] at h
  simp [h3] at h
  exact ⟨z_w hz, by omega, by omega⟩
end Go.Sk.X

namespace Go.Sk.X
open Go Go.Sk

/-! ### A number is read -/
def rdv : Nat → List Int → Option (Nat × List Int)
  | _, [] => none
  | k, c :: t => if (c = 0 ∧ 0 < k) ∨ (9 ≤ k ∧ 2 ≤ c) then none else if c < 128 then some (c.toNat, t) else (rdv (k + 1) t).map fun q => ((c % 128).toNat + 128 * q.1, q.2)
def unz (u : Nat) : Int := if u % 2 = 0 then ((u / 2 : Nat) : Int) else -((u / 2 : Nat) : Int) - 1
theorem unz_zig (v : Int) : unz (zig v) = v := by
  unfold unz zig
  by_cases h : v < 0
  · rw [if_pos h]
    have : (-2 * v - 1).toNat % 2 ≠ 0 := by omega
    rw [if_neg this]; omega
  · rw [if_neg h]
    have : (2 * v).toNat % 2 = 0 := by omega
    rw [if_pos this]; omega
theorem zig_unz (u : Nat) : zig (unz u) = u := by
  unfold unz zig
  by_cases h : u % 2 = 0
  · rw [if_pos h, if_neg (by omega)]; omega
  · rw [if_neg h, if_pos (by omega)]; omega
/-- what is written is read -/
theorem rdv_vint : ∀ (m u k : Nat) (r : List Int), u < 128 ^ (m + 1) → k + m = 9 → u < 2 * 128 ^ m → (k = 0 ∨ 0 < u) → rdv k (vint u ++ r) = some (u, r) := by
  intro m
  induction m with
  | zero =>
    intro u k r h1 h2 h3 h4
    have hu : u < 2 := by simpa using h3
    rw [vint, dif_pos (by omega), List.singleton_append, rdv]
    have : ¬(((u : Int) = 0 ∧ 0 < k) ∨ (9 ≤ k ∧ (2 : Int) ≤ (u : Int))) := by omega
    rw [if_neg this, if_pos (by omega)]
    simp
  | succ m ih =>
    intro u k r h1 h2 h3 h4
    rw [vint]
    by_cases hu : u < 128
    · rw [dif_pos hu, List.singleton_append, rdv]
      have : ¬(((u : Int) = 0 ∧ 0 < k) ∨ (9 ≤ k ∧ (2 : Int) ≤ (u : Int))) := by omega
      rw [if_neg this, if_pos (by omega)]
      simp
    · rw [dif_neg hu, List.cons_append, rdv]
      have : ¬((((u % 128 + 128 : Nat) : Int) = 0 ∧ 0 < k) ∨ (9 ≤ k ∧ (2 : Int) ≤ ((u % 128 + 128 : Nat) : Int))) := by omega
      rw [if_neg this, if_neg (by omega)]
      have hp : u / 128 < 128 ^ (m + 1) := by
        rw [Nat.div_lt_iff_lt_mul (by decide)]
        rw [Nat.pow_succ] at h1
        exact h1
      have hq : u / 128 < 2 * 128 ^ m := by
        rw [Nat.div_lt_iff_lt_mul (by decide)]
        rw [Nat.pow_succ] at h3
        omega
      rw [ih (u / 128) (k + 1) r hp (by omega) hq (.inr (by omega))]
      simp
      omega
/-- what is read was written so -/
theorem vint_rdv : ∀ (b : List Int) (k u : Nat) (r : List Int), (∀ c ∈ b, 0 ≤ c ∧ c ≤ 255) → rdv k b = some (u, r) → b = vint u ++ r ∧ (0 < k → 0 < u)
  | [], k, u, r, _, h => by simp [rdv] at h
  | c :: t, k, u, r, hb, h => by
    have hc := hb c (by simp)
    rw [rdv] at h
    split at h
    · simp at h
    · rename_i hn
      split at h
      · rename_i hl
        injection h with h
        injection h with h1 h2
        subst h1; subst h2
        refine ⟨?_, fun hk => by omega⟩
        rw [vint, dif_pos (by omega)]
        simp; omega
      · rename_i hl
        obtain ⟨⟨v, s⟩, hv, he⟩ := Option.map_eq_some_iff.1 h
        injection he with h1 h2
        subst h2
        obtain ⟨e1, e2⟩ := vint_rdv t (k + 1) v s (fun c hc => hb c (by simp [hc])) hv
        have hv0 := e2 (by omega)
        refine ⟨?_, fun _ => by simp at h1; omega⟩
        simp at h1
        rw [vint, dif_neg (by omega), List.cons_append]
        have e3 : u / 128 = v := by omega
        rw [e3, ← e1]
        congr 1
        omega
end Go.Sk.X

namespace Go.Sk.X
open Go Go.Sk

theorem and127 : ∀ n : Nat, n < 256 → (BitVec.ofInt 8 (n : Int) &&& BitVec.ofInt 8 127).toNat = n % 128 := by decide +kernel
theorem wrapi64' (n : Int) (h0 : 0 ≤ n) (h1 : n < 18446744073709551616) : IntKind.wrap .i64 n = if n < 9223372036854775808 then n else n - 18446744073709551616 := by
  simp only [IntKind.wrap, IntKind.bits, IntKind.signed]
  simp only [Bool.true_and]
  split <;> rename_i h <;> simp only [ge_iff_le, decide_eq_true_eq] at h <;> split <;> omega
theorem and1 (w : Nat) : (BitVec.ofInt 64 (w : Int) &&& BitVec.ofInt 64 1).toNat = w % 2 := by
  rw [BitVec.toNat_and]
  have : (BitVec.ofInt 64 1).toNat = 2 ^ 1 - 1 := by decide
  rw [this, Nat.and_two_pow_sub_one_eq_mod, BitVec.toNat_ofInt]
  omega
theorem unz_prog (w : Nat) (h : w < 18446744073709551616) :
    IntKind.wrap .i64 ((BitVec.ofInt (IntKind.bits .i64) (IntKind.wrap .i64 (Int.fdiv (w : Int) (2 ^ (min (1 : Int).toNat (IntKind.bits .u64))))) ^^^ BitVec.ofInt (IntKind.bits .i64) (IntKind.wrap .i64 (0 - (IntKind.wrap .i64 (IntKind.wrap .u64 ((BitVec.ofInt (IntKind.bits .u64) (w : Int) &&& BitVec.ofInt (IntKind.bits .u64) (1 : Int)).toNat : Int)))))).toNat : Int) = unz w := by
  have e1 : (2 : Int) ^ (min (1 : Int).toNat (IntKind.bits .u64)) = 2 := rfl
  have e2 : IntKind.bits .i64 = 64 := rfl
  have e3 : IntKind.bits .u64 = 64 := rfl
  have e4 : Int.fdiv (w : Int) 2 = ((w / 2 : Nat) : Int) := by rw [Int.fdiv_eq_ediv_of_nonneg _ (by decide)]; omega
  rw [e1, e2, e3, e4, and1, wrapu64]
  have hw : IntKind.wrap .i64 ((w / 2 : Nat) : Int) = ((w / 2 : Nat) : Int) := wrap_id (by omega) (by omega)
  rw [hw]
  unfold unz
  by_cases hm : w % 2 = 0
  · rw [if_pos hm, hm]
    have f : BitVec.ofInt 64 (IntKind.wrap .i64 (0 - IntKind.wrap .i64 (((0 : Nat) : Int) % 18446744073709551616))) = 0#64 := by decide +kernel
    rw [f, BitVec.xor_zero, BitVec.toNat_ofInt, wrap_id (by omega) (by omega)]
    omega
  · have hm1 : w % 2 = 1 := by omega
    rw [if_neg hm, hm1]
    have f : BitVec.ofInt 64 (IntKind.wrap .i64 (0 - IntKind.wrap .i64 (((1 : Nat) : Int) % 18446744073709551616))) = BitVec.allOnes 64 := by decide +kernel
    rw [f, BitVec.xor_allOnes, BitVec.toNat_not, BitVec.toNat_ofInt, wrapi64' _ (by omega) (by omega)]
    split <;> omega
/-- one more group of seven bits -/
theorem or_prog (u c k : Nat) (hu : u < 2 ^ (7 * k)) (hk : k ≤ 9) (hc : c < 256) (h9 : k = 9 → c < 2) :
    IntKind.wrap .u64 ((BitVec.ofInt (IntKind.bits .u64) (u : Int) ||| BitVec.ofInt (IntKind.bits .u64) (IntKind.wrap .u64 ((IntKind.wrap .u64 (IntKind.wrap .u8 ((BitVec.ofInt (IntKind.bits .u8) (c : Int) &&& BitVec.ofInt (IntKind.bits .u8) (127 : Int)).toNat : Int))) * 2 ^ (min (((7 * k : Nat) : Int)).toNat (IntKind.bits .u64))))).toNat : Int) = ((u + c % 128 * 2 ^ (7 * k) : Nat) : Int) := by
  have e3 : IntKind.bits .u64 = 64 := rfl
  have e5 : IntKind.bits .u8 = 8 := rfl
  have e6 : min (((7 * k : Nat) : Int)).toNat 64 = 7 * k := by omega
  have hx : c % 128 * 2 ^ (7 * k) < 18446744073709551616 := by
    by_cases h : k = 9
    · subst h
      have := h9 rfl
      have hd : (2 : Nat) ^ (7 * 9) = 9223372036854775808 := rfl
      rw [hd]; omega
    · have hp : 2 ^ (7 * k) ≤ 2 ^ 56 := Nat.pow_le_pow_right (by decide) (by omega)
      have hd : (2 : Nat) ^ 56 = 72057594037927936 := rfl
      rw [hd] at hp
      have : c % 128 ≤ 127 := by omega
      calc c % 128 * 2 ^ (7 * k) ≤ 127 * 72057594037927936 := Nat.mul_le_mul this hp
        _ < 18446744073709551616 := by decide
  have hu64 : u < 18446744073709551616 := by
    have hp : 2 ^ (7 * k) ≤ 2 ^ 63 := Nat.pow_le_pow_right (by decide) (by omega)
    have hd : (2 : Nat) ^ 63 = 9223372036854775808 := rfl
    omega
  have hm : IntKind.wrap .u64 ((IntKind.wrap .u64 (IntKind.wrap .u8 ((c % 128 : Nat) : Int))) * 2 ^ (7 * k)) = ((c % 128 * 2 ^ (7 * k) : Nat) : Int) := by
    have a1 : IntKind.wrap .u64 (IntKind.wrap .u8 ((c % 128 : Nat) : Int)) = ((c % 128 : Nat) : Int) := by rw [wrapu64, wrapu8]; omega
    rw [a1, wrapu64]
    have a2 : ((c % 128 : Nat) : Int) * 2 ^ (7 * k) = ((c % 128 * 2 ^ (7 * k) : Nat) : Int) := by simp
    rw [a2]
    omega
  rw [e3, e5, and127 c hc, e6, hm, BitVec.toNat_or, BitVec.toNat_ofInt, BitVec.toNat_ofInt]
  have b1 : (((u : Int) % ((2 ^ 64 : Nat) : Int)).toNat) = u := by omega
  have b2 : ((((c % 128 * 2 ^ (7 * k) : Nat) : Int) % ((2 ^ 64 : Nat) : Int)).toNat) = c % 128 * 2 ^ (7 * k) := by omega
  rw [b1, b2, Nat.or_comm, Nat.mul_comm, ← Nat.two_pow_add_eq_or_of_lt hu, wrapu64]
  have hs : 2 ^ (7 * k) * (c % 128) + u < 18446744073709551616 := by
    by_cases h : k = 9
    · subst h
      have := h9 rfl
      have hd : (2 : Nat) ^ (7 * 9) = 9223372036854775808 := rfl
      rw [hd] at hu ⊢; omega
    · have hp : 2 ^ (7 * k) ≤ 2 ^ 56 := Nat.pow_le_pow_right (by decide) (by omega)
      have hd : (2 : Nat) ^ 56 = 72057594037927936 := rfl
      rw [hd] at hp
      have h2 : 2 ^ (7 * k) * (c % 128) ≤ 72057594037927936 * 127 := Nat.mul_le_mul hp (by omega)
      omega
  rw [Nat.mul_comm (2 ^ (7 * k)) (c % 128)] at hs ⊢
  omega
end Go.Sk.X

namespace Go.Sk.X
open Go Go.Sk
def NB : ((Int × Int × (List Int)) → Option (Option Int × S_proof_source)) → (Int × Int × (List Int)) → Option (Option Int × S_proof_source) :=
  (fun k103 (s101 : (Int × Int × (List Int))) => ((F_proof_source_byte (S_proof_source.mk s101.2.2)).bind (fun y226 => (pcase y226 (some (none, y226.2)) (fun z227 => (jn (fun (s236 : (Bool × Bool × Bool)) => (okI (0 ≤ s101.2.1) (if (decide (z227 < (128 : Int))) = true then (okI (0 ≤ (1 : Int)) (some (some (IntKind.wrap .i64 ((BitVec.ofInt (IntKind.bits .i64) (IntKind.wrap .i64 (Int.fdiv (IntKind.wrap .u64 ((BitVec.ofInt (IntKind.bits .u64) s101.1 ||| BitVec.ofInt (IntKind.bits .u64) (IntKind.wrap .u64 ((IntKind.wrap .u64 (IntKind.wrap .u8 ((BitVec.ofInt (IntKind.bits .u8) z227 &&& BitVec.ofInt (IntKind.bits .u8) (127 : Int)).toNat : Int))) * 2 ^ (min s101.2.1.toNat (IntKind.bits .u64))))).toNat : Int)) (2 ^ (min (1 : Int).toNat (IntKind.bits .u64))))) ^^^ BitVec.ofInt (IntKind.bits .i64) (IntKind.wrap .i64 (0 - (IntKind.wrap .i64 (IntKind.wrap .u64 ((BitVec.ofInt (IntKind.bits .u64) (IntKind.wrap .u64 ((BitVec.ofInt (IntKind.bits .u64) s101.1 ||| BitVec.ofInt (IntKind.bits .u64) (IntKind.wrap .u64 ((IntKind.wrap .u64 (IntKind.wrap .u8 ((BitVec.ofInt (IntKind.bits .u8) z227 &&& BitVec.ofInt (IntKind.bits .u8) (127 : Int)).toNat : Int))) * 2 ^ (min s101.2.1.toNat (IntKind.bits .u64))))).toNat : Int)) &&& BitVec.ofInt (IntKind.bits .u64) (1 : Int)).toNat : Int)))))).toNat : Int)), y226.2))) else (k103 ((IntKind.wrap .u64 ((BitVec.ofInt (IntKind.bits .u64) s101.1 ||| BitVec.ofInt (IntKind.bits .u64) (IntKind.wrap .u64 ((IntKind.wrap .u64 (IntKind.wrap .u8 ((BitVec.ofInt (IntKind.bits .u8) z227 &&& BitVec.ofInt (IntKind.bits .u8) (127 : Int)).toNat : Int))) * 2 ^ (min s101.2.1.toNat (IntKind.bits .u64))))).toNat : Int)), (IntKind.wrap .i64 (s101.2.1 + (7 : Int))), y226.2.b))))) (fun k238 => (if (decide (s101.2.1 < (63 : Int))) = true then (if (decide (z227 > (0 : Int))) = true then (k238 (true, true, true)) else (if (!(s101.2.1 == (0 : Int))) = true then (some (none, y226.2)) else (k238 (false, false, (s101.2.1 == (0 : Int)))))) else (if (decide (z227 < (2 : Int))) = true then (if (decide (z227 > (0 : Int))) = true then (k238 (true, true, true)) else (if (!(s101.2.1 == (0 : Int))) = true then (some (none, y226.2)) else (k238 (false, false, (s101.2.1 == (0 : Int)))))) else (some (none, y226.2)))))))))))
theorem num_unfold (a0 : S_proof_source) : F_proof_source_number a0 = whileF 1000000000000 NB ((0 : Int), (0 : Int), a0.b) := rfl
theorem NB_step (kk : (Int × Int × (List Int)) → Option (Option Int × S_proof_source)) (u k : Nat) (b : List Int) (hk : k ≤ 9) (hu : u < 2 ^ (7 * k)) (hb : ∀ c ∈ b, 0 ≤ c ∧ c ≤ 255) :
    NB kk ((u : Int), ((7 * k : Nat) : Int), b) = match b with
      | [] => some (none, ⟨[]⟩)
      | c :: t => if (c = 0 ∧ 0 < k) ∨ (9 ≤ k ∧ 2 ≤ c) then some (none, ⟨t⟩) else if c < 128 then some (some (unz (u + c.toNat % 128 * 2 ^ (7 * k))), ⟨t⟩) else kk (((u + c.toNat % 128 * 2 ^ (7 * k) : Nat) : Int), ((7 * (k + 1) : Nat) : Int), t) := by
  unfold NB
  simp only [byte_eq, Option.bind_some]
  cases b with
  | nil => rfl
  | cons c t =>
    obtain ⟨c0, c1⟩ := hb c (by simp)
    obtain ⟨d, rfl⟩ : ∃ d : Nat, c = d := ⟨c.toNat, by omega⟩
    simp only [pcase, jn_eq]
    have hw : IntKind.wrap .i64 (((7 * k : Nat) : Int) + 7) = ((7 * (k + 1) : Nat) : Int) := by rw [wrap_id (by omega) (by omega)]; omega
    have ho : (0 : Int) ≤ ((7 * k : Nat) : Int) := Int.natCast_nonneg _
    have ho1 : (0 : Int) ≤ 1 := by decide
    have hn0 : ((((7 * k : Nat) : Int)) == (0 : Int)) = decide (k = 0) := by
      by_cases h : k = 0
      · subst h; rfl
      · have : ((7 * k : Nat) : Int) ≠ 0 := by omega
        simp [h]
    by_cases hbad : ((d : Int) = 0 ∧ 0 < k) ∨ (9 ≤ k ∧ (2 : Int) ≤ (d : Int))
    · rw [if_pos hbad]
      rcases hbad with ⟨h1, h2⟩ | ⟨h1, h2⟩
      · have g1 : ¬ (d : Int) > 0 := by omega
        have g2 : (d : Int) < 2 := by omega
        have g3 : decide (k = 0) = false := by simp; omega
        by_cases h63 : ((7 * k : Nat) : Int) < 63 <;> simp only [h63, g1, g2, hn0, g3, decide_true, decide_false, Bool.not_false, Bool.false_eq_true, if_true, if_false]
      · have h63 : ¬ ((7 * k : Nat) : Int) < 63 := by omega
        have g2 : ¬ (d : Int) < 2 := by omega
        simp only [h63, g2, decide_false, Bool.false_eq_true, if_false]
    · rw [if_neg hbad]
      have hd : d < 256 := by omega
      have h9 : k = 9 → d < 2 := by omega
      have hor := or_prog u d k hu hk hd h9
      have hlt : u + d % 128 * 2 ^ (7 * k) < 18446744073709551616 := by
        have := wrapu64 0
        by_cases h : k = 9
        · subst h
          have := h9 rfl
          have hh : (2 : Nat) ^ (7 * 9) = 9223372036854775808 := rfl
          rw [hh] at hu ⊢; omega
        · have hp : 2 ^ (7 * k) ≤ 2 ^ 56 := Nat.pow_le_pow_right (by decide) (by omega)
          have hh : (2 : Nat) ^ 56 = 72057594037927936 := rfl
          rw [hh] at hp
          have h2 : d % 128 * 2 ^ (7 * k) ≤ 127 * 72057594037927936 := Nat.mul_le_mul (by omega) hp
          omega
      have main : ∀ q : Bool × Bool × Bool, (fun (s236 : (Bool × Bool × Bool)) => (okI (0 ≤ ((7 * k : Nat) : Int)) (if (decide ((d : Int) < (128 : Int))) = true then (okI (0 ≤ (1 : Int)) (some (some (unz (u + d % 128 * 2 ^ (7 * k))), (⟨t⟩ : S_proof_source)))) else kk (((u + d % 128 * 2 ^ (7 * k) : Nat) : Int), ((7 * (k + 1) : Nat) : Int), t)))) q = if (d : Int) < 128 then some (some (unz (u + (d : Int).toNat % 128 * 2 ^ (7 * k))), ⟨t⟩) else kk (((u + (d : Int).toNat % 128 * 2 ^ (7 * k) : Nat) : Int), ((7 * (k + 1) : Nat) : Int), t) := by
        intro q
        simp only [okI_eq ho, okI_eq ho1, Int.toNat_natCast, decide_eq_true_eq]
      have hun := unz_prog _ hlt
      simp only [hor, hun, hw, hn0]
      have m0 := main (true, true, true)
      simp only at m0
      by_cases h63 : ((7 * k : Nat) : Int) < 63
      · by_cases g1 : (d : Int) > 0
        · simp only [h63, g1, decide_true, if_true]; exact m0
        · have g3 : decide (k = 0) = true := by simp; omega
          simp only [h63, g1, g3, decide_true, decide_false, Bool.not_true, Bool.false_eq_true, if_true, if_false]; exact m0
      · have g2 : (d : Int) < 2 := by omega
        have g1 : (d : Int) > 0 := by omega
        simp only [h63, g1, g2, decide_true, decide_false, Bool.false_eq_true, if_true, if_false]; exact m0
end Go.Sk.X

namespace Go.Sk.X
open Go Go.Sk

theorem NB_loop : ∀ (m k u n : Nat) (b : List Int), k + m = 9 → m < n → u < 2 ^ (7 * k) → (∀ c ∈ b, 0 ≤ c ∧ c ≤ 255) →
    (∀ v r, rdv k b = some (v, r) → whileF n NB ((u : Int), ((7 * k : Nat) : Int), b) = some (some (unz (u + v * 2 ^ (7 * k))), ⟨r⟩)) ∧
    (rdv k b = none → ∃ s, whileF n NB ((u : Int), ((7 * k : Nat) : Int), b) = some (none, s)) := by
  intro m
  induction m with
  | zero =>
    intro k u n b hk hn hu hb
    obtain ⟨n, rfl⟩ : ∃ i, n = i + 1 := ⟨n - 1, by omega⟩
    rw [whileF_succ, NB_step _ u k b (by omega) hu hb]
    cases b with
    | nil => exact ⟨fun v r h => by simp [rdv] at h, fun _ => ⟨_, rfl⟩⟩
    | cons c t =>
      have hc := hb c (by simp)
      simp only [rdv]
      by_cases hbad : (c = 0 ∧ 0 < k) ∨ (9 ≤ k ∧ 2 ≤ c)
      · simp only [if_pos hbad]
        exact ⟨fun v r h => by simp at h, fun _ => ⟨_, rfl⟩⟩
      · have hl : c < 128 := by omega
        simp only [if_neg hbad, if_pos hl]
        refine ⟨fun v r h => ?_, fun h => by simp at h⟩
        injection h with h
        injection h with h1 h2
        subst h1; subst h2
        rw [Nat.mod_eq_of_lt (by omega)]
  | succ m ih =>
    intro k u n b hk hn hu hb
    obtain ⟨n, rfl⟩ : ∃ i, n = i + 1 := ⟨n - 1, by omega⟩
    rw [whileF_succ, NB_step _ u k b (by omega) hu hb]
    cases b with
    | nil => exact ⟨fun v r h => by simp [rdv] at h, fun _ => ⟨_, rfl⟩⟩
    | cons c t =>
      have hc := hb c (by simp)
      simp only [rdv]
      by_cases hbad : (c = 0 ∧ 0 < k) ∨ (9 ≤ k ∧ 2 ≤ c)
      · simp only [if_pos hbad]
        exact ⟨fun v r h => by simp at h, fun _ => ⟨_, rfl⟩⟩
      · by_cases hl : c < 128
        · simp only [if_neg hbad, if_pos hl]
          refine ⟨fun v r h => ?_, fun h => by simp at h⟩
          injection h with h
          injection h with h1 h2
          subst h1; subst h2
          rw [Nat.mod_eq_of_lt (by omega)]
        · simp only [if_neg hbad, if_neg hl]
          have he : 7 * (k + 1) = 7 * k + 7 := by omega
          have hu2 : u + c.toNat % 128 * 2 ^ (7 * k) < 2 ^ (7 * (k + 1)) := by
            rw [he, Nat.pow_add]
            have h7 : (2 : Nat) ^ 7 = 128 := rfl
            rw [h7]
            have : c.toNat % 128 * 2 ^ (7 * k) ≤ 127 * 2 ^ (7 * k) := Nat.mul_le_mul_right _ (by omega)
            omega
          obtain ⟨i1, i2⟩ := ih (k + 1) (u + c.toNat % 128 * 2 ^ (7 * k)) n t (by omega) (by omega) hu2 (fun x hx => hb x (by simp [hx]))
          refine ⟨fun v r h => ?_, fun h => ?_⟩
          · obtain ⟨⟨v2, r2⟩, h1, h2⟩ := Option.map_eq_some_iff.1 h
            injection h2 with h2 h3
            subst h3
            rw [i1 v2 r2 h1]
            congr 3
            have e : v = c.toNat % 128 + 128 * v2 := by simp at h2; omega
            rw [e, he, Nat.pow_add]
            have h7 : (2 : Nat) ^ 7 = 128 := rfl
            rw [h7, Nat.add_mul]
            have e9 : v2 * (2 ^ (7 * k) * 128) = 128 * v2 * 2 ^ (7 * k) := by
              rw [Nat.mul_comm (2 ^ (7 * k)) 128, ← Nat.mul_assoc, Nat.mul_comm v2 128]
            rw [e9, Nat.add_assoc]
          · exact i2 (Option.map_eq_none_iff.1 h)
theorem number_some {b : List Int} (hb : ∀ c ∈ b, 0 ≤ c ∧ c ≤ 255) {v : Nat} {r : List Int} (h : rdv 0 b = some (v, r)) : F_proof_source_number ⟨b⟩ = some (some (unz v), ⟨r⟩) := by
  rw [num_unfold]
  have := (NB_loop 9 0 0 1000000000000 b rfl (by decide) (by decide) hb).1 v r h
  simpa using this
theorem number_none {b : List Int} (hb : ∀ c ∈ b, 0 ≤ c ∧ c ≤ 255) (h : rdv 0 b = none) : ∃ s, F_proof_source_number ⟨b⟩ = some (none, s) := by
  rw [num_unfold]
  exact (NB_loop 9 0 0 1000000000000 b rfl (by decide) (by decide) hb).2 h
end Go.Sk.X

namespace Go.Sk.X
open Go Go.Sk
def RB : ((Int × Int × Int × (List Int) × Bool) → Option (Int × S_skolemref10_reader)) → (Int × Int × Int × (List Int) × Bool) → Option (Int × S_skolemref10_reader) :=
  (fun k103 (s101 : (Int × Int × Int × (List Int) × Bool)) => (if (decide (s101.2.2.1 ≤ (10 : Int))) = true then ((F_skolemref10_reader_one (S_skolemref10_reader.mk s101.2.2.2.1 s101.2.2.2.2)).bind (fun y264 => (jn (fun (s278 : Bool) => (if (decide (y264.1 < (128 : Int))) = true then (if ((Int.tmod (IntKind.wrap .u64 (s101.1 + (IntKind.wrap .u64 ((IntKind.wrap .u64 (Int.tmod y264.1 (128 : Int))) * s101.2.1)))) (2 : Int)) == (0 : Int)) = true then (some ((IntKind.wrap .i64 (IntKind.wrap .u64 (Int.tdiv (IntKind.wrap .u64 (s101.1 + (IntKind.wrap .u64 ((IntKind.wrap .u64 (Int.tmod y264.1 (128 : Int))) * s101.2.1)))) (2 : Int)))), (S_skolemref10_reader.mk y264.2.B s278))) else (some ((IntKind.wrap .i64 ((IntKind.wrap .i64 (0 - (IntKind.wrap .i64 (IntKind.wrap .u64 (Int.tdiv (IntKind.wrap .u64 (s101.1 + (IntKind.wrap .u64 ((IntKind.wrap .u64 (Int.tmod y264.1 (128 : Int))) * s101.2.1)))) (2 : Int)))))) - (1 : Int))), (S_skolemref10_reader.mk y264.2.B s278)))) else (k103 ((IntKind.wrap .u64 (s101.1 + (IntKind.wrap .u64 ((IntKind.wrap .u64 (Int.tmod y264.1 (128 : Int))) * s101.2.1)))), (IntKind.wrap .u64 (s101.2.1 * (128 : Int))), (IntKind.wrap .i64 (s101.2.2.1 + (1 : Int))), y264.2.B, s278)))) (fun k280 => (jn (fun (s287 : Bool) => (if s287 = true then (k280 true) else (k280 y264.2.Bad))) (fun k289 => (if (s101.2.2.1 == (10 : Int)) = true then (if (decide ((IntKind.wrap .u64 (Int.tmod y264.1 (128 : Int))) > (1 : Int))) = true then (k289 true) else (if (y264.1 == (0 : Int)) = true then (k289 (decide (s101.2.2.1 > (1 : Int)))) else (k289 false))) else (if (y264.1 == (0 : Int)) = true then (k289 (decide (s101.2.2.1 > (1 : Int)))) else (k289 false))))))))) else (some ((0 : Int), (S_skolemref10_reader.mk s101.2.2.2.1 true)))))
theorem rnum_unfold (a0 : S_skolemref10_reader) : F_skolemref10_reader_number a0 = whileF 1000000000000 RB ((0 : Int), (1 : Int), (1 : Int), a0.B, a0.Bad) := rfl
/-- what was bad stays so -/
theorem RB_bad : ∀ (m n : Nat) (u w : Int) (i : Nat) (b : List Int), i + m = 11 → m < n → ∃ x s, whileF n RB (u, w, (i : Int), b, true) = some (x, ⟨s, true⟩) := by
  intro m
  induction m with
  | zero =>
    intro n u w i b hi hn
    obtain ⟨n, rfl⟩ : ∃ q, n = q + 1 := ⟨n - 1, by omega⟩
    rw [whileF_succ]
    have h : ¬ (i : Int) ≤ 10 := by omega
    refine ⟨0, b, ?_⟩
    simp only [RB, h, decide_false, Bool.false_eq_true, if_false]
  | succ m ih =>
    intro n u w i b hi hn
    obtain ⟨n, rfl⟩ : ∃ q, n = q + 1 := ⟨n - 1, by omega⟩
    rw [whileF_succ]
    have h : (i : Int) ≤ 10 := by omega
    have hw : IntKind.wrap .i64 ((i : Int) + 1) = ((i + 1 : Nat) : Int) := by rw [wrap_id (by omega) (by omega)]; omega
    have all : ∀ (z : Int) (t : List Int) (K : Bool → Option (Int × S_skolemref10_reader)) (r : Option (Int × S_skolemref10_reader)), (∀ q, K q = r) → True := fun _ _ _ _ _ => trivial
    simp only [RB, h, decide_true, if_true, one_eq, Option.bind_some, jn_eq, hw]
    cases b with
    | nil =>
      have g : (0 : Int) < 128 := by decide
      simp only [g, decide_true, if_true, ite_self]
      split <;> exact ⟨_, _, rfl⟩
    | cons c t =>
      simp only [ite_self]
      by_cases g : c < 128
      · simp only [g, decide_true, if_true]
        split <;> exact ⟨_, _, rfl⟩
      · simp only [g, decide_false, Bool.false_eq_true, if_false]
        exact ih n _ _ (i + 1) t (by omega) (by omega)
end Go.Sk.X

namespace Go.Sk.X
open Go Go.Sk

theorem seven_lt (u d k : Nat) (hu : u < 2 ^ (7 * k)) (hk : k ≤ 9) (h9 : k = 9 → d < 2) : u + d % 128 * 2 ^ (7 * k) < 18446744073709551616 ∧ d % 128 * 2 ^ (7 * k) < 18446744073709551616 := by
  by_cases h : k = 9
  · subst h
    have := h9 rfl
    have hh : (2 : Nat) ^ (7 * 9) = 9223372036854775808 := rfl
    rw [hh] at hu ⊢; omega
  · have hp : 2 ^ (7 * k) ≤ 2 ^ 56 := Nat.pow_le_pow_right (by decide) (by omega)
    have hh : (2 : Nat) ^ 56 = 72057594037927936 := rfl
    rw [hh] at hp
    have h2 : d % 128 * 2 ^ (7 * k) ≤ 127 * 72057594037927936 := Nat.mul_le_mul (by omega) hp
    omega
/-- one byte, nothing bad in it -/
theorem RB_step (kk : (Int × Int × Int × (List Int) × Bool) → Option (Int × S_skolemref10_reader)) (u k d : Nat) (t : List Int) (bb : Bool) (hk : k ≤ 9) (hu : u < 2 ^ (7 * k)) (hd : d < 256) (hg : ¬(((d : Int) = 0 ∧ 0 < k) ∨ (9 ≤ k ∧ (2 : Int) ≤ (d : Int)))) :
    RB kk ((u : Int), ((2 ^ (7 * k) : Nat) : Int), ((k + 1 : Nat) : Int), (d : Int) :: t, bb) = if d < 128 then some (unz (u + d % 128 * 2 ^ (7 * k)), ⟨t, bb⟩) else kk (((u + d % 128 * 2 ^ (7 * k) : Nat) : Int), ((2 ^ (7 * (k + 1)) % 18446744073709551616 : Nat) : Int), ((k + 1 + 1 : Nat) : Int), t, bb) := by
  have hi : ((k + 1 : Nat) : Int) ≤ 10 := by omega
  have hw : IntKind.wrap .i64 (((k + 1 : Nat) : Int) + 1) = ((k + 1 + 1 : Nat) : Int) := by rw [wrap_id (by omega) (by omega)]; omega
  obtain ⟨l1, l2⟩ := seven_lt u d k hu hk (by omega)
  have ht : Int.tmod (d : Int) 128 = ((d % 128 : Nat) : Int) := by rw [Int.tmod_eq_emod_of_nonneg (by omega)]; omega
  have hlow : IntKind.wrap .u64 (Int.tmod (d : Int) 128) = ((d % 128 : Nat) : Int) := by rw [ht, wrapu64]; omega
  have hmul : IntKind.wrap .u64 (((d % 128 : Nat) : Int) * ((2 ^ (7 * k) : Nat) : Int)) = ((d % 128 * 2 ^ (7 * k) : Nat) : Int) := by
    rw [wrapu64, ← Int.natCast_mul]
    generalize d % 128 * 2 ^ (7 * k) = q at l2 ⊢
    omega
  have hadd : IntKind.wrap .u64 ((u : Int) + ((d % 128 * 2 ^ (7 * k) : Nat) : Int)) = ((u + d % 128 * 2 ^ (7 * k) : Nat) : Int) := by
    rw [wrapu64]
    generalize d % 128 * 2 ^ (7 * k) = q at l1 ⊢
    omega
  have hunit : IntKind.wrap .u64 (((2 ^ (7 * k) : Nat) : Int) * 128) = ((2 ^ (7 * (k + 1)) % 18446744073709551616 : Nat) : Int) := by
    have he : 7 * (k + 1) = 7 * k + 7 := by omega
    have h7 : (2 : Nat) ^ 7 = 128 := rfl
    rw [wrapu64, he, Nat.pow_add, h7]
    generalize 2 ^ (7 * k) = q
    omega
  simp only [RB, hi, decide_true, if_true, one_eq, Option.bind_some, jn_eq, hw, hlow, hmul, hadd, hunit]
  generalize hU : u + d % 128 * 2 ^ (7 * k) = U at l1 ⊢
  have b1 : (((k + 1 : Nat) : Int) == 10) = decide (k = 9) := by
    by_cases h : k = 9
    · subst h; rfl
    · have : ((k + 1 : Nat) : Int) ≠ 10 := by omega
      simp [h]; omega
  have b2 : ¬ (((d % 128 : Nat) : Int) > 1 ∧ k = 9) := by omega
  have b3 : (((d : Int) == 0) && decide (((k + 1 : Nat) : Int) > 1)) = false := by
    by_cases h : d = 0
    · have : ¬ ((k + 1 : Nat) : Int) > 1 := by omega
      simp [this]; omega
    · simp [h]
  have fin : (if decide ((d : Int) < 128) = true then (if (Int.tmod (U : Int) 2 == 0) = true then some (IntKind.wrap .i64 (IntKind.wrap .u64 (Int.tdiv (U : Int) 2)), (⟨t, bb⟩ : S_skolemref10_reader)) else some (IntKind.wrap .i64 (IntKind.wrap .i64 (0 - IntKind.wrap .i64 (IntKind.wrap .u64 (Int.tdiv (U : Int) 2))) - 1), ⟨t, bb⟩)) else kk ((U : Int), ((2 ^ (7 * (k + 1)) % 18446744073709551616 : Nat) : Int), ((k + 1 + 1 : Nat) : Int), t, bb)) = if d < 128 then some (unz U, ⟨t, bb⟩) else kk ((U : Int), ((2 ^ (7 * (k + 1)) % 18446744073709551616 : Nat) : Int), ((k + 1 + 1 : Nat) : Int), t, bb) := by
    by_cases g : d < 128
    · have g' : (d : Int) < 128 := by omega
      have q1 : Int.tdiv (U : Int) 2 = ((U / 2 : Nat) : Int) := by rw [Int.tdiv_eq_ediv_of_nonneg (by omega)]; omega
      have q2 : Int.tmod (U : Int) 2 = ((U % 2 : Nat) : Int) := by rw [Int.tmod_eq_emod_of_nonneg (by omega)]; omega
      have q3 : IntKind.wrap .u64 ((U / 2 : Nat) : Int) = ((U / 2 : Nat) : Int) := by rw [wrapu64]; omega
      have q4 : IntKind.wrap .i64 ((U / 2 : Nat) : Int) = ((U / 2 : Nat) : Int) := wrap_id (by omega) (by omega)
      have q5 : IntKind.wrap .i64 (0 - ((U / 2 : Nat) : Int)) = -((U / 2 : Nat) : Int) := by rw [wrap_id (by omega) (by omega)]; omega
      have q6 : IntKind.wrap .i64 (-((U / 2 : Nat) : Int) - 1) = -((U / 2 : Nat) : Int) - 1 := wrap_id (by omega) (by omega)
      simp only [g, g', decide_true, if_true, q1, q2, q3, q4, q5, q6, unz]
      by_cases hm : U % 2 = 0
      · simp [hm]
      · have : ¬ ((U % 2 : Nat) : Int) = 0 := by omega
        simp only [hm, if_false, beq_iff_eq, this]
    · have g' : ¬ (d : Int) < 128 := by omega
      simp only [g, g', decide_false, Bool.false_eq_true, if_false]
  by_cases h9 : k = 9
  · have hd1 : d = 1 := by omega
    have c1 : (((k + 1 : Nat) : Int) == 10) = true := by rw [b1]; simp [h9]
    have c2 : ¬ ((d % 128 : Nat) : Int) > 1 := by omega
    have c3 : ((d : Int) == 0) = false := by simp; omega
    simp only [c1, c2, c3, decide_false, Bool.false_eq_true, if_true, if_false]
    exact fin
  · have c1 : (((k + 1 : Nat) : Int) == 10) = false := by rw [b1]; simp [h9]
    by_cases hd0 : d = 0
    · have c3 : ((d : Int) == 0) = true := by simp; omega
      have c4 : ¬ ((k + 1 : Nat) : Int) > 1 := by omega
      simp only [c1, c3, c4, decide_false, Bool.false_eq_true, if_true, if_false]
      exact fin
    · have c3 : ((d : Int) == 0) = false := by simp; omega
      simp only [c1, c3, Bool.false_eq_true, if_false]
      exact fin
end Go.Sk.X

namespace Go.Sk.X
open Go Go.Sk

/-- the bytes end -/
theorem RB_nil (kk : (Int × Int × Int × (List Int) × Bool) → Option (Int × S_skolemref10_reader)) (u w : Int) (k : Nat) (hk : k ≤ 9) (bb : Bool) : ∃ x s, RB kk (u, w, ((k + 1 : Nat) : Int), [], bb) = some (x, ⟨s, true⟩) := by
  have hi : ((k + 1 : Nat) : Int) ≤ 10 := by omega
  have g : (0 : Int) < 128 := by decide
  simp only [RB, hi, decide_true, if_true, one_eq, Option.bind_some, jn_eq, g, ite_self]
  split <;> exact ⟨_, _, rfl⟩
/-- a bad byte -/
theorem RB_badbyte (n : Nat) (u w : Int) (k d : Nat) (t : List Int) (bb : Bool) (hk : k ≤ 9) (hn : 11 < n) (hd : d < 256) (hg : ((d : Int) = 0 ∧ 0 < k) ∨ (9 ≤ k ∧ (2 : Int) ≤ (d : Int))) :
    ∃ x s, whileF n RB (u, w, ((k + 1 : Nat) : Int), (d : Int) :: t, bb) = some (x, ⟨s, true⟩) := by
  obtain ⟨n, rfl⟩ : ∃ q, n = q + 1 := ⟨n - 1, by omega⟩
  rw [whileF_succ]
  have hi : ((k + 1 : Nat) : Int) ≤ 10 := by omega
  have hw : IntKind.wrap .i64 (((k + 1 : Nat) : Int) + 1) = ((k + 1 + 1 : Nat) : Int) := by rw [wrap_id (by omega) (by omega)]; omega
  have ht : Int.tmod (d : Int) 128 = ((d % 128 : Nat) : Int) := by rw [Int.tmod_eq_emod_of_nonneg (by omega)]; omega
  have hlow : IntKind.wrap .u64 (Int.tmod (d : Int) 128) = ((d % 128 : Nat) : Int) := by rw [ht, wrapu64]; omega
  -- whatever was noted: behind the tenth byte it is bad
  have late : ∀ (u w : Int) (q : Bool), k = 9 → ∃ x s, whileF n RB (u, w, ((k + 1 + 1 : Nat) : Int), t, q) = some (x, ⟨s, true⟩) := by
    intro u w q h9
    obtain ⟨n, rfl⟩ : ∃ q, n = q + 1 := ⟨n - 1, by omega⟩
    rw [whileF_succ]
    have h : ¬ ((k + 1 + 1 : Nat) : Int) ≤ 10 := by omega
    exact ⟨0, t, by simp only [RB, h, decide_false, Bool.false_eq_true, if_false]⟩
  simp only [RB, hi, decide_true, if_true, one_eq, Option.bind_some, jn_eq, hw, hlow]
  by_cases g : (d : Int) < 128
  · -- it ends here, and is noted as bad
    rcases hg with ⟨h1, h2⟩ | ⟨h1, h2⟩
    · have e1 : ((d : Int) == 0) = true := by rw [h1]; rfl
      have e2 : ((k + 1 : Nat) : Int) > 1 := by omega
      by_cases h9 : k = 9
      · have e3 : (((k + 1 : Nat) : Int) == 10) = true := by subst h9; rfl
        have e4 : ¬ ((d % 128 : Nat) : Int) > 1 := by omega
        simp only [g, e1, e2, e3, e4, decide_true, decide_false, Bool.false_eq_true, if_true, if_false]
        split <;> exact ⟨_, _, rfl⟩
      · have e3 : (((k + 1 : Nat) : Int) == 10) = false := beq_eq_false_iff_ne.2 (by omega)
        simp only [g, e1, e2, e3, decide_true, Bool.false_eq_true, if_true, if_false]
        split <;> exact ⟨_, _, rfl⟩
    · have h9 : k = 9 := by omega
      have e3 : (((k + 1 : Nat) : Int) == 10) = true := by subst h9; rfl
      have e4 : ((d % 128 : Nat) : Int) > 1 := by omega
      simp only [g, e3, e4, decide_true, if_true]
      split <;> exact ⟨_, _, rfl⟩
  · have h9 : k = 9 := by omega
    simp only [g, decide_false, Bool.false_eq_true, if_false]
    split
    · split
      · exact late _ _ _ h9
      · split
        · split <;> exact late _ _ _ h9
        · exact late _ _ _ h9
    · split
      · split <;> exact late _ _ _ h9
      · exact late _ _ _ h9
end Go.Sk.X

namespace Go.Sk.X
open Go Go.Sk

theorem RB_loop : ∀ (m k u n : Nat) (b : List Int) (bb : Bool), k + m = 9 → m + 12 < n → u < 2 ^ (7 * k) → (∀ c ∈ b, 0 ≤ c ∧ c ≤ 255) →
    (∀ v r, rdv k b = some (v, r) → whileF n RB ((u : Int), ((2 ^ (7 * k) : Nat) : Int), ((k + 1 : Nat) : Int), b, bb) = some (unz (u + v * 2 ^ (7 * k)), ⟨r, bb⟩)) ∧
    (rdv k b = none → ∃ x s, whileF n RB ((u : Int), ((2 ^ (7 * k) : Nat) : Int), ((k + 1 : Nat) : Int), b, bb) = some (x, ⟨s, true⟩)) := by
  intro m
  induction m with
  | zero =>
    intro k u n b bb hk hn hu hb
    cases b with
    | nil =>
      obtain ⟨n, rfl⟩ : ∃ i, n = i + 1 := ⟨n - 1, by omega⟩
      exact ⟨fun v r h => by simp [rdv] at h, fun _ => by rw [whileF_succ]; exact RB_nil _ _ _ k (by omega) bb⟩
    | cons c t =>
      have hc := hb c (by simp)
      obtain ⟨d, rfl⟩ : ∃ d : Nat, c = d := ⟨c.toNat, by omega⟩
      simp only [rdv]
      by_cases hbad : ((d : Int) = 0 ∧ 0 < k) ∨ (9 ≤ k ∧ (2 : Int) ≤ (d : Int))
      · simp only [if_pos hbad]
        exact ⟨fun v r h => by simp at h, fun _ => RB_badbyte n _ _ k d t bb (by omega) (by omega) (by omega) hbad⟩
      · have hl : (d : Int) < 128 := by omega
        simp only [if_neg hbad, if_pos hl]
        refine ⟨fun v r h => ?_, fun h => by simp at h⟩
        obtain ⟨n, rfl⟩ : ∃ i, n = i + 1 := ⟨n - 1, by omega⟩
        rw [whileF_succ, RB_step _ u k d t bb (by omega) hu (by omega) hbad, if_pos (show d < 128 by omega)]
        injection h with h
        injection h with h1 h2
        subst h1; subst h2
        rw [Nat.mod_eq_of_lt (by omega)]; simp
  | succ m ih =>
    intro k u n b bb hk hn hu hb
    cases b with
    | nil =>
      obtain ⟨n, rfl⟩ : ∃ i, n = i + 1 := ⟨n - 1, by omega⟩
      exact ⟨fun v r h => by simp [rdv] at h, fun _ => by rw [whileF_succ]; exact RB_nil _ _ _ k (by omega) bb⟩
    | cons c t =>
      have hc := hb c (by simp)
      obtain ⟨d, rfl⟩ : ∃ d : Nat, c = d := ⟨c.toNat, by omega⟩
      simp only [rdv]
      by_cases hbad : ((d : Int) = 0 ∧ 0 < k) ∨ (9 ≤ k ∧ (2 : Int) ≤ (d : Int))
      · simp only [if_pos hbad]
        exact ⟨fun v r h => by simp at h, fun _ => RB_badbyte n _ _ k d t bb (by omega) (by omega) (by omega) hbad⟩
      · obtain ⟨n, rfl⟩ : ∃ i, n = i + 1 := ⟨n - 1, by omega⟩
        rw [whileF_succ, RB_step _ u k d t bb (by omega) hu (by omega) hbad]
        by_cases hl : (d : Int) < 128
        · rw [if_pos (show d < 128 by omega)]
          simp only [if_neg hbad, if_pos hl]
          refine ⟨fun v r h => ?_, fun h => by simp at h⟩
          injection h with h
          injection h with h1 h2
          subst h1; subst h2
          rw [Nat.mod_eq_of_lt (by omega)]; simp
        · rw [if_neg (show ¬ d < 128 by omega)]
          simp only [if_neg hbad, if_neg hl]
          have he : 7 * (k + 1) = 7 * k + 7 := by omega
          have h7 : (2 : Nat) ^ 7 = 128 := rfl
          have hu2 : u + d % 128 * 2 ^ (7 * k) < 2 ^ (7 * (k + 1)) := by
            rw [he, Nat.pow_add, h7]
            have : d % 128 * 2 ^ (7 * k) ≤ 127 * 2 ^ (7 * k) := Nat.mul_le_mul_right _ (by omega)
            omega
          have hmod : 2 ^ (7 * (k + 1)) % 18446744073709551616 = 2 ^ (7 * (k + 1)) := by
            apply Nat.mod_eq_of_lt
            have hp : 2 ^ (7 * (k + 1)) ≤ 2 ^ 63 := Nat.pow_le_pow_right (by decide) (by omega)
            have hd : (2 : Nat) ^ 63 = 9223372036854775808 := rfl
            omega
          rw [hmod]
          obtain ⟨i1, i2⟩ := ih (k + 1) (u + d % 128 * 2 ^ (7 * k)) n t bb (by omega) (by omega) hu2 (fun x hx => hb x (by simp [hx]))
          refine ⟨fun v r h => ?_, fun h => i2 (Option.map_eq_none_iff.1 h)⟩
          obtain ⟨⟨v2, r2⟩, h1, h2⟩ := Option.map_eq_some_iff.1 h
          injection h2 with h2 h3
          subst h3
          rw [i1 v2 r2 h1]
          have e : v = d % 128 + 128 * v2 := by simp at h2; omega
          rw [e, he, Nat.pow_add, h7, Nat.add_mul]
          have e9 : v2 * (2 ^ (7 * k) * 128) = 128 * v2 * 2 ^ (7 * k) := by
            rw [Nat.mul_comm (2 ^ (7 * k)) 128, ← Nat.mul_assoc, Nat.mul_comm v2 128]
          rw [e9, Nat.add_assoc]
theorem rnumber_some {b : List Int} {bb : Bool} (hb : ∀ c ∈ b, 0 ≤ c ∧ c ≤ 255) {v : Nat} {r : List Int} (h : rdv 0 b = some (v, r)) : F_skolemref10_reader_number ⟨b, bb⟩ = some (unz v, ⟨r, bb⟩) := by
  rw [rnum_unfold]
  have := (RB_loop 9 0 0 1000000000000 b bb rfl (by decide) (by decide) hb).1 v r h
  simpa using this
theorem rnumber_none {b : List Int} {bb : Bool} (hb : ∀ c ∈ b, 0 ≤ c ∧ c ≤ 255) (h : rdv 0 b = none) : ∃ x s, F_skolemref10_reader_number ⟨b, bb⟩ = some (x, ⟨s, true⟩) := by
  rw [rnum_unfold]
  exact (RB_loop 9 0 0 1000000000000 b bb rfl (by decide) (by decide) hb).2 h
end Go.Sk.X

namespace Go.Sk.X
open Go Go.Sk

/-! ### A proof is read -/
def By (b : List Int) : Prop := ∀ c ∈ b, 0 ≤ c ∧ c ≤ 255

def litsR : Nat → List Int → Option (List Int × List Int)
  | 0, b => some ([], b)
  | n + 1, b => (rdv 0 b).bind fun q => (litsR n q.2).bind fun z => some (unz q.1 :: z.1, z.2)

def lineR : List Int → Option (S_api_Line × List Int)
  | [] => none
  | r :: t => (rdv 0 t).bind fun a => (rdv 0 a.2).bind fun b => (rdv 0 b.2).bind fun p => (rdv 0 p.2).bind fun k =>
    if 0 ≤ unz k.1 ∧ unz k.1 ≤ (k.2.length : Int) then (litsR (unz k.1).toNat k.2).bind fun z => some (S_api_Line.mk r (unz a.1) (unz b.1) (unz p.1) z.1, z.2) else none

def linesR : Nat → List Int → Option (List S_api_Line × List Int)
  | 0, b => some ([], b)
  | n + 1, b => (lineR b).bind fun q => (linesR n q.2).bind fun z => some (q.1 :: z.1, z.2)

def bodyR (c : Int) (t : List Int) : Option S_api_Proof :=
  if c < 2 then (rdv 0 t).bind fun n => if 0 ≤ unz n.1 ∧ unz n.1 ≤ 1000000 then (linesR (unz n.1).toNat n.2).bind fun z => if z.2 = [] then some (S_api_Proof.mk (c == 1) z.1) else none else none else none

def getR : List Int → Option S_api_Proof
  | h1 :: h2 :: h3 :: c :: t => if h1 = 82 ∧ h2 = 80 ∧ h3 = 1 then bodyR c t else none
  | _ => none

theorem rdv_lt : ∀ (b : List Int) (k u : Nat) (r : List Int), By b → k ≤ 9 → rdv k b = some (u, r) → u < 2 * 128 ^ (9 - k)
  | [], k, u, r, _, _, h => by simp [rdv] at h
  | c :: t, k, u, r, hb, hk, h => by
    have hc := hb c (by simp)
    rw [rdv] at h
    split at h
    · simp at h
    · rename_i hn
      split at h
      · injection h with h
        injection h with h1 h2
        by_cases h9 : k = 9
        · subst h9; simp; omega
        · obtain ⟨m, hm⟩ : ∃ m, 9 - k = m + 1 := ⟨8 - k, by omega⟩
          rw [hm, Nat.pow_succ]
          have : 0 < 128 ^ m := Nat.pow_pos (by decide)
          omega
      · have h9 : k < 9 := by omega
        obtain ⟨⟨v, s⟩, hv, he⟩ := Option.map_eq_some_iff.1 h
        injection he with h1 h2
        have ih := rdv_lt t (k + 1) v s (fun c hc => hb c (by simp [hc])) h9 hv
        obtain ⟨m, hm⟩ : ∃ m, 9 - k = m + 1 := ⟨8 - k, by omega⟩
        have hm' : 9 - (k + 1) = m := by omega
        rw [hm'] at ih
        rw [hm, Nat.pow_succ]
        simp at h1
        omega
theorem vint_pos (u : Nat) : 1 ≤ (vint u).length := by rw [vint]; split <;> simp
theorem rdv_back {b : List Int} {u : Nat} {r : List Int} (hb : By b) (h : rdv 0 b = some (u, r)) : b = vint u ++ r ∧ u < 18446744073709551616 ∧ By r ∧ r.length + 1 ≤ b.length := by
  have h1 := (vint_rdv b 0 u r hb h).1
  have h2 := rdv_lt b 0 u r hb (by decide) h
  have h3 := vint_pos u
  refine ⟨h1, by simpa using h2, fun c hc => hb c (by rw [h1]; simp [hc]), ?_⟩
  rw [h1, List.length_append]; omega
theorem unz_i64 {u : Nat} (h : u < 18446744073709551616) : InK .i64 (unz u) := by
  rw [inK64]; unfold unz; split <;> omega

theorem litsR_back : ∀ (n : Nat) (b xs r : List Int), By b → litsR n b = some (xs, r) →
    b = (xs.flatMap fun x => vint (zig x)) ++ r ∧ xs.length = n ∧ (∀ x ∈ xs, InK .i64 x) ∧ By r ∧ n + r.length ≤ b.length
  | 0, b, xs, r, hb, h => by
    simp only [litsR, Option.some.injEq, Prod.mk.injEq] at h
    obtain ⟨rfl, rfl⟩ := h
    exact ⟨by simp, rfl, by simp, hb, by simp⟩
  | n + 1, b, xs, r, hb, h => by
    rw [litsR] at h
    obtain ⟨⟨u, s⟩, h1, h⟩ := bind_some_elim h
    obtain ⟨⟨ys, t⟩, h2, h⟩ := bind_some_elim h
    simp only [Option.some.injEq, Prod.mk.injEq] at h
    obtain ⟨rfl, rfl⟩ := h
    obtain ⟨e1, e2, e3, e4⟩ := rdv_back hb h1
    obtain ⟨f1, f2, f3, f4, f5⟩ := litsR_back n s ys _ e3 h2
    refine ⟨?_, by simp [f2], ?_, f4, by dsimp only at *; omega⟩
    · rw [e1, List.flatMap_cons, zig_unz, List.append_assoc]; rw [← f1]
    · intro x hx
      rcases List.mem_cons.1 hx with rfl | hx
      · exact unz_i64 e2
      · exact f3 x hx

theorem lineR_back {b : List Int} {l : S_api_Line} {r : List Int} (hb : By b) (hl : b.length ≤ 1000000) (h : lineR b = some (l, r)) :
    b = lineB l ++ r ∧ W_S_api_Line l ∧ By r ∧ l.Lits.length + 1 + r.length ≤ b.length := by
  cases b with
  | nil => simp [lineR] at h
  | cons x t =>
    rw [lineR] at h
    obtain ⟨⟨ua, ta⟩, ha, h⟩ := bind_some_elim h
    obtain ⟨⟨ub, tb⟩, hbb, h⟩ := bind_some_elim h
    obtain ⟨⟨up, tp⟩, hp, h⟩ := bind_some_elim h
    obtain ⟨⟨uk, tk⟩, hk, h⟩ := bind_some_elim h
    split at h
    · rename_i hc
      obtain ⟨⟨xs, tz⟩, hz, h⟩ := bind_some_elim h
      simp only [Option.some.injEq, Prod.mk.injEq] at h
      obtain ⟨rfl, rfl⟩ := h
      obtain ⟨a1, a2, a3, a4⟩ := rdv_back (fun c hc => hb c (by simp [hc])) ha
      obtain ⟨b1, b2, b3, b4⟩ := rdv_back a3 hbb
      obtain ⟨p1, p2, p3, p4⟩ := rdv_back b3 hp
      obtain ⟨k1, k2, k3, k4⟩ := rdv_back p3 hk
      obtain ⟨z1, z2, z3, z4, z5⟩ := litsR_back _ _ _ _ k3 hz
      have hx := hb x (by simp)
      dsimp only at hc z2
      have hlen : ((xs.length : Nat) : Int) = unz uk := by rw [z2]; omega
      refine ⟨?_, ⟨hx, unz_i64 a2, unz_i64 b2, unz_i64 p2, ?_, z3⟩, z4, ?_⟩
      · simp only [lineB, hlen, zig_unz, List.cons_append, List.append_assoc]
        rw [a1, b1, p1, k1, z1]
      · simp only [List.length_cons] at hl; simp only [] at *; omega
      · simp only [List.length_cons] at *; omega
    · simp at h

theorem linesR_back : ∀ (n : Nat) (b : List Int) (ls : List S_api_Line) (r : List Int), By b → b.length ≤ 1000000 → linesR n b = some (ls, r) →
    b = ls.flatMap lineB ++ r ∧ ls.length = n ∧ (∀ l ∈ ls, W_S_api_Line l) ∧ By r ∧ litN ls + ls.length + r.length ≤ b.length
  | 0, b, xs, r, hb, _, h => by
    simp only [linesR, Option.some.injEq, Prod.mk.injEq] at h
    obtain ⟨rfl, rfl⟩ := h
    exact ⟨by simp, rfl, by simp, hb, by simp [litN]⟩
  | n + 1, b, xs, r, hb, hl, h => by
    rw [linesR] at h
    obtain ⟨⟨u, s⟩, h1, h⟩ := bind_some_elim h
    obtain ⟨⟨ys, t⟩, h2, h⟩ := bind_some_elim h
    simp only [Option.some.injEq, Prod.mk.injEq] at h
    obtain ⟨rfl, rfl⟩ := h
    obtain ⟨e1, e2, e3, e4⟩ := lineR_back hb hl h1
    simp only [] at h2
    obtain ⟨f1, f2, f3, f4, f5⟩ := linesR_back n s ys _ e3 (by omega) h2
    refine ⟨?_, by simp [f2], ?_, f4, ?_⟩
    · rw [e1, List.flatMap_cons, List.append_assoc]; rw [← f1]
    · intro x hx
      rcases List.mem_cons.1 hx with rfl | hx
      · exact e2
      · exact f3 x hx
    · rw [litN_cons]; simp only [List.length_cons] at *; omega

theorem getR_back {b : List Int} {p : S_api_Proof} (hb : By b) (hl : b.length ≤ 5000) (h : getR b = some p) : putB p = b ∧ Sp p := by
  unfold getR at h
  split at h
  · rename_i h1 h2 h3 c t
    split at h
    · rename_i hh
      obtain ⟨rfl, rfl, rfl⟩ := hh
      unfold bodyR at h
      split at h
      · rename_i hc
        obtain ⟨⟨un, tn⟩, hn, h⟩ := bind_some_elim h
        split at h
        · rename_i hi
          obtain ⟨⟨ls, tz⟩, hz, h⟩ := bind_some_elim h
          split at h
          · rename_i he
            simp only [] at he hi hz
            subst he
            injection h with h
            subst h
            obtain ⟨a1, a2, a3, a4⟩ := rdv_back (fun c hc => hb c (by simp [hc])) hn
            simp only [List.length_cons] at hl
            obtain ⟨f1, f2, f3, f4, f5⟩ := linesR_back _ _ _ _ a3 (by omega) hz
            have hc0 := hb c (by simp)
            have hlen : ((ls.length : Nat) : Int) = unz un := by rw [f2]; omega
            refine ⟨?_, ⟨⟨trivial, ?_, f3⟩, ?_, ?_⟩⟩
            · simp only [putB, hlen, zig_unz]
              rw [List.append_nil] at f1
              rw [← f1, ← a1]
              have : c = 0 ∨ c = 1 := by omega
              rcases this with rfl | rfl <;> rfl
            · simp only []; omega
            · simp only []; omega
            · simp only []; omega
          · simp at h
        · simp at h
      · simp at h
    · simp at h
  · simp at h

/-! #### What was written -/
theorem vint_by : ∀ (k u : Nat), u < 128 ^ (k + 1) → By (vint u) := by
  intro k
  induction k with
  | zero => intro u hu c hc; rw [vint, dif_pos (by simpa using hu)] at hc; simp at hc hu; omega
  | succ k ih =>
    intro u hu c hc
    rw [vint] at hc
    split at hc
    · simp at hc; omega
    · rcases List.mem_cons.1 hc with rfl | hc
      · omega
      · refine ih (u / 128) ?_ c hc
        rw [Nat.div_lt_iff_lt_mul (by decide)]
        rw [Nat.pow_succ] at hu
        exact hu
theorem zig_by {v : Int} (h : InK .i64 v) : By (vint (zig v)) := vint_by 10 _ (Nat.lt_of_lt_of_le (zig_lt (inK64.1 h).1 (inK64.1 h).2) (by decide))
theorem rdv_zig {v : Int} (h : InK .i64 v) (r : List Int) : rdv 0 (vint (zig v) ++ r) = some (zig v, r) := by
  have := zig_lt (inK64.1 h).1 (inK64.1 h).2
  exact rdv_vint 9 (zig v) 0 r (Nat.lt_of_lt_of_le this (by decide)) rfl (Nat.lt_of_lt_of_le this (by decide)) (.inl rfl)
theorem By.app {a b : List Int} (ha : By a) (hb : By b) : By (a ++ b) := fun c hc => (List.mem_append.1 hc).elim (ha c) (hb c)
theorem By.flat {α : Type} {f : α → List Int} : ∀ {xs : List α}, (∀ x ∈ xs, By (f x)) → By (xs.flatMap f)
  | [], _ => fun c hc => by simp at hc
  | x :: xs, h => by rw [List.flatMap_cons]; exact (h x (by simp)).app (By.flat fun y hy => h y (by simp [hy]))
theorem lineB_by {l : S_api_Line} (h : W_S_api_Line l) (hn : l.Lits.length ≤ 1000000) : By (lineB l) := by
  obtain ⟨w0, wa, wb, wc, wd⟩ := h
  unfold lineB
  have hk : InK .i64 ((l.Lits.length : Nat) : Int) := by rw [inK64]; omega
  have := (zig_by wa).app ((zig_by wb).app ((zig_by wc).app ((zig_by hk).app (By.flat fun x hx => zig_by (wd.2 x hx)))))
  intro c hc
  rcases List.mem_cons.1 hc with rfl | hc
  · exact w0
  · exact this c hc
theorem litN_mem : ∀ {ls : List S_api_Line} {l : S_api_Line}, l ∈ ls → l.Lits.length ≤ litN ls
  | [], l, h => by simp at h
  | x :: xs, l, h => by
    rw [litN_cons]
    rcases List.mem_cons.1 h with rfl | h
    · omega
    · have := litN_mem h; omega
theorem putB_by {p : S_api_Proof} (h : Sp p) : By (putB p) := by
  have hn := h.n
  have hl := h.l
  have hk : InK .i64 ((p.Lines.length : Nat) : Int) := by rw [inK64]; omega
  unfold putB
  refine By.app ?_ ((zig_by hk).app (By.flat fun l hlm => lineB_by (h.line hlm) (by have := litN_mem hlm; omega)))
  intro c hc
  simp at hc
  rcases hc with rfl | rfl | rfl | hc
  · decide
  · decide
  · decide
  · rw [hc]; split <;> decide
theorem putB_len {p : S_api_Proof} (h : Sp p) : (putB p).length ≤ 400000 := by
  have hn := h.n
  have hl := h.l
  have h1 := lines_len p.Lines (fun l hlm => h.line hlm) hl
  have h2 := num_len (v := ((p.Lines.length : Nat) : Int)) (by omega) (by omega)
  simp only [putB, List.length_append, List.length_cons, List.length_nil]
  omega

theorem litsR_put : ∀ (xs r : List Int), (∀ x ∈ xs, InK .i64 x) → litsR xs.length ((xs.flatMap fun x => vint (zig x)) ++ r) = some (xs, r)
  | [], r, _ => rfl
  | x :: xs, r, h => by
    rw [List.length_cons, litsR, List.flatMap_cons, List.append_assoc, rdv_zig (h x (by simp)), Option.bind_some]
    simp only []
    rw [litsR_put xs r (fun y hy => h y (by simp [hy])), Option.bind_some, unz_zig]
theorem lits_ge : ∀ (xs : List Int), xs.length ≤ (xs.flatMap fun x => vint (zig x)).length
  | [] => by simp
  | x :: xs => by
    have := vint_pos (zig x)
    have := lits_ge xs
    rw [List.flatMap_cons, List.length_append, List.length_cons]; omega
theorem lineR_put {l : S_api_Line} (r : List Int) (h : W_S_api_Line l) (hn : l.Lits.length ≤ 1000000) : lineR (lineB l ++ r) = some (l, r) := by
  obtain ⟨w0, wa, wb, wc, wd⟩ := h
  have hk : InK .i64 ((l.Lits.length : Nat) : Int) := by rw [inK64]; omega
  have hg := lits_ge l.Lits
  simp only [lineB, List.cons_append, List.append_assoc, lineR]
  rw [rdv_zig wa, Option.bind_some]; simp only []
  rw [rdv_zig wb, Option.bind_some]; simp only []
  rw [rdv_zig wc, Option.bind_some]; simp only []
  rw [rdv_zig hk, Option.bind_some]; simp only [unz_zig]
  rw [if_pos (by rw [List.length_append]; omega), Int.toNat_natCast, litsR_put _ _ wd.2, Option.bind_some]
theorem linesR_put : ∀ (ls : List S_api_Line) (r : List Int), (∀ l ∈ ls, W_S_api_Line l) → litN ls ≤ 1000000 → linesR ls.length (ls.flatMap lineB ++ r) = some (ls, r)
  | [], r, _, _ => rfl
  | l :: ls, r, h, hn => by
    rw [litN_cons] at hn
    rw [List.length_cons, linesR, List.flatMap_cons, List.append_assoc, lineR_put _ (h l (by simp)) (by omega), Option.bind_some]
    simp only []
    rw [linesR_put ls r (fun y hy => h y (by simp [hy])) (by omega), Option.bind_some]
theorem getR_put {p : S_api_Proof} (h : Sp p) : getR (putB p) = some p := by
  have hn := h.n
  have hl := h.l
  have hk : InK .i64 ((p.Lines.length : Nat) : Int) := by rw [inK64]; omega
  obtain ⟨cu, ls⟩ := p
  simp only [putB, List.cons_append, List.nil_append, getR]
  rw [if_pos (by decide), bodyR]
  have hc : (if cu = true then (1 : Int) else 0) < 2 := by split <;> decide
  rw [if_pos hc, rdv_zig hk, Option.bind_some]
  simp only [unz_zig] at *
  have := linesR_put ls [] (fun l hlm => h.line hlm) (by omega)
  rw [List.append_nil] at this
  rw [if_pos (by omega), Int.toNat_natCast, this, Option.bind_some]
  simp only [if_true]
  cases cu <;> rfl
end Go.Sk.X

namespace Go.Sk.X
open Go Go.Sk
def PLit : Int → (List Int × List Int) → ((List Int × List Int) → Option (Option S_api_Proof × S_proof_source)) → Option (Option S_api_Proof × S_proof_source) :=
  (fun (j843 : Int) (s840 : ((List Int) × (List Int))) k842 => ((F_proof_source_number (S_proof_source.mk s840.1)).bind (fun y904 => (pcase y904 (some (none, y904.2)) (fun z905 => (capN (s840.2.length + [z905].length) (k842 (y904.2.b, (s840.2 ++ [z905])))))))))
def PLine : Int → (List Int × List S_api_Line) → ((List Int × List S_api_Line) → Option (Option S_api_Proof × S_proof_source)) → Option (Option S_api_Proof × S_proof_source) :=
  (fun (j136 : Int) (s133 : ((List Int) × (List S_api_Line))) k135 => ((F_proof_source_byte (S_proof_source.mk s133.1)).bind (fun y824 => (pcase y824 (some (none, y824.2)) (fun z825 => ((F_proof_source_number y824.2).bind (fun y826 => (pcase y826 (some (none, y826.2)) (fun z827 => ((F_proof_source_number y826.2).bind (fun y828 => (pcase y828 (some (none, y828.2)) (fun z829 => ((F_proof_source_number y828.2).bind (fun y830 => (pcase y830 (some (none, y830.2)) (fun z831 => ((F_proof_source_number y830.2).bind (fun y832 => (pcase y832 (some (none, y832.2)) (fun z833 => (if (decide (z833 ≥ (0 : Int))) = true then (if (!(decide (z833 ≤ ((y832.2.b.length : Nat) : Int)))) = true then (some (none, y832.2)) else (okI (-9223372036854775808 ≤ (0 : Int) ∧ z833 ≤ 9223372036854775807) (upF PLit ((z833 - (0 : Int)).toNat) (0 : Int) (y832.2.b, ([] : List Int)) (fun (s840 : ((List Int) × (List Int))) => (capN (s133.2.length + [(S_api_Line.mk z825 z827 z829 z831 s840.2)].length) (k135 (s840.1, (s133.2 ++ [(S_api_Line.mk z825 z827 z829 z831 s840.2)])))))))) else (some (none, y832.2))))))))))))))))))))))))
theorem proof_unfold (a0 : S_proof_source) : F_proof_source_proof a0 =
  ((F_proof_source_byte a0).bind (fun y111 => (pcase y111 (some (none, y111.2)) (fun z112 => (if (z112 == (82 : Int)) = true then ((F_proof_source_byte y111.2).bind (fun y114 => (pcase y114 (some (none, y114.2)) (fun z115 => (if (z115 == (80 : Int)) = true then ((F_proof_source_byte y114.2).bind (fun y117 => (pcase y117 (some (none, y117.2)) (fun z118 => (if (!(z118 == (1 : Int))) = true then (some (none, y117.2)) else ((F_proof_source_byte y117.2).bind (fun y121 => (pcase y121 (some (none, y121.2)) (fun z122 => ((F_proof_source_number y121.2).bind (fun y123 => (pcase y123 (some (none, y123.2)) (fun z124 => (if (decide (z122 < (2 : Int))) = true then (if (decide (z124 ≥ (0 : Int))) = true then (if (!(decide (z124 ≤ (1000000 : Int)))) = true then (some (none, y123.2)) else (okI (-9223372036854775808 ≤ (0 : Int) ∧ z124 ≤ 9223372036854775807) (upF PLine ((z124 - (0 : Int)).toNat) (0 : Int) (y123.2.b, ([] : List S_api_Line)) (fun (s133 : ((List Int) × (List S_api_Line))) => (if (!(((s133.1.length : Nat) : Int) == (0 : Int))) = true then (some (none, (S_proof_source.mk s133.1))) else (some (some (S_api_Proof.mk (z122 == (1 : Int)) s133.2), (S_proof_source.mk s133.1)))))))) else (some (none, y123.2))) else (some (none, y123.2)))))))))))))))) else (some (none, y114.2))))))) else (some (none, y111.2))))))) := rfl

/-! ### The program's reading follows the plain one -/
abbrev PR := Option (Option S_api_Proof × S_proof_source)
def Pan (x : PR) : Prop := ∃ s, x = some (none, s)
def Fol {α : Type} (x : Option α) (k : α → PR) (y : PR) : Prop := match x with
  | some q => y = k q
  | none => Pan y
theorem Fol.bind {α β : Type} {x : Option α} {f : α → Option β} {k : β → PR} {k' : α → PR} {y : PR} (h : Fol x k' y) (h2 : ∀ q, x = some q → Fol (f q) k (k' q)) : Fol (x.bind f) k y := by
  cases x with
  | none => exact h
  | some q =>
    have h1 : y = k' q := h
    rw [h1]
    exact h2 q rfl
theorem pcase_none {α S R : Type} (s : S) (p : Option R) (k : α → Option R) : pcase (none, s) p k = p := rfl
theorem pcase_some {α S R : Type} (a : α) (s : S) (p : Option R) (k : α → Option R) : pcase (some a, s) p k = k a := rfl
theorem Fol_num {b : List Int} (hb : By b) (kk : Int → (Option Int × S_proof_source) → PR) :
    Fol (rdv 0 b) (fun q => kk (unz q.1) (some (unz q.1), ⟨q.2⟩)) ((F_proof_source_number ⟨b⟩).bind fun y => pcase y (some (none, y.2)) fun z => kk z y) := by
  cases h : rdv 0 b with
  | none => obtain ⟨s, e⟩ := number_none hb h; exact ⟨s, by rw [e]; rfl⟩
  | some q => obtain ⟨u, r⟩ := q; show _ = _; rw [number_some hb h]; rfl

theorem PLits : ∀ (n : Nat) (i : Int) (b acc : List Int) (k : (List Int × List Int) → PR), By b → acc.length + n ≤ 2000000 →
    Fol (litsR n b) (fun q => k (q.2, acc ++ q.1)) (upF PLit n i (b, acc) k)
  | 0, i, b, acc, k, hb, ha => by show k (b, acc) = k (b, acc ++ []); rw [List.append_nil]
  | n + 1, i, b, acc, k, hb, ha => by
    rw [upF_succ, litsR]
    refine Fol.bind (Fol_num hb fun z y => capN (acc.length + [z].length) (upF PLit n (i + 1) (y.2.b, acc ++ [z]) k)) (fun q hq => ?_)
    obtain ⟨u, r⟩ := q
    dsimp only
    rw [capN_eq (by simp only [List.length_cons, List.length_nil]; omega)]
    refine Fol.bind (PLits n (i + 1) r (acc ++ [unz u]) k (rdv_back hb hq).2.2.1 (by simp only [List.length_append, List.length_cons, List.length_nil]; omega)) (fun z hz => ?_)
    show _ = _
    simp

theorem PLine_step (j : Int) (b : List Int) (acc : List S_api_Line) (kk : (List Int × List S_api_Line) → PR) (hb : By b) (hl : b.length ≤ 1000000) (ha : acc.length ≤ 2000000) :
    Fol (lineR b) (fun q => kk (q.2, acc ++ [q.1])) (PLine j (b, acc) kk) := by
  unfold PLine
  cases b with
  | nil => exact ⟨⟨[]⟩, by dsimp only; rw [byte_eq]; rfl⟩
  | cons x t =>
    dsimp only
    rw [byte_eq, Option.bind_some]
    dsimp only
    rw [pcase_some, lineR]
    have hb' : By t := fun c hc => hb c (by simp [hc])
    simp only [List.length_cons] at hl
    refine Fol.bind (Fol_num hb' _) (fun q hq => ?_)
    obtain ⟨ua, ta⟩ := q
    obtain ⟨_, _, a3, a4⟩ := rdv_back hb' hq
    dsimp only
    refine Fol.bind (Fol_num a3 _) (fun q hq => ?_)
    obtain ⟨ub, tb⟩ := q
    obtain ⟨_, _, b3, b4⟩ := rdv_back a3 hq
    dsimp only
    refine Fol.bind (Fol_num b3 _) (fun q hq => ?_)
    obtain ⟨up, tp⟩ := q
    obtain ⟨_, _, p3, p4⟩ := rdv_back b3 hq
    dsimp only
    refine Fol.bind (Fol_num p3 _) (fun q hq => ?_)
    obtain ⟨uk, tk⟩ := q
    obtain ⟨_, _, k3, k4⟩ := rdv_back p3 hq
    dsimp only
    by_cases h0 : 0 ≤ unz uk
    · by_cases h1 : unz uk ≤ ((tk.length : Nat) : Int)
      · rw [if_pos ⟨h0, h1⟩, if_pos (by simpa using h0), if_neg (by simpa using h1), okI_eq ⟨by decide, by omega⟩, Int.sub_zero]
        refine Fol.bind (PLits _ 0 tk [] _ k3 (by simp only [List.length_nil]; omega)) (fun z hz => ?_)
        show _ = _
        rw [List.nil_append]
        exact capN_eq (by simp only [List.length_cons, List.length_nil]; omega)
      · rw [if_neg (fun h => h1 h.2), if_pos (by simpa using h0), if_pos (by simpa using h1)]
        exact ⟨_, rfl⟩
    · rw [if_neg (fun h => h0 h.1), if_neg (by simpa using h0)]
      exact ⟨_, rfl⟩

theorem PLines : ∀ (n : Nat) (i : Int) (b : List Int) (acc : List S_api_Line) (k : (List Int × List S_api_Line) → PR), By b → b.length ≤ 1000000 → acc.length + n ≤ 2000000 →
    Fol (linesR n b) (fun q => k (q.2, acc ++ q.1)) (upF PLine n i (b, acc) k)
  | 0, i, b, acc, k, hb, hl, ha => by show k (b, acc) = k (b, acc ++ []); rw [List.append_nil]
  | n + 1, i, b, acc, k, hb, hl, ha => by
    rw [upF_succ, linesR]
    refine Fol.bind (PLine_step i b acc _ hb hl (by omega)) (fun q hq => ?_)
    obtain ⟨l, r⟩ := q
    obtain ⟨_, _, l3, l4⟩ := lineR_back hb hl hq
    dsimp only
    refine Fol.bind (PLines n (i + 1) r (acc ++ [l]) k l3 (by omega) (by simp only [List.length_append, List.length_cons, List.length_nil]; omega)) (fun z hz => ?_)
    show _ = _
    simp

theorem PBody (z : Int) (t : List Int) (hb : By t) (hl : t.length ≤ 1000000) :
    Fol (bodyR z t) (fun q => some (some q, ⟨[]⟩)) ((F_proof_source_number ⟨t⟩).bind (fun y123 => (pcase y123 (some (none, y123.2)) (fun z124 => (if (decide (z < (2 : Int))) = true then (if (decide (z124 ≥ (0 : Int))) = true then (if (!(decide (z124 ≤ (1000000 : Int)))) = true then (some (none, y123.2)) else (okI (-9223372036854775808 ≤ (0 : Int) ∧ z124 ≤ 9223372036854775807) (upF PLine ((z124 - (0 : Int)).toNat) (0 : Int) (y123.2.b, ([] : List S_api_Line)) (fun (s133 : ((List Int) × (List S_api_Line))) => (if (!(((s133.1.length : Nat) : Int) == (0 : Int))) = true then (some (none, (S_proof_source.mk s133.1))) else (some (some (S_api_Proof.mk (z == (1 : Int)) s133.2), (S_proof_source.mk s133.1)))))))) else (some (none, y123.2))) else (some (none, y123.2))))))) := by
  unfold bodyR
  by_cases hz : z < 2
  · rw [if_pos hz]
    simp only [hz, decide_true, if_true]
    refine Fol.bind (Fol_num hb _) (fun q hq => ?_)
    obtain ⟨un, tn⟩ := q
    obtain ⟨_, _, a3, a4⟩ := rdv_back hb hq
    dsimp only
    by_cases h0 : 0 ≤ unz un
    · by_cases h1 : unz un ≤ 1000000
      · rw [if_pos ⟨h0, h1⟩, if_pos (by simpa using h0), if_neg (by simpa using h1), okI_eq ⟨by decide, by omega⟩, Int.sub_zero]
        refine Fol.bind (PLines _ 0 tn [] _ a3 (by omega) (by simp only [List.length_nil]; omega)) (fun q hq => ?_)
        obtain ⟨ls, r⟩ := q
        dsimp only
        rw [List.nil_append]
        cases r with
        | nil => exact rfl
        | cons c r =>
          rw [if_neg (by simp)]
          have : (!((((c :: r).length : Nat) : Int) == (0 : Int))) = true := by simp; omega
          rw [if_pos this]
          exact ⟨_, rfl⟩
      · rw [if_neg (fun h => h1 h.2), if_pos (by simpa using h0), if_pos (by simpa using h1)]
        exact ⟨_, rfl⟩
    · rw [if_neg (fun h => h0 h.1), if_neg (by simpa using h0)]
      exact ⟨_, rfl⟩
  · rw [if_neg hz]
    simp only [hz, decide_false, Bool.false_eq_true, if_false]
    cases h : rdv 0 t with
    | none => obtain ⟨s, e⟩ := number_none hb h; exact ⟨s, by rw [e]; rfl⟩
    | some q => obtain ⟨u, r⟩ := q; exact ⟨⟨r⟩, by rw [number_some hb h]; rfl⟩

theorem PGet (b : List Int) (hb : By b) (hl : b.length ≤ 1000000) : Fol (getR b) (fun q => some (some q, ⟨[]⟩)) (F_proof_source_proof ⟨b⟩) := by
  rw [proof_unfold]
  rcases b with _ | ⟨h1, _ | ⟨h2, _ | ⟨h3, _ | ⟨c, t⟩⟩⟩⟩
  · exact ⟨⟨[]⟩, by rw [byte_eq]; rfl⟩
  · simp only [byte_eq, Option.bind_some, pcase_some, pcase_none]
    show Pan _
    split <;> exact ⟨_, rfl⟩
  · simp only [byte_eq, Option.bind_some, pcase_some, pcase_none]
    show Pan _
    repeat' split
    all_goals exact ⟨_, rfl⟩
  · simp only [byte_eq, Option.bind_some, pcase_some, pcase_none]
    show Pan _
    repeat' split
    all_goals exact ⟨_, rfl⟩
  · simp only [byte_eq, Option.bind_some, pcase_some, pcase_none]
    have hp : h1 = 82 ∧ h2 = 80 ∧ h3 = 1 → getR (h1 :: h2 :: h3 :: c :: t) = bodyR c t := fun h => by rw [getR, if_pos h]
    have hn : ¬ (h1 = 82 ∧ h2 = 80 ∧ h3 = 1) → getR (h1 :: h2 :: h3 :: c :: t) = none := fun h => by rw [getR, if_neg h]
    by_cases e1 : h1 = 82
    · by_cases e2 : h2 = 80
      · by_cases e3 : h3 = 1
        · rw [hp ⟨e1, e2, e3⟩]
          simp only [e1, e2, e3, beq_self_eq_true, if_true, Bool.not_true, Bool.false_eq_true, if_false]
          exact PBody c t (fun c hc => hb c (by simp [hc])) (by simp only [List.length_cons] at hl; omega)
        · rw [hn (fun h => e3 h.2.2)]
          have : (!(h3 == 1)) = true := by simp [e3]
          simp only [e1, e2, this, beq_self_eq_true, if_true]
          exact ⟨_, rfl⟩
      · rw [hn (fun h => e2 h.2.1)]
        have : (h2 == 80) = false := by simp [e2]
        simp only [e1, this, beq_self_eq_true, if_true, Bool.false_eq_true, if_false]
        exact ⟨_, rfl⟩
    · rw [hn (fun h => e1 h.1)]
      have : (h1 == 82) = false := by simp [e1]
      simp only [this, Bool.false_eq_true, if_false]
      exact ⟨_, rfl⟩

def outR (x : Option S_api_Proof) : S_api_Proof × Int := match x with
  | some q => (q, 0)
  | none => (S_api_Proof.mk false [], 5)
theorem prog_get {b : List Int} (hb : By b) (hl : b.length ≤ 1000000) : F_proof_Get b = some (outR (getR b)) := by
  have h := PGet b hb hl
  unfold F_proof_Get
  cases e : getR b with
  | none =>
    rw [e] at h
    obtain ⟨s, hs⟩ := h
    rw [hs]; rfl
  | some q =>
    rw [e] at h
    have hs : F_proof_source_proof ⟨b⟩ = some (some q, ⟨[]⟩) := h
    rw [hs]; rfl
end Go.Sk.X

namespace Go.Sk.X
open Go Go.Sk
def RLit (K : Int) (ke : (List Int × Bool × List Int) → Option (S_api_Proof × Int)) : ((Int × List Int × Bool × List Int) → Option (S_api_Proof × Int)) → (Int × List Int × Bool × List Int) → Option (S_api_Proof × Int) :=
  (fun k2749 (s2747 : (Int × (List Int) × Bool × (List Int))) => (jn (fun (s2804 : Bool) => (if s2804 = true then ((F_skolemref10_reader_number (S_skolemref10_reader.mk s2747.2.1 s2747.2.2.1)).bind (fun y2808 => (capN (s2747.2.2.2.length + [y2808.1].length) (k2749 ((IntKind.wrap .i64 (s2747.1 + (1 : Int))), y2808.2.B, y2808.2.Bad, (s2747.2.2.2 ++ [y2808.1])))))) else (ke (s2747.2.1, s2747.2.2.1, s2747.2.2.2)))) (fun k2806 => (if (decide (s2747.1 < K)) = true then (k2806 (!s2747.2.2.1)) else (k2806 false)))))
def RTail (fu : Nat) (kk : (Int × List Int × Bool × List S_api_Line) → Option (S_api_Proof × Int)) (ii : Int) (ls : List S_api_Line) (rr aa bb pp : Int) (y2667 : Int × S_skolemref10_reader) : Option (S_api_Proof × Int) :=
  (jn (fun (s2675 : Bool) => (jn (fun (s2743 : ((List Int) × Bool × (List Int))) => (capN (ls.length + [(S_api_Line.mk rr aa bb pp s2743.2.2)].length) (kk ((IntKind.wrap .i64 (ii + (1 : Int))), s2743.1, s2743.2.1, (ls ++ [(S_api_Line.mk rr aa bb pp s2743.2.2)]))))) (fun k2745 => (whileF fu (RLit y2667.1 k2745) ((0 : Int), y2667.2.B, s2675, ([] : List Int)))))) (fun k2677 => (jn (fun (s2813 : Bool) => (if s2813 = true then (k2677 true) else (k2677 y2667.2.Bad))) (fun k2815 => (if (decide (y2667.1 < (0 : Int))) = true then (k2815 true) else (k2815 (decide (y2667.1 > ((y2667.2.B.length : Nat) : Int)))))))))
def RLine (N : Int) (ke : (List Int × Bool × List S_api_Line) → Option (S_api_Proof × Int)) : ((Int × List Int × Bool × List S_api_Line) → Option (S_api_Proof × Int)) → (Int × List Int × Bool × List S_api_Line) → Option (S_api_Proof × Int) :=
  (fun k1496 (s1494 : (Int × (List Int) × Bool × (List S_api_Line))) => (jn (fun (s2496 : Bool) => (if s2496 = true then ((F_skolemref10_reader_one (S_skolemref10_reader.mk s1494.2.1 s1494.2.2.1)).bind (fun y2659 => ((F_skolemref10_reader_number y2659.2).bind (fun y2661 => ((F_skolemref10_reader_number y2661.2).bind (fun y2663 => ((F_skolemref10_reader_number y2663.2).bind (fun y2665 => ((F_skolemref10_reader_number y2665.2).bind (fun y2667 => (RTail 1000000000000 k1496 s1494.1 s1494.2.2.2 y2659.1 y2661.1 y2663.1 y2665.1 y2667))))))))))) else (ke (s1494.2.1, s1494.2.2.1, s1494.2.2.2)))) (fun k2498 => (if (decide (s1494.1 < N)) = true then (k2498 (!s1494.2.2.1)) else (k2498 false)))))
def RMain (b : List Int) (bad : Bool) : Option (S_api_Proof × Int) :=
  ((F_skolemref10_reader_one (S_skolemref10_reader.mk b bad)).bind (fun y133 => ((F_skolemref10_reader_number y133.2).bind (fun y135 => (jn (fun (s150 : (Bool × Bool)) => (if s150.1 = true then (some ((S_api_Proof.mk false ([] : List S_api_Line)), (5 : Int))) else (jn (fun (s1479 : ((List Int) × Bool × (List S_api_Line))) => (jn (fun (s1489 : Bool) => (if s1489 = true then (some ((S_api_Proof.mk false ([] : List S_api_Line)), (5 : Int))) else (some ((S_api_Proof.mk (y133.1 == (1 : Int)) s1479.2.2), (0 : Int))))) (fun k1491 => (if s1479.2.1 = true then (k1491 true) else (k1491 (decide (((s1479.1.length : Nat) : Int) > (0 : Int)))))))) (fun k1481 => (whileF 1000000000000 (RLine y135.1 k1481) ((0 : Int), y135.2.B, s150.2, ([] : List S_api_Line))))))) (fun k152 => (if y135.2.Bad = true then (k152 (true, true)) else (if (decide (y133.1 > (1 : Int))) = true then (k152 (true, false)) else (if (decide (y135.1 < (0 : Int))) = true then (k152 (true, false)) else (k152 ((decide (y135.1 > (1000000 : Int))), false)))))))))))
theorem rget_unfold (a0 : List Int) : F_skolemref10_Get a0 =
  (jn (fun (s129 : (Bool × (List Int) × Bool)) => (if s129.1 = true then (some ((S_api_Proof.mk false ([] : List S_api_Line)), (5 : Int))) else (RMain s129.2.1 s129.2.2))) (fun k131 => ((F_skolemref10_reader_one (S_skolemref10_reader.mk a0 false)).bind (fun y2822 => (if (y2822.1 != (82 : Int)) = true then (k131 (true, y2822.2.B, y2822.2.Bad)) else ((F_skolemref10_reader_one y2822.2).bind (fun y2825 => (if (y2825.1 != (80 : Int)) = true then (k131 (true, y2825.2.B, y2825.2.Bad)) else ((F_skolemref10_reader_one y2825.2).bind (fun y2828 => (k131 ((y2828.1 != (1 : Int)), y2828.2.B, y2828.2.Bad)))))))))))) := rfl

/-! ### The reference's reading follows the plain one -/
abbrev RR := Option (S_api_Proof × Int)
def FAIL : RR := some (S_api_Proof.mk false [], 5)
def FolR {α : Type} (x : Option α) (k : α → RR) (y : RR) : Prop := match x with
  | some q => y = k q
  | none => y = FAIL
theorem FolR.bind {α β : Type} {x : Option α} {f : α → Option β} {k : β → RR} {k' : α → RR} {y : RR} (h : FolR x k' y) (h2 : ∀ q, x = some q → FolR (f q) k (k' q)) : FolR (x.bind f) k y := by
  cases x with
  | none => exact h
  | some q =>
    have h1 : y = k' q := h
    rw [h1]
    exact h2 q rfl
theorem bad_num (b : List Int) : ∃ x s, F_skolemref10_reader_number ⟨b, true⟩ = some (x, ⟨s, true⟩) := by
  rw [rnum_unfold]
  exact RB_bad 10 1000000000000 0 1 1 b rfl (by decide)
theorem badn (b : List Int) {kk : (Int × S_skolemref10_reader) → RR} (h : ∀ x s, kk (x, ⟨s, true⟩) = FAIL) : (F_skolemref10_reader_number ⟨b, true⟩).bind kk = FAIL := by
  obtain ⟨x, s, e⟩ := bad_num b
  rw [e]; exact h x s
theorem FolR_num {b : List Int} (hb : By b) (kk : (Int × S_skolemref10_reader) → RR) (hbad : ∀ x s, kk (x, ⟨s, true⟩) = FAIL) :
    FolR (rdv 0 b) (fun q => kk (unz q.1, ⟨q.2, false⟩)) ((F_skolemref10_reader_number ⟨b, false⟩).bind kk) := by
  cases h : rdv 0 b with
  | none => obtain ⟨x, s, e⟩ := rnumber_none (bb := false) hb h; show _ = _; rw [e]; exact hbad x s
  | some q => obtain ⟨u, r⟩ := q; show _ = _; rw [rnumber_some hb h]; rfl

theorem RLit_bad (K : Int) (ke : (List Int × Bool × List Int) → RR) (kk : (Int × List Int × Bool × List Int) → RR) (j : Int) (b acc : List Int) : RLit K ke kk (j, b, true, acc) = ke (b, true, acc) := by
  simp only [RLit, jn_eq, Bool.not_true, ite_self, Bool.false_eq_true, if_false]
theorem RLit_end (K : Int) (ke : (List Int × Bool × List Int) → RR) (kk : (Int × List Int × Bool × List Int) → RR) (j : Int) (b acc : List Int) (c : Bool) (h : ¬ j < K) : RLit K ke kk (j, b, c, acc) = ke (b, c, acc) := by
  simp only [RLit, jn_eq, h, decide_false, Bool.false_eq_true, if_false]
theorem RLit_step (K : Int) (ke : (List Int × Bool × List Int) → RR) (kk : (Int × List Int × Bool × List Int) → RR) (j : Int) (b acc : List Int) (h : j < K) (ha : acc.length ≤ 2000000) :
    RLit K ke kk (j, b, false, acc) = (F_skolemref10_reader_number ⟨b, false⟩).bind fun y => kk (IntKind.wrap .i64 (j + 1), y.2.B, y.2.Bad, acc ++ [y.1]) := by
  simp only [RLit, jn_eq, h, decide_true, if_true, Bool.not_false]
  congr 1
  funext y
  exact capN_eq (by simp only [List.length_cons, List.length_nil]; omega)

theorem RLits (K : Int) (ke : (List Int × Bool × List Int) → RR) (hke : ∀ b acc, ke (b, true, acc) = FAIL) : ∀ (n fuel : Nat) (j : Int) (b acc : List Int), By b → 0 ≤ j → j + n = K → K ≤ 1000000 → n + 2 ≤ fuel → acc.length + n ≤ 2000000 →
    FolR (litsR n b) (fun q => ke (q.2, false, acc ++ q.1)) (whileF fuel (RLit K ke) (j, b, false, acc))
  | 0, fuel, j, b, acc, hb, h0, hj, hK, hf, ha => by
    obtain ⟨fuel, rfl⟩ : ∃ q, fuel = q + 1 := ⟨fuel - 1, by omega⟩
    show _ = _
    rw [whileF_succ, RLit_end _ _ _ _ _ _ _ (by omega)]; dsimp only; rw [List.append_nil]
  | n + 1, fuel, j, b, acc, hb, h0, hj, hK, hf, ha => by
    obtain ⟨fuel, rfl⟩ : ∃ q, fuel = q + 1 := ⟨fuel - 1, by omega⟩
    rw [whileF_succ, RLit_step _ _ _ _ _ _ (by omega) (by omega), litsR]
    have hw : IntKind.wrap .i64 (j + 1) = j + 1 := wrap_id (by omega) (by omega)
    rw [hw]
    refine FolR.bind (FolR_num hb _ (fun x s => ?_)) (fun q hq => ?_)
    · obtain ⟨fuel, rfl⟩ : ∃ q, fuel = q + 1 := ⟨fuel - 1, by omega⟩
      dsimp only
      rw [whileF_succ, RLit_bad]; exact hke _ _
    · obtain ⟨u, r⟩ := q
      dsimp only
      refine FolR.bind (RLits K ke hke n fuel (j + 1) r (acc ++ [unz u]) (rdv_back hb hq).2.2.1 (by omega) (by omega) hK (by omega) (by simp only [List.length_append, List.length_cons, List.length_nil]; omega)) (fun z hz => ?_)
      show _ = _
      simp

theorem RLit_run (K : Int) (ke : (List Int × Bool × List Int) → RR) (j : Int) (b acc : List Int) : ∀ n, 0 < n → whileF n (RLit K ke) (j, b, true, acc) = ke (b, true, acc)
  | 0, h => absurd h (Nat.lt_irrefl 0)
  | n + 1, _ => by rw [whileF_succ, RLit_bad]
theorem RTail_bad (fu : Nat) (hfu : 1000010 < fu) (kk : (Int × List Int × Bool × List S_api_Line) → RR) (hkk : ∀ i b ls, kk (i, b, true, ls) = FAIL) (i : Int) (ls : List S_api_Line) (hl : ls.length ≤ 2000000) (rr aa bb pp x : Int) (s : List Int) :
    RTail fu kk i ls rr aa bb pp (x, ⟨s, true⟩) = FAIL := by
  simp only [RTail, jn_eq, ite_self, if_true]
  have hc : ls.length + 1 ≤ 1099511627776 := by omega
  have e1 : ∀ (K : Int) ke j b acc, whileF fu (RLit K ke) (j, b, true, acc) = ke (b, true, acc) := fun K ke j b acc => RLit_run K ke j b acc _ (by omega)
  simp only [e1, hkk, List.length_cons, List.length_nil, Nat.zero_add, capN_eq hc, ite_self]
theorem RTail_ok (fu : Nat) (hfu : 1000010 < fu) (kk : (Int × List Int × Bool × List S_api_Line) → RR) (hkk : ∀ i b ls, kk (i, b, true, ls) = FAIL) (i : Int) (ls : List S_api_Line) (hl : ls.length ≤ 2000000) (rr aa bb pp x : Int) (s : List Int) (hb : By s) (hs : s.length ≤ 1000000) :
    FolR (if 0 ≤ x ∧ x ≤ (s.length : Int) then (litsR x.toNat s).bind fun z => some (S_api_Line.mk rr aa bb pp z.1, z.2) else none) (fun q => kk (IntKind.wrap .i64 (i + 1), q.2, false, ls ++ [q.1])) (RTail fu kk i ls rr aa bb pp (x, ⟨s, false⟩)) := by
  have hc : ls.length + 1 ≤ 1099511627776 := by omega
  have e1 : ∀ (K : Int) ke j b acc, whileF fu (RLit K ke) (j, b, true, acc) = ke (b, true, acc) := fun K ke j b acc => RLit_run K ke j b acc _ (by omega)
  simp only [RTail, jn_eq]
  by_cases h0 : x < 0
  · rw [if_neg (by omega)]
    simp only [h0, decide_true, if_true, e1, hkk, List.length_cons, List.length_nil, Nat.zero_add, capN_eq hc]
    exact rfl
  · by_cases h1 : x > ((s.length : Nat) : Int)
    · rw [if_neg (by omega)]
      simp only [h0, h1, decide_true, decide_false, if_true, Bool.false_eq_true, if_false, e1, hkk, List.length_cons, List.length_nil, Nat.zero_add, capN_eq hc]
      exact rfl
    · rw [if_pos (by omega)]
      simp only [h0, h1, decide_false, Bool.false_eq_true, if_false]
      refine FolR.bind (RLits x _ (fun b acc => ?_) x.toNat fu 0 s [] hb (by decide) (by omega) (by omega) (by omega) (by simp only [List.length_nil]; omega)) (fun z hz => ?_)
      · dsimp only
        rw [hkk]; exact capN_eq (by simp only [List.length_cons, List.length_nil]; omega)
      · show _ = _
        rw [List.nil_append]
        exact capN_eq (by simp only [List.length_cons, List.length_nil]; omega)

theorem RLine_bad (N : Int) (ke : (List Int × Bool × List S_api_Line) → RR) (kk : (Int × List Int × Bool × List S_api_Line) → RR) (j : Int) (b : List Int) (ls : List S_api_Line) : RLine N ke kk (j, b, true, ls) = ke (b, true, ls) := by
  simp only [RLine, jn_eq, Bool.not_true, ite_self, Bool.false_eq_true, if_false]
theorem RLine_end (N : Int) (ke : (List Int × Bool × List S_api_Line) → RR) (kk : (Int × List Int × Bool × List S_api_Line) → RR) (j : Int) (b : List Int) (ls : List S_api_Line) (c : Bool) (h : ¬ j < N) : RLine N ke kk (j, b, c, ls) = ke (b, c, ls) := by
  simp only [RLine, jn_eq, h, decide_false, Bool.false_eq_true, if_false]
theorem RLine_step (N : Int) (ke : (List Int × Bool × List S_api_Line) → RR) (kk : (Int × List Int × Bool × List S_api_Line) → RR) (hkk : ∀ i b ls, kk (i, b, true, ls) = FAIL) (i : Int) (b : List Int) (ls : List S_api_Line) (h : i < N) (hb : By b) (hl : b.length ≤ 1000000) (ha : ls.length ≤ 2000000) :
    FolR (lineR b) (fun q => kk (IntKind.wrap .i64 (i + 1), q.2, false, ls ++ [q.1])) (RLine N ke kk (i, b, false, ls)) := by
  simp only [RLine, jn_eq, h, decide_true, if_true, Bool.not_false, one_eq, Option.bind_some]
  cases b with
  | nil =>
    show _ = _
    refine badn _ (fun x s => ?_)
    refine badn _ (fun x s => ?_)
    refine badn _ (fun x s => ?_)
    refine badn _ (fun x s => ?_)
    exact RTail_bad _ (by decide) kk hkk i ls ha _ _ _ _ x s
  | cons x t =>
    dsimp only
    rw [lineR]
    have hb' : By t := fun c hc => hb c (by simp [hc])
    simp only [List.length_cons] at hl
    refine FolR.bind (FolR_num hb' _ (fun x s => ?_)) (fun q hq => ?_)
    · refine badn _ (fun x s => ?_)
      refine badn _ (fun x s => ?_)
      refine badn _ (fun x s => ?_)
      exact RTail_bad _ (by decide) kk hkk i ls ha _ _ _ _ x s
    obtain ⟨ua, ta⟩ := q
    obtain ⟨_, _, a3, a4⟩ := rdv_back hb' hq
    dsimp only
    refine FolR.bind (FolR_num a3 _ (fun x s => ?_)) (fun q hq => ?_)
    · refine badn _ (fun x s => ?_)
      refine badn _ (fun x s => ?_)
      exact RTail_bad _ (by decide) kk hkk i ls ha _ _ _ _ x s
    obtain ⟨ub, tb⟩ := q
    obtain ⟨_, _, b3, b4⟩ := rdv_back a3 hq
    dsimp only
    refine FolR.bind (FolR_num b3 _ (fun x s => ?_)) (fun q hq => ?_)
    · refine badn _ (fun x s => ?_)
      exact RTail_bad _ (by decide) kk hkk i ls ha _ _ _ _ x s
    obtain ⟨up, tp⟩ := q
    obtain ⟨_, _, p3, p4⟩ := rdv_back b3 hq
    dsimp only
    refine FolR.bind (FolR_num p3 _ (fun x s => ?_)) (fun q hq => ?_)
    · exact RTail_bad _ (by decide) kk hkk i ls ha _ _ _ _ x s
    obtain ⟨uk, tk⟩ := q
    obtain ⟨_, _, k3, k4⟩ := rdv_back p3 hq
    exact RTail_ok _ (by decide) kk hkk i ls ha _ _ _ _ _ tk k3 (by omega)

theorem RLines (N : Int) (ke : (List Int × Bool × List S_api_Line) → RR) (hke : ∀ b ls, ke (b, true, ls) = FAIL) : ∀ (n fuel : Nat) (i : Int) (b : List Int) (ls : List S_api_Line), By b → b.length ≤ 1000000 → 0 ≤ i → i + n = N → N ≤ 1000000 → n + 2 ≤ fuel → ls.length + n ≤ 2000000 →
    FolR (linesR n b) (fun q => ke (q.2, false, ls ++ q.1)) (whileF fuel (RLine N ke) (i, b, false, ls))
  | 0, fuel, i, b, ls, hb, hl, h0, hj, hK, hf, ha => by
    obtain ⟨fuel, rfl⟩ : ∃ q, fuel = q + 1 := ⟨fuel - 1, by omega⟩
    show _ = _
    rw [whileF_succ, RLine_end _ _ _ _ _ _ _ (by omega)]; dsimp only; rw [List.append_nil]
  | n + 1, fuel, i, b, ls, hb, hl, h0, hj, hK, hf, ha => by
    obtain ⟨fuel, rfl⟩ : ∃ q, fuel = q + 1 + 1 := ⟨fuel - 2, by omega⟩
    rw [whileF_succ, linesR]
    have hw : IntKind.wrap .i64 (i + 1) = i + 1 := wrap_id (by omega) (by omega)
    refine FolR.bind (RLine_step N ke _ (fun i b ls => ?_) i b ls (by omega) hb hl (by omega)) (fun q hq => ?_)
    · rw [whileF_succ, RLine_bad]; exact hke _ _
    · obtain ⟨l, r⟩ := q
      obtain ⟨_, _, l3, l4⟩ := lineR_back hb hl hq
      dsimp only
      rw [hw]
      refine FolR.bind (RLines N ke hke n (fuel + 1) (i + 1) r (ls ++ [l]) l3 (by omega) (by omega) (by omega) hK (by omega) (by simp only [List.length_append, List.length_cons, List.length_nil]; omega)) (fun z hz => ?_)
      show _ = _
      simp

theorem RBody (c : Int) (t : List Int) (hb : By t) (hl : t.length ≤ 1000000) : FolR (bodyR c t) (fun q => some (q, 0)) (RMain (c :: t) false) := by
  simp only [RMain, one_eq, Option.bind_some]
  unfold bodyR
  by_cases hz : c < 2
  · rw [if_pos hz]
    have hz' : ¬ c > 1 := by omega
    refine FolR.bind (FolR_num hb _ (fun x s => ?_)) (fun q hq => ?_)
    · simp only [jn_eq, if_true]; exact rfl
    obtain ⟨un, tn⟩ := q
    obtain ⟨_, _, a3, a4⟩ := rdv_back hb hq
    simp only [jn_eq, hz', decide_false, Bool.false_eq_true, if_false]
    by_cases h0 : unz un < 0
    · rw [if_neg (by omega)]
      simp only [h0, decide_true, if_true]
      exact rfl
    · by_cases h1 : unz un > 1000000
      · rw [if_neg (by omega)]
        simp only [h0, h1, decide_true, decide_false, if_true, Bool.false_eq_true, if_false]
        exact rfl
      · rw [if_pos (by omega)]
        simp only [h0, h1, decide_false, Bool.false_eq_true, if_false]
        refine FolR.bind (RLines (unz un) _ (fun b ls => ?_) (unz un).toNat 1000000000000 0 tn [] a3 (by omega) (by decide) (by omega) (by omega) (by omega) (by simp only [List.length_nil]; omega)) (fun q hq => ?_)
        · simp only [if_true]; exact rfl
        · obtain ⟨ls, r⟩ := q
          dsimp only
          rw [List.nil_append]
          cases r with
          | nil => exact rfl
          | cons c r =>
            rw [if_neg (by simp)]
            have : ((((c :: r).length : Nat) : Int) > (0 : Int)) := by simp only [List.length_cons]; omega
            simp only [this, decide_true, if_true, Bool.false_eq_true, if_false]
            exact rfl
  · rw [if_neg hz]
    have hz' : c > 1 := by omega
    show _ = _
    cases h : rdv 0 t with
    | none => obtain ⟨x, s, e⟩ := rnumber_none (bb := false) hb h; rw [e]; simp only [Option.bind_some, jn_eq, if_true]; rfl
    | some q => obtain ⟨u, r⟩ := q; rw [rnumber_some hb h]; simp only [Option.bind_some, jn_eq, hz', decide_true, if_true, Bool.false_eq_true, if_false]; rfl
theorem RMain_nil : RMain [] false = FAIL := by
  simp only [RMain, one_eq, Option.bind_some]
  refine badn _ (fun x s => ?_)
  simp only [jn_eq, if_true]; rfl

theorem rget {b : List Int} (hb : By b) (hl : b.length ≤ 1000000) : F_skolemref10_Get b = some (outR (getR b)) := by
  rw [rget_unfold]
  rcases b with _ | ⟨h1, _ | ⟨h2, _ | ⟨h3, _ | ⟨c, t⟩⟩⟩⟩
  · rfl
  · simp only [jn_eq, one_eq, Option.bind_some]
    by_cases e1 : h1 = 82
    · subst e1; rfl
    · have : (h1 != 82) = true := by simp [e1]
      simp only [this, if_true]; rfl
  · simp only [jn_eq, one_eq, Option.bind_some]
    by_cases e1 : h1 = 82
    · by_cases e2 : h2 = 80
      · subst e1; subst e2; rfl
      · have : (h2 != 80) = true := by simp [e2]
        subst e1
        simp only [this, if_true, bne_self_eq_false, Bool.false_eq_true, if_false]; rfl
    · have : (h1 != 82) = true := by simp [e1]
      simp only [this, if_true]; rfl
  · simp only [jn_eq, one_eq, Option.bind_some]
    by_cases e1 : h1 = 82
    · by_cases e2 : h2 = 80
      · subst e1; subst e2
        by_cases e3 : h3 = 1
        · subst e3
          simp only [bne_self_eq_false, Bool.false_eq_true, if_false, RMain_nil]; rfl
        · have : (h3 != 1) = true := by simp [e3]
          simp only [this, if_true, bne_self_eq_false, Bool.false_eq_true, if_false]; rfl
      · have : (h2 != 80) = true := by simp [e2]
        subst e1
        simp only [this, if_true, bne_self_eq_false, Bool.false_eq_true, if_false]; rfl
    · have : (h1 != 82) = true := by simp [e1]
      simp only [this, if_true]; rfl
  · simp only [jn_eq, one_eq, Option.bind_some]
    have hp : h1 = 82 ∧ h2 = 80 ∧ h3 = 1 → getR (h1 :: h2 :: h3 :: c :: t) = bodyR c t := fun h => by rw [getR, if_pos h]
    have hn : ¬ (h1 = 82 ∧ h2 = 80 ∧ h3 = 1) → getR (h1 :: h2 :: h3 :: c :: t) = none := fun h => by rw [getR, if_neg h]
    by_cases e1 : h1 = 82
    · by_cases e2 : h2 = 80
      · by_cases e3 : h3 = 1
        · rw [hp ⟨e1, e2, e3⟩]
          subst e1; subst e2; subst e3
          simp only [bne_self_eq_false, Bool.false_eq_true, if_false]
          have h := RBody c t (fun c hc => hb c (by simp [hc])) (by simp only [List.length_cons] at hl; omega)
          cases e : bodyR c t with
          | none => rw [e] at h; exact h
          | some q => rw [e] at h; exact h
        · rw [hn (fun h => e3 h.2.2)]
          have : (h3 != 1) = true := by simp [e3]
          subst e1; subst e2
          simp only [this, if_true, bne_self_eq_false, Bool.false_eq_true, if_false]; rfl
      · rw [hn (fun h => e2 h.2.1)]
        have : (h2 != 80) = true := by simp [e2]
        subst e1
        simp only [this, if_true, bne_self_eq_false, Bool.false_eq_true, if_false]; rfl
    · rw [hn (fun h => e1 h.1)]
      have : (h1 != 82) = true := by simp [e1]
      simp only [this, if_true]; rfl

/-! ### The laws -/
theorem by_of {b : List Int} (h : InLz (InK .u8) b) : By b := fun c hc => h.2 c hc
theorem law_ProofBytes {a0 : S_api_Proof} {a1 : List Int} (h0 : Z_S_api_Proof a0) (h1 : InLz (InK .u8) a1) : F_skolemlaw10_ProofBytes a0 a1 = some true := by
  have hw := z_w h0
  obtain ⟨c, hc, _⟩ := large_eq hw
  have hh : F_skolemlaw10_head = some true := rfl
  unfold F_skolemlaw10_ProofBytes
  simp only [jn_eq, hc, Option.bind_some, hh]
  cases c
  · have hs := sp_of h0 hc
    by_cases hl : ((a1.length : Nat) : Int) > 5000
    · simp [hl]
    · have g1 := prog_get (by_of h1) (by omega)
      have g2 := rget (by_of h1) (by omega)
      simp [hl, put_eq hs, rput_eq hs, g1, g2, sameProof_refl]
  · simp
theorem law_ProofBack {a0 : S_api_Proof} {a1 : List Int} (h0 : Z_S_api_Proof a0) (h1 : InLz (InK .u8) a1) : F_skolemlaw10_ProofBack a0 a1 = some true := by
  have hw := z_w h0
  obtain ⟨c, hc, _⟩ := large_eq hw
  have hh : F_skolemlaw10_head = some true := rfl
  unfold F_skolemlaw10_ProofBack
  simp only [jn_eq, hc, Option.bind_some, hh]
  cases c
  · have hs := sp_of h0 hc
    by_cases hl : ((a1.length : Nat) : Int) > 5000
    · simp [hl]
    · have g0 := prog_get (putB_by hs) (Nat.le_trans (putB_len hs) (by decide))
      rw [getR_put hs] at g0
      have g1 := prog_get (by_of h1) (by omega)
      cases e : getR a1 with
      | none =>
        rw [e] at g1
        simp [hl, put_eq hs, g0, g1, outR, sameProof_refl]
      | some q =>
        rw [e] at g1
        obtain ⟨b1, b2⟩ := getR_back (by_of h1) (by omega) e
        simp [hl, put_eq hs, g0, g1, outR, sameProof_refl, put_eq b2, b1]
  · simp
end Go.Sk.X
