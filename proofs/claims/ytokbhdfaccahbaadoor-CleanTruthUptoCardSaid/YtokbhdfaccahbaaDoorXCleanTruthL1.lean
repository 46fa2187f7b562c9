/- The plain law of CleanTruth: about numbers and lists alone. It has no conditions. -/
import Derived.Test.YtokbhdfaccahbaaDoorXCleanTruthF
set_option linter.unusedVariables false
set_option linter.unusedSimpArgs false
namespace Go.Sk
open Go
theorem jn_eq {S R : Type} (f : S → Option R) (g : (S → Option R) → Option R) : jn f g = g f := rfl
theorem rangeF_nil {α S R : Type} (f : Nat → α → S → (S → Option R) → Option R) (i : Nat) (s : S) (k : S → Option R) : rangeF f i [] s k = k s := rfl
theorem rangeF_cons {α S R : Type} (f : Nat → α → S → (S → Option R) → Option R) (i : Nat) (x : α) (xs : List α) (s : S) (k : S → Option R) : rangeF f i (x :: xs) s k = f i x s (fun s' => rangeF f (i + 1) xs s' k) := rfl
theorem upF_zero {S R : Type} (f : Int → S → (S → Option R) → Option R) (i : Int) (s : S) (k : S → Option R) : upF f 0 i s k = k s := rfl
theorem upF_succ {S R : Type} (f : Int → S → (S → Option R) → Option R) (n : Nat) (i : Int) (s : S) (k : S → Option R) : upF f (n + 1) i s k = f i s (fun s' => upF f n (i + 1) s' k) := rfl
theorem whileF_succ {S R : Type} (n : Nat) (b : (S → Option R) → S → Option R) (s : S) : whileF (n + 1) b s = b (whileF n b) s := rfl
theorem whileF_by {S R : Type} {b : (S → Option R) → S → Option R} (μ : S → Nat) (I : S → Prop) (g : S → Option R)
    (step : ∀ s k, I s → (∀ s', I s' → μ s' < μ s → k s' = g s') → b k s = g s) : ∀ n s, I s → μ s < n → whileF n b s = g s
  | 0, s, _, h => absurd h (Nat.not_lt_zero _)
  | n + 1, s, hI, h => by
    rw [whileF_succ]
    exact step s _ hI (fun s' h1 h2 => whileF_by μ I g step n s' h1 (by omega))
theorem rangeF_eq {α S R : Type} {f : Nat → α → S → (S → Option R) → Option R} {k : S → Option R} (g : Nat → List α → S → Option R) (h0 : ∀ j s, g j [] s = k s)
    (h1 : ∀ j x xs s kk, (∀ s', kk s' = g (j + 1) xs s') → f j x s kk = g j (x :: xs) s) : ∀ xs j s, rangeF f j xs s k = g j xs s
  | [], j, s => (h0 j s).symm
  | x :: xs, j, s => h1 j x xs s _ (fun s' => rangeF_eq g h0 h1 xs (j + 1) s')
theorem rangeF_pre {α S R : Type} {f : Nat → α → S → (S → Option R) → Option R} {k : S → Option R} (full : List α) (I : List α → S → Prop) (g : List α → List α → S → Option R) (h0 : ∀ s, I full s → k s = g full [] s)
    (h1 : ∀ pre x xs s kk, full = pre ++ x :: xs → I pre s → (∀ s', I (pre ++ [x]) s' → kk s' = g (pre ++ [x]) xs s') → f pre.length x s kk = g pre (x :: xs) s) : ∀ xs pre s, full = pre ++ xs → I pre s → rangeF f pre.length xs s k = g pre xs s
  | [], pre, s, hf, hI => by
    rw [List.append_nil] at hf; subst hf
    exact h0 s hI
  | x :: xs, pre, s, hf, hI => by
    refine h1 pre x xs s _ hf hI (fun s' hs' => ?_)
    have := rangeF_pre full I g h0 h1 xs (pre ++ [x]) s' (by simp [hf]) hs'
    rw [List.length_append] at this
    exact this
theorem wrap_id {n : Int} (h0 : -9223372036854775808 ≤ n) (h1 : n ≤ 9223372036854775807) : IntKind.wrap .i64 n = n := by
  simp only [IntKind.wrap, IntKind.bits, IntKind.signed]
  simp only [Bool.true_and]
  split <;> rename_i h <;> simp only [ge_iff_le, decide_eq_true_eq] at h <;> omega
theorem inK64 {n : Int} : InK .i64 n ↔ -9223372036854775808 ≤ n ∧ n ≤ 9223372036854775807 := Iff.rfl
def av (x : Int) : Int := if x < 0 then -x else x
def nrmB (last : Int) : List Int → Bool
  | [] => true
  | x :: xs => decide (-65536 ≤ x) && decide (x ≤ 65536) && decide (last < av x) && nrmB (av x) xs
theorem av_nonneg (x : Int) : 0 ≤ av x := by unfold av; split <;> omega
theorem av_neg (x : Int) : av (-x) = av x := by unfold av; split <;> split <;> omega
theorem av_eq {x y : Int} (h : av x = av y) : x = y ∨ x = -y := by unfold av at h; split at h <;> split at h <;> omega
theorem nrm_cons {c x : Int} {xs : List Int} : nrmB c (x :: xs) = true ↔ -65536 ≤ x ∧ x ≤ 65536 ∧ c < av x ∧ nrmB (av x) xs = true := by
  simp [nrmB, and_assoc]
theorem nrm_mono {c c' : Int} (h : c' ≤ c) : ∀ {l : List Int}, nrmB c l = true → nrmB c' l = true
  | [], _ => rfl
  | x :: xs, h' => by
    rw [nrm_cons] at h' ⊢
    exact ⟨h'.1, h'.2.1, by omega, h'.2.2.2⟩
theorem nrm_mem : ∀ {c : Int} {l : List Int}, nrmB c l = true → ∀ x ∈ l, c < av x ∧ -65536 ≤ x ∧ x ≤ 65536
  | c, [], _, x, h => by simp at h
  | c, y :: ys, h, x, hx => by
    rw [nrm_cons] at h
    rcases List.mem_cons.1 hx with rfl | hx
    · exact ⟨h.2.2.1, h.1, h.2.1⟩
    · have := nrm_mem h.2.2.2 x hx
      exact ⟨by omega, this.2⟩
theorem nrm_filter (p : Int → Bool) : ∀ {l : List Int} {c : Int}, nrmB c l = true → nrmB c (l.filter p) = true
  | [], _, h => rfl
  | x :: xs, c, h => by
    rw [nrm_cons] at h
    simp only [List.filter_cons]
    split
    · rw [nrm_cons]; exact ⟨h.1, h.2.1, h.2.2.1, nrm_filter p h.2.2.2⟩
    · exact nrm_mono (by omega) (nrm_filter p h.2.2.2)
theorem nrm_two {c : Int} {l : List Int} (h : nrmB c l = true) (hc : 0 ≤ c) {x y : Int} (hx : x ∈ l) (hy : y ∈ l) (e : av x = av y) : x = y := by
  induction l generalizing c with
  | nil => simp at hx
  | cons z zs ih =>
    rw [nrm_cons] at h
    rcases List.mem_cons.1 hx with e1 | hx1 <;> rcases List.mem_cons.1 hy with e2 | hy1
    · rw [e1, e2]
    · subst e1; have := (nrm_mem h.2.2.2 y hy1).1; omega
    · subst e2; have := (nrm_mem h.2.2.2 x hx1).1; omega
    · exact ih h.2.2.2 (av_nonneg z) hx1 hy1
end Go.Sk
namespace Go.Sk
open Go
def Has1 {R : Type} (Post : R → Prop) (x : Option R) : Prop := ∃ r, x = some r ∧ Post r
theorem rangeF_ex {α S R : Type} {Post : R → Prop} {f : Nat → α → S → (S → Option R) → Option R} {k : S → Option R} (full : List α) (I : List α → S → Prop) (h0 : ∀ s, I full s → Has1 Post (k s))
    (h1 : ∀ pre x xs s kk, full = pre ++ x :: xs → I pre s → (∀ s', I (pre ++ [x]) s' → Has1 Post (kk s')) → Has1 Post (f pre.length x s kk)) : ∀ xs pre s, full = pre ++ xs → I pre s → Has1 Post (rangeF f pre.length xs s k)
  | [], pre, s, hf, hI => by
    rw [List.append_nil] at hf; subst hf
    exact h0 s hI
  | x :: xs, pre, s, hf, hI => by
    refine h1 pre x xs s _ hf hI (fun s' hs' => ?_)
    have := rangeF_ex full I h0 h1 xs (pre ++ [x]) s' (by simp [hf]) hs'
    rw [List.length_append] at this
    exact this
theorem whileF_ex {S R : Type} {Post : R → Prop} {b : (S → Option R) → S → Option R} (μ : S → Nat) (I : S → Prop)
    (step : ∀ s k, I s → (∀ s', I s' → μ s' < μ s → Has1 Post (k s')) → Has1 Post (b k s)) : ∀ n s, I s → μ s < n → Has1 Post (whileF n b s)
  | 0, s, _, h => absurd h (Nat.not_lt_zero _)
  | n + 1, s, hI, h => by
    rw [whileF_succ]
    exact step s _ hI (fun s' h1 h2 => whileF_ex μ I step n s' h1 (by omega))
theorem rangeF_fold {α S R : Type} (g : S → α → S) (k : S → Option R) : ∀ (xs : List α) (j : Nat) (s : S), rangeF (fun _ x s k => k (g s x)) j xs s k = k (xs.foldl g s)
  | [], _, _ => rfl
  | x :: xs, j, s => by rw [rangeF_cons]; exact rangeF_fold g k xs (j + 1) (g s x)
def rsB (c : Int) : List Int → Bool
  | [] => true
  | x :: xs => decide (c < x) && (decide (x ≤ 65536) && rsB x xs)
theorem rsB_cons {c x : Int} {xs : List Int} : rsB c (x :: xs) = true ↔ c < x ∧ x ≤ 65536 ∧ rsB x xs = true := by simp [rsB]
theorem rsB_mem : ∀ {l : List Int} {c : Int}, rsB c l = true → ∀ x ∈ l, c < x ∧ x ≤ 65536
  | [], _, _, x, hx => by simp at hx
  | y :: l, c, h, x, hx => by
    obtain ⟨h1, h2, h3⟩ := rsB_cons.1 h
    rcases List.mem_cons.1 hx with rfl | hx
    · exact ⟨h1, h2⟩
    · have := rsB_mem h3 x hx
      exact ⟨by omega, this.2⟩
theorem rsB_nodup : ∀ {l : List Int} {c : Int}, rsB c l = true → l.Nodup
  | [], _, _ => List.nodup_nil
  | y :: l, c, h => by
    obtain ⟨h1, h2, h3⟩ := rsB_cons.1 h
    exact List.nodup_cons.2 ⟨fun hm => by have := (rsB_mem h3 y hm).1; omega, rsB_nodup h3⟩
def lastD (l : List Int) : Int := (l.getLast?).getD 0
theorem lastD_app (l : List Int) (x : Int) : lastD (l ++ [x]) = x := by simp [lastD]
theorem lastD_get {l : List Int} (h : 0 < l.length) : l[l.length - 1]? = some (lastD l) := by
  unfold lastD
  rw [List.getLast?_eq_getElem?]
  have : l.length - 1 < l.length := by omega
  rw [List.getElem?_eq_getElem this]; rfl
theorem mget_fold {β : Type} (v : β) : ∀ (xs : List Int) (m : List (Int × β)) (k : Int), mget (xs.foldl (fun m x => mset m x v) m) k = if k ∈ xs then some v else mget m k
  | [], m, k => by simp
  | x :: xs, m, k => by
    rw [List.foldl_cons, mget_fold v xs, mget_mset]
    by_cases h1 : k ∈ xs
    · simp [h1]
    · by_cases h2 : k = x <;> simp [h1, h2]
end Go.Sk
namespace Go.Sk.X
open Go Go.Sk
theorem rises_eq (a : List Int) (hl : a.length ≤ 4194304) : F_prefix_rises a = some (rsB 0 a) := by
  refine rangeF_pre a (fun pre _ => 0 ≤ lastD pre) (fun pre xs _ => some (rsB (lastD pre) xs)) (fun _ _ => rfl) ?_ a [] () rfl (by decide)
  intro pre x xs s kk hf hI hk
  have hlen : pre.length < a.length := by rw [hf]; simp
  simp only [jn_eq, rsB]
  by_cases h1 : x < 1
  · have : ¬ lastD pre < x := by omega
    simp [h1, this]
  by_cases h2 : x > 65536
  · have : ¬ x ≤ 65536 := by omega
    simp [h1, h2, this]
  have hk' := hk () (by rw [lastD_app]; omega)
  rw [lastD_app] at hk'
  have h3 : x ≤ 65536 := by omega
  by_cases hp : 0 < pre.length
  · have e : IntKind.wrap .i64 (((pre.length : Nat) : Int) - 1) = ((pre.length - 1 : Nat) : Int) := by rw [wrap_id (by omega) (by omega)]; omega
    have hg : a[pre.length - 1]? = some (lastD pre) := by
      rw [hf, List.getElem?_append_left (by omega)]
      exact lastD_get hp
    have hp' : ((pre.length : Nat) : Int) > 0 := by omega
    simp only [h1, h2, hp', e, getI_nat, hg, decide_false, decide_true, if_true, if_false, Bool.false_eq_true]
    by_cases h4 : lastD pre ≥ x
    · have : ¬ lastD pre < x := by omega
      simp [h4, this]
    · have : lastD pre < x := by omega
      simp [h4, this, h3, hk']
  · have : pre = [] := List.eq_nil_of_length_eq_zero (by omega)
    subst this
    have h4 : lastD ([] : List Int) < x := by show (0 : Int) < x; omega
    simp [h1, h2, h3, h4, hk']
theorem rises3_eq (a : List Int) (hl : a.length ≤ 4194304) : F_skolemref03_Rises a = some (rsB 0 a) := rises_eq a hl
theorem abs3_eq {x : Int} (h0 : -9223372036854775807 ≤ x) (h1 : x ≤ 9223372036854775807) : F_skolemref03_Abs x = some (av x) := by
  unfold F_skolemref03_Abs av
  by_cases h : x < 0
  · have e : IntKind.wrap .i64 (0 - x) = -x := by rw [wrap_id (by omega) (by omega)]; omega
    simp only [h, decide_true, if_true, e]
  · simp [h]
theorem absp_eq {x : Int} (h0 : -9223372036854775807 ≤ x) (h1 : x ≤ 9223372036854775807) : F_prefix_abs x = some (av x) := by
  unfold F_prefix_abs av imx
  have e : IntKind.wrap .i64 (0 - x) = -x := by rw [wrap_id (by omega) (by omega)]; omega
  rw [e]
  by_cases h : x < 0
  · rw [if_pos (by omega), if_pos h]
  · rw [if_neg (by omega), if_neg h]
theorem normal_eq (a : List Int) (hl : a.length ≤ 4194304) : F_skolemref03_Normal a = some (nrmB 0 a) := by
  refine rangeF_pre a (fun pre _ => pre = [] ∨ (-65536 ≤ lastD pre ∧ lastD pre ≤ 65536)) (fun pre xs _ => some (nrmB (if pre = [] then 0 else av (lastD pre)) xs)) (fun _ _ => rfl) ?_ a [] () rfl (.inl rfl)
  intro pre x xs s kk hf hI hk
  have hlen : pre.length < a.length := by rw [hf]; simp
  simp only [jn_eq, nrmB]
  have av0 := av_nonneg (lastD pre)
  by_cases h0 : x = 0
  · subst h0
    have : av 0 = 0 := rfl
    have h5 : ¬ (if pre = [] then 0 else av (lastD pre)) < av 0 := by rw [this]; split <;> omega
    simp [h5]
  have h0' : (x == 0) = false := by simp [h0]
  by_cases h1 : x < -65536
  · have : ¬ -65536 ≤ x := by omega
    simp [h0', h1, this]
  by_cases h2 : x > 65536
  · have : ¬ x ≤ 65536 := by omega
    simp [h0', h1, h2, this]
  have hk' := hk () (.inr (by rw [lastD_app]; omega))
  rw [lastD_app] at hk'
  simp only [List.append_eq_nil_iff, List.cons_ne_self, and_false, if_false, reduceCtorEq] at hk'
  have h3 : x ≤ 65536 := by omega
  have h3' : -65536 ≤ x := by omega
  by_cases hp : 0 < pre.length
  · have e : IntKind.wrap .i64 (((pre.length : Nat) : Int) - 1) = ((pre.length - 1 : Nat) : Int) := by rw [wrap_id (by omega) (by omega)]; omega
    have hg : a[pre.length - 1]? = some (lastD pre) := by
      rw [hf, List.getElem?_append_left (by omega)]
      exact lastD_get hp
    have hp' : ((pre.length : Nat) : Int) > 0 := by omega
    have hne : pre ≠ [] := by intro e; subst e; simp at hp
    rcases hI with rfl | ⟨i1, i2⟩
    · exact absurd rfl hne
    simp only [h0', h1, h2, hp', e, getI_nat, hg, abs3_eq (x := x) (by omega) (by omega), abs3_eq (x := lastD pre) (by omega) (by omega), Option.bind_some, decide_false, decide_true, if_true, if_false, Bool.false_eq_true, hne]
    by_cases h4 : av (lastD pre) ≥ av x
    · have : ¬ av (lastD pre) < av x := by omega
      simp [h4, this]
    · have : av (lastD pre) < av x := by omega
      simp [h4, this, h3, h3', hk']
  · have : pre = [] := List.eq_nil_of_length_eq_zero (by omega)
    subst this
    have h4 : 0 < av x := by unfold av; split <;> omega
    simp [h0', h1, h2, h3, h3', h4, hk']
theorem has_eq (l : List Int) (v : Int) : F_skolemref03_Has l v = some (decide (v ∈ l)) := by
  refine rangeF_eq (fun _ xs _ => some (decide (v ∈ xs))) (fun _ _ => by simp) ?_ l 0 ()
  intro j x xs s kk hk
  by_cases h : x = v
  · subst h; simp
  · have : ¬ v = x := fun e => h e.symm
    simp [h, hk, this]
theorem part_eq (l u : List Int) : F_skolemref03_Part l u = some (l.all fun x => decide (x ∈ u)) := by
  refine rangeF_eq (fun _ xs _ => some (xs.all fun x => decide (x ∈ u))) (fun _ _ => rfl) ?_ l 0 ()
  intro j x xs s kk hk
  simp only [has_eq, Option.bind_some]
  by_cases h : x ∈ u <;> simp [h, hk]
def singB (pre : List Int) : List Int → Bool
  | [] => true
  | x :: xs => decide (1 ≤ x) && (decide (x ≤ 65536) && (!decide (x ∈ pre) && singB (pre ++ [x]) xs))
theorem single_eq (a : List Int) : F_skolemref03_single a = some (singB [] a) := by
  refine rangeF_pre a (fun pre _ => True) (fun pre xs _ => some (singB pre xs)) (fun _ _ => rfl) ?_ a [] () rfl trivial
  intro pre x xs s kk hf hI hk
  have hlen : pre.length < a.length := by rw [hf]; simp
  have hk' := hk () trivial
  simp only [jn_eq, singB]
  by_cases h1 : x < 1
  · have : ¬ 1 ≤ x := by omega
    simp [h1, this]
  by_cases h2 : x > 65536
  · have : ¬ x ≤ 65536 := by omega
    simp [h1, h2, this]
  have h3 : x ≤ 65536 := by omega
  have h4 : 1 ≤ x := by omega
  have ht : a.take (((pre.length : Nat) : Int)).toNat = pre := by rw [hf]; simp
  have ho : 0 ≤ ((pre.length : Nat) : Int) ∧ ((pre.length : Nat) : Int).toNat ≤ a.length := ⟨by omega, by omega⟩
  rw [okI_eq ho, ht, has_eq]
  by_cases h5 : x ∈ pre <;> simp [h1, h2, h3, h4, h5, hk']
theorem sing_iff : ∀ (l pre : List Int), singB pre l = true ↔ (∀ x ∈ l, 1 ≤ x ∧ x ≤ 65536) ∧ l.Nodup ∧ ∀ x ∈ l, x ∉ pre
  | [], pre => by simp [singB]
  | y :: l, pre => by
    simp only [singB, Bool.and_eq_true, decide_eq_true_eq, Bool.not_eq_true', decide_eq_false_iff_not, sing_iff l (pre ++ [y]), List.mem_append, List.mem_singleton, not_or, List.mem_cons, List.not_mem_nil, or_false, forall_eq_or_imp, List.nodup_cons]
    constructor
    · rintro ⟨a, b, c, d, e, f⟩
      exact ⟨⟨⟨a, b⟩, d⟩, ⟨fun hm => (f y hm).2 rfl, e⟩, c, fun x hx => (f x hx).1⟩
    · rintro ⟨⟨⟨a, b⟩, d⟩, ⟨f, e⟩, c, g⟩
      exact ⟨a, b, c, d, e, fun x hx => ⟨g x hx, fun e => f (e ▸ hx)⟩⟩
def varsD (d : S_api_Dqbf) : List Int := d.Exist.map (·.Var)
theorem all_eq (d : S_api_Dqbf) (h : d.Univ.length + d.Exist.length ≤ 8388608) : F_skolemref03_All d = some (d.Univ ++ varsD d) := by
  unfold F_skolemref03_All
  rw [capN_eq (by simp; omega)]
  refine rangeF_pre d.Exist (fun pre s => s.length = d.Univ.length + pre.length) (fun _ xs s => some (s ++ xs.map (·.Var))) (fun s _ => by simp) ?_ d.Exist [] ([] ++ d.Univ) rfl (by simp)
  intro pre x xs s kk hf hI hk
  have hlen : pre.length < d.Exist.length := by rw [hf]; simp
  rw [capN_eq (by simp; omega), hk _ (by simp [hI]; omega)]
  simp
def tot (cs : List (List Int)) : Nat := (cs.map List.length).sum
theorem tot_app (a b : List (List Int)) : tot (a ++ b) = tot a + tot b := by simp [tot]
theorem tot_cons (a : List Int) (b : List (List Int)) : tot (a :: b) = a.length + tot b := by simp [tot]
theorem tot_mem {cs : List (List Int)} {c : List Int} (h : c ∈ cs) : c.length ≤ tot cs := by
  obtain ⟨a, b, rfl⟩ := List.append_of_mem h
  rw [tot_app, tot_cons]; omega
theorem cnf_eq (cs : List (List Int)) (h : tot cs ≤ 4194304) : F_skolemref03_Cnf cs = some (cs.all (nrmB 0) && (decide (cs.length ≤ 20000) && decide (tot cs ≤ 200000))) := by
  refine rangeF_pre cs (fun pre s => s = (tot pre : Int)) (fun pre xs s => some (xs.all (nrmB 0) && (decide (cs.length ≤ 20000) && decide (tot cs ≤ 200000)))) ?_ ?_ cs [] 0 rfl rfl
  · rintro s rfl
    by_cases h1 : cs.length ≤ 20000
    · have : ((cs.length : Nat) : Int) ≤ 20000 := by omega
      by_cases h2 : tot cs ≤ 200000
      · have h3 : (tot cs : Int) ≤ 200000 := by omega
        simp [this, h1, h2, h3]
      · have h3 : ¬ (tot cs : Int) ≤ 200000 := by omega
        simp [this, h1, h2, h3]
    · have : ¬ ((cs.length : Nat) : Int) ≤ 20000 := by omega
      simp [this, h1]
  · intro pre x xs s kk hf hI hk
    have ht : tot pre + x.length ≤ tot cs := by rw [hf, tot_app, tot_cons]; omega
    rw [normal_eq x (by omega), Option.bind_some]
    have hk' := hk (IntKind.wrap .i64 (s + ((x.length : Nat) : Int))) (by rw [hI, wrap_id (by omega) (by omega), tot_app]; simp [tot])
    by_cases hx : nrmB 0 x = true
    · simp [hx, hk']
    · simp [hx]
theorem within_in (u : List Int) (kk : Unit → Option Bool) (c : List Int) (hr : ∀ x ∈ c, -65536 ≤ x ∧ x ≤ 65536) (hl : c.length ≤ 4194304) (R : Option Bool) (hk : kk () = R) :
    whileF 1000000000000 (fun k130 (s128 : Int) => (if (decide (s128 < ((c.length : Nat) : Int))) = true then (getI c s128 (fun x146 => ((F_skolemref03_Abs x146).bind (fun y147 => ((F_skolemref03_Has u y147).bind (fun y148 => (if (!y148) = true then (some false) else (k130 (IntKind.wrap .i64 (s128 + (1 : Int))))))))))) else (kk ()))) (0 : Int)
      = if (c.all fun x => decide (av x ∈ u)) = true then R else some false := by
  have := whileF_by (b := (fun k130 (s128 : Int) => (if (decide (s128 < ((c.length : Nat) : Int))) = true then (getI c s128 (fun x146 => ((F_skolemref03_Abs x146).bind (fun y147 => ((F_skolemref03_Has u y147).bind (fun y148 => (if (!y148) = true then (some false) else (k130 (IntKind.wrap .i64 (s128 + (1 : Int))))))))))) else (kk ())))) (fun s : Int => c.length - s.toNat) (fun s => 0 ≤ s ∧ s ≤ c.length) (fun s => if ((c.drop s.toNat).all fun x => decide (av x ∈ u)) = true then R else some false) ?_ 1000000000000 0 (by simp) (by simp; omega)
  · simpa using this
  · intro s k ⟨h0, h1⟩ hs
    by_cases h2 : s < ((c.length : Nat) : Int)
    · obtain ⟨n, rfl⟩ : ∃ n : Nat, s = n := ⟨s.toNat, by omega⟩
      have hn : n < c.length := by omega
      have hd : c.drop n = c[n] :: c.drop (n + 1) := by rw [List.drop_eq_getElem_cons hn]
      have hm := hr c[n] (List.getElem_mem hn)
      have hw : IntKind.wrap .i64 (((n : Nat) : Int) + 1) = ((n + 1 : Nat) : Int) := by rw [wrap_id (by omega) (by omega)]; omega
      have hs' := hs ((n + 1 : Nat) : Int) ⟨by omega, by omega⟩ (by simp; omega)
      simp only [h2, decide_true, if_true, getI_nat, List.getElem?_eq_getElem hn, abs3_eq (x := c[n]) (by omega) (by omega), has_eq, Option.bind_some, hw, hs', Int.toNat_natCast, hd, List.all_cons]
      by_cases h3 : av c[n] ∈ u <;> simp [h3]
    · have : s.toNat = c.length := by omega
      simp [h2, this, hk]
theorem within_eq (cs : List (List Int)) (u : List Int) (hr : ∀ c ∈ cs, nrmB 0 c = true) (hl : tot cs ≤ 4194304) : F_skolemref03_within cs u = some (cs.all fun c => c.all fun x => decide (av x ∈ u)) := by
  refine rangeF_pre cs (fun pre _ => True) (fun _ xs _ => some (xs.all fun c => c.all fun x => decide (av x ∈ u))) (fun _ _ => rfl) ?_ cs [] () rfl trivial
  intro pre x xs s kk hf hI hk
  have hx : x ∈ cs := by rw [hf]; simp
  rw [within_in u kk x (fun y hy => (nrm_mem (hr x hx) y hy).2) (Nat.le_trans (tot_mem hx) hl) _ (hk () trivial)]
  by_cases h : (x.all fun x => decide (av x ∈ u)) = true
  · rw [if_pos h]; simp only [List.all_cons, h, Bool.true_and]
  · rw [if_neg h]; simp only [List.all_cons, Bool.eq_false_iff.2 h, Bool.false_and]
end Go.Sk.X
namespace Go.Sk.X
open Go Go.Sk
structure Sm (d : S_api_Dqbf) : Prop where
  univ : d.Univ.length ≤ 2097152
  exist : d.Exist.length ≤ 2097152
  cls : d.Clauses.length ≤ 2097152
  tot : tot d.Clauses ≤ 2097152
  on : (d.Exist.map fun e => e.On.length).sum ≤ 2097152
theorem Sm.onE {d : S_api_Dqbf} (h : Sm d) {e : S_api_Dep} (he : e ∈ d.Exist) : e.On.length ≤ 2097152 := by
  have := h.on
  obtain ⟨a, b, hh⟩ := List.append_of_mem he
  rw [hh] at this
  simp at this
  omega
def depB (u : List Int) (e : S_api_Dep) : Bool := rsB 0 e.On && e.On.all fun x => decide (x ∈ u)
def MayD (d : S_api_Dqbf) : Bool :=
  (d.Exist.all fun e => !decide (e.Var ∈ d.Univ) && depB d.Univ e) && (rsB 0 d.Univ && (rsB 0 (varsD d) && (decide (d.Univ.length + d.Exist.length ≤ 1024) &&
    (decide (d.Clauses.length ≤ 20000) && ((d.Clauses.all fun c => nrmB 0 c && c.all fun x => decide (av x ∈ d.Univ ++ varsD d)) && decide (tot d.Clauses ≤ 200000))))))
theorem may3_eq {d : S_api_Dqbf} (h : Sm d) : F_skolemref03_MayDqbf d = some (MayD d) := by
  unfold F_skolemref03_MayDqbf
  have hv : (varsD d).length = d.Exist.length := by simp [varsD]
  have hA : (d.Univ ++ varsD d).length = d.Univ.length + d.Exist.length := by simp [hv]
  have h1 := h.univ
  have h2 := h.exist
  rw [all_eq d (by omega), Option.bind_some]
  simp only [jn_eq]
  by_cases hlen : d.Univ.length + d.Exist.length ≤ 1024
  case neg =>
    have : (((d.Univ ++ varsD d).length : Nat) : Int) > 1024 := by omega
    simp only [this, decide_true, if_true, MayD, hlen, decide_false, Bool.false_and, Bool.and_false]
  have hlen' : ¬ (((d.Univ ++ varsD d).length : Nat) : Int) > 1024 := by omega
  simp only [hlen', decide_false, Bool.false_eq_true, if_false, single_eq, Option.bind_some, rises3_eq d.Univ (by omega)]
  by_cases hU : rsB 0 d.Univ = true
  case neg =>
    have hU' := Bool.eq_false_iff.2 hU
    by_cases hs : singB [] (d.Univ ++ varsD d) = true <;> simp [hs, hU', MayD]
  have ho : 0 ≤ ((d.Univ.length : Nat) : Int) ∧ (((d.Univ.length : Nat) : Int)).toNat ≤ (d.Univ ++ varsD d).length := ⟨by omega, by omega⟩
  have hd : (d.Univ ++ varsD d).drop (((d.Univ.length : Nat) : Int)).toNat = varsD d := by simp
  rw [okI_eq ho, hd, rises3_eq (varsD d) (by omega)]
  simp only [Option.bind_some]
  by_cases hV : rsB 0 (varsD d) = true
  case neg =>
    have hV' := Bool.eq_false_iff.2 hV
    by_cases hs : singB [] (d.Univ ++ varsD d) = true <;> simp [hs, hU, hV', MayD]
  -- one of each, since both rise
  have hs : singB [] (d.Univ ++ varsD d) = true ↔ ∀ e ∈ d.Exist, e.Var ∉ d.Univ := by
    rw [sing_iff]
    constructor
    · rintro ⟨_, a, _⟩ e he hm
      exact (List.nodup_append.1 a).2.2 _ hm _ (List.mem_map.2 ⟨e, he, rfl⟩) rfl
    · intro hx
      refine ⟨fun x hm => ?_, List.nodup_append.2 ⟨rsB_nodup hU, rsB_nodup hV, ?_⟩, by simp⟩
      · rcases List.mem_append.1 hm with hm | hm
        · have := rsB_mem hU x hm; omega
        · have := rsB_mem hV x hm; omega
      · rintro x hm y hy rfl
        obtain ⟨e, he, rfl⟩ := List.mem_map.1 hy
        exact hx e he hm
  by_cases hS : singB [] (d.Univ ++ varsD d) = true
  case neg =>
    have hS' := Bool.eq_false_iff.2 hS
    have : ∃ e ∈ d.Exist, e.Var ∈ d.Univ := by
      refine Classical.byContradiction fun hc => hS (hs.2 fun e he hm => hc ⟨e, he, hm⟩)
    obtain ⟨e, he, hm⟩ := this
    have hall : (d.Exist.all fun e => !decide (e.Var ∈ d.Univ) && depB d.Univ e) = false := by
      rw [List.all_eq_false]
      exact ⟨e, he, by simp [hm]⟩
    simp [hS', MayD, hall]
  have hS2 := hs.1 hS
  have hall : (d.Exist.all fun e => !decide (e.Var ∈ d.Univ) && depB d.Univ e) = d.Exist.all (depB d.Univ) := by
    rw [Bool.eq_iff_iff]
    simp only [List.all_eq_true, Bool.and_eq_true, Bool.not_eq_true', decide_eq_false_iff_not]
    exact ⟨fun q e he => (q e he).2, fun q e he => ⟨hS2 e he, q e he⟩⟩
  rw [cnf_eq d.Clauses (Nat.le_trans h.tot (by decide))]
  simp only [hS, hU, hV, Bool.not_true, Bool.false_eq_true, if_false, Option.bind_some]
  -- the deps
  have hdeps : (rangeF (fun (j146 : Nat) (x147 : S_api_Dep) (s143 : Unit) k145 => (((F_skolemref03_Rises x147.On).bind (fun y185 => (if (!y185) = true then (if True then (some false) else (k145 ())) else ((F_skolemref03_Part x147.On d.Univ).bind (fun y187 => (if (!y187) = true then (some false) else (k145 ()))))))))) 0 d.Exist () (fun (s143 : Unit) => (some true))) = some (d.Exist.all (depB d.Univ)) := by
    refine rangeF_pre d.Exist (fun pre _ => True) (fun _ xs _ => some (xs.all (depB d.Univ))) (fun _ _ => rfl) ?_ d.Exist [] () rfl trivial
    intro pre x xs s kk hf hI hk
    have hx : x ∈ d.Exist := by rw [hf]; simp
    rw [rises3_eq x.On (Nat.le_trans (h.onE hx) (by decide)), Option.bind_some, part_eq, Option.bind_some, hk () trivial, List.all_cons, depB]
    by_cases a : rsB 0 x.On = true
    · by_cases b : (x.On.all fun x => decide (x ∈ d.Univ)) = true
      · rw [a, b]; simp
      · rw [a, Bool.eq_false_iff.2 b]; simp
    · rw [Bool.eq_false_iff.2 a]; simp
  rw [hdeps]
  unfold MayD
  rw [hall, hU, hV]
  by_cases hN : d.Clauses.all (nrmB 0) = true
  case neg =>
    have hN' := Bool.eq_false_iff.2 hN
    have : (d.Clauses.all fun c => nrmB 0 c && c.all fun x => decide (av x ∈ d.Univ ++ varsD d)) = false := by
      rw [List.all_eq_false] at hN' ⊢
      obtain ⟨c, hc, hn⟩ := hN'
      exact ⟨c, hc, by simp [Bool.eq_false_iff.2 hn]⟩
    simp only [hN', this, Bool.false_and, Bool.and_false, Bool.not_false, if_true]
  have hN2 := List.all_eq_true.1 hN
  rw [within_eq d.Clauses _ hN2 (Nat.le_trans h.tot (by decide)), Option.bind_some]
  have hW : (d.Clauses.all fun c => nrmB 0 c && c.all fun x => decide (av x ∈ d.Univ ++ varsD d)) = d.Clauses.all fun c => c.all fun x => decide (av x ∈ d.Univ ++ varsD d) := by
    rw [Bool.eq_iff_iff]
    simp only [List.all_eq_true, Bool.and_eq_true]
    exact ⟨fun q e he => (q e he).2, fun q e he => ⟨hN2 e he, q e he⟩⟩
  rw [hW, hN]
  generalize (d.Clauses.all fun c => c.all fun x => decide (av x ∈ d.Univ ++ varsD d)) = w
  generalize d.Exist.all (depB d.Univ) = e
  by_cases a : d.Clauses.length ≤ 20000 <;> by_cases b : tot d.Clauses ≤ 200000 <;> cases w <;> cases e <;> simp [a, b, hlen]
theorem fold2 (xs : List Int) : ∀ (m m' : List (Int × Bool)), xs.foldl (fun (s : List (Int × Bool) × List (Int × Bool)) x => (mset s.1 x true, mset s.2 x true)) (m, m') = (xs.foldl (fun m x => mset m x true) m, xs.foldl (fun m x => mset m x true) m') := by
  induction xs with
  | nil => intro m m'; rfl
  | cons x xs ih => intro m m'; rw [List.foldl_cons, List.foldl_cons, List.foldl_cons, ih]
theorem findF_eq (m : Int → Bool) (kk : Int → Option Bool) (l : List Int) (R : Option Bool) (hb : ∀ j : Nat, kk (j : Int) = some false) (hk : kk (-1) = R) :
    rangeF (fun (j1617 : Nat) (x1618 : Int) (s1614 : Unit) k1616 => (if (!(m x1618)) = true then (kk ((j1617 : Nat) : Int)) else (k1616 ()))) 0 l () (fun (s1614 : Unit) => kk (-1 : Int)) = if (l.all m) = true then R else some false := by
  refine rangeF_eq (fun _ xs _ => if (xs.all m) = true then R else some false) (fun _ _ => hk.symm) ?_ l 0 ()
  intro j x xs s k2 h2
  by_cases h : m x = true
  · simp [h, h2]
  · simp [Bool.eq_false_iff.2 h, hb]
theorem lits_in (m : Int → Bool) (kk : Int → Option Bool) (l : List Int) (R : Option Bool) (hk : ∀ s, kk s = R) :
    rangeF (fun (j3902 : Nat) (x3903 : Int) (s3899 : Int) k3901 => (jn (fun (s4091 : Bool) => (if s4091 = true then (some false) else ((F_prefix_abs x3903).bind (fun y4095 => (k3901 y4095))))) (fun k4093 => (if (x3903 == (0 : Int)) = true then (k4093 true) else (if (decide (x3903 < (-65536 : Int))) = true then (k4093 true) else (if (decide (x3903 > (65536 : Int))) = true then (k4093 true) else ((F_prefix_abs x3903).bind (fun y4099 => (if (decide (y4099 ≤ s3899)) = true then (k4093 true) else ((F_prefix_abs x3903).bind (fun y4101 => (k4093 (!(m y4101)))))))))))))) 0 l (0 : Int) kk
      = if (nrmB 0 l && l.all fun x => m (av x)) = true then R else some false := by
  refine rangeF_pre l (fun _ s => 0 ≤ s) (fun _ xs s => if (nrmB s xs && xs.all fun x => m (av x)) = true then R else some false) (fun s _ => by simp [nrmB, hk]) ?_ l [] 0 rfl (by decide)
  intro pre x xs s k2 hf hI h2
  simp only [jn_eq]
  by_cases h0 : x = 0
  · subst h0
    have h5 : ¬ s < av 0 := by show ¬ s < 0; omega
    simp [h5, nrmB]
  have h0' : (x == 0) = false := by simp [h0]
  by_cases h1 : x < -65536
  · have : ¬ -65536 ≤ x := by omega
    simp [h0', h1, this, nrmB]
  by_cases h3 : x > 65536
  · have : ¬ x ≤ 65536 := by omega
    simp [h0', h1, h3, this, nrmB]
  have e1 : -65536 ≤ x := by omega
  have e2 : x ≤ 65536 := by omega
  rw [absp_eq (x := x) (by omega) (by omega)]
  simp only [h0', h1, h3, decide_false, Bool.false_eq_true, if_false, Option.bind_some, nrmB, e1, e2, decide_true, Bool.true_and, List.all_cons]
  by_cases h4 : av x ≤ s
  · have : ¬ s < av x := by omega
    simp [h4, this]
  · have h5 : s < av x := by omega
    rw [h2 (av x) (av_nonneg x)]
    cases h6 : m (av x) <;> simp [h4, h5, h6]
theorem mayp_eq {d : S_api_Dqbf} (h : Sm d) : F_prefix_MayDqbf d = some (MayD d) := by
  unfold F_prefix_MayDqbf
  rw [rangeF_fold (fun (s : List (Int × Bool) × List (Int × Bool)) x => (mset s.1 x true, mset s.2 x true)), fold2]
  have h1 := h.univ
  have h2 := h.exist
  have h3 := h.tot
  have hmu : ∀ x, ((mget (d.Univ.foldl (fun m x => mset m x true) []) x).getD false) = decide (x ∈ d.Univ) := by
    intro x; rw [mget_fold]; by_cases hx : x ∈ d.Univ <;> simp [hx, mget]
  generalize hM : d.Univ.foldl (fun m x => mset m x true) ([] : List (Int × Bool)) = M at hmu ⊢
  simp only [hmu, jn_eq]
  refine (rangeF_pre d.Exist (fun pre s => s = pre.map (·.Var)) (fun _ xs _ => some ((xs.all fun e => !decide (e.Var ∈ d.Univ) && depB d.Univ e) && (rsB 0 d.Univ && (rsB 0 (varsD d) && (decide (d.Univ.length + d.Exist.length ≤ 1024) &&
    (decide (d.Clauses.length ≤ 20000) && ((d.Clauses.all fun c => nrmB 0 c && c.all fun x => decide (av x ∈ d.Univ ++ varsD d)) && decide (tot d.Clauses ≤ 200000)))))))) ?_ ?_ d.Exist [] [] rfl rfl)
  · rintro s rfl
    have hv : (d.Exist.map (·.Var)).length = d.Exist.length := by simp
    rw [rangeF_fold (fun m x => mset m x true)]
    have hma : ∀ x, (mget ((d.Exist.map (·.Var)).foldl (fun m x => mset m x true) M) x).isSome = decide (x ∈ d.Univ ++ varsD d) := by
      intro x
      rw [mget_fold, ← hM, mget_fold]
      by_cases a : x ∈ d.Exist.map (·.Var)
      · rw [if_pos a]; simp [varsD]; exact .inr (by simpa using a)
      · rw [if_neg a]
        by_cases b : x ∈ d.Univ
        · rw [if_pos b]; simp [b]
        · rw [if_neg b]
          have : x ∉ d.Univ ++ varsD d := by simp only [List.mem_append, not_or]; exact ⟨b, a⟩
          simp [mget, this]
    simp only [hma, rises_eq d.Univ (by omega), Option.bind_some, List.all_nil, Bool.true_and]
    by_cases hU : rsB 0 d.Univ = true
    case neg => simp [Bool.eq_false_iff.2 hU]
    rw [rises_eq _ (by rw [hv]; omega), Option.bind_some]
    by_cases hV : rsB 0 (varsD d) = true
    case neg =>
      have : rsB 0 (d.Exist.map (·.Var)) = false := Bool.eq_false_iff.2 hV
      simp [hU, this, Bool.eq_false_iff.2 hV]
    have hV' : rsB 0 (d.Exist.map (·.Var)) = true := hV
    rw [hv, wrap_id (by omega) (by omega)]
    by_cases hl : d.Univ.length + d.Exist.length ≤ 1024
    case neg =>
      have : ¬ ((d.Univ.length : Int) + (d.Exist.length : Int) ≤ 1024) := by omega
      simp [hU, hV', hl, this]
    have hl' : ((d.Univ.length : Int) + (d.Exist.length : Int) ≤ 1024) := by omega
    simp only [hU, hV, hV', hl, hl', decide_true, if_true, Bool.true_and]
    by_cases hc : d.Clauses.length ≤ 20000
    case neg =>
      have : ((d.Clauses.length : Nat) : Int) > 20000 := by omega
      simp [hc, this]
    have hc' : ¬ ((d.Clauses.length : Nat) : Int) > 20000 := by omega
    simp only [hc, hc', decide_true, decide_false, Bool.false_eq_true, if_false, Bool.true_and]
    have key := rangeF_pre (f := (fun (j3491 : Nat) (x3492 : (List Int)) (s3488 : Int) (k3490 : Int → Option Bool) => (rangeF (fun (j3902 : Nat) (x3903 : Int) (s3899 : Int) k3901 => (jn (fun (s4091 : Bool) => (if s4091 = true then (some false) else ((F_prefix_abs x3903).bind (fun y4095 => (k3901 y4095))))) (fun k4093 => (if (x3903 == (0 : Int)) = true then (k4093 true) else (if (decide (x3903 < (-65536 : Int))) = true then (k4093 true) else (if (decide (x3903 > (65536 : Int))) = true then (k4093 true) else ((F_prefix_abs x3903).bind (fun y4099 => (if (decide (y4099 ≤ s3899)) = true then (k4093 true) else ((F_prefix_abs x3903).bind (fun y4101 => (k4093 (!(decide (y4101 ∈ d.Univ ++ varsD d))))))))))))))) 0 x3492 (0 : Int) (fun (s3899 : Int) => (k3490 (IntKind.wrap .i64 (s3488 + ((x3492.length : Nat) : Int)))))))) (k := fun s3488 => some (decide (s3488 ≤ (200000 : Int))))
      d.Clauses (fun pre s => s = (tot pre : Int)) (fun _ xs _ => some ((xs.all fun c => nrmB 0 c && c.all fun x => decide (av x ∈ d.Univ ++ varsD d)) && decide (tot d.Clauses ≤ 200000))) ?_ ?_ d.Clauses [] 0 rfl rfl
    · simp only [jn_eq, if_true, List.length_nil] at key
      rw [key]; simp
    · rintro s rfl
      by_cases ht : tot d.Clauses ≤ 200000
      · have h3 : (tot d.Clauses : Int) ≤ 200000 := by omega
        simp [ht, h3]
      · have h3 : ¬ (tot d.Clauses : Int) ≤ 200000 := by omega
        simp [ht, h3]
    · intro pre x xs s kk hf hI hk
      have ht : tot pre + x.length ≤ tot d.Clauses := by rw [hf, tot_app, tot_cons]; omega
      have hk' := hk (IntKind.wrap .i64 (s + ((x.length : Nat) : Int))) (by rw [hI, wrap_id (by omega) (by omega), tot_app]; simp [tot])
      rw [lits_in (fun y => decide (y ∈ d.Univ ++ varsD d)) _ x _ (fun _ => hk'), List.all_cons]
      by_cases hx : (nrmB 0 x && x.all fun x => decide (av x ∈ d.Univ ++ varsD d)) = true
      · rw [if_pos hx, hx, Bool.true_and]
      · rw [if_neg hx, Bool.eq_false_iff.2 hx, Bool.false_and, Bool.false_and]
  · intro pre x xs s kk hf hI hk
    have hx : x ∈ d.Exist := by rw [hf]; simp
    have hlen : pre.length < d.Exist.length := by rw [hf]; simp
    have hk' := hk (s ++ [x.Var]) (by rw [hI]; simp)
    rw [List.all_cons]
    by_cases hu : x.Var ∈ d.Univ
    · simp [hu]
    rw [rises_eq x.On (Nat.le_trans (h.onE hx) (by decide)), Option.bind_some, depB]
    by_cases a : rsB 0 x.On = true
    case neg => simp [hu, Bool.eq_false_iff.2 a]
    simp only [hu, a, decide_false, Bool.false_eq_true, if_false, Bool.not_true]
    have hA : ∀ j : Nat, (if (decide (((j : Nat) : Int) ≥ (0 : Int))) = true then (some false) else (capN (s.length + [x.Var].length) (kk (s ++ [x.Var])))) = some false := fun j => by
      have : ((j : Nat) : Int) ≥ 0 := by omega
      simp [this]
    have hB : (if (decide ((-1 : Int) ≥ (0 : Int))) = true then (some false) else (capN (s.length + [x.Var].length) (kk (s ++ [x.Var])))) = kk (s ++ [x.Var]) := by
      rw [capN_eq (by rw [hI]; simp; omega)]; simp
    rw [findF_eq (fun y => decide (y ∈ d.Univ)) (fun s1611 => (if (decide (s1611 ≥ (0 : Int))) = true then (some false) else (capN (s.length + [x.Var].length) (kk (s ++ [x.Var]))))) x.On (kk (s ++ [x.Var])) hA hB]
    rw [hk']
    by_cases b : (x.On.all fun y => decide (y ∈ d.Univ)) = true
    · rw [if_pos b, b]; simp
    · rw [if_neg b, Bool.eq_false_iff.2 b]; simp
end Go.Sk.X
namespace Go.Sk.X
open Go Go.Sk
structure May (d : S_api_Dqbf) : Prop where
  dj : ∀ e ∈ d.Exist, e.Var ∉ d.Univ
  on : ∀ e ∈ d.Exist, rsB 0 e.On = true ∧ ∀ x ∈ e.On, x ∈ d.Univ
  ru : rsB 0 d.Univ = true
  rv : rsB 0 (varsD d) = true
  len : d.Univ.length + d.Exist.length ≤ 1024
  nrm : ∀ c ∈ d.Clauses, nrmB 0 c = true
  wi : ∀ c ∈ d.Clauses, ∀ x ∈ c, av x ∈ d.Univ ∨ av x ∈ varsD d
theorem may_of {d : S_api_Dqbf} (h : MayD d = true) : May d := by
  simp only [MayD, Bool.and_eq_true, List.all_eq_true, decide_eq_true_eq, Bool.not_eq_true', decide_eq_false_iff_not, depB, List.mem_append] at h
  obtain ⟨h1, h2, h3, h4, h5, h6, h7⟩ := h
  exact ⟨fun e he => (h1 e he).1, fun e he => (h1 e he).2, h2, h3, h4, fun c hc => (h6 c hc).1, fun c hc => (h6 c hc).2⟩
theorem May.sep {d : S_api_Dqbf} (h : May d) {x : Int} (h1 : x ∈ d.Univ) : x ∉ varsD d := fun hm => by
  obtain ⟨e, he, rfl⟩ := List.mem_map.1 hm
  exact h.dj e he h1
theorem wrapu (n : Int) : IntKind.wrap .u64 n = n % 18446744073709551616 := by
  simp only [IntKind.wrap, IntKind.bits, IntKind.signed]
  simp
theorem litsVar_eq {x : Int} (h0 : -65536 ≤ x) (h1 : x ≤ 65536) : F_lits_Var x = some (av x) := by
  unfold F_lits_Var F_lits_size av
  by_cases h : x < 0
  · have e : IntKind.wrap .u64 (0 - IntKind.wrap .u64 x) = -x := by rw [wrapu, wrapu]; omega
    have e2 : -x ≤ 65536 := by omega
    simp only [h, decide_true, if_true, e, Option.bind_some, e2, wrap_id (n := -x) (by omega) (by omega)]
  · have e : IntKind.wrap .u64 x = x := by rw [wrapu]; omega
    simp [h, e, h1, wrap_id (n := x) (by omega) (by omega)]
theorem mget_foldV (es : List S_api_Dep) : ∀ (m : List (Int × List Int)) (k : Int), (mget (es.foldl (fun m e => mset m e.Var e.On) m) k).isSome = (decide (k ∈ es.map (·.Var)) || (mget m k).isSome) := by
  induction es with
  | nil => intro m k; simp
  | cons e es ih =>
    intro m k
    rw [List.foldl_cons, ih, mget_mset]
    by_cases h : k = e.Var
    · simp [h]
    · simp [h]
end Go.Sk.X
namespace Go.Sk.X
open Go Go.Sk
theorem nrm_before : ∀ {pre : List Int} {c x : Int} {xs : List Int}, nrmB c (pre ++ x :: xs) = true → ∀ y ∈ pre, av y < av x
  | [], _, _, _, _, y, hy => by simp at hy
  | z :: pre, c, x, xs, h, y, hy => by
    rw [List.cons_append, nrm_cons] at h
    rcases List.mem_cons.1 hy with rfl | hy
    · exact (nrm_mem h.2.2.2 x (by simp)).1
    · exact nrm_before h.2.2.2 y hy
theorem nrm_lit {c : List Int} (h : nrmB 0 c = true) {x : Int} (hx : x ∈ c) : x ≠ 0 ∧ -65536 ≤ x ∧ x ≤ 65536 := by
  obtain ⟨h1, h2⟩ := nrm_mem h x hx
  exact ⟨fun e => by subst e; simp [av] at h1, h2⟩
theorem lmay_run : ∀ (xs : List Int) (j : Nat) (s : Int), 0 ≤ s → nrmB s xs = true →
    rangeF (fun (j104 : Nat) (x105 : Int) (s101 : Int) k103 => ((F_lits_Var x105).bind (fun y110 => (if (decide (y110 ≤ s101)) = true then (some false) else (k103 y110))))) j xs s (fun (s101 : Int) => (some true)) = some true
  | [], _, _, _, _ => rfl
  | x :: xs, j, s, hs, h => by
    rw [nrm_cons] at h
    have : ¬ av x ≤ s := by omega
    rw [rangeF_cons, litsVar_eq h.1 h.2.1]
    simp only [Option.bind_some, this, decide_false, Bool.false_eq_true, if_false]
    exact lmay_run xs (j + 1) (av x) (av_nonneg x) h.2.2.2
theorem lmay_eq {c : List Int} (h : nrmB 0 c = true) : F_lits_May c = some true := lmay_run c 0 0 (by decide) h
def subB (a b : List Int) : Bool := a.all fun x => decide (x ∈ b)
theorem find_ge (x : Int) (hx : -65536 ≤ x ∧ x ≤ 65536) {R : Type} (kk : Int → Option R) : ∀ (s p : List Int) (j : Nat), (∀ y ∈ s, -65536 ≤ y ∧ y ≤ 65536) →
    rangeF (fun (j697 : Nat) (x698 : Int) (s694 : Unit) k696 => ((F_lits_Var x698).bind (fun y732 => ((F_lits_Var x).bind (fun y733 => (if (decide (y732 ≥ y733)) = true then (kk ((j697 : Nat) : Int)) else (k696 ()))))))) j s () (fun (s694 : Unit) => (kk (-1 : Int)))
      = match s.dropWhile (fun y => decide (av y < av x)) with
        | [] => kk (-1)
        | _ :: t => kk ((j + (s.length - t.length - 1) : Nat) : Int)
  | [], p, j, _ => rfl
  | y :: s, p, j, hs => by
    have hy := hs y (by simp)
    have ih := find_ge x hx kk s p (j + 1) (fun z hz => hs z (by simp [hz]))
    rw [rangeF_cons]
    generalize hT : (fun s' => rangeF (fun (j697 : Nat) (x698 : Int) (s694 : Unit) k696 => ((F_lits_Var x698).bind (fun y732 => ((F_lits_Var x).bind (fun y733 => (if (decide (y732 ≥ y733)) = true then (kk ((j697 : Nat) : Int)) else (k696 ()))))))) (j + 1) s s' (fun (s694 : Unit) => (kk (-1 : Int)))) = T
    have ihT := ih
    rw [show (rangeF (fun (j697 : Nat) (x698 : Int) (s694 : Unit) k696 => ((F_lits_Var x698).bind (fun y732 => ((F_lits_Var x).bind (fun y733 => (if (decide (y732 ≥ y733)) = true then (kk ((j697 : Nat) : Int)) else (k696 ()))))))) (j + 1) s () (fun (s694 : Unit) => (kk (-1 : Int)))) = T () by rw [← hT]] at ihT
    rw [litsVar_eq hy.1 hy.2, litsVar_eq hx.1 hx.2]
    simp only [Option.bind_some, List.dropWhile_cons]
    by_cases h : av y < av x
    · have h' : ¬ av y ≥ av x := by omega
      simp only [h, h', decide_true, decide_false, if_true, Bool.false_eq_true, if_false]
      rw [ihT]
      cases hd : s.dropWhile (fun y => decide (av y < av x)) with
      | nil => rfl
      | cons z t =>
        have : t.length + 1 ≤ s.length := by
          have h1 : (s.dropWhile (fun y => decide (av y < av x))).length ≤ s.length := (List.dropWhile_suffix _).length_le
          rw [hd] at h1; simpa using h1
        simp only [List.length_cons]
        congr 2; omega
    · have h' : av y ≥ av x := by omega
      simp only [h, h', decide_true, decide_false, if_true, Bool.false_eq_true, if_false]
      congr 2; simp
theorem dw_spec {x : Int} : ∀ (s : List Int), ∃ p, s = p ++ s.dropWhile (fun y => decide (av y < av x)) ∧ (∀ y ∈ p, av y < av x) ∧ ∀ z t, s.dropWhile (fun y => decide (av y < av x)) = z :: t → av x ≤ av z
  | [] => ⟨[], rfl, by simp, by simp⟩
  | y :: s => by
    rw [List.dropWhile_cons]
    by_cases h : av y < av x
    · obtain ⟨p, h1, h2, h3⟩ := dw_spec (x := x) s
      simp only [h, decide_true, if_true]
      refine ⟨y :: p, by rw [List.cons_append, ← h1], fun z hz => ?_, h3⟩
      rcases List.mem_cons.1 hz with rfl | hz
      · exact h
      · exact h2 z hz
    · simp only [h, decide_false, Bool.false_eq_true, if_false]
      refine ⟨[], rfl, by simp, fun z t e => ?_⟩
      injection e with e1 e2
      subst e1; omega
theorem sub_step {x : Int} (hx : -65536 ≤ x ∧ x ≤ 65536) (s : List Int) (hsr : ∀ y ∈ s, -65536 ≤ y ∧ y ≤ 65536) (hl : s.length ≤ 4194304) (k120 : List Int → Option Bool) (f : Int → Option Bool)
    (hf : f = fun (s674 : Int) => (jn (fun (s687 : Bool) => (if s687 = true then (some false) else (okI (0 ≤ (IntKind.wrap .i64 (s674 + (1 : Int))) ∧ (IntKind.wrap .i64 (s674 + (1 : Int))).toNat ≤ s.length) (k120 (s.drop (IntKind.wrap .i64 (s674 + (1 : Int))).toNat))))) (fun k689 => (if (decide (s674 < (0 : Int))) = true then (k689 true) else (getI s s674 (fun x693 => (k689 (x693 != x)))))))) :
    jn f (fun k676 => (rangeF (fun (j697 : Nat) (x698 : Int) (s694 : Unit) k696 => ((F_lits_Var x698).bind (fun y732 => ((F_lits_Var x).bind (fun y733 => (if (decide (y732 ≥ y733)) = true then (k676 ((j697 : Nat) : Int)) else (k696 ()))))))) 0 s () (fun (s694 : Unit) => (k676 (-1 : Int)))))
      = match s.dropWhile (fun y => decide (av y < av x)) with
        | [] => some false
        | z :: t => if z = x then k120 t else some false := by
  rw [jn_eq, find_ge x hx f s [] 0 hsr]
  obtain ⟨q, h1, h2, h3⟩ := dw_spec (x := x) s
  cases hd : s.dropWhile (fun y => decide (av y < av x)) with
  | nil => subst hf; rfl
  | cons z t =>
    rw [hd] at h1
    have hsl : s.length = q.length + t.length + 1 := by rw [h1]; simp; omega
    have hidx : 0 + (s.length - t.length - 1) = q.length := by omega
    have hgz : s[q.length]? = some z := by rw [h1]; simp
    have hw : IntKind.wrap .i64 (((q.length : Nat) : Int) + 1) = ((q.length + 1 : Nat) : Int) := by rw [wrap_id (by omega) (by omega)]; omega
    have hn : ¬ (((q.length : Nat) : Int) < 0) := by omega
    have hdr : s.drop (q.length + 1) = t := by rw [h1]; simp
    subst hf
    simp only [hidx, jn_eq, hn, decide_false, Bool.false_eq_true, if_false, getI_nat, hgz, hw, Int.toNat_natCast]
    rw [okI_eq ⟨by omega, by omega⟩, hdr]
    by_cases hzx : z = x
    · simp [hzx]
    · simp [hzx]
theorem lsub_run (b : List Int) (hb : nrmB 0 b = true) (lb : b.length ≤ 4194304) : ∀ (a s p : List Int) (c : Int) (j : Nat), nrmB c a = true → 0 ≤ c → b = p ++ s → (∀ y ∈ p, av y ≤ c) →
    rangeF (fun (j121 : Nat) (x122 : Int) (s118 : (List Int)) k120 => (jn (fun (s674 : Int) => (jn (fun (s687 : Bool) => (if s687 = true then (some false) else (okI (0 ≤ (IntKind.wrap .i64 (s674 + (1 : Int))) ∧ (IntKind.wrap .i64 (s674 + (1 : Int))).toNat ≤ s118.length) (k120 (s118.drop (IntKind.wrap .i64 (s674 + (1 : Int))).toNat))))) (fun k689 => (if (decide (s674 < (0 : Int))) = true then (k689 true) else (getI s118 s674 (fun x693 => (k689 (x693 != x122)))))))) (fun k676 => (rangeF (fun (j697 : Nat) (x698 : Int) (s694 : Unit) k696 => ((F_lits_Var x698).bind (fun y732 => ((F_lits_Var x122).bind (fun y733 => (if (decide (y732 ≥ y733)) = true then (k676 ((j697 : Nat) : Int)) else (k696 ()))))))) 0 s118 () (fun (s694 : Unit) => (k676 (-1 : Int))))))) j a s (fun (s118 : (List Int)) => (some true))
      = some (subB a b)
  | [], s, p, c, j, _, _, _, _ => rfl
  | x :: a, s, p, c, j, ha, hc, hbs, hp => by
    rw [nrm_cons] at ha
    obtain ⟨hx1, hx2, hx3, ha⟩ := ha
    have hsr : ∀ y ∈ s, -65536 ≤ y ∧ y ≤ 65536 := fun y hy => (nrm_lit hb (by rw [hbs]; simp [hy])).2
    have hbl : b.length = p.length + s.length := by rw [hbs]; simp
    rw [rangeF_cons]
    refine (sub_step ⟨hx1, hx2⟩ s hsr (by omega) (fun s' => rangeF _ (j + 1) a s' _) _ rfl).trans ?_
    obtain ⟨q, h1, h2, h3⟩ := dw_spec (x := x) s
    have hmem : x ∈ b ↔ x ∈ s.dropWhile (fun y => decide (av y < av x)) := by
      constructor
      · intro hm
        rw [hbs, h1] at hm
        rcases List.mem_append.1 hm with hm | hm
        · have := hp x hm; omega
        · rcases List.mem_append.1 hm with hm | hm
          · have := h2 x hm; omega
          · exact hm
      · intro hm
        rw [hbs, h1]
        simp [hm]
    cases hd : s.dropWhile (fun y => decide (av y < av x)) with
    | nil =>
      rw [hd] at hmem
      have : x ∉ b := fun h => by simpa using hmem.1 h
      simp [subB, this]
    | cons z t =>
      rw [hd] at hmem h1
      have hpz : nrmB 0 ((p ++ q) ++ z :: t) = true := by rw [List.append_assoc, ← h1, ← hbs]; exact hb
      by_cases hzx : z = x
      · subst hzx
        have hzb : z ∈ b := hmem.2 (by simp)
        dsimp only
        rw [if_pos rfl, lsub_run b hb lb a t (p ++ q ++ [z]) (av z) (j + 1) ha (av_nonneg z) (by rw [hbs, h1]; simp) (fun y hy => ?_)]
        · simp [subB, hzb]
        · rcases List.mem_append.1 hy with hy | hy
          · have := nrm_before hpz y hy; omega
          · simp only [List.mem_singleton] at hy; subst hy; omega
      · have hxb : x ∉ b := fun h => by
          rcases List.mem_cons.1 (hmem.1 h) with e | e
          · exact hzx e.symm
          · have h4 := h3 z t hd
            obtain ⟨u, v, huv⟩ := List.append_of_mem e
            rw [huv] at hpz
            have h6 := nrm_before (pre := (p ++ q) ++ z :: u) (x := x) (xs := v) (c := 0) (by simpa using hpz) z (by simp)
            omega
        dsimp only
        rw [if_neg hzx]
        simp [subB, hxb]
theorem lsub_eq {a b : List Int} (ha : nrmB 0 a = true) (hb : nrmB 0 b = true) (lb : b.length ≤ 4194304) : F_lits_Sub a b = some (subB a b) := by
  unfold F_lits_Sub
  simp only [jn_eq, lmay_eq ha, lmay_eq hb, Option.bind_some, Bool.not_true, Bool.false_eq_true, if_false]
  exact lsub_run b hb lb a b [] 0 0 ha (by decide) rfl (by simp)
end Go.Sk.X
namespace Go.Sk.X
open Go Go.Sk
def strikeV (a b : List Int) : Int := match a.filter (fun x => !decide (x ∈ b)) with
  | [x] => if -x ∈ b then -x else 0
  | _ => 0
theorem idx_run (v : Int) : ∀ (xs : List Int) (j : Nat), ∃ n : Int, rangeF (fun (j104 : Nat) (x105 : Int) (s101 : Unit) k103 => (if (v == x105) = true then (some ((j104 : Nat) : Int)) else (k103 ()))) j xs () (fun (s101 : Unit) => (some (-1 : Int))) = some n ∧ (0 ≤ n ↔ v ∈ xs)
  | [], j => ⟨-1, rfl, by simp⟩
  | x :: xs, j => by
    rw [rangeF_cons]
    by_cases h : v = x
    · subst h
      exact ⟨(j : Int), by simp, by simp⟩
    · obtain ⟨n, h1, h2⟩ := idx_run v xs (j + 1)
      have h' : (v == x) = false := by simp [h]
      refine ⟨n, by simp only [h', Bool.false_eq_true, if_false]; exact h1, ?_⟩
      rw [h2]; simp [h]
theorem lhas_eq (l : List Int) (v : Int) : F_lits_Has l v = some (decide (v ∈ l)) := by
  unfold F_lits_Has F_slices_Contains_int_int F_slices_Index_int_int
  obtain ⟨n, h1, h2⟩ := idx_run v l 0
  rw [h1]
  simp only [Option.bind_some]
  congr 1
  rw [Bool.eq_iff_iff]
  simp only [decide_eq_true_eq, ge_iff_le]
  exact h2
def stW (b : List Int) : List Int → Int → Int
  | [], o => o
  | x :: xs, o => if x ∈ b then stW b xs o else if o = 0 ∧ -x ∈ b then stW b xs (-x) else 0
theorem lstrike_eq {a b : List Int} (ha : nrmB 0 a = true) (hb : nrmB 0 b = true) : F_lits_Strike a b = some (stW b a 0) := by
  unfold F_lits_Strike
  simp only [jn_eq, lmay_eq ha, lmay_eq hb, Option.bind_some, Bool.not_true, Bool.false_eq_true, if_false]
  refine rangeF_pre a (fun _ _ => True) (fun _ xs s => some (stW b xs s)) (fun s _ => rfl) ?_ a [] 0 rfl trivial
  intro pre x xs s kk hf hI hk
  have hx := nrm_lit ha (x := x) (by rw [hf]; simp)
  have hw : IntKind.wrap .i64 (0 - x) = -x := by rw [wrap_id (by omega) (by omega)]; omega
  simp only [lhas_eq, Option.bind_some, hw, stW, hk _ trivial]
  by_cases h1 : x ∈ b
  · simp [h1]
  · by_cases h2 : s = 0
    · subst h2
      by_cases h3 : -x ∈ b <;> simp [h1, h3]
    · have h2' : (s == 0) = false := by simp [h2]
      simp [h1, h2, h2']
theorem stW_spec (b : List Int) : ∀ (a : List Int) (o : Int), (∀ x ∈ a, x ≠ 0) → stW b a o = match a.filter (fun x => !decide (x ∈ b)) with
    | [] => o
    | [x] => if o = 0 ∧ -x ∈ b then -x else 0
    | _ => 0
  | [], o, _ => rfl
  | x :: a, o, h => by
    have hx := h x (by simp)
    have ih := fun o => stW_spec b a o (fun y hy => h y (by simp [hy]))
    simp only [stW, List.filter_cons]
    by_cases h1 : x ∈ b
    · simp only [h1, if_true, decide_true, Bool.not_true, Bool.false_eq_true, if_false]
      exact ih o
    · simp only [h1, if_false, decide_false, Bool.not_false, if_true]
      by_cases h2 : o = 0 ∧ -x ∈ b
      · rw [if_pos h2, ih (-x)]
        have hn : -x ≠ 0 := by omega
        cases hf : a.filter (fun x => !decide (x ∈ b)) with
        | nil => simp [h2]
        | cons y t =>
          cases t with
          | nil => simp [hx]
          | cons z t => rfl
      · rw [if_neg h2]
        cases hf : a.filter (fun x => !decide (x ∈ b)) with
        | nil => simp only [if_neg h2]
        | cons y t => rfl
theorem stW_eq {a b : List Int} (ha : nrmB 0 a = true) : stW b a 0 = strikeV a b := by
  rw [stW_spec b a 0 (fun x hx => (nrm_lit ha hx).1)]
  unfold strikeV
  cases hf : a.filter (fun x => !decide (x ∈ b)) with
  | nil => rfl
  | cons y t =>
    cases t with
    | nil => simp
    | cons z t => rfl
theorem lstrikeV {a b : List Int} (ha : nrmB 0 a = true) (hb : nrmB 0 b = true) : F_lits_Strike a b = some (strikeV a b) := by rw [lstrike_eq ha hb, stW_eq ha]
end Go.Sk.X
namespace Go.Sk.X
open Go Go.Sk
theorem mget_foldV2 : ∀ (es : List S_api_Dep) (m : List (Int × List Int)) (k : Int), (es.map (·.Var)).Nodup →
    mget (es.foldl (fun m e => mset m e.Var e.On) m) k = match es.find? (fun e => decide (e.Var = k)) with | some e => some e.On | none => mget m k
  | [], m, k, _ => rfl
  | e :: es, m, k, h => by
    rw [List.map_cons, List.nodup_cons] at h
    rw [List.foldl_cons, mget_foldV2 es _ k h.2, List.find?_cons]
    by_cases hk : e.Var = k
    · simp only [hk, decide_true]
      cases hf : es.find? (fun e => decide (e.Var = k)) with
      | none => simp only [mget_mset, if_true]
      | some e2 =>
        have h1 := List.mem_of_find?_eq_some hf
        have h2 := List.find?_some hf
        simp only [decide_eq_true_eq] at h2
        exact absurd (List.mem_map.2 ⟨e2, h1, h2.trans hk.symm⟩) h.1
    · simp only [hk, decide_false]
      cases hf : es.find? (fun e => decide (e.Var = k)) with
      | none => simp only [mget_mset]; rw [if_neg (fun e => hk e.symm)]
      | some e2 => rfl
def onD (d : S_api_Dqbf) (v : Int) : List Int := match d.Exist.find? (fun e => decide (e.Var = v)) with | some e => e.On | none => []
theorem on_map {d : S_api_Dqbf} (h : May d) (v : Int) : (mget (d.Exist.foldl (fun m e => mset m e.Var e.On) ([] : List (Int × List Int))) v).getD [] = onD d v := by
  rw [mget_foldV2 _ _ _ (rsB_nodup h.rv)]
  unfold onD
  cases d.Exist.find? (fun e => decide (e.Var = v)) <;> rfl
theorem on_rs {d : S_api_Dqbf} (h : May d) (v : Int) : rsB 0 (onD d v) = true ∧ ∀ x ∈ onD d v, x ∈ d.Univ := by
  unfold onD
  cases hf : d.Exist.find? (fun e => decide (e.Var = v)) with
  | none => exact ⟨rfl, by simp⟩
  | some e => exact h.on e (List.mem_of_find?_eq_some hf)
theorem on_len {d : S_api_Dqbf} (h : Sm d) (v : Int) : (onD d v).length ≤ 2097152 := by
  unfold onD
  cases hf : d.Exist.find? (fun e => decide (e.Var = v)) with
  | none => simp
  | some e => exact h.onE (List.mem_of_find?_eq_some hf)
def cntL (x : Int) (l : List Int) : Nat := (l.filter fun y => decide (y = x)).length
theorem cnt_app (x : Int) (a b : List Int) : cntL x (a ++ b) = cntL x a + cntL x b := by simp [cntL]
theorem cnt_le (x : Int) (a : List Int) : cntL x a ≤ a.length := List.length_filter_le _ _
theorem cnt_zero (x : Int) (a : List Int) : cntL x a = 0 ↔ x ∉ a := by
  unfold cntL
  rw [List.length_eq_zero_iff, List.filter_eq_nil_iff]
  constructor
  · intro h hm; exact h x hm (by simp)
  · intro h y hy; simp; rintro rfl; exact h hy
def timesM (cs : List (List Int)) (m : List (Int × Int)) : Prop := ∀ x, (mget m x).getD 0 = (cntL x cs.flatten : Int)
theorem times_in {R : Type} (K : List (Int × Int) → Option R) (P : List (Int × Int) → Prop) (w : Option R) : ∀ (c pre : List Int) (j : Nat) (s : List (Int × Int)), (pre ++ c).length ≤ 4194304 → (∀ x, (mget s x).getD 0 = (cntL x pre : Int)) →
    (∀ s', (∀ x, (mget s' x).getD 0 = (cntL x (pre ++ c) : Int)) → K s' = w) →
    rangeF (fun (j161 : Nat) (x162 : Int) (s158 : (List (Int × Int))) k160 => (k160 (mset s158 x162 (IntKind.wrap .i64 (((mget s158 x162).getD (0 : Int)) + (1 : Int)))))) j c s K = w
  | [], pre, j, s, hl, hs, hK => by rw [List.append_nil] at hK; exact hK s hs
  | x :: c, pre, j, s, hl, hs, hK => by
    rw [rangeF_cons]
    have hcl := cnt_le x pre
    simp only [List.length_append, List.length_cons] at hl
    refine times_in K P w c (pre ++ [x]) (j + 1) _ (by simp; omega) (fun y => ?_) (fun s' h' => hK s' (fun y => by rw [h' y]; simp))
    rw [mget_mset, cnt_app]
    by_cases e : y = x
    · subst e
      rw [if_pos rfl, hs y]
      have : cntL y [y] = 1 := by simp [cntL]
      rw [this, Option.getD_some, wrap_id (by omega) (by omega)]; omega
    · rw [if_neg e, hs y]
      have : cntL y [x] = 0 := (cnt_zero _ _).2 (by simp [e])
      rw [this]; omega
theorem times_out {R : Type} (K : List (Int × Int) → Option R) (w : Option R) (cs : List (List Int)) (hl : tot cs ≤ 4194304) (hK : ∀ m, timesM cs m → K m = w) :
    (rangeF (fun (j146 : Nat) (x147 : (List Int)) (s143 : (List (Int × Int))) k145 => (rangeF (fun (j161 : Nat) (x162 : Int) (s158 : (List (Int × Int))) k160 => (k160 (mset s158 x162 (IntKind.wrap .i64 (((mget s158 x162).getD (0 : Int)) + (1 : Int)))))) 0 x147 s143 (fun (s158 : (List (Int × Int))) => (k145 s158)))) 0 cs ([] : List (Int × Int)) K) = w := by
  refine rangeF_pre cs (fun pre s => timesM pre s) (fun _ _ _ => w) (fun s hs => hK s hs) ?_ cs [] [] rfl (fun x => by simp [mget, cntL])
  intro pre x xs s kk hf hI hk
  have ht : tot pre + x.length ≤ tot cs := by rw [hf, tot_app, tot_cons]; omega
  have hfl : pre.flatten.length = tot pre := by simp [tot, List.length_flatten]
  refine times_in _ (fun _ => True) w x pre.flatten 0 s (by simp only [List.length_append]; omega) hI (fun s' h' => hk s' (fun y => ?_))
  rw [h' y]; simp
theorem times_zero {cs : List (List Int)} {m : List (Int × Int)} (h : timesM cs m) (v : Int) : ((mget m v).getD 0 == 0) = cs.all fun c => !decide (v ∈ c) := by
  rw [h v, Bool.eq_iff_iff]
  simp only [beq_iff_eq, List.all_eq_true, Bool.not_eq_true', decide_eq_false_iff_not]
  constructor
  · intro h0 c hc hm
    exact (cnt_zero v cs.flatten).1 (by omega) (List.mem_flatten.2 ⟨c, hc, hm⟩)
  · intro h0
    have := (cnt_zero v cs.flatten).2 (fun hm => by
      obtain ⟨c, hc, hv⟩ := List.mem_flatten.1 hm
      exact h0 c hc hv)
    omega
theorem rsB_get : ∀ {l : List Int} {c : Int}, rsB c l = true → ∀ (i j : Nat) (x y : Int), l[i]? = some x → l[j]? = some y → i < j → x < y
  | [], _, _, i, j, x, y, hi, _, _ => by simp at hi
  | z :: l, c, h, i, j, x, y, hi, hj, hij => by
    obtain ⟨h1, h2, h3⟩ := rsB_cons.1 h
    obtain ⟨j, rfl⟩ : ∃ k, j = k + 1 := ⟨j - 1, by omega⟩
    rw [List.getElem?_cons_succ] at hj
    cases i with
    | zero =>
      simp only [List.getElem?_cons_zero, Option.some.injEq] at hi
      subst hi
      exact (rsB_mem h3 y (List.mem_of_getElem? hj)).1
    | succ i =>
      rw [List.getElem?_cons_succ] at hi
      exact rsB_get h3 i j x y hi hj (by omega)
theorem less_eq (x y : Int) : F_cmp_Less_int x y = some (decide (x < y)) := by
  unfold F_cmp_Less_int F_cmp_isNaN_int
  simp
theorem bin_eq {l : List Int} (h : rsB 0 l = true) (hl : l.length ≤ 4194304) (v : Int) : ∃ i, F_slices_BinarySearch_int_int l v = some (i, decide (v ∈ l)) := by
  unfold F_slices_BinarySearch_int_int
  have := whileF_ex (Post := fun r : Int × Bool => r.2 = decide (v ∈ l)) (b := (fun k103 (s101 : (Int × Int)) => (if (decide (s101.1 < s101.2)) = true then (okI (0 ≤ (1 : Int)) (getI l (IntKind.wrap .i64 (Int.fdiv (IntKind.wrap .u64 (IntKind.wrap .i64 (s101.1 + s101.2))) (2 ^ (min (1 : Int).toNat (IntKind.bits .u64))))) (fun x142 => ((F_cmp_Less_int x142 v).bind (fun y143 => (if y143 = true then (k103 ((IntKind.wrap .i64 ((IntKind.wrap .i64 (Int.fdiv (IntKind.wrap .u64 (IntKind.wrap .i64 (s101.1 + s101.2))) (2 ^ (min (1 : Int).toNat (IntKind.bits .u64))))) + (1 : Int))), s101.2)) else (k103 (s101.1, (IntKind.wrap .i64 (Int.fdiv (IntKind.wrap .u64 (IntKind.wrap .i64 (s101.1 + s101.2))) (2 ^ (min (1 : Int).toNat (IntKind.bits .u64))))))))))))) else (if (decide (s101.1 < ((l.length : Nat) : Int))) = true then (getI l s101.1 (fun x152 => (if (x152 == v) = true then (some (s101.1, true)) else ((F_slices_isNaN_int x152).bind (fun y154 => (if y154 = true then ((F_slices_isNaN_int v).bind (fun y156 => (some (s101.1, y156)))) else (some (s101.1, false)))))))) else (some (s101.1, false))))))
    (fun s => (s.2 - s.1).toNat) (fun s => ∃ i j : Nat, s = ((i : Int), (j : Int)) ∧ i ≤ j ∧ j ≤ l.length ∧ (∀ k x, k < i → l[k]? = some x → x < v) ∧ (∀ k x, j ≤ k → l[k]? = some x → v ≤ x)) ?_ 1000000000000 (0, (l.length : Int)) ?_ (by simp; omega)
  · obtain ⟨⟨i, b⟩, h1, h2⟩ := this
    simp only [] at h2
    subst h2
    exact ⟨i, h1⟩
  · rintro s k ⟨i, j, rfl, hij, hj, hlo, hhi⟩ hs
    simp only []
    by_cases hlt : i < j
    · have hlt' : ((i : Nat) : Int) < ((j : Nat) : Int) := by omega
      obtain ⟨m, hm⟩ : ∃ m : Nat, m = (i + j) / 2 := ⟨_, rfl⟩
      have hmj : m < l.length := by omega
      have e1 : (2 : Int) ^ (min (1 : Int).toNat (IntKind.bits .u64)) = 2 := rfl
      have ew : IntKind.wrap .i64 (Int.fdiv (IntKind.wrap .u64 (IntKind.wrap .i64 (((i : Nat) : Int) + ((j : Nat) : Int)))) 2) = ((m : Nat) : Int) := by
        rw [wrap_id (n := ((i : Nat) : Int) + ((j : Nat) : Int)) (by omega) (by omega), wrapu, Int.fdiv_eq_ediv_of_nonneg _ (by decide)]
        have : (((i : Nat) : Int) + ((j : Nat) : Int)) % 18446744073709551616 = ((i : Nat) : Int) + ((j : Nat) : Int) := by omega
        rw [this, wrap_id (by omega) (by omega)]; omega
      have hw : IntKind.wrap .i64 (((m : Nat) : Int) + 1) = ((m + 1 : Nat) : Int) := by rw [wrap_id (by omega) (by omega)]; omega
      simp only [hlt', decide_true, if_true, e1, ew, getI_nat, List.getElem?_eq_getElem hmj, less_eq, Option.bind_some, hw]
      rw [okI_eq (by decide)]
      by_cases hx : l[m] < v
      · simp only [hx, decide_true, if_true]
        refine hs _ ⟨m + 1, j, rfl, by omega, hj, fun k x hk hg => ?_, hhi⟩ (by simp only []; omega)
        by_cases e : k = m
        · subst e; rw [List.getElem?_eq_getElem hmj] at hg; injection hg with hg; omega
        · have := rsB_get h k m x l[m] hg (List.getElem?_eq_getElem hmj) (by omega); omega
      · simp only [hx, decide_false, Bool.false_eq_true, if_false]
        refine hs _ ⟨i, m, rfl, by omega, by omega, hlo, fun k x hk hg => ?_⟩ (by simp only []; omega)
        by_cases e : k = m
        · subst e; rw [List.getElem?_eq_getElem hmj] at hg; injection hg with hg; omega
        · have := rsB_get h m k l[m] x (List.getElem?_eq_getElem hmj) hg (by omega); omega
    · have hij2 : i = j := by omega
      subst hij2
      have hlt' : ¬ ((i : Nat) : Int) < ((i : Nat) : Int) := by omega
      simp only [hlt', decide_false, Bool.false_eq_true, if_false]
      have hnot : ∀ k x, l[k]? = some x → x = v → k = i := fun k x hg e => by
        subst e
        rcases Nat.lt_trichotomy k i with h1 | h1 | h1
        · have := hlo k x h1 hg; omega
        · exact h1
        · have hil : i < l.length := by have := (List.getElem?_eq_some_iff.1 hg).1; omega
          have h2 := hhi i l[i] (Nat.le_refl i) (List.getElem?_eq_getElem hil)
          have h3 := rsB_get h i k l[i] x (List.getElem?_eq_getElem hil) hg h1
          omega
      by_cases hil : i < l.length
      · have hil' : ((i : Nat) : Int) < ((l.length : Nat) : Int) := by omega
        simp only [hil', decide_true, if_true, getI_nat, List.getElem?_eq_getElem hil]
        by_cases he : l[i] = v
        · have he' : (l[i] == v) = true := by simp [he]
          rw [if_pos he']
          refine ⟨_, rfl, ?_⟩
          have : v ∈ l := he ▸ List.getElem_mem hil
          simp [this]
        · have he' : (l[i] == v) = false := by simp [he]
          have hv : v ∉ l := fun hm => by
            obtain ⟨k, hk⟩ := List.mem_iff_getElem?.1 hm
            have := hnot k v hk rfl
            subst this
            rw [List.getElem?_eq_getElem hil] at hk
            injection hk with hk
            exact he hk
          simp only [he', Bool.false_eq_true, if_false, F_slices_isNaN_int, Option.bind_some, bne_self_eq_false]
          exact ⟨_, rfl, by simp [hv]⟩
      · have hil' : ¬ ((i : Nat) : Int) < ((l.length : Nat) : Int) := by omega
        have hv : v ∉ l := fun hm => by
          obtain ⟨k, hk⟩ := List.mem_iff_getElem?.1 hm
          have := hnot k v hk rfl
          have := (List.getElem?_eq_some_iff.1 hk).1
          omega
        simp only [hil', decide_false, Bool.false_eq_true, if_false]
        exact ⟨_, rfl, by simp [hv]⟩
  · exact ⟨0, l.length, rfl, Nat.zero_le _, Nat.le_refl _, fun k x hk _ => absurd hk (Nat.not_lt_zero k), fun k x hk hg => by
      have := (List.getElem?_eq_some_iff.1 hg).1; omega⟩
end Go.Sk.X
namespace Go.Sk.X
open Go Go.Sk
theorem nodup_len : ∀ {l m : List Int}, l.Nodup → (∀ x ∈ l, x ∈ m) → l.length ≤ m.length
  | [], m, _, _ => Nat.zero_le _
  | x :: l, m, h, hm => by
    rw [List.nodup_cons] at h
    obtain ⟨a, b, rfl⟩ := List.append_of_mem (hm x (by simp))
    have := nodup_len (l := l) (m := a ++ b) h.2 (fun y hy => by
      have := hm y (by simp [hy])
      simp only [List.mem_append, List.mem_cons] at this ⊢
      rcases this with h1 | h1 | h1
      · exact .inl h1
      · subst h1; exact absurd hy h.1
      · exact .inr h1)
    simp only [List.length_append, List.length_cons] at this ⊢
    omega
end Go.Sk.X
namespace Go.Sk.X
open Go Go.Sk
def firstI {α β : Type} (g : Nat → α → Option β) : Nat → List α → Option β
  | _, [] => none
  | j, x :: xs => match g j x with
    | some y => some y
    | none => firstI g (j + 1) xs
def wantB (ks : List Int) (k : Int) : Bool := decide (ks = []) || decide (k ∈ ks)
def unitO (d : S_api_Dqbf) : Option S_api_Change := firstI (fun j c => match c with | [y] => (if av y ∈ varsD d then some (S_api_Change.mk 1 y 0 (j : Int) 0) else none) | _ => none) 0 d.Clauses
def redB (d : S_api_Dqbf) (c : List Int) (x : Int) : Bool := decide (av x ∈ d.Univ) && c.all fun y => !decide (av x ∈ onD d (av y))
def redO (d : S_api_Dqbf) : Option S_api_Change := firstI (fun j c => firstI (fun _ x => if redB d c x = true then some (S_api_Change.mk 3 x 0 (j : Int) 0) else none) 0 c) 0 d.Clauses
def nowB (d : S_api_Dqbf) (v : Int) : Bool := d.Clauses.all fun c => !decide (v ∈ c)
def pureO (d : S_api_Dqbf) : Option S_api_Change := firstI (fun _ v => firstI (fun _ x => if nowB d (-x) = true then some (S_api_Change.mk 2 x 0 0 0) else none) 0 [v, -v]) 0 (srt (d.Univ ++ varsD d))
def dropO (d : S_api_Dqbf) : Option S_api_Change := firstI (fun i c => firstI (fun j b => if i ≠ j ∧ subB b c = true then some (S_api_Change.mk 4 0 0 (i : Int) (j : Int)) else none) 0 d.Clauses) 0 d.Clauses
def strikeO (d : S_api_Dqbf) : Option S_api_Change := firstI (fun i c => firstI (fun j b => if strikeV b c ≠ 0 then some (S_api_Change.mk 5 (strikeV b c) 0 (i : Int) (j : Int)) else none) 0 d.Clauses) 0 d.Clauses
def selO (ks : List Int) (k : Int) (o : Option S_api_Change) : Option S_api_Change := if wantB ks k = true then o else none
theorem dep_run {d : S_api_Dqbf} (h : May d) (hs : Sm d) (M2 : List (Int × List Int)) (h2 : ∀ v, (mget M2 v).getD [] = onD d v) (v : Int) (c : List Int) (hc : nrmB 0 c = true) (kk : Int → Option Bool) (A B : Option Bool) (hA : ∀ j : Nat, kk (j : Int) = A) (hB : kk (-1) = B) :
    (rangeF (fun (j49980 : Nat) (x49981 : Int) (s49977 : Unit) k49979 => ((F_lits_Var x49981).bind (fun y50015 => ((F_slices_BinarySearch_int_int ((mget M2 y50015).getD ([] : List Int)) v).bind (fun y50016 => (if y50016.2 = true then (kk ((j49980 : Nat) : Int)) else (k49979 ()))))))) 0 c () (fun (s49977 : Unit) => (kk (-1 : Int))))
      = if (c.any fun y => decide (v ∈ onD d (av y))) = true then A else B := by
  refine rangeF_pre c (fun _ _ => True) (fun _ xs _ => if (xs.any fun y => decide (v ∈ onD d (av y))) = true then A else B) (fun _ _ => by simp [hB]) ?_ c [] () rfl trivial
  intro pre x xs s k2 hf hI hk
  have hx := nrm_lit hc (x := x) (by rw [hf]; simp)
  obtain ⟨i, hi⟩ := bin_eq (on_rs h (av x)).1 (Nat.le_trans (on_len hs (av x)) (by decide)) v
  rw [litsVar_eq hx.2.1 hx.2.2, Option.bind_some, h2, hi, Option.bind_some, List.any_cons, hA, hk () trivial]
  by_cases hv : v ∈ onD d (av x)
  · simp [hv]
  · simp [hv]
end Go.Sk.X
namespace Go.Sk.X
open Go Go.Sk
theorem clone1_eq {l : List Int} (hl : l.length ≤ 4194304) : F_slices_Clone_int_int_15 l = some l := by
  unfold F_slices_Clone_int_int_15
  cases l with
  | nil => rfl
  | cons a l => rw [if_neg (by simp), capN_eq (by simp at hl ⊢; omega)]; rfl
end Go.Sk.X
namespace Go.Sk.X
open Go Go.Sk
def allO (d : S_api_Dqbf) (ks : List Int) : Option S_api_Change :=
  (selO ks 1 (unitO d)).or ((selO ks 3 (redO d)).or ((selO ks 2 (pureO d)).or ((selO ks 4 (dropO d)).or (selO ks 5 (strikeO d)))))
theorem rs_nrm : ∀ {l : List Int} {c : Int}, 0 ≤ c → rsB c l = true → nrmB c l = true
  | [], _, _, _ => rfl
  | x :: l, c, hc, h => by
    obtain ⟨h1, h2, h3⟩ := rsB_cons.1 h
    have hav : av x = x := by unfold av; rw [if_neg (by omega)]
    rw [nrm_cons, hav]
    exact ⟨by omega, h2, h1, rs_nrm (by omega) h3⟩
theorem strike_mem {a b : List Int} (h : strikeV a b ≠ 0) : strikeV a b ∈ b := by
  unfold strikeV at h ⊢
  split at h
  · rename_i x hf
    by_cases hx : -x ∈ b
    · simp only [hx, if_true]
    · simp [hx] at h
  · exact absurd rfl h
end Go.Sk.X
namespace Go.Sk.X
open Go Go.Sk
abbrev MkT := (List Int) × (List S_api_Dep) × (List (List Int))
def MkL {T : Type} (a0 : S_api_Dqbf) (lit : Int) (kk : MkT → Option T) : Option T :=
  ((F_lits_Var lit).bind (fun y2896 => ((F_lits_Without a0.Univ y2896).bind (fun y2897 => (rangeF (fun (j2901 : Nat) (x2902 : S_api_Dep) (s2898 : (List S_api_Dep)) k2900 => (jn (fun (s2933 : (List S_api_Dep)) => (k2900 s2933)) (fun k2935 => (if (x2902.Var != y2896) = true then ((F_lits_Without x2902.On y2896).bind (fun y2937 => (capN (s2898.length + [(S_api_Dep.mk x2902.Var y2937)].length) (k2935 (s2898 ++ [(S_api_Dep.mk x2902.Var y2937)]))))) else (k2935 s2898))))) 0 a0.Exist ([] : List S_api_Dep) (fun (s2898 : (List S_api_Dep)) => (rangeF (fun (j2942 : Nat) (x2943 : (List Int)) (s2939 : (List (List Int))) k2941 => (jn (fun (s2981 : (List (List Int))) => (k2941 s2981)) (fun k2983 => ((F_lits_Has x2943 lit).bind (fun y2984 => (if (!y2984) = true then ((F_lits_Without x2943 y2896).bind (fun y2986 => (capN (s2939.length + [y2986].length) (k2983 (s2939 ++ [y2986]))))) else (k2983 s2939))))))) 0 a0.Clauses ([] : List (List Int)) (fun (s2939 : (List (List Int))) => (kk (y2897, s2898, s2939))))))))))
def MkB (a0 : S_api_Dqbf) (a1 : S_api_Change) (s133 : List (Int × Bool)) (s138 : List (Int × List Int)) (s143 : List (Int × Int)) (k1635 : Bool → Option (S_api_Dqbf × Int)) (y3173 : Int) (s3180 : Bool × Bool) (s3196 : Bool) : Option (S_api_Dqbf × Int) :=
  (if s3196 = true then (k1635 false) else (if (a1.Kind == (1 : Int)) = true then (if s3180.1 = true then (Option.bind (some ()) (fun (y3207 : Unit) => (if (mget s138 y3173).isSome = true then (getI a0.Clauses a1.At (fun x3209 => ((F_slices_Equal_int_int x3209 [a1.Lit]).bind (fun y3210 => (k1635 y3210))))) else (k1635 false)))) else (k1635 false)) else (if (a1.Kind == (3 : Int)) = true then (if s3180.1 = true then (getI a0.Clauses a1.At (fun x3908 => ((F_lits_Has x3908 a1.Lit).bind (fun y3909 => (if y3909 = true then (Option.bind ((F_lits_Var a1.Lit).bind (fun y4257 => (if ((mget s133 y4257).getD false) = true then (Option.bind (jn (fun (s4558 : Int) => (some (decide (s4558 ≥ (0 : Int))))) (fun k4560 => (rangeF (fun (j4564 : Nat) (x4565 : Int) (s4561 : Unit) k4563 => ((F_lits_Var x4565).bind (fun y4599 => ((F_slices_BinarySearch_int_int ((mget s138 y4599).getD ([] : List Int)) y4257).bind (fun y4600 => (if y4600.2 = true then (k4560 ((j4564 : Nat) : Int)) else (k4563 ()))))))) 0 x3908 () (fun (s4561 : Unit) => (k4560 (-1 : Int)))))) (fun (y4516 : Bool) => (some (!y4516)))) else (some false)))) (fun (y4256 : Bool) => (k1635 y4256))) else (k1635 false)))))) else (k1635 false)) else (if (a1.Kind == (2 : Int)) = true then (if (a1.At == (0 : Int)) = true then (if (decide (y3173 > (0 : Int))) = true then (if (((mget s143 (IntKind.wrap .i64 (0 - a1.Lit))).getD (0 : Int)) == (0 : Int)) = true then (if ((mget s133 y3173).getD false) = true then (k1635 true) else (Option.bind (some ()) (fun (y4612 : Unit) => (k1635 ((mget s138 y3173).isSome))))) else (k1635 false)) else (k1635 false)) else (k1635 false)) else (if (a1.Kind == (4 : Int)) = true then (if (a1.Lit == (0 : Int)) = true then (if s3180.2 = true then (if (a1.At != a1.By) = true then (getI a0.Clauses a1.By (fun x4623 => (getI a0.Clauses a1.At (fun x4624 => ((F_lits_Sub x4623 x4624).bind (fun y4625 => (k1635 y4625))))))) else (k1635 false)) else (k1635 false)) else (k1635 false)) else (if (a1.Kind == (5 : Int)) = true then (if (a1.Lit != (0 : Int)) = true then (if s3180.2 = true then (getI a0.Clauses a1.By (fun x4634 => (getI a0.Clauses a1.At (fun x4635 => ((F_lits_Strike x4634 x4635).bind (fun y4636 => (k1635 (y4636 == a1.Lit)))))))) else (k1635 false)) else (k1635 false)) else (k1635 false)))))))
def MkA (a0 : S_api_Dqbf) (a1 : S_api_Change) (s133 : List (Int × Bool)) (s138 : List (Int × List Int)) (s143 : List (Int × Int)) (k1635 : Bool → Option (S_api_Dqbf × Int)) : Option (S_api_Dqbf × Int) :=
  ((F_lits_Var a1.Lit).bind (fun y3173 => (jn (fun (s3175 : Bool) => (jn (fun (s3180 : (Bool × Bool)) => (jn (fun (s3196 : Bool) => (MkB a0 a1 s133 s138 s143 k1635 y3173 s3180 s3196)) (fun k3198 => (if (a1.To != (0 : Int)) = true then (k3198 true) else (if (a1.By != (0 : Int)) = true then (if (a1.Kind != (4 : Int)) = true then (k3198 (a1.Kind != (5 : Int))) else (k3198 false)) else (k3198 false)))))) (fun k3182 => (if s3175 = true then (if (decide (a1.By ≥ (0 : Int))) = true then (k3182 (true, (decide (a1.By < ((a0.Clauses.length : Nat) : Int))))) else (k3182 (true, false))) else (k3182 (false, false)))))) (fun k3177 => (if (decide (a1.At ≥ (0 : Int))) = true then (k3177 (decide (a1.At < ((a0.Clauses.length : Nat) : Int)))) else (k3177 false))))))
def MkM {T : Type} (a0 : S_api_Dqbf) (a1 : S_api_Change) (s133 : List (Int × Bool)) (k2405 : MkT → Option T) : Option T :=
  (if (a1.Kind == (4 : Int)) = true then ((F_slices_Clone_int_int a0.Clauses).bind (fun y2791 => (okI (0 ≤ a1.At ∧ a1.At ≤ (IntKind.wrap .i64 (a1.At + (1 : Int))) ∧ (IntKind.wrap .i64 (a1.At + (1 : Int))).toNat ≤ y2791.length ∧ 0 < y2791.length) (k2405 (a0.Univ, a0.Exist, (((delL y2791 a1.At.toNat (IntKind.wrap .i64 (a1.At + (1 : Int))).toNat []).take (0 + ((delL y2791 a1.At.toNat (IntKind.wrap .i64 (a1.At + (1 : Int))).toNat []).length - ((IntKind.wrap .i64 (a1.At + (1 : Int))).toNat - a1.At.toNat)))).drop 0)))))) else (jn (fun (s2794 : Bool) => (if s2794 = true then ((F_slices_Clone_int_int a0.Clauses).bind (fun y2798 => (getI y2798 a1.At (fun x2799 => ((F_lits_Var a1.Lit).bind (fun y2800 => ((F_lits_Without x2799 y2800).bind (fun y2801 => (k2405 (a0.Univ, a0.Exist, (y2798.set a1.At.toNat y2801))))))))))) else ((F_lits_Var a1.Lit).bind (fun y2802 => (if ((mget s133 y2802).getD false) = true then (MkL a0 (IntKind.wrap .i64 (0 - a1.Lit)) k2405) else (MkL a0 a1.Lit k2405)))))) (fun k2796 => (if (a1.Kind == (3 : Int)) = true then (k2796 true) else (k2796 (a1.Kind == (5 : Int)))))))
theorem make_unfold (a0 : S_api_Dqbf) (a1 : S_api_Change) : F_clean_Make a0 a1 =
  ((F_prefix_MayDqbf a0).bind (fun y101 => (if (!y101) = true then (some ((S_api_Dqbf.mk ([] : List Int) ([] : List S_api_Dep) ([] : List (List Int))), (2 : Int))) else (rangeF (fun (j136 : Nat) (x137 : Int) (s133 : (List (Int × Bool))) k135 => (k135 (mset s133 x137 true))) 0 a0.Univ ([] : List (Int × Bool)) (fun (s133 : (List (Int × Bool))) => (rangeF (fun (j141 : Nat) (x142 : S_api_Dep) (s138 : (List (Int × (List Int)))) k140 => (k140 (mset s138 x142.Var x142.On))) 0 a0.Exist ([] : List (Int × (List Int))) (fun (s138 : (List (Int × (List Int)))) => (rangeF (fun (j146 : Nat) (x147 : (List Int)) (s143 : (List (Int × Int))) k145 => (rangeF (fun (j161 : Nat) (x162 : Int) (s158 : (List (Int × Int))) k160 => (k160 (mset s158 x162 (IntKind.wrap .i64 (((mget s158 x162).getD (0 : Int)) + (1 : Int)))))) 0 x147 s143 (fun (s158 : (List (Int × Int))) => (k145 s158)))) 0 a0.Clauses ([] : List (Int × Int)) (fun (s143 : (List (Int × Int))) => (jn (fun (s1633 : Bool) => (if (!s1633) = true then (some ((S_api_Dqbf.mk ([] : List Int) ([] : List S_api_Dep) ([] : List (List Int))), (5 : Int))) else (jn (fun (s2403 : ((List Int) × (List S_api_Dep) × (List (List Int)))) => ((F_clean_own (S_api_Dqbf.mk s2403.1 s2403.2.1 s2403.2.2)).bind (fun y2406 => (some (y2406, (0 : Int)))))) (fun k2405 => (MkM a0 a1 s133 k2405))))) (fun k1635 => (MkA a0 a1 s133 s138 s143 k1635)))))))))))) := rfl
def vr (x : Int) : Int := if -65536 ≤ x ∧ x ≤ 65536 then av x else 0
theorem vr_in {x : Int} (h0 : -65536 ≤ x) (h1 : x ≤ 65536) : vr x = av x := if_pos ⟨h0, h1⟩
theorem lvar_any {x : Int} (h : InK .i64 x) : F_lits_Var x = some (vr x) := by
  by_cases hx : -65536 ≤ x ∧ x ≤ 65536
  · rw [litsVar_eq hx.1 hx.2, vr_in hx.1 hx.2]
  have h := inK64.1 h
  unfold F_lits_Var F_lits_size vr
  rw [if_neg hx]
  by_cases h0 : x < 0
  · have e : IntKind.wrap .u64 (0 - IntKind.wrap .u64 x) = -x := by rw [wrapu, wrapu]; omega
    have e2 : ¬ -x ≤ 65536 := by omega
    simp only [h0, decide_true, if_true, e, Option.bind_some, e2, decide_false, Bool.false_eq_true, if_false]
  · have e : IntKind.wrap .u64 x = x := by rw [wrapu]; omega
    have e2 : ¬ x ≤ 65536 := by omega
    simp only [h0, decide_false, e, Option.bind_some, e2, Bool.false_eq_true, if_false]
theorem vr_neg {x : Int} (h : InK .i64 x) : vr (IntKind.wrap .i64 (0 - x)) = vr x := by
  have h := inK64.1 h
  by_cases hx : x = -9223372036854775808
  · subst hx; decide +kernel
  have e : IntKind.wrap .i64 (0 - x) = -x := by rw [wrap_id (by omega) (by omega)]; omega
  rw [e]
  unfold vr
  rw [av_neg]
  by_cases hr : -65536 ≤ x ∧ x ≤ 65536
  · rw [if_pos hr, if_pos (by omega)]
  · rw [if_neg hr, if_neg (by omega)]
theorem inK_neg {x : Int} : InK .i64 (IntKind.wrap .i64 (0 - x)) := by
  rw [inK64]
  simp only [IntKind.wrap, IntKind.bits, IntKind.signed]
  simp only [Bool.true_and]
  split <;> rename_i h <;> simp only [ge_iff_le, decide_eq_true_eq] at h <;> omega
def clO (d : S_api_Dqbf) (at_ : Int) : Option (List Int) := if 0 ≤ at_ ∧ at_ < (d.Clauses.length : Int) then d.Clauses[at_.toNat]? else none
theorem clO_some {d : S_api_Dqbf} {i : Int} {c : List Int} (h : clO d i = some c) : 0 ≤ i ∧ i < (d.Clauses.length : Int) ∧ d.Clauses[i.toNat]? = some c := by
  unfold clO at h
  split at h
  · rename_i hh; exact ⟨hh.1, hh.2, h⟩
  · cases h
theorem clO_mem {d : S_api_Dqbf} {i : Int} {c : List Int} (h : clO d i = some c) : c ∈ d.Clauses := List.mem_of_getElem? (clO_some h).2.2
def allowB (d : S_api_Dqbf) (c : S_api_Change) : Bool :=
  decide (c.To = 0) &&
  (if c.Kind = 1 then decide (c.By = 0) && (match clO d c.At with | some b => decide (b = [c.Lit]) && decide (vr c.Lit ∈ varsD d) | none => false)
   else if c.Kind = 3 then decide (c.By = 0) && (match clO d c.At with | some b => decide (c.Lit ∈ b) && redB d b c.Lit | none => false)
   else if c.Kind = 2 then decide (c.By = 0) && decide (c.At = 0) && decide (vr c.Lit > 0) && nowB d (IntKind.wrap .i64 (0 - c.Lit)) && (decide (vr c.Lit ∈ varsD d) || decide (vr c.Lit ∈ d.Univ))
   else if c.Kind = 4 then decide (c.Lit = 0) && (match clO d c.At, clO d c.By with | some a, some b => decide (c.At ≠ c.By) && subB b a | _, _ => false)
   else if c.Kind = 5 then decide (c.Lit ≠ 0) && (match clO d c.At, clO d c.By with | some a, some b => decide (strikeV b a = c.Lit) | _, _ => false)
   else false)
end Go.Sk.X
namespace Go.Sk.X
open Go Go.Sk
abbrev MkR := Option (S_api_Dqbf × Int)
theorem mka_b {d : S_api_Dqbf} {c : S_api_Change} (hc : InK .i64 c.Lit) (M1 : List (Int × Bool)) (M2 : List (Int × List Int)) (M3 : List (Int × Int)) (k : Bool → MkR) :
    MkA d c M1 M2 M3 k = MkB d c M1 M2 M3 k (vr c.Lit) ((clO d c.At).isSome, (clO d c.At).isSome && (clO d c.By).isSome) (decide (c.To ≠ 0) || (decide (c.By ≠ 0) && (decide (c.Kind ≠ 4) && decide (c.Kind ≠ 5)))) := by
  have hO : ∀ i : Int, (clO d i).isSome = (decide (i ≥ 0) && decide (i < (d.Clauses.length : Int))) := fun i => by
    unfold clO
    by_cases hh : 0 ≤ i ∧ i < (d.Clauses.length : Int)
    · rw [if_pos hh, List.getElem?_eq_getElem (by omega)]
      simp [hh.1, hh.2]
    · rw [if_neg hh]
      simp only [Option.isSome_none]
      by_cases h0 : i ≥ 0
      · have : ¬ i < (d.Clauses.length : Int) := by omega
        simp [this]
      · simp [h0]
  have hk5 : (c.Kind != 5) = !decide (c.Kind = 5) := by by_cases h : c.Kind = 5 <;> simp [h]
  unfold MkA
  rw [lvar_any hc, Option.bind_some, hO, hO]
  simp only [jn_eq, hk5]
  by_cases e1 : c.At ≥ 0 <;> by_cases e2 : c.At < (d.Clauses.length : Int) <;> by_cases e3 : c.By ≥ 0 <;> by_cases e4 : c.By < (d.Clauses.length : Int) <;>
    simp only [e1, e2, e3, e4, decide_true, decide_false, Bool.and_true, Bool.and_false, Bool.true_and, Bool.false_and, if_true, if_false, Bool.false_eq_true, ge_iff_le] <;>
    (by_cases e5 : c.To = 0 <;> by_cases e6 : c.By = 0 <;> by_cases e7 : c.Kind = 4 <;> by_cases e8 : c.Kind = 5 <;> simp [e5, e6, e7, e8])
theorem equal_one (b : List Int) (x : Int) : F_slices_Equal_int_int b [x] = some (decide (b = [x])) := by
  unfold F_slices_Equal_int_int
  match b with
  | [] => simp
  | [y] =>
    by_cases h : y = x
    · subst h; simp [rangeF_cons, rangeF_nil, getI]
    · simp [rangeF_cons, rangeF_nil, getI, h]
  | y :: z :: t =>
    have h1 : ((((y :: z :: t).length : Nat) : Int) != ((([x] : List Int).length : Nat) : Int)) = true := by simp; omega
    have h2 : decide (y :: z :: t = [x]) = false := by simp
    rw [if_pos h1, h2]
theorem pallow_eq {d : S_api_Dqbf} (h : May d) (hs : Sm d) {c : S_api_Change} (hc : InK .i64 c.Lit) (M1 : List (Int × Bool)) (M2 : List (Int × List Int)) (M3 : List (Int × Int)) (k : Bool → MkR)
    (h1 : ∀ v, (mget M1 v).getD false = decide (v ∈ d.Univ)) (h2 : ∀ v, (mget M2 v).getD [] = onD d v) (h2' : ∀ v, (mget M2 v).isSome = decide (v ∈ varsD d)) (h3 : timesM d.Clauses M3) :
    MkA d c M1 M2 M3 k = k (allowB d c) := by
  have hl : ∀ {i : Int} {b : List Int}, clO d i = some b → nrmB 0 b = true ∧ b.length ≤ 4194304 := fun hb => ⟨h.nrm _ (clO_mem hb), Nat.le_trans (tot_mem (clO_mem hb)) (Nat.le_trans hs.tot (by decide))⟩
  have hget : ∀ {i : Int} {b : List Int} (f : List Int → MkR), clO d i = some b → getI d.Clauses i f = f b := fun f hb => getI_eq (clO_some hb).1 (clO_some hb).2.2
  rw [mka_b hc]
  obtain ⟨kd, l, t, i, j⟩ := c
  simp only at hc
  unfold MkB allowB
  simp only []
  by_cases ht : t = 0
  case neg => simp [ht]
  simp only [ht, ne_eq, not_true_eq_false, decide_false, Bool.false_or, decide_true, Bool.true_and]
  by_cases k4 : kd = 4
  · subst k4
    have e1 : ((4 : Int) == 1) = false := rfl
    have e2 : ((4 : Int) == 3) = false := rfl
    have e3 : ((4 : Int) == 2) = false := rfl
    have e4 : ¬ (4 : Int) = 1 := by decide
    have e5 : ¬ (4 : Int) = 3 := by decide
    have e6 : ¬ (4 : Int) = 2 := by decide
    simp only [not_true_eq_false, decide_false, Bool.and_false, Bool.false_and, Bool.false_eq_true, if_false, e1, e2, e3, e4, e5, e6, beq_self_eq_true, if_true]
    by_cases hz : l = 0
    case neg => simp [hz]
    simp only [hz, beq_self_eq_true, if_true, decide_true, Bool.true_and]
    cases hh : clO d i with
    | none => simp
    | some a =>
      cases hh2 : clO d j with
      | none => simp
      | some b =>
        simp only [Option.isSome_some, Bool.and_self, if_true]
        by_cases hij : i = j
        · simp [hij]
        · have : (i != j) = true := by simp [hij]
          rw [if_pos this, hget _ hh2, hget _ hh, lsub_eq (hl hh2).1 (hl hh).1 (hl hh).2]
          simp [hij]
  by_cases k5 : kd = 5
  · subst k5
    have e1 : ((5 : Int) == 1) = false := rfl
    have e2 : ((5 : Int) == 3) = false := rfl
    have e3 : ((5 : Int) == 2) = false := rfl
    have e0 : ((5 : Int) == 4) = false := rfl
    have e4 : ¬ (5 : Int) = 1 := by decide
    have e5 : ¬ (5 : Int) = 3 := by decide
    have e6 : ¬ (5 : Int) = 2 := by decide
    simp only [not_true_eq_false, decide_false, Bool.and_false, Bool.false_and, Bool.false_eq_true, if_false, e0, e1, e2, e3, e4, e5, e6, k4, beq_self_eq_true, if_true]
    by_cases hz : l = 0
    · simp [hz]
    have hz' : (l != 0) = true := by simp [hz]
    simp only [hz', if_true, hz, not_false_eq_true, decide_true, Bool.true_and]
    cases hh : clO d i with
    | none => simp
    | some a =>
      cases hh2 : clO d j with
      | none => simp
      | some b =>
        simp only [Option.isSome_some, Bool.and_self, if_true]
        rw [hget _ hh2, hget _ hh, lstrikeV (hl hh2).1 (hl hh).1]
        simp only [Option.bind_some]
        by_cases e : strikeV b a = l
        · simp [e]
        · have e' : (strikeV b a == l) = false := by simp [e]
          simp [e, e']
  have k4' : (kd == 4) = false := by simp [k4]
  have k5' : (kd == 5) = false := by simp [k5]
  simp only [k4, k5, k4', k5', not_false_eq_true, decide_true, Bool.and_true, if_false, Bool.false_eq_true]
  by_cases hj : j = 0
  case neg => simp [hj]
  subst hj
  simp only [not_true_eq_false, decide_false, Bool.false_eq_true, if_false, decide_true, Bool.true_and]
  by_cases k1 : kd = 1
  · subst k1
    simp only [beq_self_eq_true, if_true]
    cases hh : clO d i with
    | none => simp
    | some b =>
      simp only [Option.isSome_some, if_true, Option.bind_some, h2', hget _ hh, equal_one]
      by_cases hv : vr l ∈ varsD d <;> simp [hv]
  have k1' : (kd == 1) = false := by simp [k1]
  simp only [k1, k1', if_false, Bool.false_eq_true]
  by_cases k3 : kd = 3
  · subst k3
    simp only [beq_self_eq_true, if_true]
    cases hh : clO d i with
    | none => simp
    | some b =>
      have hb := hl hh
      simp only [Option.isSome_some, if_true]
      rw [hget _ hh, lhas_eq, Option.bind_some]
      by_cases hm : l ∈ b
      · have hx := nrm_lit hb.1 hm
        simp only [hm, decide_true, if_true, Bool.true_and, lvar_any hc, Option.bind_some, h1, vr_in hx.2.1 hx.2.2, jn_eq]
        rw [dep_run h hs M2 h2 (av l) b hb.1 (fun (s49974 : Int) => (some (decide (s49974 ≥ (0 : Int))))) (some true) (some false) (fun j => by simp) (by simp)]
        unfold redB
        by_cases hv : av l ∈ d.Univ
        · have e : (b.all fun y => !decide (av l ∈ onD d (av y))) = !(b.any fun y => decide (av l ∈ onD d (av y))) := by
            rw [List.not_any_eq_all_not]
          rw [e]
          cases b.any fun y => decide (av l ∈ onD d (av y)) <;> simp [hv]
        · simp [hv]
      · simp [hm]
  have k3' : (kd == 3) = false := by simp [k3]
  simp only [k3, k3', if_false, Bool.false_eq_true]
  by_cases k2 : kd = 2
  · subst k2
    simp only [beq_self_eq_true, if_true, Option.bind_some, times_zero h3, h1, h2', nowB]
    by_cases hi : i = 0
    case neg => simp [hi]
    by_cases hv : vr l > 0
    case neg => simp [hv, hi]
    simp only [hi, beq_self_eq_true, if_true, decide_true, Bool.true_and, hv]
    cases d.Clauses.all fun c => !decide (IntKind.wrap .i64 (0 - l) ∈ c)
    · simp
    · by_cases hm : vr l ∈ varsD d <;> by_cases hm2 : vr l ∈ d.Univ <;> simp [hm, hm2]
  have k2' : (kd == 2) = false := by simp [k2]
  simp [k2, k2']
end Go.Sk.X
namespace Go.Sk.X
open Go Go.Sk
def wo (v : Int) (l : List Int) : List Int := l.filter fun x => decide (av x ≠ v)
theorem wo_len (v : Int) (l : List Int) : (wo v l).length ≤ l.length := List.length_filter_le _ _
theorem lwithout_eq {a : List Int} (ha : nrmB 0 a = true) (la : a.length ≤ 4194304) (v : Int) : F_lits_Without a v = some (wo v a) := by
  unfold F_lits_Without
  simp only [jn_eq, lmay_eq ha, Option.bind_some, Bool.not_true, Bool.false_eq_true, if_false]
  refine rangeF_pre a (fun pre s => s.length ≤ pre.length) (fun _ xs s => some (s ++ wo v xs)) (fun s _ => by simp [wo]) ?_ a [] [] rfl (by simp)
  intro pre x xs s kk hf hI hk
  have hlen : pre.length < a.length := by rw [hf]; simp
  have hx := nrm_lit ha (x := x) (by rw [hf]; simp)
  rw [litsVar_eq hx.2.1 hx.2.2]
  unfold F_lits_only
  simp only [Option.bind_some, wo, List.filter_cons]
  by_cases h : av x = v
  · have h' : (av x != v) = false := by simp [h]
    simp only [h', Bool.false_eq_true, if_false, Option.bind_some, bne_self_eq_false]
    rw [hk s (by simp; omega)]
    simp [h, wo]
  · have h' : (av x != v) = true := by simp [h]
    have h2 : (x != (0 : Int)) = true := by simp [hx.1]
    simp only [h', if_true, Option.bind_some, h2]
    rw [capN_eq (by simp; omega), hk _ (by simp; omega)]
    simp [h, wo]
def depW (v : Int) (es : List S_api_Dep) : List S_api_Dep := (es.filter fun e => decide (e.Var ≠ v)).map fun e => S_api_Dep.mk e.Var (wo v e.On)
def clsW (lit v : Int) (cs : List (List Int)) : List (List Int) := (cs.filter fun c => !decide (lit ∈ c)).map (wo v)
def leaveV (d : S_api_Dqbf) (lit : Int) : MkT := (wo (vr lit) d.Univ, depW (vr lit) d.Exist, clsW lit (vr lit) d.Clauses)
structure Szs (d : S_api_Dqbf) : Prop where
  u : d.Univ.length ≤ 4194304
  e : d.Exist.length ≤ 4194304
  on : ∀ e ∈ d.Exist, e.On.length ≤ 4194304
  c : d.Clauses.length ≤ 4194304
  cs : ∀ c ∈ d.Clauses, c.length ≤ 4194304
theorem Sm.szs {d : S_api_Dqbf} (h : Sm d) : Szs d :=
  ⟨Nat.le_trans h.univ (by decide), Nat.le_trans h.exist (by decide), fun e he => Nat.le_trans (h.onE he) (by decide), Nat.le_trans h.cls (by decide), fun c hc => Nat.le_trans (tot_mem hc) (Nat.le_trans h.tot (by decide))⟩
theorem dep_loop {R : Type} {v : Int} {es : List S_api_Dep} (hn : ∀ e ∈ es, rsB 0 e.On = true) (hl : ∀ e ∈ es, e.On.length ≤ 4194304) (he : es.length ≤ 4194304) (W : List Int → Int → Option (List Int)) (hW : ∀ l : List Int, nrmB 0 l = true → l.length ≤ 4194304 → W l v = some (wo v l)) (K : List S_api_Dep → Option R) :
    rangeF (fun (j2901 : Nat) (x2902 : S_api_Dep) (s2898 : (List S_api_Dep)) k2900 => (jn (fun (s2933 : (List S_api_Dep)) => (k2900 s2933)) (fun k2935 => (if (x2902.Var != v) = true then ((W x2902.On v).bind (fun y2937 => (capN (s2898.length + [(S_api_Dep.mk x2902.Var y2937)].length) (k2935 (s2898 ++ [(S_api_Dep.mk x2902.Var y2937)]))))) else (k2935 s2898))))) 0 es ([] : List S_api_Dep) K = K (depW v es) := by
  refine rangeF_pre es (fun pre s => s = depW v pre) (fun pre xs s => K (depW v (pre ++ xs))) (fun s h => by rw [List.append_nil, h]) ?_ es [] [] rfl rfl
  intro pre x xs s kk hf hI hk
  have hx : x ∈ es := by rw [hf]; simp
  have hlen : s.length ≤ pre.length := by rw [hI]; unfold depW; rw [List.length_map]; exact List.length_filter_le _ _
  have hp : pre.length < es.length := by rw [hf]; simp
  simp only [jn_eq]
  rw [show pre ++ x :: xs = (pre ++ [x]) ++ xs by simp]
  by_cases h : x.Var = v
  · have h' : (x.Var != v) = false := by simp [h]
    simp only [h', Bool.false_eq_true, if_false]
    exact hk s (by rw [hI]; simp [depW, h])
  · have h' : (x.Var != v) = true := by simp [h]
    simp only [h', if_true, hW _ (rs_nrm (by decide) (hn x hx)) (hl x hx), Option.bind_some]
    rw [capN_eq (by simp; omega)]
    exact hk _ (by rw [hI]; simp [depW, h])
theorem cls_loop {R : Type} {v lit : Int} {cs : List (List Int)} (hn : ∀ c ∈ cs, nrmB 0 c = true) (hl : ∀ c ∈ cs, c.length ≤ 4194304) (he : cs.length ≤ 4194304) (K : List (List Int) → Option R)
    (body : List Int → List (List Int) → (List (List Int) → Option R) → Option R) (hb : ∀ c ∈ cs, ∀ (s : List (List Int)) k, s.length ≤ 4194304 → body c s k = if lit ∈ c then k s else k (s ++ [wo v c])) :
    rangeF (fun (j : Nat) (x : List Int) (s : List (List Int)) k => body x s k) 0 cs ([] : List (List Int)) K = K (clsW lit v cs) := by
  refine rangeF_pre cs (fun pre s => s = clsW lit v pre) (fun pre xs s => K (clsW lit v (pre ++ xs))) (fun s h => by rw [List.append_nil, h]) ?_ cs [] [] rfl rfl
  intro pre x xs s kk hf hI hk
  have hx : x ∈ cs := by rw [hf]; simp
  have hlen : s.length ≤ pre.length := by rw [hI]; unfold clsW; rw [List.length_map]; exact List.length_filter_le _ _
  have hp : pre.length < cs.length := by rw [hf]; simp
  rw [show pre ++ x :: xs = (pre ++ [x]) ++ xs by simp, hb x hx s kk (by omega)]
  by_cases h : lit ∈ x
  · rw [if_pos h]
    exact hk s (by rw [hI]; simp [clsW, h])
  · rw [if_neg h]
    exact hk _ (by rw [hI]; simp [clsW, h])
theorem mkl_eq {R : Type} {d : S_api_Dqbf} (h : May d) (hs : Sm d) {lit : Int} (hk : InK .i64 lit) (kk : MkT → Option R) : MkL d lit kk = kk (leaveV d lit) := by
  have hz := hs.szs
  unfold MkL leaveV
  rw [lvar_any hk, Option.bind_some, lwithout_eq (rs_nrm (by decide) h.ru) hz.u, Option.bind_some]
  rw [dep_loop (fun e he => (h.on e he).1) hz.on hz.e F_lits_Without (fun l h1 h2 => lwithout_eq h1 h2 _)]
  refine cls_loop h.nrm hz.cs hz.c (fun s => kk (wo (vr lit) d.Univ, depW (vr lit) d.Exist, s)) (fun x s k => (jn (fun (s2981 : (List (List Int))) => (k s2981)) (fun k2983 => ((F_lits_Has x lit).bind (fun y2984 => (if (!y2984) = true then ((F_lits_Without x (vr lit)).bind (fun y2986 => (capN (s.length + [y2986].length) (k2983 (s ++ [y2986]))))) else (k2983 s))))))) ?_
  intro c hc s k hl
  simp only [jn_eq]
  rw [lhas_eq, Option.bind_some]
  by_cases hm : lit ∈ c
  · simp [hm]
  · simp only [hm, decide_false, Bool.not_false, if_true, if_false]
    rw [lwithout_eq (h.nrm c hc) (hz.cs c hc), Option.bind_some, capN_eq (by simp; omega)]
end Go.Sk.X
namespace Go.Sk.X
open Go Go.Sk
def madeV (d : S_api_Dqbf) (c : S_api_Change) : MkT :=
  if c.Kind = 4 then (d.Univ, d.Exist, d.Clauses.eraseIdx c.At.toNat)
  else if c.Kind = 3 ∨ c.Kind = 5 then (d.Univ, d.Exist, d.Clauses.set c.At.toNat (wo (vr c.Lit) (d.Clauses.getD c.At.toNat [])))
  else leaveV d (if vr c.Lit ∈ d.Univ then IntKind.wrap .i64 (0 - c.Lit) else c.Lit)
def toD (t : MkT) : S_api_Dqbf := S_api_Dqbf.mk t.1 t.2.1 t.2.2
def emD : S_api_Dqbf := S_api_Dqbf.mk [] [] []
def makeV (d : S_api_Dqbf) (c : S_api_Change) : S_api_Dqbf × Int :=
  if MayD d = true then (if allowB d c = true then (toD (madeV d c), 0) else (emD, 5)) else (emD, 2)
theorem clone2_eq {l : List (List Int)} (hl : l.length ≤ 4194304) : F_slices_Clone_int_int l = some l := by
  unfold F_slices_Clone_int_int
  cases l with
  | nil => rfl
  | cons a l => rw [if_neg (by simp), capN_eq (by simp at hl ⊢; omega)]; rfl
theorem own_eq {d : S_api_Dqbf} (h : Szs d) : F_clean_own d = some d := by
  unfold F_clean_own
  rw [clone1_eq h.u, Option.bind_some]
  refine (rangeF_pre d.Exist (fun pre s => s = pre) (fun _ _ _ => some d) ?_ ?_ d.Exist [] [] rfl rfl)
  · rintro s rfl
    refine (rangeF_pre d.Clauses (fun pre s => s = pre) (fun _ _ _ => some d) ?_ ?_ d.Clauses [] [] rfl rfl)
    · rintro s rfl; rfl
    · rintro pre x xs s kk hf rfl hk
      have hp : s.length < d.Clauses.length := by rw [hf]; simp
      have := h.c
      rw [clone1_eq (h.cs x (by rw [hf]; simp)), Option.bind_some, capN_eq (by simp; omega)]
      exact hk _ rfl
  · rintro pre x xs s kk hf rfl hk
    have hp : s.length < d.Exist.length := by rw [hf]; simp
    have := h.e
    rw [clone1_eq (h.on x (by rw [hf]; simp)), Option.bind_some, capN_eq (by simp; omega)]
    exact hk _ rfl
theorem allow_at {d : S_api_Dqbf} {c : S_api_Change} (h : allowB d c = true) (hk : c.Kind = 3 ∨ c.Kind = 4 ∨ c.Kind = 5) : ∃ b, clO d c.At = some b := by
  unfold allowB at h
  cases hh : clO d c.At with
  | some b => exact ⟨b, rfl⟩
  | none =>
    rw [hh] at h
    rcases hk with k | k | k <;> simp [k] at h
theorem delL_erase {l : List (List Int)} {i : Nat} (h : i < l.length) : ((delL l i (i + 1) []).take (0 + (l.length - 1))).drop 0 = l.eraseIdx i := by
  have e1 : (l.take i ++ l.drop (i + 1)).length = l.length - 1 := by simp; omega
  unfold delL
  rw [List.drop_zero, Nat.zero_add, ← e1, List.take_left', List.eraseIdx_eq_take_drop_succ]
  rfl
theorem mkm_eq {R : Type} {d : S_api_Dqbf} (h : May d) (hs : Sm d) {c : S_api_Change} (hc : InK .i64 c.Lit) (M1 : List (Int × Bool)) (kk : MkT → Option R) (h1 : ∀ v, (mget M1 v).getD false = decide (v ∈ d.Univ)) (ha : allowB d c = true) :
    MkM d c M1 kk = kk (madeV d c) := by
  have hz := hs.szs
  unfold MkM madeV
  by_cases k4 : c.Kind = 4
  · obtain ⟨b, hb⟩ := allow_at ha (.inr (.inl k4))
    obtain ⟨g0, g1, g2⟩ := clO_some hb
    have hcz := hz.c
    have hw : IntKind.wrap .i64 (c.At + (1 : Int)) = c.At + 1 := wrap_id (by omega) (by omega)
    have e : (c.At + 1).toNat = c.At.toNat + 1 := by omega
    have e2 : c.At.toNat < d.Clauses.length := by omega
    simp only [k4, beq_self_eq_true, if_true, clone2_eq hz.c, Option.bind_some, hw]
    rw [okI_eq ⟨g0, by omega, by omega, by omega⟩, e, delL_length (by omega) (by omega)]
    rw [show c.At.toNat + 1 - c.At.toNat = 1 by omega, delL_erase e2]
  have k4' : (c.Kind == 4) = false := by simp [k4]
  simp only [k4, k4', Bool.false_eq_true, if_false, jn_eq]
  by_cases k35 : c.Kind = 3 ∨ c.Kind = 5
  · obtain ⟨b, hb⟩ := allow_at ha (by rcases k35 with k | k; exact .inl k; exact .inr (.inr k))
    obtain ⟨g0, g1, g2⟩ := clO_some hb
    rw [if_pos k35]
    have hb1 := h.nrm b (clO_mem hb)
    have hb2 := hz.cs b (clO_mem hb)
    have key : ((F_slices_Clone_int_int d.Clauses).bind (fun y2798 => (getI y2798 c.At (fun x2799 => ((F_lits_Var c.Lit).bind (fun y2800 => ((F_lits_Without x2799 y2800).bind (fun y2801 => (kk (d.Univ, d.Exist, (y2798.set c.At.toNat y2801))))))))))) = kk (d.Univ, d.Exist, d.Clauses.set c.At.toNat (wo (vr c.Lit) (d.Clauses.getD c.At.toNat []))) := by
      rw [clone2_eq hz.c, Option.bind_some, getI_eq g0 g2, lvar_any hc, Option.bind_some, lwithout_eq hb1 hb2, Option.bind_some]
      rw [List.getD_eq_getElem?_getD, g2]; rfl
    rcases k35 with k | k
    · simp only [k, beq_self_eq_true, if_true]; exact key
    · have e5 : ((5 : Int) == 3) = false := rfl
      simp only [k, beq_self_eq_true, e5, Bool.false_eq_true, if_false, if_true]; exact key
  · rw [if_neg k35]
    have k3 : (c.Kind == 3) = false := by simp; exact fun e => k35 (.inl e)
    have k5 : (c.Kind == 5) = false := by simp; exact fun e => k35 (.inr e)
    simp only [k3, k5, Bool.false_eq_true, if_false, lvar_any hc, Option.bind_some, h1]
    by_cases hu : vr c.Lit ∈ d.Univ
    · simp only [hu, decide_true, if_true]; exact mkl_eq h hs inK_neg kk
    · simp only [hu, decide_false, Bool.false_eq_true, if_false]; exact mkl_eq h hs hc kk
theorem made_szs {d : S_api_Dqbf} (hs : Sm d) (c : S_api_Change) : Szs (toD (madeV d c)) := by
  have hz := hs.szs
  unfold madeV
  split
  · exact ⟨hz.u, hz.e, hz.on, Nat.le_trans (by simp only [toD]; exact List.length_eraseIdx_le _ _) hz.c, fun c hc => hz.cs c (List.mem_of_mem_eraseIdx hc)⟩
  · split
    · refine ⟨hz.u, hz.e, hz.on, by simp only [toD, List.length_set]; exact hz.c, fun b hb => ?_⟩
      rcases List.mem_or_eq_of_mem_set hb with hb | rfl
      · exact hz.cs b hb
      · refine Nat.le_trans (wo_len _ _) ?_
        rw [List.getD_eq_getElem?_getD]
        cases hg : d.Clauses[c.At.toNat]? with
        | none => simp
        | some x => exact hz.cs x (List.mem_of_getElem? hg)
    · refine ⟨Nat.le_trans (wo_len _ _) hz.u, ?_, fun e he => ?_, ?_, fun b hb => ?_⟩
      · simp only [toD, leaveV, depW, List.length_map]; exact Nat.le_trans (List.length_filter_le _ _) hz.e
      · simp only [toD, leaveV, depW, List.mem_map] at he
        obtain ⟨e0, he0, rfl⟩ := he
        exact Nat.le_trans (wo_len _ _) (hz.on e0 (List.mem_filter.1 he0).1)
      · simp only [toD, leaveV, clsW, List.length_map]; exact Nat.le_trans (List.length_filter_le _ _) hz.c
      · simp only [toD, leaveV, clsW, List.mem_map] at hb
        obtain ⟨b0, hb0, rfl⟩ := hb
        exact Nat.le_trans (wo_len _ _) (hz.cs b0 (List.mem_filter.1 hb0).1)
theorem pmake_eq {d : S_api_Dqbf} (hs : Sm d) {c : S_api_Change} (hc : InK .i64 c.Lit) : F_clean_Make d c = some (makeV d c) := by
  rw [make_unfold, mayp_eq hs, Option.bind_some]
  unfold makeV
  by_cases hM : MayD d = true
  case neg => simp [Bool.eq_false_iff.2 hM, emD]
  have h := may_of hM
  have htot := hs.tot
  simp only [hM, Bool.not_true, Bool.false_eq_true, if_false, if_true]
  rw [rangeF_fold (fun m x => mset m x true), rangeF_fold (fun m (e : S_api_Dep) => mset m e.Var e.On)]
  refine times_out _ _ d.Clauses (by omega) (fun m hm => ?_)
  have h1 : ∀ v, (mget (d.Univ.foldl (fun m x => mset m x true) ([] : List (Int × Bool))) v).getD false = decide (v ∈ d.Univ) := fun v => by
    rw [mget_fold]; by_cases hx : v ∈ d.Univ <;> simp [hx, mget]
  have h2 := fun v => on_map h v
  have h2' : ∀ v, (mget (d.Exist.foldl (fun m e => mset m e.Var e.On) ([] : List (Int × List Int))) v).isSome = decide (v ∈ varsD d) := fun v => by
    rw [mget_foldV]; simp [mget, varsD]
  rw [jn_eq, pallow_eq h hs hc _ _ _ _ h1 h2 h2' hm]
  cases ha : allowB d c
  · simp [emD]
  · simp only [Bool.not_true, Bool.false_eq_true, if_false, if_true, jn_eq]
    rw [mkm_eq h hs hc _ _ h1 ha]
    show (F_clean_own (toD (madeV d c))).bind _ = _
    rw [own_eq (made_szs hs c), Option.bind_some]
end Go.Sk.X
namespace Go.Sk.X
open Go Go.Sk
theorem may_iff {d : S_api_Dqbf} : MayD d = true ↔ May d ∧ d.Clauses.length ≤ 20000 ∧ tot d.Clauses ≤ 200000 := by
  constructor
  · intro h
    refine ⟨may_of h, ?_⟩
    simp only [MayD, Bool.and_eq_true, decide_eq_true_eq] at h
    exact ⟨h.2.2.2.2.1, h.2.2.2.2.2.2⟩
  · rintro ⟨h, h1, h2⟩
    simp only [MayD, Bool.and_eq_true, List.all_eq_true, decide_eq_true_eq, Bool.not_eq_true', decide_eq_false_iff_not, depB, List.mem_append]
    exact ⟨fun e he => ⟨h.dj e he, h.on e he⟩, h.ru, h.rv, h.len, h1, fun c hc => ⟨h.nrm c hc, h.wi c hc⟩, h2⟩
theorem rs_mono {c c' : Int} (h : c' ≤ c) : ∀ {l : List Int}, rsB c l = true → rsB c' l = true
  | [], _ => rfl
  | x :: xs, h' => by
    rw [rsB_cons] at h' ⊢
    exact ⟨by omega, h'.2.1, h'.2.2⟩
theorem rs_filter (p : Int → Bool) : ∀ {l : List Int} {c : Int}, rsB c l = true → rsB c (l.filter p) = true
  | [], _, h => rfl
  | x :: xs, c, h => by
    rw [rsB_cons] at h
    simp only [List.filter_cons]
    split
    · rw [rsB_cons]; exact ⟨h.1, h.2.1, rs_filter p h.2.2⟩
    · exact rs_mono (by omega) (rs_filter p h.2.2)
theorem tot_sub {a b : List (List Int)} (h : a.Sublist b) : tot a ≤ tot b := by
  induction h with
  | slnil => exact Nat.le_refl _
  | cons x _ ih => rw [tot_cons]; omega
  | cons_cons x _ ih => rw [tot_cons, tot_cons]; omega
theorem tot_map {f : List Int → List Int} (hf : ∀ c, (f c).length ≤ c.length) : ∀ (l : List (List Int)), tot (l.map f) ≤ tot l
  | [] => Nat.le_refl _
  | c :: l => by
    rw [List.map_cons, tot_cons, tot_cons]
    have := hf c
    have := tot_map hf l
    omega
theorem tot_set {c' : List Int} : ∀ {l : List (List Int)} {i : Nat} {c : List Int}, l[i]? = some c → tot (l.set i c') + c.length = tot l + c'.length
  | [], i, c, h => by simp at h
  | x :: l, 0, c, h => by
    have : x = c := by simpa using h
    subst this
    rw [List.set_cons_zero, tot_cons, tot_cons]; omega
  | x :: l, i + 1, c, h => by
    have := tot_set (c' := c') (l := l) (i := i) (c := c) (by simpa using h)
    rw [List.set_cons_succ, tot_cons, tot_cons]; omega
theorem mem_wo {v x : Int} {l : List Int} : x ∈ wo v l ↔ x ∈ l ∧ av x ≠ v := by simp [wo]
theorem wo_lt {v x : Int} {l : List Int} (h : x ∈ l) (hv : av x = v) : (wo v l).length < l.length := by
  unfold wo
  rw [List.length_filter_lt_length_iff_exists]
  exact ⟨x, h, by simp [hv]⟩
theorem av_pos {x : Int} (h : 0 < x) : av x = x := by unfold av; rw [if_neg (by omega)]
def mu (d : S_api_Dqbf) : Nat := d.Univ.length + d.Exist.length + (d.Clauses.length + tot d.Clauses)
theorem dep_vars (v : Int) (es : List S_api_Dep) : (depW v es).map (·.Var) = (es.map (·.Var)).filter fun x => decide (x ≠ v) := by
  unfold depW
  induction es with
  | nil => rfl
  | cons e es ih =>
    simp only [List.filter_cons, List.map_cons]
    by_cases h : e.Var = v <;> simp [h] at ih ⊢ <;> exact ih
theorem dep_mem {v : Int} {es : List S_api_Dep} {e : S_api_Dep} (h : e ∈ depW v es) : ∃ e0 ∈ es, e0.Var ≠ v ∧ e = S_api_Dep.mk e0.Var (wo v e0.On) := by
  unfold depW at h
  obtain ⟨e0, h0, rfl⟩ := List.mem_map.1 h
  rw [List.mem_filter] at h0
  exact ⟨e0, h0.1, by simpa using h0.2, rfl⟩
theorem may_leave {d : S_api_Dqbf} (h : MayD d = true) (lit : Int) : MayD (toD (leaveV d lit)) = true := by
  obtain ⟨hm, h1, h2⟩ := may_iff.1 h
  have hl : d.Univ.length + d.Exist.length ≤ 1024 := hm.len
  refine may_iff.2 ⟨⟨fun e he => ?_, fun e he => ?_, rs_filter _ hm.ru, ?_, ?_, fun c hc => ?_, fun c hc x hx => ?_⟩, ?_, ?_⟩
  · obtain ⟨e0, h0, hv, rfl⟩ := dep_mem he
    exact fun hh => hm.dj e0 h0 (mem_wo.1 hh).1
  · obtain ⟨e0, h0, hv, rfl⟩ := dep_mem he
    exact ⟨rs_filter _ (hm.on e0 h0).1, fun x hx => mem_wo.2 ⟨(hm.on e0 h0).2 x (mem_wo.1 hx).1, (mem_wo.1 hx).2⟩⟩
  · show rsB 0 ((depW _ d.Exist).map (·.Var)) = true
    rw [dep_vars]; exact rs_filter _ hm.rv
  · have a := wo_len (vr lit) d.Univ
    have b : (depW (vr lit) d.Exist).length ≤ d.Exist.length := by unfold depW; rw [List.length_map]; exact List.length_filter_le _ _
    show (wo (vr lit) d.Univ).length + (depW (vr lit) d.Exist).length ≤ 1024
    omega
  · obtain ⟨c0, h0, rfl⟩ := List.mem_map.1 hc
    exact nrm_filter _ (hm.nrm c0 (List.mem_filter.1 h0).1)
  · obtain ⟨c0, h0, rfl⟩ := List.mem_map.1 hc
    rw [mem_wo] at hx
    rcases hm.wi c0 (List.mem_filter.1 h0).1 x hx.1 with hu | hv
    · exact .inl (mem_wo.2 ⟨hu, by rw [av_pos (rsB_mem hm.ru _ hu).1]; exact hx.2⟩)
    · refine .inr ?_
      show av x ∈ (depW _ d.Exist).map (·.Var)
      rw [dep_vars]
      exact List.mem_filter.2 ⟨hv, by simpa using hx.2⟩
  · show (clsW lit (vr lit) d.Clauses).length ≤ 20000
    unfold clsW; rw [List.length_map]; exact Nat.le_trans (List.length_filter_le _ _) h1
  · show tot (clsW lit (vr lit) d.Clauses) ≤ 200000
    exact Nat.le_trans (tot_map (wo_len _) _) (Nat.le_trans (tot_sub List.filter_sublist) h2)
theorem mu_leave {d : S_api_Dqbf} (h : MayD d = true) {lit : Int} (hv : vr lit ∈ d.Univ ∨ vr lit ∈ varsD d) : mu (toD (leaveV d lit)) < mu d := by
  obtain ⟨hm, h1, h2⟩ := may_iff.1 h
  have a := wo_len (vr lit) d.Univ
  have b : (depW (vr lit) d.Exist).length ≤ d.Exist.length := by unfold depW; rw [List.length_map]; exact List.length_filter_le _ _
  have c : (clsW lit (vr lit) d.Clauses).length ≤ d.Clauses.length := by unfold clsW; rw [List.length_map]; exact List.length_filter_le _ _
  have e : tot (clsW lit (vr lit) d.Clauses) ≤ tot d.Clauses := Nat.le_trans (tot_map (wo_len _) _) (tot_sub List.filter_sublist)
  show (wo (vr lit) d.Univ).length + (depW (vr lit) d.Exist).length + ((clsW lit (vr lit) d.Clauses).length + tot (clsW lit (vr lit) d.Clauses)) < _
  unfold mu
  rcases hv with hv | hv
  · have := wo_lt hv (av_pos (rsB_mem hm.ru _ hv).1)
    omega
  · have : (depW (vr lit) d.Exist).length < d.Exist.length := by
      unfold depW
      rw [List.length_map, List.length_filter_lt_length_iff_exists]
      obtain ⟨e0, h0, h3⟩ := List.mem_map.1 hv
      exact ⟨e0, h0, by simp [h3]⟩
    omega
theorem may_set {d : S_api_Dqbf} (h : MayD d = true) {i : Nat} {b : List Int} (hb : d.Clauses[i]? = some b) (v : Int) : MayD (S_api_Dqbf.mk d.Univ d.Exist (d.Clauses.set i (wo v b))) = true := by
  obtain ⟨hm, h1, h2⟩ := may_iff.1 h
  have hmem := List.mem_of_getElem? hb
  refine may_iff.2 ⟨⟨hm.dj, hm.on, hm.ru, hm.rv, hm.len, fun c hc => ?_, fun c hc x hx => ?_⟩, by simp only [List.length_set]; exact h1, ?_⟩
  · rcases List.mem_or_eq_of_mem_set hc with hc | rfl
    · exact hm.nrm c hc
    · exact nrm_filter _ (hm.nrm b hmem)
  · rcases List.mem_or_eq_of_mem_set hc with hc | rfl
    · exact hm.wi c hc x hx
    · exact hm.wi b hmem x (mem_wo.1 hx).1
  · have := tot_set (c' := wo v b) hb
    have := wo_len v b
    show tot (d.Clauses.set i (wo v b)) ≤ _
    omega
theorem may_erase {d : S_api_Dqbf} (h : MayD d = true) (i : Nat) : MayD (S_api_Dqbf.mk d.Univ d.Exist (d.Clauses.eraseIdx i)) = true := by
  obtain ⟨hm, h1, h2⟩ := may_iff.1 h
  exact may_iff.2 ⟨⟨hm.dj, hm.on, hm.ru, hm.rv, hm.len, fun c hc => hm.nrm c (List.mem_of_mem_eraseIdx hc), fun c hc => hm.wi c (List.mem_of_mem_eraseIdx hc)⟩,
    Nat.le_trans (List.length_eraseIdx_le _ _) h1, Nat.le_trans (tot_sub (List.eraseIdx_sublist _ _)) h2⟩
inductive Ch (d : S_api_Dqbf) : S_api_Change → Prop
  | unit (l i : Int) (h : clO d i = some [l]) (hv : vr l ∈ varsD d) : Ch d (S_api_Change.mk 1 l 0 i 0)
  | reduce (l i : Int) (b : List Int) (h : clO d i = some b) (hl : l ∈ b) (hr : redB d b l = true) : Ch d (S_api_Change.mk 3 l 0 i 0)
  | pure (l : Int) (h0 : vr l > 0) (hn : nowB d (IntKind.wrap .i64 (0 - l)) = true) (hv : vr l ∈ varsD d ∨ vr l ∈ d.Univ) : Ch d (S_api_Change.mk 2 l 0 0 0)
  | drop (i j : Int) (a b : List Int) (h : clO d i = some a) (h2 : clO d j = some b) (hij : i ≠ j) (hs : subB b a = true) : Ch d (S_api_Change.mk 4 0 0 i j)
  | strike (l i j : Int) (a b : List Int) (hl : l ≠ 0) (h : clO d i = some a) (h2 : clO d j = some b) (hs : strikeV b a = l) : Ch d (S_api_Change.mk 5 l 0 i j)
theorem ch_iff {d : S_api_Dqbf} {c : S_api_Change} : allowB d c = true ↔ Ch d c := by
  constructor
  · intro h
    obtain ⟨k, l, t, i, j⟩ := c
    unfold allowB at h
    simp only [Bool.and_eq_true, decide_eq_true_eq] at h
    obtain ⟨rfl, h⟩ := h
    by_cases k1 : k = 1
    · subst k1
      rw [if_pos rfl] at h
      simp only [Bool.and_eq_true, decide_eq_true_eq] at h
      obtain ⟨rfl, h⟩ := h
      cases hh : clO d i with
      | none => rw [hh] at h; simp at h
      | some b =>
        rw [hh] at h
        simp only [Bool.and_eq_true, decide_eq_true_eq] at h
        exact .unit l i (by rw [hh, h.1]) h.2
    rw [if_neg k1] at h
    by_cases k3 : k = 3
    · subst k3
      rw [if_pos rfl] at h
      simp only [Bool.and_eq_true, decide_eq_true_eq] at h
      obtain ⟨rfl, h⟩ := h
      cases hh : clO d i with
      | none => rw [hh] at h; simp at h
      | some b =>
        rw [hh] at h
        simp only [Bool.and_eq_true, decide_eq_true_eq] at h
        exact .reduce l i b hh h.1 h.2
    rw [if_neg k3] at h
    by_cases k2 : k = 2
    · subst k2
      rw [if_pos rfl] at h
      simp only [Bool.and_eq_true, Bool.or_eq_true, decide_eq_true_eq] at h
      obtain ⟨⟨⟨⟨rfl, rfl⟩, h1⟩, h2⟩, h3⟩ := h
      exact .pure l h1 h2 h3
    rw [if_neg k2] at h
    by_cases k4 : k = 4
    · subst k4
      rw [if_pos rfl] at h
      simp only [Bool.and_eq_true, decide_eq_true_eq] at h
      obtain ⟨rfl, h⟩ := h
      cases hh : clO d i with
      | none => rw [hh] at h; simp at h
      | some a =>
        cases hh2 : clO d j with
        | none => rw [hh, hh2] at h; simp at h
        | some b =>
          rw [hh, hh2] at h
          simp only [Bool.and_eq_true, decide_eq_true_eq] at h
          exact .drop i j a b hh hh2 h.1 h.2
    rw [if_neg k4] at h
    by_cases k5 : k = 5
    · subst k5
      rw [if_pos rfl] at h
      simp only [Bool.and_eq_true, decide_eq_true_eq] at h
      obtain ⟨hz, h⟩ := h
      cases hh : clO d i with
      | none => rw [hh] at h; simp at h
      | some a =>
        cases hh2 : clO d j with
        | none => rw [hh, hh2] at h; simp at h
        | some b =>
          rw [hh, hh2] at h
          exact .strike l i j a b hz hh hh2 (by simpa using h)
    rw [if_neg k5] at h
    simp at h
  · intro h
    cases h with
    | unit l i h hv => simp [allowB, h, hv]
    | reduce l i b h hl hr => simp [allowB, h, hl, hr]
    | pure l h0 hn hv =>
      simp only [allowB]
      rw [if_neg (by decide), if_neg (by decide), if_pos trivial]
      simp only [hn, h0, decide_true, Bool.and_true, Bool.true_and]
      rcases hv with hv | hv <;> simp [hv]
    | drop i j a b h h2 hij hs => simp [allowB, h, h2, hij, hs]
    | strike l i j a b hl h h2 hs => simp [allowB, h, h2, hl, hs]
theorem made_set {d : S_api_Dqbf} {c : S_api_Change} {b : List Int} (hb : clO d c.At = some b) (hk : c.Kind = 3 ∨ c.Kind = 5) : toD (madeV d c) = S_api_Dqbf.mk d.Univ d.Exist (d.Clauses.set c.At.toNat (wo (vr c.Lit) b)) := by
  unfold madeV
  rw [if_neg (by rcases hk with k | k <;> rw [k] <;> decide), if_pos hk, List.getD_eq_getElem?_getD, (clO_some hb).2.2]; rfl
theorem made_leave {d : S_api_Dqbf} {c : S_api_Change} (hk : c.Kind = 1 ∨ c.Kind = 2) : toD (madeV d c) = toD (leaveV d (if vr c.Lit ∈ d.Univ then IntKind.wrap .i64 (0 - c.Lit) else c.Lit)) := by
  unfold madeV
  rw [if_neg (by rcases hk with k | k <;> rw [k] <;> decide), if_neg (by rcases hk with k | k <;> rw [k] <;> decide)]
theorem vr_sel {d : S_api_Dqbf} {l : Int} (hc : InK .i64 l) : vr (if vr l ∈ d.Univ then IntKind.wrap .i64 (0 - l) else l) = vr l := by
  split
  · exact vr_neg hc
  · rfl
theorem made_step {d : S_api_Dqbf} (h : MayD d = true) {c : S_api_Change} (hc : InK .i64 c.Lit) (ha : Ch d c) : MayD (toD (madeV d c)) = true ∧ mu (toD (madeV d c)) < mu d := by
  obtain ⟨hm, h1, h2⟩ := may_iff.1 h
  have hset : ∀ {b : List Int}, clO d c.At = some b → c.Kind = 3 ∨ c.Kind = 5 → c.Lit ∈ b → MayD (toD (madeV d c)) = true ∧ mu (toD (madeV d c)) < mu d := fun {b} hb hk hl => by
    rw [made_set hb hk]
    refine ⟨may_set h (clO_some hb).2.2 _, ?_⟩
    have hx := nrm_lit (hm.nrm b (clO_mem hb)) hl
    have e1 := tot_set (c' := wo (vr c.Lit) b) (clO_some hb).2.2
    have e2 := wo_lt hl (vr_in hx.2.1 hx.2.2).symm
    unfold mu
    simp only [List.length_set]
    omega
  have hlv : c.Kind = 1 ∨ c.Kind = 2 → (vr c.Lit ∈ d.Univ ∨ vr c.Lit ∈ varsD d) → MayD (toD (madeV d c)) = true ∧ mu (toD (madeV d c)) < mu d := fun hk hv => by
    rw [made_leave hk]
    exact ⟨may_leave h _, mu_leave h (by rw [vr_sel hc]; exact hv)⟩
  cases ha with
  | unit l i h hv => exact hlv (.inl rfl) (.inr hv)
  | reduce l i b h hl hr => exact hset h (.inl rfl) hl
  | pure l h0 hn hv => exact hlv (.inr rfl) (by rcases hv with hv | hv; exact .inr hv; exact .inl hv)
  | drop i j a b hi h2 hij hs =>
    refine ⟨may_erase h _, ?_⟩
    obtain ⟨g0, g1, g2⟩ := clO_some hi
    have hlt : i.toNat < d.Clauses.length := by omega
    have := List.length_eraseIdx_of_lt hlt
    have := tot_sub (List.eraseIdx_sublist d.Clauses i.toNat)
    show d.Univ.length + d.Exist.length + ((d.Clauses.eraseIdx i.toNat).length + tot (d.Clauses.eraseIdx i.toNat)) < _
    unfold mu
    omega
  | strike l i j a b hl hi h2 hs => exact hset hi (.inr rfl) (by rw [← hs]; exact strike_mem (by rw [hs]; exact hl))
end Go.Sk.X
namespace Go.Sk.X
open Go Go.Sk
theorem sum_le {l : List S_api_Dep} (h : ∀ e ∈ l, e.On.length ≤ 1024) : (l.map fun e => e.On.length).sum ≤ 1024 * l.length := by
  induction l with
  | nil => simp
  | cons e l ih =>
    have h1 := h e (by simp)
    have h2 := ih (fun x hx => h x (by simp [hx]))
    simp only [List.map_cons, List.sum_cons, List.length_cons]
    omega
theorem sm_may {d : S_api_Dqbf} (h : MayD d = true) : Sm d := by
  obtain ⟨hm, h1, h2⟩ := may_iff.1 h
  have hl := hm.len
  have ho : ∀ e ∈ d.Exist, e.On.length ≤ 1024 := fun e he => by
    have := nodup_len (rsB_nodup (hm.on e he).1) (hm.on e he).2
    omega
  have := sum_le ho
  exact ⟨by omega, by omega, by omega, by omega, by omega⟩
inductive Run (ks : List Int) (d : S_api_Dqbf) : S_api_Dqbf → List S_api_Change → Prop
  | nil : Run ks d d []
  | step {a : S_api_Dqbf} {l : List S_api_Change} {c : S_api_Change} : Run ks d a l → allO a ks = some c → Run ks d (toD (madeV a c)) (l ++ [c])
end Go.Sk.X
namespace Go.Sk.X
open Go Go.Sk
theorem large_ok2 {d : S_api_Dqbf} : ∃ b, F_skolemlaw13_large d = some b := by
  unfold F_skolemlaw13_large
  rw [rangeF_fold (fun s (x : List Int) => IntKind.wrap .i64 (s + ((x.length : Nat) : Int))), rangeF_fold (fun s (x : S_api_Dep) => IntKind.wrap .i64 (s + (IntKind.wrap .i64 ((1 : Int) + ((x.On.length : Nat) : Int)))))]
  split
  · exact ⟨_, rfl⟩
  · exact ⟨_, rfl⟩
theorem awake_eq2 : F_skolemlaw13_awake = some true := by decide +kernel
end Go.Sk.X
namespace Go.Sk.X
open Go Go.Sk
def asg (d : S_api_Dqbf) (f : Int → (Int → Bool) → Bool) (σ : Int → Bool) (v : Int) : Bool := if v ∈ d.Univ then σ v else f v σ
def litT (a : Int → Bool) (x : Int) : Bool := if x < 0 then !(a (av x)) else a (av x)
def Dpd (d : S_api_Dqbf) (f : Int → (Int → Bool) → Bool) : Prop := ∀ e ∈ d.Exist, ∀ σ τ : Int → Bool, (∀ u ∈ e.On, σ u = τ u) → f e.Var σ = f e.Var τ
def Sat (d : S_api_Dqbf) (f : Int → (Int → Bool) → Bool) : Prop := ∀ σ, ∀ c ∈ d.Clauses, ∃ x ∈ c, litT (asg d f σ) x = true
def Sem (d : S_api_Dqbf) : Prop := ∃ f, Dpd d f ∧ Sat d f
theorem litT_congr {a b : Int → Bool} {x : Int} (h : a (av x) = b (av x)) : litT a x = litT b x := by unfold litT; rw [h]
theorem litT_neg {a : Int → Bool} {x : Int} (h0 : x ≠ 0) : litT a (-x) = !litT a x := by
  unfold litT
  rw [av_neg]
  by_cases h : x < 0
  · rw [if_pos h, if_neg (by omega), Bool.not_not]
  · rw [if_neg h, if_pos (by omega)]
theorem on_of {d : S_api_Dqbf} {v : Int} (hv : v ∈ varsD d) : ∃ e ∈ d.Exist, e.Var = v ∧ onD d v = e.On := by
  obtain ⟨e, he, hev⟩ := List.mem_map.1 hv
  unfold onD
  cases hf : d.Exist.find? (fun e => decide (e.Var = v)) with
  | none =>
    have := List.find?_eq_none.1 hf e he
    simp [hev] at this
  | some e2 =>
    exact ⟨e2, List.mem_of_find?_eq_some hf, by simpa using List.find?_some hf, rfl⟩
theorem sem_clauses {d d' : S_api_Dqbf} (hu : d'.Univ = d.Univ) (he : d'.Exist = d.Exist) (h1 : ∀ f, Dpd d f → (Sat d f ↔ Sat d' f)) : Sem d ↔ Sem d' := by
  have hd : ∀ f, Dpd d f ↔ Dpd d' f := fun f => by unfold Dpd; rw [he]
  exact ⟨fun ⟨f, a, b⟩ => ⟨f, (hd f).1 a, (h1 f a).1 b⟩, fun ⟨f, a, b⟩ => ⟨f, (hd f).2 a, (h1 f ((hd f).2 a)).2 b⟩⟩
theorem mem_erase {l : List (List Int)} {i k : Nat} {c : List Int} (h : l[k]? = some c) (hk : k ≠ i) : c ∈ l.eraseIdx i := by
  rw [List.mem_eraseIdx_iff_getElem?]
  exact ⟨k, hk, h⟩
theorem sem_drop {d : S_api_Dqbf} {i j : Int} {a b : List Int} (ha : clO d i = some a) (hb : clO d j = some b) (hij : i ≠ j) (hs : subB b a = true) : Sem d ↔ Sem (S_api_Dqbf.mk d.Univ d.Exist (d.Clauses.eraseIdx i.toNat)) := by
  obtain ⟨i0, i1, i2⟩ := clO_some ha
  obtain ⟨j0, j1, j2⟩ := clO_some hb
  refine sem_clauses rfl rfl (fun f _ => ⟨fun h σ c hc => ?_, fun h σ c hc => ?_⟩)
  · exact h σ c (List.mem_of_mem_eraseIdx hc)
  · obtain ⟨k, hk⟩ := List.mem_iff_getElem?.1 hc
    by_cases e : k = i.toNat
    · subst e
      rw [i2] at hk
      injection hk with hk
      subst hk
      obtain ⟨x, hx, hxt⟩ := h σ b (mem_erase j2 (by omega))
      refine ⟨x, ?_, hxt⟩
      unfold subB at hs
      rw [List.all_eq_true] at hs
      simpa using hs x hx
    · exact h σ c (mem_erase hk e)
theorem sem_set {d : S_api_Dqbf} {i : Int} {a : List Int} {v : Int} (ha : clO d i = some a)
    (hstep : ∀ f, Dpd d f → Sat d f → ∀ σ, ∃ x ∈ wo v a, litT (asg d f σ) x = true) : Sem d ↔ Sem (S_api_Dqbf.mk d.Univ d.Exist (d.Clauses.set i.toNat (wo v a))) := by
  obtain ⟨i0, i1, i2⟩ := clO_some ha
  refine sem_clauses rfl rfl (fun f hf => ⟨fun h σ c hc => ?_, fun h σ c hc => ?_⟩)
  · rcases List.mem_or_eq_of_mem_set hc with hc | rfl
    · exact h σ c hc
    · exact hstep f hf h σ
  · obtain ⟨k, hk⟩ := List.mem_iff_getElem?.1 hc
    by_cases e : k = i.toNat
    · subst e
      rw [i2] at hk
      injection hk with hk
      subst hk
      have hlt : i.toNat < d.Clauses.length := by omega
      obtain ⟨x, hx, hxt⟩ := h σ (wo v a) (by
        rw [List.mem_iff_getElem?]
        exact ⟨i.toNat, by simp [hlt]⟩)
      exact ⟨x, (mem_wo.1 hx).1, hxt⟩
    · refine h σ c ?_
      rw [List.mem_iff_getElem?]
      exact ⟨k, by show (d.Clauses.set i.toNat _)[k]? = _; rw [List.getElem?_set_ne (by omega)]; exact hk⟩
theorem sem_strike {d : S_api_Dqbf} (hm : May d) {l i j : Int} {a b : List Int} (hl : l ≠ 0) (ha : clO d i = some a) (hb : clO d j = some b) (hs : strikeV b a = l) : Sem d ↔ Sem (S_api_Dqbf.mk d.Univ d.Exist (d.Clauses.set i.toNat (wo (av l) a))) := by
  have na := hm.nrm a (clO_mem ha)
  have nb := hm.nrm b (clO_mem hb)
  refine sem_set ha (fun f hf h σ => ?_)
  obtain ⟨x, hx, hxt⟩ := h σ a (clO_mem ha)
  unfold strikeV at hs
  split at hs
  · rename_i z hz
    by_cases hza : -z ∈ a
    · rw [if_pos hza] at hs
      have hzm : z ∈ b.filter (fun x => !decide (x ∈ a)) := by rw [hz]; simp
      rw [List.mem_filter] at hzm
      have hz0 := (nrm_lit nb hzm.1).1
      by_cases hxl : av x = av l
      · -- then x = l, and z is false
        have hxe : x = l := nrm_two na (by decide) hx (by rw [← hs]; exact hza) hxl
        subst hxe
        have hzf : litT (asg d f σ) z = false := by
          have := litT_neg (a := asg d f σ) hz0
          rw [hs] at this
          rw [hxt] at this
          cases hh : litT (asg d f σ) z
          · rfl
          · rw [hh] at this; cases this
        obtain ⟨y, hy, hyt⟩ := h σ b (clO_mem hb)
        have hyz : y ≠ z := fun e => by rw [e, hzf] at hyt; cases hyt
        have hya : y ∈ a := by
          refine Classical.byContradiction fun hn => ?_
          have : y ∈ b.filter (fun x => !decide (x ∈ a)) := List.mem_filter.2 ⟨hy, by simpa using hn⟩
          rw [hz] at this
          exact hyz (by simpa using this)
        refine ⟨y, mem_wo.2 ⟨hya, fun e => ?_⟩, hyt⟩
        have : av y = av z := by rw [e, ← hs, av_neg]
        exact hyz (nrm_two nb (by decide) hy hzm.1 this)
      · exact ⟨x, mem_wo.2 ⟨hx, hxl⟩, hxt⟩
    · rw [if_neg hza] at hs
      exact absurd hs.symm hl
  · exact absurd hs.symm hl
theorem sem_reduce {d : S_api_Dqbf} (hm : May d) {l i : Int} {b : List Int} (hb : clO d i = some b) (hl : l ∈ b) (hr : redB d b l = true) : Sem d ↔ Sem (S_api_Dqbf.mk d.Univ d.Exist (d.Clauses.set i.toNat (wo (av l) b))) := by
  have nb := hm.nrm b (clO_mem hb)
  unfold redB at hr
  simp only [Bool.and_eq_true, decide_eq_true_eq, List.all_eq_true, Bool.not_eq_true', decide_eq_false_iff_not] at hr
  obtain ⟨hu, hr⟩ := hr
  refine sem_set hb (fun f hf h σ => ?_)
  -- the value at which the literal is false
  let τ : Int → Bool := fun u => if u = av l then decide (l < 0) else σ u
  obtain ⟨y, hy, hyt⟩ := h τ b (clO_mem hb)
  have hav : av (av l) = av l := av_pos (rsB_mem hm.ru _ hu).1
  have hlf : litT (asg d f τ) l = false := by
    unfold litT asg
    rw [if_pos hu]
    simp only [τ, if_true]
    by_cases h0 : l < 0 <;> simp [h0]
  have hyl : av y ≠ av l := fun e => by
    have : y = l := nrm_two nb (by decide) hy hl e
    rw [this, hlf] at hyt; cases hyt
  refine ⟨y, mem_wo.2 ⟨hy, hyl⟩, ?_⟩
  rw [← hyt]
  refine litT_congr ?_
  unfold asg
  by_cases hyu : av y ∈ d.Univ
  · rw [if_pos hyu, if_pos hyu]
    simp only [τ, hyl, if_false]
  · rw [if_neg hyu, if_neg hyu]
    have hyv : av y ∈ varsD d := by
      rcases hm.wi b (clO_mem hb) y hy with h1 | h1
      · exact absurd h1 hyu
      · exact h1
    obtain ⟨e, he, hev, hon⟩ := on_of hyv
    have hn := hr y hy
    rw [hon] at hn
    rw [← hev]
    refine hf e he σ τ (fun u huo => ?_)
    have : u ≠ av l := fun e2 => hn (e2 ▸ huo)
    simp only [τ, this, if_false]
theorem univ_wo {d : S_api_Dqbf} (hm : May d) {v w : Int} : w ∈ wo v d.Univ ↔ w ∈ d.Univ ∧ w ≠ v := by
  rw [mem_wo]
  constructor
  · rintro ⟨h1, h2⟩; exact ⟨h1, by rwa [av_pos (rsB_mem hm.ru _ h1).1] at h2⟩
  · rintro ⟨h1, h2⟩; exact ⟨h1, by rwa [av_pos (rsB_mem hm.ru _ h1).1]⟩
theorem asg_leave {d : S_api_Dqbf} (hm : May d) {v w lit : Int} (hw : w ≠ v) (hvr : vr lit = v) (f : Int → (Int → Bool) → Bool) (σ : Int → Bool) : asg (toD (leaveV d lit)) f σ w = asg d f σ w := by
  unfold asg
  show (if w ∈ wo (vr lit) d.Univ then _ else _) = _
  rw [hvr]
  by_cases h : w ∈ d.Univ
  · rw [if_pos h, if_pos ((univ_wo hm).2 ⟨h, hw⟩)]
  · rw [if_neg h, if_neg (fun hh => h ((univ_wo hm).1 hh).1)]
theorem sem_exist {d : S_api_Dqbf} (hm : May d) {l : Int} (h0 : l ≠ 0) (hvr : vr l = av l) (hv : av l ∈ varsD d)
    (hneed : ∀ f, Sat d f → ∀ σ, ∀ c ∈ d.Clauses, -l ∈ c → litT (asg d f σ) (-l) = false) : Sem d ↔ Sem (toD (leaveV d l)) := by
  have hnu : av l ∉ d.Univ := fun hu => hm.sep hu hv
  constructor
  · rintro ⟨f, hf, hs⟩
    refine ⟨f, fun e he σ τ hst => ?_, fun σ c hc => ?_⟩
    · obtain ⟨e0, he0, hne, rfl⟩ := dep_mem he
      refine hf e0 he0 σ τ (fun u hu => hst u (mem_wo.2 ⟨hu, ?_⟩))
      have := (hm.on e0 he0).2 u hu
      rw [hvr, av_pos (rsB_mem hm.ru _ this).1]
      exact fun e => hnu (e ▸ this)
    · obtain ⟨c0, hc0, rfl⟩ := List.mem_map.1 hc
      obtain ⟨hc1, hc2⟩ := List.mem_filter.1 hc0
      have hlc : l ∉ c0 := by simpa using hc2
      obtain ⟨y, hy, hyt⟩ := hs σ c0 hc1
      have hyv : av y ≠ av l := fun e => by
        rcases av_eq e with rfl | rfl
        · exact hlc hy
        · rw [hneed f hs σ c0 hc1 hy] at hyt; cases hyt
      refine ⟨y, mem_wo.2 ⟨hy, by rw [hvr]; exact hyv⟩, ?_⟩
      rw [litT_congr (asg_leave hm (by exact hyv) hvr f σ)]; exact hyt
  · rintro ⟨f, hf, hs⟩
    refine ⟨fun w σ => if w = av l then decide (l > 0) else f w σ, fun e he σ τ hst => ?_, fun σ c hc => ?_⟩
    · by_cases hev : e.Var = av l
      · simp [hev]
      · simp only [hev, if_false]
        have hmem : S_api_Dep.mk e.Var (wo (vr l) e.On) ∈ (toD (leaveV d l)).Exist := by
          show _ ∈ depW (vr l) d.Exist
          unfold depW
          exact List.mem_map.2 ⟨e, List.mem_filter.2 ⟨he, by rw [hvr]; simpa using hev⟩, rfl⟩
        exact hf _ hmem σ τ (fun u hu => hst u (mem_wo.1 hu).1)
    · by_cases hlc : l ∈ c
      · refine ⟨l, hlc, ?_⟩
        unfold litT asg
        rw [if_neg hnu]
        by_cases hn : l < 0
        · have : ¬ l > 0 := by omega
          simp [hn, this]
        · have : l > 0 := by omega
          simp [hn, this]
      · obtain ⟨y, hy, hyt⟩ := hs σ (wo (vr l) c) (List.mem_map.2 ⟨c, List.mem_filter.2 ⟨hc, by simpa using hlc⟩, rfl⟩)
        rw [mem_wo, hvr] at hy
        refine ⟨y, hy.1, ?_⟩
        rw [← hyt]
        refine litT_congr ?_
        rw [asg_leave hm hy.2 hvr]
        unfold asg
        simp [hy.2]
theorem sem_univ {d : S_api_Dqbf} (hm : May d) {l : Int} (hvr : vr l = av l) (hv : av l ∈ d.Univ) (hno : ∀ c ∈ d.Clauses, l ∉ c) : Sem d ↔ Sem (toD (leaveV d l)) := by
  have hnv : av l ∉ varsD d := hm.sep hv
  constructor
  · rintro ⟨f, hf, hs⟩
    let sh : (Int → Bool) → Int → Bool := fun σ u => if u = av l then decide (l > 0) else σ u
    refine ⟨fun w σ => f w (sh σ), fun e he σ τ hst => ?_, fun σ c hc => ?_⟩
    · obtain ⟨e0, he0, hne, rfl⟩ := dep_mem he
      refine hf e0 he0 _ _ (fun u hu => ?_)
      by_cases hul : u = av l
      · simp [sh, hul]
      · simp only [sh, hul, if_false]
        refine hst u (mem_wo.2 ⟨hu, ?_⟩)
        rw [hvr, av_pos (rsB_mem hm.ru _ ((hm.on e0 he0).2 u hu)).1]; exact hul
    · obtain ⟨c0, hc0, rfl⟩ := List.mem_map.1 hc
      obtain ⟨hc1, hc2⟩ := List.mem_filter.1 hc0
      obtain ⟨y, hy, hyt⟩ := hs (sh σ) c0 hc1
      have hyv : av y ≠ av l := fun e => by
        rcases av_eq e with rfl | rfl
        · exact hno c0 hc1 hy
        · -- the other literal is false
          have : litT (asg d f (sh σ)) (-l) = false := by
            unfold litT asg
            rw [av_neg, if_pos hv]
            simp only [sh, if_true]
            have hl0 : l ≠ 0 := fun e0 => by
              have := (rsB_mem hm.ru _ hv).1
              rw [e0] at this
              simp [av] at this
            by_cases hn : -l < 0
            · have : l > 0 := by omega
              simp [hn, this]
            · have : ¬ l > 0 := by omega
              simp [hn, this]
          rw [this] at hyt; cases hyt
      refine ⟨y, mem_wo.2 ⟨hy, by rw [hvr]; exact hyv⟩, ?_⟩
      rw [← hyt]
      refine litT_congr ?_
      rw [asg_leave hm hyv hvr]
      unfold asg
      by_cases hyu : av y ∈ d.Univ
      · rw [if_pos hyu, if_pos hyu]; simp only [sh, hyv, if_false]
      · rw [if_neg hyu, if_neg hyu]
  · rintro ⟨f, hf, hs⟩
    refine ⟨f, fun e he σ τ hst => ?_, fun σ c hc => ?_⟩
    · have hev : e.Var ≠ av l := fun e2 => hnv (e2 ▸ List.mem_map.2 ⟨e, he, rfl⟩)
      have hmem : S_api_Dep.mk e.Var (wo (vr l) e.On) ∈ (toD (leaveV d l)).Exist := by
        show _ ∈ depW (vr l) d.Exist
        unfold depW
        exact List.mem_map.2 ⟨e, List.mem_filter.2 ⟨he, by rw [hvr]; simpa using hev⟩, rfl⟩
      exact hf _ hmem σ τ (fun u hu => hst u (mem_wo.1 hu).1)
    · obtain ⟨y, hy, hyt⟩ := hs σ (wo (vr l) c) (List.mem_map.2 ⟨c, List.mem_filter.2 ⟨hc, by simpa using hno c hc⟩, rfl⟩)
      rw [mem_wo, hvr] at hy
      refine ⟨y, hy.1, ?_⟩
      rw [← hyt]
      exact litT_congr (asg_leave hm hy.2 hvr f σ).symm
theorem sem_made {d : S_api_Dqbf} (h : MayD d = true) {c : S_api_Change} (hc : InK .i64 c.Lit) (ha : Ch d c) : Sem d ↔ Sem (toD (madeV d c)) := by
  obtain ⟨hm, -, -⟩ := may_iff.1 h
  cases ha with
  | drop i j a b hi hj hij hs => exact sem_drop hi hj hij hs
  | strike l i j a b hl hi hj hs =>
    rw [made_set hi (.inr rfl)]
    have hla : l ∈ a := by rw [← hs]; exact strike_mem (by rw [hs]; exact hl)
    have hx := nrm_lit (hm.nrm a (clO_mem hi)) hla
    show Sem d ↔ Sem (S_api_Dqbf.mk d.Univ d.Exist (d.Clauses.set i.toNat (wo (vr l) a)))
    rw [vr_in hx.2.1 hx.2.2]
    exact sem_strike hm hl hi hj hs
  | reduce l i b hi hl hr =>
    rw [made_set hi (.inl rfl)]
    have hx := nrm_lit (hm.nrm b (clO_mem hi)) hl
    show Sem d ↔ Sem (S_api_Dqbf.mk d.Univ d.Exist (d.Clauses.set i.toNat (wo (vr l) b)))
    rw [vr_in hx.2.1 hx.2.2]
    exact sem_reduce hm hi hl hr
  | unit l i hi hv =>
    rw [made_leave (.inl rfl)]
    show Sem d ↔ Sem (toD (leaveV d (if vr l ∈ d.Univ then IntKind.wrap .i64 (0 - l) else l)))
    have hx := nrm_lit (hm.nrm _ (clO_mem hi)) (x := l) (by simp)
    have hvr := vr_in hx.2.1 hx.2.2
    rw [if_neg (fun hu => hm.sep hu hv)]
    refine sem_exist hm hx.1 hvr (hvr ▸ hv) (fun f hs σ c hc hl => ?_)
    obtain ⟨y, hy, hyt⟩ := hs σ _ (clO_mem hi)
    have : y = l := by simpa using hy
    rw [litT_neg hx.1, ← this, hyt]; rfl
  | pure l h0 hn hv =>
    rw [made_leave (.inr rfl)]
    show Sem d ↔ Sem (toD (leaveV d (if vr l ∈ d.Univ then IntKind.wrap .i64 (0 - l) else l)))
    have hr : -65536 ≤ l ∧ l ≤ 65536 := by
      refine Classical.byContradiction fun hh => ?_
      unfold vr at h0
      rw [if_neg hh] at h0
      omega
    have hvr := vr_in hr.1 hr.2
    have hw : IntKind.wrap .i64 (0 - l) = -l := by rw [wrap_id (by omega) (by omega)]; omega
    have hl0 : l ≠ 0 := fun e => by rw [hvr, e] at h0; simp [av] at h0
    rw [hw] at hn ⊢
    have hno : ∀ c ∈ d.Clauses, -l ∉ c := fun c hc => by
      unfold nowB at hn
      rw [List.all_eq_true] at hn
      simpa using hn c hc
    by_cases hu : vr l ∈ d.Univ
    · rw [if_pos hu]
      exact sem_univ hm (by rw [av_neg, vr_in (by omega) (by omega), av_neg]) (by rw [av_neg, ← hvr]; exact hu) hno
    · rw [if_neg hu]
      have hv' : vr l ∈ varsD d := by
        rcases hv with hv | hv
        · exact hv
        · exact absurd hv hu
      exact sem_exist hm hl0 hvr (hvr ▸ hv') (fun f hs σ c hc hl => absurd hl (hno c hc))
end Go.Sk.X
namespace Go.Sk.X
open Go Go.Sk
def satB (cs : List (List Int)) (a : List Int) : Bool := cs.all fun c => c.any fun x => decide (x ∈ a)
def sz (es : List S_api_Dep) : Nat := (es.map fun e => 2 ^ e.On.length).sum
theorem sz_app (a b : List S_api_Dep) : sz (a ++ b) = sz a + sz b := by simp [sz]
theorem sz_cons (a : S_api_Dep) (b : List S_api_Dep) : sz (a :: b) = 2 ^ a.On.length + sz b := by simp [sz]
def ixF (σ : Int → Bool) : List Int → Nat
  | [] => 0
  | x :: xs => (if σ x = true then 1 else 0) + 2 * ixF σ xs
theorem ixF_lt (σ : Int → Bool) : ∀ l : List Int, ixF σ l < 2 ^ l.length
  | [] => by simp [ixF]
  | x :: l => by
    have := ixF_lt σ l
    have e : 2 ^ (l.length + 1) = 2 * 2 ^ l.length := by rw [Nat.pow_succ]; omega
    simp only [ixF, List.length_cons, e]
    split <;> omega
theorem ixF_congr {σ τ : Int → Bool} : ∀ {l : List Int}, (∀ u ∈ l, σ u = τ u) → ixF σ l = ixF τ l
  | [], _ => rfl
  | x :: l, h => by
    simp only [ixF]
    rw [h x (by simp), ixF_congr (l := l) (fun u hu => h u (by simp [hu]))]
theorem testBit_cons (b : Bool) (n i : Nat) : ((if b = true then 1 else 0) + 2 * n).testBit i = if i = 0 then b else n.testBit (i - 1) := by
  rcases i with _ | i
  · cases b <;> simp [Nat.testBit_zero] <;> omega
  · rw [Nat.testBit_succ]
    have : ((if b = true then 1 else 0) + 2 * n) / 2 = n := by cases b <;> simp <;> omega
    rw [this]; simp
theorem ixF_bit (σ : Int → Bool) : ∀ (l : List Int) (i : Nat) (x : Int), l[i]? = some x → (ixF σ l).testBit i = σ x
  | [], i, x, h => by simp at h
  | y :: l, i, x, h => by
    simp only [ixF]
    rw [testBit_cons]
    rcases i with _ | i
    · simp at h; subst h; simp
    · simp at h; simpa using ixF_bit σ l i x h
theorem ixF_snoc (σ : Int → Bool) : ∀ (l : List Int) (x : Int), ixF σ (l ++ [x]) = ixF σ l + if σ x = true then 2 ^ l.length else 0
  | [], x => by simp [ixF]
  | y :: l, x => by
    have e : 2 ^ (l.length + 1) = 2 * 2 ^ l.length := by rw [Nat.pow_succ]; omega
    simp only [List.cons_append, ixF, ixF_snoc σ l x, List.length_cons, e]
    by_cases h : σ x = true <;> simp [h] <;> omega
theorem fdiv_pow (m i : Nat) : Int.fdiv (m : Int) (2 ^ i) = ((m >>> i : Nat) : Int) := by
  rw [Nat.shiftRight_eq_div_pow, Int.fdiv_eq_ediv_of_nonneg _ (by have := Nat.two_pow_pos i; exact_mod_cast Nat.zero_le _)]
  rw [Int.natCast_ediv]
  rfl
theorem bit_and (m : Nat) (i : Nat) : ((BitVec.ofInt 64 ((m >>> i : Nat) : Int) &&& BitVec.ofInt 64 (1 : Int)).toNat) = if m.testBit i = true then 1 else 0 := by
  have h1 : BitVec.ofInt 64 (1 : Int) = BitVec.ofNat 64 1 := rfl
  rw [BitVec.ofInt_natCast, h1, BitVec.toNat_and, BitVec.toNat_ofNat, BitVec.toNat_ofNat]
  have : (1 % 2 ^ 64 : Nat) = 1 := rfl
  rw [this, Nat.and_one_is_mod, Nat.testBit_eq_decide_div_mod_eq, Nat.shiftRight_eq_div_pow]
  have : (m / 2 ^ i % 2 ^ 64) % 2 = m / 2 ^ i % 2 := by omega
  rw [this]
  by_cases h : m / 2 ^ i % 2 = 1
  · simp [h]
  · simp [h]; omega
def bitsF (m : Nat) : Nat → Nat → List Bool
  | _, 0 => []
  | l, k + 1 => m.testBit (l - 1) :: bitsF m (l - 1) k
theorem bitsF_len (m : Nat) : ∀ k l, (bitsF m l k).length = k
  | 0, l => rfl
  | k + 1, l => by simp [bitsF, bitsF_len m k (l - 1)]
theorem bitsF_get (m : Nat) : ∀ k l i, i < k → (bitsF m l k)[i]? = some (m.testBit (l - 1 - i))
  | 0, l, i, h => by omega
  | k + 1, l, i, h => by
    rcases i with _ | i
    · simp [bitsF]
    · simp only [bitsF, List.getElem?_cons_succ]
      rw [bitsF_get m k (l - 1) i (by omega)]
      congr 2; omega
def ofB (g : Nat → Bool) : Nat → Nat
  | 0 => 0
  | n + 1 => (if g 0 = true then 1 else 0) + 2 * ofB (fun i => g (i + 1)) n
theorem ofB_lt : ∀ (n : Nat) (g : Nat → Bool), ofB g n < 2 ^ n
  | 0, g => by simp [ofB]
  | n + 1, g => by
    have := ofB_lt n (fun i => g (i + 1))
    have e : 2 ^ (n + 1) = 2 * 2 ^ n := by rw [Nat.pow_succ]; omega
    simp only [ofB, e]
    split <;> omega
theorem ofB_bit : ∀ (n : Nat) (g : Nat → Bool) (i : Nat), i < n → (ofB g n).testBit i = g i
  | 0, g, i, h => by omega
  | n + 1, g, i, h => by
    simp only [ofB]
    rw [testBit_cons]
    rcases i with _ | i
    · simp
    · simpa using ofB_bit n (fun i => g (i + 1)) i (by omega)
def numL (n : Nat) : Nat → List S_api_Dep → List S_api_Table
  | _, [] => []
  | l, e :: es => S_api_Table.mk e.Var e.On (bitsF n l (2 ^ e.On.length)) :: numL n (l - 2 ^ e.On.length) es
theorem bitsF_congr {n m : Nat} : ∀ k l, k ≤ l → (∀ i, i < l → n.testBit i = m.testBit i) → bitsF n l k = bitsF m l k
  | 0, l, _, _ => rfl
  | k + 1, l, hk, h => by
    simp only [bitsF]
    rw [h (l - 1) (by omega), bitsF_congr k (l - 1) (by omega) (fun i hi => h i (by omega))]
theorem numL_congr {n m : Nat} : ∀ (es : List S_api_Dep) (l : Nat), sz es ≤ l → (∀ i, i < l → n.testBit i = m.testBit i) → numL n l es = numL m l es
  | [], l, _, _ => rfl
  | e :: es, l, hl, h => by
    rw [sz_cons] at hl
    simp only [numL]
    rw [bitsF_congr _ l (by omega) h, numL_congr es (l - 2 ^ e.On.length) (by omega) (fun i hi => h i (Nat.lt_of_lt_of_le hi (Nat.sub_le _ _)))]
def TOf (es : List S_api_Dep) (ts : List S_api_Table) : Prop := ts.map (fun t => (t.Var, t.On)) = es.map (fun e => (e.Var, e.On)) ∧ ∀ t ∈ ts, t.Bits.length = 2 ^ t.On.length
theorem numL_of (n : Nat) : ∀ (es : List S_api_Dep) (l : Nat), TOf es (numL n l es)
  | [], l => ⟨rfl, by simp [numL]⟩
  | e :: es, l => by
    obtain ⟨h1, h2⟩ := numL_of n es (l - 2 ^ e.On.length)
    refine ⟨by simp only [numL, List.map_cons, h1], fun t ht => ?_⟩
    simp only [numL, List.mem_cons] at ht
    rcases ht with rfl | ht
    · exact bitsF_len _ _ _
    · exact h2 t ht
theorem numL_all (g : S_api_Dep → Nat → Bool) : ∀ es : List S_api_Dep, ∃ n, n < 2 ^ sz es ∧ ∀ t ∈ numL n (sz es) es, ∃ e ∈ es, t.Var = e.Var ∧ t.On = e.On ∧ ∀ k, k < 2 ^ e.On.length → t.Bits[k]? = some (g e k)
  | [] => ⟨0, Nat.two_pow_pos _, by simp [numL]⟩
  | e :: es => by
    obtain ⟨n, hn, ht⟩ := numL_all g es
    have hK := ofB_lt (2 ^ e.On.length) (fun i => g e (2 ^ e.On.length - 1 - i))
    have hb := ofB_bit (2 ^ e.On.length) (fun i => g e (2 ^ e.On.length - 1 - i))
    revert hK hb
    generalize ofB (fun i => g e (2 ^ e.On.length - 1 - i)) (2 ^ e.On.length) = a
    generalize hKK : 2 ^ e.On.length = K
    intro hK hb
    have hlow : ∀ i, i < sz es → (2 ^ sz es * a + n).testBit i = n.testBit i := fun i hi => by
      rw [Nat.testBit_two_pow_mul_add a hn, if_pos hi]
    refine ⟨2 ^ sz es * a + n, ?_, fun t hm => ?_⟩
    · rw [sz_cons, hKK, Nat.pow_add, Nat.mul_comm (2 ^ K)]
      calc 2 ^ sz es * a + n < 2 ^ sz es * a + 2 ^ sz es := by omega
        _ = 2 ^ sz es * (a + 1) := by rw [Nat.mul_add, Nat.mul_one]
        _ ≤ 2 ^ sz es * 2 ^ K := Nat.mul_le_mul_left _ hK
    · simp only [numL, List.mem_cons] at hm
      rw [sz_cons, hKK, show K + sz es - K = sz es by omega] at hm
      rcases hm with rfl | hm
      · refine ⟨e, by simp, rfl, rfl, fun k hk => ?_⟩
        show (bitsF _ (K + sz es) K)[k]? = _
        rw [hKK] at hk
        rw [bitsF_get _ K _ k hk, Nat.testBit_two_pow_mul_add a hn, if_neg (by omega), hb _ (by omega)]
        congr 2; omega
      · rw [numL_congr es (sz es) (Nat.le_refl _) hlow] at hm
        obtain ⟨e2, h1, h2⟩ := ht t hm
        exact ⟨e2, by simp [h1], h2⟩
def bitT (t : S_api_Table) (σ : Int → Bool) : Bool := t.Bits.getD (ixF σ t.On) false
def fOf (ts : List S_api_Table) (v : Int) (σ : Int → Bool) : Bool := match ts.find? (fun t => decide (t.Var = v)) with | some t => bitT t σ | none => false
def pairL (vs : List (Int × Bool)) : List Int := vs.map fun q => if q.2 = true then q.1 else -q.1
def allP (d : S_api_Dqbf) (ts : List S_api_Table) (σ : Int → Bool) : List (Int × Bool) := d.Univ.map (fun u => (u, σ u)) ++ ts.map fun t => (t.Var, bitT t σ)
theorem pairL_mem {vs : List (Int × Bool)} {a : Int → Bool} (h : ∀ q ∈ vs, 0 < q.1 ∧ a q.1 = q.2) {x : Int} (hx : x ≠ 0) (hin : ∃ q ∈ vs, q.1 = av x) : x ∈ pairL vs ↔ litT a x = true := by
  constructor
  · intro hm
    obtain ⟨⟨v, b⟩, hq, rfl⟩ := List.mem_map.1 hm
    obtain ⟨h0, h1⟩ := h _ hq
    simp only at h0 h1 ⊢
    cases b
    · have : av (-v) = v := by rw [av_neg, av_pos h0]
      simp only [Bool.false_eq_true, if_false, litT, this, h1]
      rw [if_pos (by omega)]; rfl
    · simp only [if_true, litT, av_pos h0, h1]
      rw [if_neg (by omega)]
  · intro hm
    obtain ⟨⟨v, b⟩, hq, hv⟩ := hin
    obtain ⟨h0, h1⟩ := h _ hq
    simp only at h0 h1 hv
    refine List.mem_map.2 ⟨(v, b), hq, ?_⟩
    unfold litT at hm
    rw [← hv, h1] at hm
    by_cases hn : x < 0
    · rw [if_pos hn] at hm
      have hb : b = false := by simpa using hm
      subst hb
      simp only [Bool.false_eq_true, if_false, hv]
      unfold av; rw [if_pos hn]; omega
    · rw [if_neg hn] at hm
      subst hm
      simp only [if_true, hv]
      unfold av; rw [if_neg hn]
theorem find_tab {ts : List S_api_Table} (hn : (ts.map (·.Var)).Nodup) {t : S_api_Table} (h : t ∈ ts) : ts.find? (fun t2 => decide (t2.Var = t.Var)) = some t := by
  induction ts with
  | nil => simp at h
  | cons x xs ih =>
    rw [List.map_cons, List.nodup_cons] at hn
    rw [List.find?_cons]
    rcases List.mem_cons.1 h with rfl | h
    · simp
    · have : x.Var ≠ t.Var := fun e => hn.1 (e ▸ List.mem_map.2 ⟨t, h, rfl⟩)
      simp only [this, decide_false]
      exact ih hn.2 h
theorem TOf.vars {es : List S_api_Dep} {ts : List S_api_Table} (h : TOf es ts) : ts.map (·.Var) = es.map (·.Var) := by
  have := congrArg (List.map Prod.fst) h.1
  simpa [List.map_map, Function.comp_def] using this
theorem TOf.mem {es : List S_api_Dep} {ts : List S_api_Table} (h : TOf es ts) {t : S_api_Table} (ht : t ∈ ts) : ∃ e ∈ es, e.Var = t.Var ∧ e.On = t.On := by
  have : (t.Var, t.On) ∈ es.map fun e => (e.Var, e.On) := by rw [← h.1]; exact List.mem_map.2 ⟨t, ht, rfl⟩
  obtain ⟨e, he, h2⟩ := List.mem_map.1 this
  injection h2 with h2 h3
  exact ⟨e, he, h2, h3⟩
theorem TOf.has {es : List S_api_Dep} {ts : List S_api_Table} (h : TOf es ts) {e : S_api_Dep} (he : e ∈ es) : ∃ t ∈ ts, t.Var = e.Var ∧ t.On = e.On := by
  have : (e.Var, e.On) ∈ ts.map fun t => (t.Var, t.On) := by rw [h.1]; exact List.mem_map.2 ⟨e, he, rfl⟩
  obtain ⟨t, ht, h2⟩ := List.mem_map.1 this
  injection h2 with h2 h3
  exact ⟨t, ht, h2, h3⟩
structure Plain (d : S_api_Dqbf) : Prop where
  upos : ∀ u ∈ d.Univ, 0 < u
  vpos : ∀ v ∈ varsD d, 0 < v
  und : d.Univ.Nodup
  vnd : (varsD d).Nodup
  sep : ∀ {v}, v ∈ d.Univ → v ∉ varsD d
  wi : ∀ c ∈ d.Clauses, ∀ x ∈ c, x ≠ 0 ∧ (av x ∈ d.Univ ∨ av x ∈ varsD d)
  on : ∀ e ∈ d.Exist, e.On.Nodup ∧ ∀ u ∈ e.On, u ∈ d.Univ
theorem allP_asg {d : S_api_Dqbf} (hp : Plain d) {ts : List S_api_Table} (ht : TOf d.Exist ts) (σ : Int → Bool) : ∀ q ∈ allP d ts σ, 0 < q.1 ∧ asg d (fOf ts) σ q.1 = q.2 := by
  intro q hq
  have hvs : ts.map (·.Var) = varsD d := ht.vars
  rcases List.mem_append.1 hq with hq | hq
  · obtain ⟨u, hu, rfl⟩ := List.mem_map.1 hq
    exact ⟨hp.upos u hu, by unfold asg; rw [if_pos hu]⟩
  · obtain ⟨t, hm, rfl⟩ := List.mem_map.1 hq
    have hv : t.Var ∈ varsD d := by rw [← hvs]; exact List.mem_map.2 ⟨t, hm, rfl⟩
    refine ⟨hp.vpos _ hv, ?_⟩
    unfold asg fOf
    rw [if_neg (fun hu => hp.sep hu hv), find_tab (by rw [hvs]; exact hp.vnd) hm]
theorem sat_iff {d : S_api_Dqbf} (hp : Plain d) {ts : List S_api_Table} (ht : TOf d.Exist ts) (σ : Int → Bool) : satB d.Clauses (pairL (allP d ts σ)) = true ↔ ∀ c ∈ d.Clauses, ∃ x ∈ c, litT (asg d (fOf ts) σ) x = true := by
  unfold satB
  rw [List.all_eq_true]
  have hvs : ts.map (·.Var) = varsD d := ht.vars
  have key : ∀ c ∈ d.Clauses, ∀ x ∈ c, (x ∈ pairL (allP d ts σ) ↔ litT (asg d (fOf ts) σ) x = true) := fun c hc x hx => by
    obtain ⟨h0, h1⟩ := hp.wi c hc x hx
    refine pairL_mem (allP_asg hp ht σ) h0 ?_
    rcases h1 with h1 | h1
    · exact ⟨(av x, σ (av x)), List.mem_append.2 (.inl (List.mem_map.2 ⟨_, h1, rfl⟩)), rfl⟩
    · rw [← hvs] at h1
      obtain ⟨t, hm, h2⟩ := List.mem_map.1 h1
      exact ⟨(t.Var, bitT t σ), List.mem_append.2 (.inr (List.mem_map.2 ⟨t, hm, rfl⟩)), h2⟩
  constructor
  · intro h c hc
    have := h c hc
    rw [List.any_eq_true] at this
    obtain ⟨x, hx, hm⟩ := this
    exact ⟨x, hx, (key c hc x hx).1 (by simpa using hm)⟩
  · intro h c hc
    obtain ⟨x, hx, hm⟩ := h c hc
    rw [List.any_eq_true]
    exact ⟨x, hx, by simpa using (key c hc x hx).2 hm⟩
theorem fOf_dpd {d : S_api_Dqbf} {ts : List S_api_Table} (ht : TOf d.Exist ts) (hnd : (varsD d).Nodup) : Dpd d (fOf ts) := by
  intro e he σ τ h
  obtain ⟨t, hm, h1, h2⟩ := ht.has he
  unfold fOf
  rw [← h1, find_tab (by rw [ht.vars]; exact hnd) hm]
  show t.Bits.getD _ _ = t.Bits.getD _ _
  rw [ixF_congr (fun u hu => h u (h2 ▸ hu))]
theorem fOf_all {d : S_api_Dqbf} (hp : Plain d) {f : Int → (Int → Bool) → Bool} (hf : Dpd d f) : ∃ n, n < 2 ^ sz d.Exist ∧ ∀ v ∈ varsD d, ∀ σ, fOf (numL n (sz d.Exist) d.Exist) v σ = f v σ := by
  obtain ⟨n, hn, ht⟩ := numL_all (fun e k => f e.Var (fun u => k.testBit (e.On.idxOf u))) d.Exist
  refine ⟨n, hn, fun v hv σ => ?_⟩
  have hT := numL_of n d.Exist (sz d.Exist)
  rw [show varsD d = _ from hT.vars.symm] at hv
  obtain ⟨t, hm, rfl⟩ := List.mem_map.1 hv
  obtain ⟨e, he, h1, h2, h3⟩ := ht t hm
  unfold fOf
  rw [find_tab (by rw [hT.vars]; exact hp.vnd) hm]
  show t.Bits.getD _ _ = _
  rw [List.getD_eq_getElem?_getD, h2, h3 _ (ixF_lt _ _), h1]
  show f e.Var _ = _
  refine hf e he _ _ (fun u hu => ?_)
  have hi := List.idxOf_lt_length_of_mem hu
  exact ixF_bit σ e.On _ u (by rw [List.getElem?_eq_getElem hi, List.getElem_idxOf])
theorem sem_num {d : S_api_Dqbf} (hp : Plain d) : Sem d ↔ ∃ n, n < 2 ^ sz d.Exist ∧ ∀ σ, satB d.Clauses (pairL (allP d (numL n (sz d.Exist) d.Exist) σ)) = true := by
  constructor
  · rintro ⟨f, hf, hs⟩
    obtain ⟨n, hn, he⟩ := fOf_all hp hf
    refine ⟨n, hn, fun σ => (sat_iff hp (numL_of n _ _) σ).2 (fun c hc => ?_)⟩
    obtain ⟨x, hx, hxt⟩ := hs σ c hc
    refine ⟨x, hx, ?_⟩
    rw [← hxt]
    have : asg d (fOf (numL n (sz d.Exist) d.Exist)) σ (av x) = asg d f σ (av x) := by
      unfold asg
      rcases (hp.wi c hc x hx).2 with h | h
      · rw [if_pos h, if_pos h]
      · rw [if_neg (fun hu => hp.sep hu h), if_neg (fun hu => hp.sep hu h), he _ h]
    unfold litT; rw [this]
  · rintro ⟨n, hn, h⟩
    exact ⟨_, fOf_dpd (numL_of n _ _) hp.vnd, fun σ => (sat_iff hp (numL_of n _ _) σ).1 (h σ)⟩
def ptL (σ : Int → Bool) (us : List Int) : List Int := us.map fun u => if σ u = true then u else -u
def pointN (m : Nat) : Nat → List Int → List Int
  | _, [] => []
  | j, x :: xs => (if m.testBit j = true then x else -x) :: pointN m (j + 1) xs
theorem pointN_eq (σ : Int → Bool) (us : List Int) (m : Nat) : ∀ (xs : List Int) (pre : List Int), us = pre ++ xs → (∀ i x, us[i]? = some x → σ x = m.testBit i) → pointN m pre.length xs = ptL σ xs
  | [], pre, _, _ => rfl
  | x :: xs, pre, hf, h => by
    have h1 : σ x = m.testBit pre.length := h _ _ (by rw [hf]; simp)
    have := pointN_eq σ us m xs (pre ++ [x]) (by simp [hf]) h
    rw [List.length_append, List.length_singleton] at this
    simp only [pointN, ptL, List.map_cons]
    rw [h1, this]; rfl
theorem allP_eq (d : S_api_Dqbf) (ts : List S_api_Table) (σ : Int → Bool) : pairL (allP d ts σ) = ptL σ d.Univ ++ ts.map fun t => if bitT t σ = true then t.Var else -t.Var := by
  simp [pairL, allP, ptL, Function.comp_def]
theorem on_pt {d : S_api_Dqbf} (hp : Plain d) (σ : Int → Bool) {u : Int} (hu : u ∈ d.Univ) : decide (u ∈ ptL σ d.Univ) = σ u := by
  have h0 := hp.upos u hu
  cases h : σ u
  · refine decide_eq_false (fun hm => ?_)
    obtain ⟨w, hw, he⟩ := List.mem_map.1 hm
    have := hp.upos w hw
    split at he
    · rename_i hh
      rw [he, h] at hh; cases hh
    · omega
  · exact decide_eq_true (List.mem_map.2 ⟨u, hu, by simp [h]⟩)
end Go.Sk.X
namespace Go.Sk.X
open Go Go.Sk
theorem wu0 (n : Int) : 0 ≤ IntKind.wrap .u64 n := by rw [wrapu]; omega
theorem pw_le {n m : Nat} (h : n ≤ m) : 2 ^ n ≤ 2 ^ m := Nat.pow_le_pow_right (by decide) h
theorem pw_eq (n : Nat) (h : n ≤ 62) : IntKind.wrap .i64 ((1 : Int) * 2 ^ (min (IntKind.wrap .u64 ((n : Nat) : Int)).toNat (IntKind.bits .i64))) = ((2 ^ n : Nat) : Int) := by
  have e1 : (IntKind.wrap .u64 ((n : Nat) : Int)).toNat = n := by rw [wrapu]; omega
  have e2 : IntKind.bits .i64 = 64 := rfl
  have e3 : min n 64 = n := by omega
  rw [e1, e2, e3]
  have : 2 ^ n ≤ 2 ^ 62 := pw_le h
  have h4 : (1 : Int) * (2 : Int) ^ n = ((2 ^ n : Nat) : Int) := by simp
  rw [h4]
  generalize 2 ^ n = m at this ⊢
  have h62 : (2 : Nat) ^ 62 = 4611686018427387904 := rfl
  exact wrap_id (by omega) (by omega)
theorem pw_eqT (n : Nat) (h : n ≤ 62) : IntKind.wrap .i64 ((1 : Int) * 2 ^ (min ((n : Nat) : Int).toNat (IntKind.bits .i64))) = ((2 ^ n : Nat) : Int) := by
  have := pw_eq n h
  rwa [show (IntKind.wrap .u64 ((n : Nat) : Int)).toNat = ((n : Nat) : Int).toNat by rw [wrapu]; omega] at this
theorem wi_ok (x : Int) : -9223372036854775808 ≤ (0 : Int) ∧ IntKind.wrap .i64 x ≤ 9223372036854775807 := by
  refine ⟨by decide, ?_⟩
  simp only [IntKind.wrap, IntKind.bits, IntKind.signed]
  simp only [Bool.true_and]
  split <;> rename_i h <;> simp only [ge_iff_le, decide_eq_true_eq] at h <;> omega
def pbit (n : Int) (i : Nat) : Bool := (IntKind.wrap .i64 ((BitVec.ofInt (IntKind.bits .i64) (Int.fdiv n (2 ^ (min (IntKind.wrap .u64 ((i : Nat) : Int)).toNat (IntKind.bits .i64)))) &&& BitVec.ofInt (IntKind.bits .i64) (1 : Int)).toNat : Int)) == (0 : Int)
theorem bit_val (m i : Nat) (hi : i ≤ 62) : IntKind.wrap .i64 ((BitVec.ofInt (IntKind.bits .i64) (Int.fdiv (m : Int) (2 ^ (min (IntKind.wrap .u64 ((i : Nat) : Int)).toNat (IntKind.bits .i64)))) &&& BitVec.ofInt (IntKind.bits .i64) (1 : Int)).toNat : Int) = if m.testBit i = true then 1 else 0 := by
  have e1 : (IntKind.wrap .u64 ((i : Nat) : Int)).toNat = i := by rw [wrapu]; omega
  have e2 : IntKind.bits .i64 = 64 := rfl
  have e3 : min i 64 = i := by omega
  rw [e1, e2, e3, fdiv_pow, bit_and]
  split <;> rfl
theorem pbit_eq (m i : Nat) (hi : i ≤ 62) : pbit (m : Int) i = !m.testBit i := by
  unfold pbit
  rw [bit_val m i hi]
  cases m.testBit i <;> rfl
theorem point_eq (u : List Int) (m : Nat) (hu : ∀ x ∈ u, 0 < x ∧ x ≤ 65536) (hl : u.length ≤ 62) : F_skolemref04_Point u m = some (pointN m 0 u) := by
  refine rangeF_pre u (fun pre s => s.length = pre.length) (fun pre xs s => some (s ++ pointN m pre.length xs)) (fun s _ => by simp [pointN]) ?_ u [] [] rfl rfl
  intro pre x xs s kk hf hI hk
  have hx := hu x (by rw [hf]; simp)
  have hlen : pre.length < u.length := by rw [hf]; simp
  have hw : IntKind.wrap .i64 (0 - x) = -x := by rw [wrap_id (by omega) (by omega)]; omega
  have hc : ∀ y : Int, s.length + [y].length ≤ 1099511627776 := fun y => by rw [hI]; simp; omega
  have hk' : ∀ y : Int, kk (s ++ [y]) = some (s ++ [y] ++ pointN m (pre.length + 1) xs) := fun y => by
    have := hk (s ++ [y]) (by simp [hI])
    simpa using this
  simp only [jn_eq]
  rw [okI_eq (wu0 _), pointN]
  show (if pbit m pre.length = true then _ else _) = _
  rw [pbit_eq m _ (by omega)]
  cases h : m.testBit pre.length
  · simp only [Bool.not_false, if_true, Bool.false_eq_true, if_false]
    rw [capN_eq (hc _), hw, hk']; simp
  · simp only [Bool.not_true, Bool.false_eq_true, if_false, if_true]
    rw [capN_eq (hc _), hk']; simp
theorem at_eq {t : S_api_Table} {p : List Int} (h : t.Bits.length = 2 ^ t.On.length) (hl : t.On.length ≤ 60) {σ : Int → Bool} (hσ : ∀ u ∈ t.On, decide (u ∈ p) = σ u) : F_skolemref04_At t p = some (bitT t σ) := by
  refine rangeF_pre t.On (fun pre s => s = (ixF σ pre : Int)) (fun _ _ _ => some (bitT t σ)) ?_ ?_ t.On [] 0 rfl rfl
  · rintro s rfl
    have hm : ixF σ t.On < t.Bits.length := by rw [h]; exact ixF_lt _ _
    show getI t.Bits ((ixF σ t.On : Nat) : Int) _ = _
    rw [getI_nat, List.getElem?_eq_getElem hm]
    simp [bitT, List.getD_eq_getElem?_getD, List.getElem?_eq_getElem hm]
  · rintro pre x xs s kk hf rfl hk
    have hlen : pre.length < t.On.length := by rw [hf]; simp
    have hx := hσ x (by rw [hf]; simp)
    have hp : 2 ^ pre.length ≤ 2 ^ 60 := pw_le (by omega)
    have hm := ixF_lt σ pre
    have h60 : (2 : Nat) ^ 60 = 1152921504606846976 := rfl
    have hk' := hk _ rfl
    rw [ixF_snoc] at hk'
    simp only [jn_eq]
    rw [has_eq, hx, Option.bind_some]
    cases hs : σ x
    · rw [hs] at hk'
      simpa using hk'
    · rw [hs] at hk'
      rw [if_pos rfl, okI_eq (wu0 _), pw_eq _ (by omega), wrap_id (by omega) (by omega)]
      rw [← hk']
      congr 1
theorem lit_eq (v : Int) (h0 : 0 < v) (h1 : v ≤ 65536) (b : Bool) : F_skolemref04_Lit v b = some (if b = true then v else -v) := by
  unfold F_skolemref04_Lit
  cases b
  · simp only [Bool.false_eq_true, if_false]; rw [wrap_id (by omega) (by omega)]; congr 1; omega
  · simp
theorem satLoop (a c : List Int) (hl : c.length ≤ 4194304) (R : Option Bool) (kk : Unit → Option Bool) (hk : kk () = R) :
    whileF 1000000000000 (fun k142 (s140 : (Bool × Int)) => (if (decide (s140.2 < ((c.length : Nat) : Int))) = true then (jn (fun (s167 : Bool) => (k142 (s167, (IntKind.wrap .i64 (s140.2 + (1 : Int)))))) (fun k169 => (if s140.1 = true then (k169 true) else (getI c s140.2 (fun x171 => ((F_skolemref03_Has a x171).bind (fun y172 => (k169 y172)))))))) else (if (!s140.1) = true then (some false) else (kk ())))) (false, (0 : Int))
      = if (c.any fun x => decide (x ∈ a)) = true then R else some false := by
  have := whileF_by (b := (fun k142 (s140 : (Bool × Int)) => (if (decide (s140.2 < ((c.length : Nat) : Int))) = true then (jn (fun (s167 : Bool) => (k142 (s167, (IntKind.wrap .i64 (s140.2 + (1 : Int)))))) (fun k169 => (if s140.1 = true then (k169 true) else (getI c s140.2 (fun x171 => ((F_skolemref03_Has a x171).bind (fun y172 => (k169 y172)))))))) else (if (!s140.1) = true then (some false) else (kk ()))))) (fun s : Bool × Int => c.length - s.2.toNat) (fun s => 0 ≤ s.2 ∧ s.2 ≤ c.length) (fun s => if (s.1 || (c.drop s.2.toNat).any fun x => decide (x ∈ a)) = true then R else some false) ?_ 1000000000000 (false, 0) (by simp) (by simp; omega)
  · simpa using this
  · rintro ⟨f, i⟩ k ⟨h0, h1⟩ hs
    simp only [jn_eq] at h0 h1 hs ⊢
    by_cases h2 : i < ((c.length : Nat) : Int)
    · obtain ⟨n, rfl⟩ : ∃ n : Nat, i = n := ⟨i.toNat, by omega⟩
      have hlt : n < c.length := by omega
      have hd : c.drop n = c[n] :: c.drop (n + 1) := by rw [List.drop_eq_getElem_cons hlt]
      have hw : IntKind.wrap .i64 (((n : Nat) : Int) + 1) = ((n + 1 : Nat) : Int) := by rw [wrap_id (by omega) (by omega)]; omega
      have hs' := fun b => hs (b, ((n + 1 : Nat) : Int)) ⟨by show (0 : Int) ≤ ((n + 1 : Nat) : Int); omega, by show ((n + 1 : Nat) : Int) ≤ (c.length : Int); omega⟩ (by simp; omega)
      cases f
      · simp only [h2, decide_true, if_true, Bool.false_eq_true, if_false, getI_nat, List.getElem?_eq_getElem hlt, has_eq, Option.bind_some, hw, hs', Int.toNat_natCast, hd, List.any_cons, Bool.false_or]
      · simp only [h2, decide_true, if_true, hw, hs', Bool.true_or]
    · have : i.toNat = c.length := by omega
      cases f <;> simp [h2, this, hk]
theorem sat_eq (cs : List (List Int)) (a : List Int) (h : tot cs ≤ 2097152) : F_skolemref04_Satisfied cs a = some (satB cs a) := by
  refine rangeF_pre cs (fun _ _ => True) (fun _ xs _ => some (satB xs a)) (fun _ _ => rfl) ?_ cs [] () rfl trivial
  intro pre x xs s kk hf hI hk
  have hx : x ∈ cs := by rw [hf]; simp
  rw [satLoop a x (Nat.le_trans (tot_mem hx) (Nat.le_trans h (by decide))) _ kk (hk () trivial)]
  by_cases hs : (x.any fun y => decide (y ∈ a)) = true
  · rw [if_pos hs]; simp only [satB, List.all_cons, hs, Bool.true_and]
  · rw [if_neg hs]; simp only [satB, List.all_cons, Bool.eq_false_iff.2 hs, Bool.false_and]
structure Few (d : S_api_Dqbf) : Prop where
  on : ∀ e ∈ d.Exist, e.On.length ≤ 4
  univ : d.Univ.length ≤ 4
  bits : sz d.Exist ≤ 12
theorem bits_eq {d : S_api_Dqbf} (h : Few d) (hl : d.Exist.length ≤ 1024) : F_skolemref04_bits d = some (sz d.Exist : Int) := by
  have := whileF_by (R := Int) (b := (fun k103 (s101 : (Int × Int)) => (jn (fun (s141 : Bool) => (if s141 = true then (getI d.Exist s101.2 (fun x145 => (okI (0 ≤ (IntKind.wrap .u64 (imn ((x145.On.length : Nat) : Int) (10 : Int)))) (k103 ((IntKind.wrap .i64 (s101.1 + (IntKind.wrap .i64 ((1 : Int) * 2 ^ (min (IntKind.wrap .u64 (imn ((x145.On.length : Nat) : Int) (10 : Int))).toNat (IntKind.bits .i64)))))), (IntKind.wrap .i64 (s101.2 + (1 : Int)))))))) else (some s101.1))) (fun k143 => (if (decide (s101.2 < ((d.Exist.length : Nat) : Int))) = true then (k143 (decide (s101.1 ≤ (16 : Int)))) else (k143 false)))))) (fun s : Int × Int => d.Exist.length - s.2.toNat) (fun s => 0 ≤ s.2 ∧ s.2 ≤ d.Exist.length ∧ s.1 = (sz (d.Exist.take s.2.toNat) : Int)) (fun s => some (sz d.Exist : Int)) ?_ 1000000000000 (0, 0) (by simp [sz]) (by simp; omega)
  · exact this
  · rintro ⟨f, i⟩ k ⟨h0, h1, h2⟩ hs
    simp only [jn_eq] at h0 h1 h2 hs ⊢
    have hle : sz (d.Exist.take i.toNat) ≤ sz d.Exist := by
      have : sz d.Exist = sz (d.Exist.take i.toNat) + sz (d.Exist.drop i.toNat) := by rw [← sz_app, List.take_append_drop]
      omega
    have hb := h.bits
    by_cases h3 : i < ((d.Exist.length : Nat) : Int)
    · obtain ⟨n, rfl⟩ : ∃ n : Nat, i = n := ⟨i.toNat, by omega⟩
      have hlt : n < d.Exist.length := by omega
      have h16 : f ≤ 16 := by omega
      have ho := h.on d.Exist[n] (List.getElem_mem hlt)
      have hi : imn ((d.Exist[n].On.length : Nat) : Int) 10 = ((d.Exist[n].On.length : Nat) : Int) := by unfold imn; rw [if_neg (by omega)]
      have hp : 2 ^ d.Exist[n].On.length ≤ 2 ^ 4 := pw_le ho
      have hq : (2 : Nat) ^ 4 = 16 := rfl
      have hw : IntKind.wrap .i64 (((n : Nat) : Int) + 1) = ((n + 1 : Nat) : Int) := by rw [wrap_id (by omega) (by omega)]; omega
      simp only [h3, h16, decide_true, if_true, getI_nat, List.getElem?_eq_getElem hlt, hi]
      rw [okI_eq (wu0 _), pw_eq _ (by omega), hw]
      refine hs _ ⟨?_, ?_, ?_⟩ ?_
      · show (0 : Int) ≤ ((n + 1 : Nat) : Int); omega
      · show ((n + 1 : Nat) : Int) ≤ (d.Exist.length : Int); omega
      · show IntKind.wrap .i64 (f + ((2 ^ d.Exist[n].On.length : Nat) : Int)) = (sz (d.Exist.take ((n + 1 : Nat) : Int).toNat) : Int)
        generalize hG : 2 ^ d.Exist[n].On.length = g at hp ⊢
        have hcc : (0 : Int) ≤ (sz (d.Exist.take ((n : Nat) : Int).toNat) : Int) := Int.natCast_nonneg _
        rw [wrap_id (by omega) (by omega), Int.toNat_natCast, List.take_add_one, List.getElem?_eq_getElem hlt, Option.toList_some, sz_app, h2, Int.toNat_natCast]
        simp [sz, hG]
      · simp; omega
    · have : i.toNat = d.Exist.length := by omega
      rw [this, List.take_length] at h2
      simp [h3, h2]
theorem numbered_eq {d : S_api_Dqbf} (h : Few d) (hl : d.Exist.length ≤ 1024) (n : Nat) : F_skolemref04_numbered d n = some (numL n (sz d.Exist) d.Exist) := by
  unfold F_skolemref04_numbered
  rw [bits_eq h hl, Option.bind_some]
  have hbt := h.bits
  refine (rangeF_pre (S := Int × List S_api_Table) (k := fun s => some s.2) d.Exist (fun pre s => s.1 = ((sz d.Exist - sz pre : Nat) : Int) ∧ s.2.length = pre.length) (fun pre xs s => some (s.2 ++ numL n (sz d.Exist - sz pre) xs)) (fun s _ => by simp [numL]) ?_ d.Exist [] (((sz d.Exist : Nat) : Int), []) rfl ⟨by simp [sz], rfl⟩ : _)
  rintro pre x xs ⟨l, ts⟩ kk hf ⟨hI, hT⟩ hk
  simp only at hI hT
  subst hI
  have hx : x ∈ d.Exist := by rw [hf]; simp
  have ho := h.on x hx
  have hlen : pre.length < d.Exist.length := by rw [hf]; simp
  have hp : 2 ^ x.On.length ≤ 2 ^ 4 := pw_le ho
  have hq : (2 : Nat) ^ 4 = 16 := rfl
  have hsz : sz d.Exist = sz pre + (2 ^ x.On.length + sz xs) := by rw [hf, sz_app, sz_cons]
  have hn : (((2 ^ x.On.length : Nat) : Int) - 0).toNat = 2 ^ x.On.length := by rw [Int.sub_zero, Int.toNat_natCast]
  have hk' := hk (((sz d.Exist - sz (pre ++ [x]) : Nat) : Int), ts ++ [S_api_Table.mk x.Var x.On (bitsF n (sz d.Exist - sz pre) (2 ^ x.On.length))]) ⟨rfl, by simp [hT]⟩
  have hs1 : sz d.Exist - sz (pre ++ [x]) = sz d.Exist - sz pre - 2 ^ x.On.length := by
    rw [sz_app, sz_cons]; simp [sz]; omega
  rw [hs1] at hk'
  simp only [numL]
  simp only at hk'
  rw [capN_eq (by omega), okI_eq (wi_ok _), pw_eq _ (by omega), hn]
  generalize hG : 2 ^ x.On.length = N at hp hsz hk'
  have hle : N ≤ sz d.Exist - sz pre := by omega
  generalize hL : sz d.Exist - sz pre = L at hle hk'
  have hL12 : L ≤ 12 := by omega
  -- the bits of one table
  let b := fun z : Int => ((IntKind.wrap .i64 ((BitVec.ofInt (IntKind.bits .i64) (Int.fdiv (n : Int) (2 ^ (min (IntKind.wrap .u64 (IntKind.wrap .i64 (z - (1 : Int)))).toNat (IntKind.bits .i64)))) &&& BitVec.ofInt (IntKind.bits .i64) (1 : Int)).toNat : Int)) == (1 : Int))
  have hb : ∀ z : Nat, 0 < z → z ≤ 12 → b (z : Int) = n.testBit (z - 1) := fun z h0 h1 => by
    have : IntKind.wrap .i64 ((z : Int) - 1) = ((z - 1 : Nat) : Int) := by rw [wrap_id (by omega) (by omega)]; omega
    show ((IntKind.wrap .i64 _) == _) = _
    rw [this, bit_val n (z - 1) (by omega)]
    cases n.testBit (z - 1) <;> rfl
  have st : ∀ m (j : Int) (l : Nat) (q : List Bool) (k2 : Int × List Bool → Option (List S_api_Table)), m ≤ l → l ≤ 12 → q.length + m ≤ 100 → upF (fun (j183 : Int) (s180 : (Int × (List Bool))) k182 => (okI (0 ≤ (IntKind.wrap .u64 ((x.On.length : Nat) : Int))) (okI (0 ≤ (IntKind.wrap .u64 (IntKind.wrap .i64 (s180.1 - (1 : Int))))) (capN (s180.2.length + [b s180.1].length) (k182 ((IntKind.wrap .i64 (s180.1 - (1 : Int))), (s180.2 ++ [b s180.1]))))))) m j ((l : Int), q) k2 = k2 (((l - m : Nat) : Int), q ++ bitsF n l m) := by
    intro m
    induction m with
    | zero => intro j l q k2 _ _ _; rw [upF_zero]; simp [bitsF]
    | succ m ih =>
      intro j l q k2 h1 h2 h3
      have hw : IntKind.wrap .i64 ((l : Int) - 1) = ((l - 1 : Nat) : Int) := by rw [wrap_id (by omega) (by omega)]; omega
      rw [upF_succ, okI_eq (wu0 _), okI_eq (wu0 _), capN_eq (by simp; omega)]
      simp only [hw, hb l (by omega) h2]
      rw [ih (j + 1) (l - 1) _ k2 (by omega) (by omega) (by simp; omega)]
      rw [show l - 1 - m = l - (m + 1) by omega]
      simp [bitsF]
  refine (st N 0 L [] _ hle hL12 (by simp; omega)).trans ?_
  simp only [List.nil_append]
  rw [okI_eq (wu0 _), capN_eq (by rw [hT]; simp; omega), hk']
  simp
end Go.Sk.X
namespace Go.Sk.X
open Go Go.Sk
theorem plain_of {d : S_api_Dqbf} (hm : May d) : Plain d where
  upos u hu := (rsB_mem hm.ru u hu).1
  vpos v hv := (rsB_mem hm.rv v hv).1
  und := rsB_nodup hm.ru
  vnd := rsB_nodup hm.rv
  sep := hm.sep
  wi c hc x hx := ⟨(nrm_lit (hm.nrm c hc) hx).1, hm.wi c hc x hx⟩
  on e he := ⟨rsB_nodup (hm.on e he).1, (hm.on e he).2⟩
def sgM (us : List Int) (m : Nat) (u : Int) : Bool := m.testBit (us.idxOf u)
theorem sgM_pt {us : List Int} (hn : us.Nodup) (m : Nat) : pointN m 0 us = ptL (sgM us m) us := by
  refine pointN_eq _ us m us [] rfl (fun i x h => ?_)
  obtain ⟨hi, rfl⟩ := List.getElem?_eq_some_iff.1 h
  unfold sgM
  rw [hn.idxOf_getElem]
def winB (d : S_api_Dqbf) (ts : List S_api_Table) : Bool := (List.range' 0 (2 ^ d.Univ.length)).all fun m => satB d.Clauses (pairL (allP d ts (sgM d.Univ m)))
theorem allP_congr {d : S_api_Dqbf} (hp : Plain d) {ts : List S_api_Table} (ht : TOf d.Exist ts) {σ τ : Int → Bool} (h : ∀ u ∈ d.Univ, σ u = τ u) : allP d ts σ = allP d ts τ := by
  unfold allP
  congr 1
  · exact List.map_congr_left (fun u hu => by rw [h u hu])
  · refine List.map_congr_left (fun t hm => ?_)
    obtain ⟨e, he, h1, h2⟩ := ht.mem hm
    have : bitT t σ = bitT t τ := by
      unfold bitT
      rw [ixF_congr (fun u hu => h u ((hp.on e he).2 u (h2 ▸ hu)))]
    rw [this]
theorem winB_iff {d : S_api_Dqbf} (hp : Plain d) {ts : List S_api_Table} (ht : TOf d.Exist ts) : winB d ts = true ↔ ∀ σ, satB d.Clauses (pairL (allP d ts σ)) = true := by
  unfold winB
  rw [List.all_eq_true]
  constructor
  · intro h σ
    have := h (ixF σ d.Univ) (by rw [List.mem_range'_1]; exact ⟨Nat.zero_le _, by have := ixF_lt σ d.Univ; omega⟩)
    rw [← this, allP_congr hp ht (σ := σ) (τ := sgM d.Univ (ixF σ d.Univ)) (fun u hu => ?_)]
    unfold sgM
    have hi := List.idxOf_lt_length_of_mem hu
    exact (ixF_bit σ d.Univ _ u (by rw [List.getElem?_eq_getElem hi, List.getElem_idxOf])).symm
  · intro h m _
    exact h _
theorem upF_allN {R : Type} {f : Int → Unit → (Unit → Option R) → Option R} {k : Unit → Option R} {A : Option R} (p : Nat → Bool) (N : Nat)
    (h : ∀ m, m < N → ∀ kk, f (m : Int) () kk = if p m = true then kk () else A) : ∀ n j, j + n = N → upF f n (j : Int) () k = if ((List.range' j n).all p) = true then k () else A
  | 0, j, _ => by rw [upF_zero]; simp
  | n + 1, j, hj => by
    rw [upF_succ, h j (by omega), List.range'_succ, List.all_cons]
    have := upF_allN (k := k) p N h n (j + 1) (by omega)
    rw [show ((j : Int) + 1) = ((j + 1 : Nat) : Int) by omega, this]
    cases p j
    · simp
    · rw [Bool.true_and, if_pos rfl]
theorem win_step {d : S_api_Dqbf} (h : Sm d) (hm : May d) (hf : Few d) {ts : List S_api_Table} (ht : TOf d.Exist ts) (m : Nat) (kk : Unit → Option Bool) :
      (okI (0 ≤ (IntKind.wrap .u64 ((d.Univ.length : Nat) : Int))) ((F_skolemref04_Point d.Univ (m : Int)).bind (fun y128 => (capN (([] : List Int).length + y128.length) (rangeF (fun (j133 : Nat) (x134 : S_api_Table) (s130 : (List Int)) k132 => ((F_skolemref04_At x134 y128).bind (fun y141 => ((F_skolemref04_Lit x134.Var y141).bind (fun y142 => (capN (s130.length + [y142].length) (k132 (s130 ++ [y142])))))))) 0 ts (([] : List Int) ++ y128) (fun (s130 : (List Int)) => ((F_skolemref04_Satisfied d.Clauses s130).bind (fun y144 => (if (!y144) = true then (some false) else (kk ())))))))))) = if satB d.Clauses (pairL (allP d ts (sgM d.Univ m))) = true then kk () else some false := by
  have hp := plain_of hm
  have hu := hf.univ
  have hl := hm.len
  have hvs : ts.map (·.Var) = varsD d := ht.vars
  have hlen : ts.length = d.Exist.length := by have := congrArg List.length ht.1; simpa using this
  rw [okI_eq (wu0 _), point_eq d.Univ m (fun x hx => rsB_mem hm.ru x hx) (by omega), Option.bind_some, sgM_pt hp.und]
  have hpl : (ptL (sgM d.Univ m) d.Univ).length = d.Univ.length := by simp [ptL]
  rw [capN_eq (by simp; omega), List.nil_append]
  refine rangeF_pre ts (fun pre s => s = ptL (sgM d.Univ m) d.Univ ++ pre.map fun t => if bitT t (sgM d.Univ m) = true then t.Var else -t.Var) (fun _ _ _ => if satB d.Clauses (pairL (allP d ts (sgM d.Univ m))) = true then kk () else some false) ?_ ?_ ts [] _ rfl (by simp)
  · rintro s rfl
    rw [← allP_eq, sat_eq _ _ h.tot, Option.bind_some]
    cases satB d.Clauses (pairL (allP d ts (sgM d.Univ m))) <;> simp
  · rintro pre x xs s k2 hfu rfl hk
    have hx : x ∈ ts := by rw [hfu]; simp
    have hpre : pre.length < ts.length := by rw [hfu]; simp
    obtain ⟨e, he, h1, h2⟩ := ht.mem hx
    have hv : x.Var ∈ varsD d := by rw [← hvs]; exact List.mem_map.2 ⟨x, hx, rfl⟩
    have hv := rsB_mem hm.rv _ hv
    have ho := hf.on e he
    rw [at_eq (ht.2 x hx) (by rw [← h2]; omega) (σ := sgM d.Univ m) (fun u hu => on_pt hp _ ((hp.on e he).2 u (h2 ▸ hu))), Option.bind_some, lit_eq _ (by omega) (by omega), Option.bind_some,
      capN_eq (by simp [hpl]; omega)]
    exact hk _ (by simp)
theorem win_eq {d : S_api_Dqbf} (h : Sm d) (hm : May d) (hf : Few d) {ts : List S_api_Table} (ht : TOf d.Exist ts) : F_skolemref04_win d ts = some (winB d ts) := by
  unfold F_skolemref04_win
  have hu := hf.univ
  have hN : (((2 ^ d.Univ.length : Nat) : Int) - 0).toNat = 2 ^ d.Univ.length := by rw [Int.sub_zero, Int.toNat_natCast]
  rw [okI_eq (wi_ok _), pw_eq _ (by omega), hN]
  have := upF_allN (A := some false) (k := fun _ : Unit => okI (0 ≤ (IntKind.wrap .u64 ((d.Univ.length : Nat) : Int))) (some true)) (f := (fun (j104 : Int) (s101 : Unit) k103 => (okI (0 ≤ (IntKind.wrap .u64 ((d.Univ.length : Nat) : Int))) ((F_skolemref04_Point d.Univ j104).bind (fun y128 => (capN (([] : List Int).length + y128.length) (rangeF (fun (j133 : Nat) (x134 : S_api_Table) (s130 : (List Int)) k132 => ((F_skolemref04_At x134 y128).bind (fun y141 => ((F_skolemref04_Lit x134.Var y141).bind (fun y142 => (capN (s130.length + [y142].length) (k132 (s130 ++ [y142])))))))) 0 ts (([] : List Int) ++ y128) (fun (s130 : (List Int)) => ((F_skolemref04_Satisfied d.Clauses s130).bind (fun y144 => (if (!y144) = true then (some false) else (k103 ()))))))))))))
    (fun m => satB d.Clauses (pairL (allP d ts (sgM d.Univ m)))) (2 ^ d.Univ.length) (fun m _ kk => win_step h hm hf ht m kk) (2 ^ d.Univ.length) 0 (by omega)
  refine this.trans ?_
  rw [okI_eq (wu0 _)]
  unfold winB
  cases (List.range' 0 (2 ^ d.Univ.length)).all fun m => satB d.Clauses (pairL (allP d ts (sgM d.Univ m))) <;> simp
theorem check_eq {d : S_api_Dqbf} (h : Sm d) (hM : MayD d = true) (hf : Few d) : F_skolemref04_check d = some 0 := by
  unfold F_skolemref04_check
  have hm := may_of hM
  have hl := hm.len
  have hu := hf.univ
  have hb := hf.bits
  have h1 : ¬ ((d.Univ.length : Nat) : Int) > 8 := by omega
  have h2 : ¬ (sz d.Exist : Int) > 16 := by omega
  simp only [may3_eq h, hM, Option.bind_some, jn_eq, bits_eq hf (by omega), h1, h2, decide_false, Bool.not_true, Bool.false_eq_true, if_false]
def firstW (w : Nat → Bool) (tn : Nat → List S_api_Table) : Nat → Nat → List S_api_Table × Int
  | 0, _ => ([], 6)
  | k + 1, j => if w j = true then (tn j, 0) else firstW w tn k (j + 1)
theorem firstW_snd (w : Nat → Bool) (tn : Nat → List S_api_Table) : ∀ k j, ((∃ i, i < k ∧ w (j + i) = true) ∧ (firstW w tn k j).2 = 0) ∨ ((∀ i, i < k → w (j + i) = false) ∧ (firstW w tn k j).2 = 6)
  | 0, j => .inr ⟨fun i h => absurd h (Nat.not_lt_zero _), rfl⟩
  | k + 1, j => by
    simp only [firstW]
    cases hw : w j
    · simp only [Bool.false_eq_true, if_false]
      rcases firstW_snd w tn k (j + 1) with ⟨⟨i, hi, h1⟩, h2⟩ | ⟨h1, h2⟩
      · exact .inl ⟨⟨i + 1, by omega, by rw [← h1]; congr 1; omega⟩, h2⟩
      · refine .inr ⟨fun i hi => ?_, h2⟩
        rcases i with _ | i
        · exact hw
        · rw [← h1 i (by omega)]; congr 1; omega
    · exact .inl ⟨⟨0, by omega, hw⟩, by simp⟩
def skV (d : S_api_Dqbf) : List S_api_Table × Int := firstW (fun n => winB d (numL n (sz d.Exist) d.Exist)) (fun n => numL n (sz d.Exist) d.Exist) (2 ^ sz d.Exist) 0
theorem sk_eq {d : S_api_Dqbf} (h : Sm d) (hM : MayD d = true) (hf : Few d) : F_skolemref04_Skolem d = some (skV d) := by
  have hm := may_of hM
  have hl := hm.len
  have hb := hf.bits
  unfold F_skolemref04_Skolem
  rw [check_eq h hM hf, Option.bind_some]
  have hpw := pw_eq (sz d.Exist) (by omega)
  have hp : 2 ^ sz d.Exist ≤ 2 ^ 12 := pw_le hb
  have hq : (2 : Nat) ^ 12 = 4096 := rfl
  simp only [bits_eq hf (by omega : d.Exist.length ≤ 1024), Option.bind_some]
  simp only [hpw]
  unfold skV
  generalize hG : 2 ^ sz d.Exist = N at hp
  have h00 : ((0 : Int) != 0) = false := rfl
  simp only [h00, Bool.false_eq_true, if_false]
  have hw := whileF_by (R := List S_api_Table × Int) (b := (fun k105 (s103 : Int) => (okI (0 ≤ (IntKind.wrap .u64 (sz d.Exist : Int))) (if (decide (s103 < ((N : Nat) : Int))) = true then ((F_skolemref04_numbered d s103).bind (fun y129 => ((F_skolemref04_win d y129).bind (fun y130 => (if y130 = true then (some (y129, (0 : Int))) else (k105 (IntKind.wrap .i64 (s103 + (1 : Int))))))))) else (some (([] : List S_api_Table), (6 : Int))))))) (fun s => N - s.toNat) (fun s => 0 ≤ s ∧ s ≤ N) (fun s => some (firstW (fun n => winB d (numL n (sz d.Exist) d.Exist)) (fun n => numL n (sz d.Exist) d.Exist) (N - s.toNat) s.toNat)) ?_ 1000000000000 0 (by simp) (by simp; omega)
  · simpa using hw
  · rintro s k ⟨h0, h1⟩ hs
    rw [okI_eq (wu0 _)]
    obtain ⟨n, rfl⟩ : ∃ n : Nat, s = n := ⟨s.toNat, by omega⟩
    rw [Int.toNat_natCast]
    by_cases h2 : (n : Int) < ((N : Nat) : Int)
    · have hw : IntKind.wrap .i64 ((n : Int) + 1) = ((n + 1 : Nat) : Int) := by rw [wrap_id (by omega) (by omega)]; omega
      have hs' := hs ((n + 1 : Nat) : Int) ⟨by omega, by omega⟩ (by omega)
      rw [Int.toNat_natCast] at hs'
      rw [show N - n = (N - (n + 1)) + 1 by omega]
      simp only [h2, decide_true, if_true, numbered_eq hf (by omega : d.Exist.length ≤ 1024), Option.bind_some, win_eq h hm hf (numL_of n _ _), hw, hs', firstW]
      cases winB d (numL n (sz d.Exist) d.Exist) <;> simp
    · have : N - n = 0 := by omega
      rw [this]
      simp [h2, firstW]
theorem skV_snd {d : S_api_Dqbf} (hm : May d) : (Sem d ∧ (skV d).2 = 0) ∨ (¬ Sem d ∧ (skV d).2 = 6) := by
  have hp := plain_of hm
  have hs := sem_num hp
  rcases firstW_snd (fun n => winB d (numL n (sz d.Exist) d.Exist)) (fun n => numL n (sz d.Exist) d.Exist) (2 ^ sz d.Exist) 0 with ⟨⟨i, hi, h1⟩, h2⟩ | ⟨h1, h2⟩
  · rw [Nat.zero_add] at h1
    exact .inl ⟨hs.2 ⟨i, hi, (winB_iff hp (numL_of i _ _)).1 h1⟩, h2⟩
  · refine .inr ⟨fun hh => ?_, h2⟩
    obtain ⟨n, hn, h3⟩ := hs.1 hh
    have := h1 n hn
    rw [Nat.zero_add] at this
    rw [(winB_iff hp (numL_of n _ _)).2 h3] at this
    cases this
theorem dqbf_sem {d : S_api_Dqbf} (h : Sm d) (hM : MayD d = true) (hf : Few d) : ∃ v, F_skolemref04_Dqbf d = some (v, 0) ∧ ((v = 1 ∧ Sem d) ∨ (v = 2 ∧ ¬ Sem d)) := by
  unfold F_skolemref04_Dqbf
  rw [sk_eq h hM hf, Option.bind_some]
  rcases skV_snd (may_of hM) with ⟨h1, h2⟩ | ⟨h1, h2⟩
  · exact ⟨1, by simp [h2], .inl ⟨rfl, h1⟩⟩
  · exact ⟨2, by simp [h2], .inr ⟨rfl, h1⟩⟩
theorem truth_sem {d : S_api_Dqbf} (h : Sm d) (hM : MayD d = true) : Has1 (fun v => (¬ Few d ∧ v = 0) ∨ (Few d ∧ ((v = 1 ∧ Sem d) ∨ (v = 2 ∧ ¬ Sem d)))) (F_skolemlaw13_truth d) := by
  have hm := may_of hM
  have hl := hm.len
  refine rangeF_ex (Post := fun v => (¬ Few d ∧ v = 0) ∨ (Few d ∧ ((v = 1 ∧ Sem d) ∨ (v = 2 ∧ ¬ Sem d)))) d.Exist (fun pre s => s = (sz pre : Int) ∧ sz pre ≤ 16 * pre.length ∧ ∀ e ∈ pre, e.On.length ≤ 4) ?_ ?_ d.Exist [] 0 rfl ⟨rfl, by simp [sz], by simp⟩
  · rintro s ⟨rfl, _, ho⟩
    simp only [jn_eq]
    by_cases h1 : ((d.Univ.length : Nat) : Int) > 4
    · exact ⟨0, by simp only [h1, decide_true, if_true], .inl ⟨fun hf => by have := hf.univ; omega, rfl⟩⟩
    by_cases h2 : (sz d.Exist : Int) > 12
    · exact ⟨0, by simp only [h1, h2, decide_true, decide_false, Bool.false_eq_true, if_false, if_true], .inl ⟨fun hf => by have := hf.bits; omega, rfl⟩⟩
    have hf : Few d := ⟨ho, by omega, by omega⟩
    obtain ⟨v, hv, hp⟩ := dqbf_sem h hM hf
    exact ⟨v, by simp only [h1, h2, decide_false, Bool.false_eq_true, if_false, hv, Option.bind_some], .inr ⟨hf, hp⟩⟩
  · rintro pre x xs s kk hf ⟨rfl, hs, ho⟩ hk
    have hlen : pre.length < d.Exist.length := by rw [hf]; simp
    by_cases h1 : ((x.On.length : Nat) : Int) > 4
    · exact ⟨0, by simp only [h1, decide_true, if_true], .inl ⟨fun hh => by have := hh.on x (by rw [hf]; simp); omega, rfl⟩⟩
    have hp : 2 ^ x.On.length ≤ 2 ^ 4 := pw_le (by omega)
    have hq : (2 : Nat) ^ 4 = 16 := rfl
    have h0 : (0 : Int) ≤ ((x.On.length : Nat) : Int) := Int.natCast_nonneg _
    simp only [h1, decide_false, Bool.false_eq_true, if_false]
    rw [okI_eq h0, pw_eqT _ (by omega)]
    generalize hG : 2 ^ x.On.length = g at hp ⊢
    have hs0 : (0 : Int) ≤ (sz pre : Int) := Int.natCast_nonneg _
    refine hk _ ⟨?_, ?_, ?_⟩
    · rw [wrap_id (by omega) (by omega), sz_app, sz_cons, hG]; simp [sz]
    · rw [sz_app, sz_cons, hG, List.length_append, List.length_singleton]
      have h00 : sz [] = 0 := rfl
      omega
    · intro e he
      rcases List.mem_append.1 he with he | he
      · exact ho e he
      · rw [List.mem_singleton] at he; subst he; omega
theorem sz_dep (v : Int) : ∀ es : List S_api_Dep, sz (depW v es) ≤ sz es
  | [] => Nat.le_refl _
  | e :: es => by
    have ih := sz_dep v es
    unfold depW at ih ⊢
    rw [List.filter_cons]
    split
    · rw [List.map_cons, sz_cons, sz_cons]
      have : 2 ^ (S_api_Dep.mk e.Var (wo v e.On)).On.length ≤ 2 ^ e.On.length := pw_le (wo_len v e.On)
      omega
    · rw [sz_cons]; exact Nat.le_trans ih (Nat.le_add_left _ _)
theorem few_leave {d : S_api_Dqbf} (hf : Few d) (l : Int) : Few (toD (leaveV d l)) where
  on e he := by
    obtain ⟨e0, he0, hne, rfl⟩ := dep_mem he
    have := hf.on e0 he0
    have h2 := wo_len (vr l) e0.On
    show (wo (vr l) e0.On).length ≤ 4
    omega
  univ := by
    have := hf.univ
    have h2 := wo_len (vr l) d.Univ
    show (wo (vr l) d.Univ).length ≤ 4
    omega
  bits := by
    have := hf.bits
    have h2 := sz_dep (vr l) d.Exist
    show sz (depW (vr l) d.Exist) ≤ 12
    omega
theorem few_made {d : S_api_Dqbf} (hf : Few d) (c : S_api_Change) : Few (toD (madeV d c)) := by
  unfold madeV
  split
  · exact ⟨hf.on, hf.univ, hf.bits⟩
  · split
    · exact ⟨hf.on, hf.univ, hf.bits⟩
    · exact few_leave hf _
theorem cleanTruth_eq {d : S_api_Dqbf} (hs : Sm d) {c : S_api_Change} (hc : InK .i64 c.Lit) : F_skolemlaw13_CleanTruth d c = some true := by
  unfold F_skolemlaw13_CleanTruth
  obtain ⟨b, hb⟩ := large_ok2 (d := d)
  rw [hb, Option.bind_some]
  cases b
  case true => simp only [if_true, awake_eq2, Option.bind_some]
  simp only [Bool.false_eq_true, if_false, pmake_eq hs hc, Option.bind_some]
  unfold makeV
  cases hM : MayD d
  case false => simp [awake_eq2, emD, show IntKind.wrap .i64 (IntKind.wrap .i64 0) = 0 from rfl]
  cases ha : allowB d c
  case false => simp [awake_eq2, emD, show IntKind.wrap .i64 (IntKind.wrap .i64 0) = 0 from rfl]
  have hch := ch_iff.1 ha
  obtain ⟨hM2, -⟩ := made_step hM hc hch
  have hs2 := sm_may hM2
  obtain ⟨v, hv, hvp⟩ := truth_sem hs hM
  obtain ⟨w, hw, hwp⟩ := truth_sem hs2 hM2
  have hsem := sem_made hM hc hch
  simp only [if_true, may3_eq hs, may3_eq hs2, hM, hM2, hv, hw, Option.bind_some, awake_eq2, jn_eq]
  have : v = 0 ∨ v = w := by
    rcases hvp with ⟨_, rfl⟩ | ⟨hf, hvp⟩
    · exact .inl rfl
    · rcases hwp with ⟨hn, _⟩ | ⟨_, hwp⟩
      · exact absurd (few_made hf c) hn
      · right
        rcases hvp with ⟨rfl, h1⟩ | ⟨rfl, h1⟩ <;> rcases hwp with ⟨rfl, h2⟩ | ⟨rfl, h2⟩
        · rfl
        · exact absurd (hsem.1 h1) h2
        · exact absurd (hsem.2 h2) h1
        · rfl
  rcases this with rfl | rfl <;> simp
end Go.Sk.X