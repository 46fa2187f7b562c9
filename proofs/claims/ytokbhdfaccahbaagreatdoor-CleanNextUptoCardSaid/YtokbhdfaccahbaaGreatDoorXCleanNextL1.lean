/- The plain law of CleanNext: about numbers and lists alone. It has no conditions. -/
import Derived.Test.YtokbhdfaccahbaaGreatDoorXCleanNextF
set_option linter.unusedVariables false
set_option linter.unusedSimpArgs false
namespace Go.Sk
open Go
theorem jn_eq {S R : Type} (f : S → Option R) (g : (S → Option R) → Option R) : jn f g = g f := rfl
theorem rangeF_nil {α S R : Type} (f : Nat → α → S → (S → Option R) → Option R) (i : Nat) (s : S) (k : S → Option R) : rangeF f i [] s k = k s := rfl
theorem rangeF_cons {α S R : Type} (f : Nat → α → S → (S → Option R) → Option R) (i : Nat) (x : α) (xs : List α) (s : S) (k : S → Option R) : rangeF f i (x :: xs) s k = f i x s (fun s' => rangeF f (i + 1) xs s' k) := rfl
theorem upF_succ {S R : Type} (f : Int → S → (S → Option R) → Option R) (n : Nat) (i : Int) (s : S) (k : S → Option R) : upF f (n + 1) i s k = f i s (fun s' => upF f n (i + 1) s' k) := rfl
theorem whileF_succ {S R : Type} (n : Nat) (b : (S → Option R) → S → Option R) (s : S) : whileF (n + 1) b s = b (whileF n b) s := rfl
theorem whileF_by {S R : Type} {b : (S → Option R) → S → Option R} (μ : S → Nat) (I : S → Prop) (g : S → Option R)
    (step : ∀ s k, I s → (∀ s', I s' → μ s' < μ s → k s' = g s') → b k s = g s) : ∀ n s, I s → μ s < n → whileF n b s = g s
  | 0, s, _, h => absurd h (Nat.not_lt_zero _)
  | n + 1, s, hI, h => by
    rw [whileF_succ]
    exact step s _ hI (fun s' h1 h2 => whileF_by μ I g step n s' h1 (by omega))
theorem rangeF_eq {α S R : Type} {f : Nat → α → S → (S → Option R) → Option R} {k : S → Option R} (g : Nat → List α → S → Option R) (h0 : ∀ j s, g j [] s = k s)
    (h1 : ∀ j x xs s kk, (∀ s', kk s' = g (j + 1) xs s') → f j x s kk = g j (x :: xs) s) : ∀ xs j s, rangeF f j xs s k = g j xs s
  | [], j, s => (h0 j s).symm
  | x :: xs, j, s => h1 j x xs s _ (fun s' => rangeF_eq g h0 h1 xs (j + 1) s')
theorem rangeF_pre {α S R : Type} {f : Nat → α → S → (S → Option R) → Option R} {k : S → Option R} (full : List α) (I : List α → S → Prop) (g : List α → List α → S → Option R) (h0 : ∀ s, I full s → k s = g full [] s)
    (h1 : ∀ pre x xs s kk, full = pre ++ x :: xs → I pre s → (∀ s', I (pre ++ [x]) s' → kk s' = g (pre ++ [x]) xs s') → f pre.length x s kk = g pre (x :: xs) s) : ∀ xs pre s, full = pre ++ xs → I pre s → rangeF f pre.length xs s k = g pre xs s
  | [], pre, s, hf, hI => by
    rw [List.append_nil] at hf; subst hf
    exact h0 s hI
  | x :: xs, pre, s, hf, hI => by
    refine h1 pre x xs s _ hf hI (fun s' hs' => ?_)
    have := rangeF_pre full I g h0 h1 xs (pre ++ [x]) s' (by simp [hf]) hs'
    rw [List.length_append] at this
    exact this
theorem wrap_id {n : Int} (h0 : -9223372036854775808 ≤ n) (h1 : n ≤ 9223372036854775807) : IntKind.wrap .i64 n = n := by
  simp only [IntKind.wrap, IntKind.bits, IntKind.signed]
  simp only [Bool.true_and]
  split <;> rename_i h <;> simp only [ge_iff_le, decide_eq_true_eq] at h <;> omega
def av (x : Int) : Int := if x < 0 then -x else x
def nrmB (last : Int) : List Int → Bool
  | [] => true
  | x :: xs => decide (-65536 ≤ x) && decide (x ≤ 65536) && decide (last < av x) && nrmB (av x) xs
theorem av_nonneg (x : Int) : 0 ≤ av x := by unfold av; split <;> omega
theorem av_neg (x : Int) : av (-x) = av x := by unfold av; split <;> split <;> omega
theorem nrm_cons {c x : Int} {xs : List Int} : nrmB c (x :: xs) = true ↔ -65536 ≤ x ∧ x ≤ 65536 ∧ c < av x ∧ nrmB (av x) xs = true := by
  simp [nrmB, and_assoc]
theorem nrm_mono {c c' : Int} (h : c' ≤ c) : ∀ {l : List Int}, nrmB c l = true → nrmB c' l = true
  | [], _ => rfl
  | x :: xs, h' => by
    rw [nrm_cons] at h' ⊢
    exact ⟨h'.1, h'.2.1, by omega, h'.2.2.2⟩
theorem nrm_mem : ∀ {c : Int} {l : List Int}, nrmB c l = true → ∀ x ∈ l, c < av x ∧ -65536 ≤ x ∧ x ≤ 65536
  | c, [], _, x, h => by simp at h
  | c, y :: ys, h, x, hx => by
    rw [nrm_cons] at h
    rcases List.mem_cons.1 hx with rfl | hx
    · exact ⟨h.2.2.1, h.1, h.2.1⟩
    · have := nrm_mem h.2.2.2 x hx
      exact ⟨by omega, this.2⟩
theorem nrm_ext : ∀ {l l' : List Int} {c c' : Int}, nrmB c l = true → nrmB c' l' = true → (∀ x, x ∈ l ↔ x ∈ l') → l = l'
  | [], [], _, _, _, _, _ => rfl
  | [], y :: ys, _, _, _, _, h => by have := (h y).2 (by simp); simp at this
  | x :: xs, [], _, _, _, _, h => by have := (h x).1 (by simp); simp at this
  | x :: xs, y :: ys, c, c', h1, h2, h => by
    rw [nrm_cons] at h1 h2
    have hxy : x = y := by
      have hx := (h x).1 (by simp)
      have hy := (h y).2 (by simp)
      rcases List.mem_cons.1 hx with e | hx
      · exact e
      · rcases List.mem_cons.1 hy with e | hy
        · exact e.symm
        · have := (nrm_mem h2.2.2.2 x hx).1
          have := (nrm_mem h1.2.2.2 y hy).1
          omega
    subst hxy
    congr 1
    refine nrm_ext h1.2.2.2 h2.2.2.2 (fun z => ⟨fun hz => ?_, fun hz => ?_⟩)
    · rcases List.mem_cons.1 ((h z).1 (by simp [hz])) with e | e
      · subst e; have := (nrm_mem h1.2.2.2 z hz).1; omega
      · exact e
    · rcases List.mem_cons.1 ((h z).2 (by simp [hz])) with e | e
      · subst e; have := (nrm_mem h2.2.2.2 z hz).1; omega
      · exact e
theorem nrm_filter (p : Int → Bool) : ∀ {l : List Int} {c : Int}, nrmB c l = true → nrmB c (l.filter p) = true
  | [], _, h => rfl
  | x :: xs, c, h => by
    rw [nrm_cons] at h
    simp only [List.filter_cons]
    split
    · rw [nrm_cons]; exact ⟨h.1, h.2.1, h.2.2.1, nrm_filter p h.2.2.2⟩
    · exact nrm_mono (by omega) (nrm_filter p h.2.2.2)
theorem nrm_two {c : Int} {l : List Int} (h : nrmB c l = true) (hc : 0 ≤ c) {x y : Int} (hx : x ∈ l) (hy : y ∈ l) (e : av x = av y) : x = y := by
  induction l generalizing c with
  | nil => simp at hx
  | cons z zs ih =>
    rw [nrm_cons] at h
    rcases List.mem_cons.1 hx with e1 | hx1 <;> rcases List.mem_cons.1 hy with e2 | hy1
    · rw [e1, e2]
    · subst e1; have := (nrm_mem h.2.2.2 y hy1).1; omega
    · subst e2; have := (nrm_mem h.2.2.2 x hx1).1; omega
    · exact ih h.2.2.2 (av_nonneg z) hx1 hy1
end Go.Sk
namespace Go.Sk
open Go
def Has1 {R : Type} (Post : R → Prop) (x : Option R) : Prop := ∃ r, x = some r ∧ Post r
theorem whileF_ex {S R : Type} {Post : R → Prop} {b : (S → Option R) → S → Option R} (μ : S → Nat) (I : S → Prop)
    (step : ∀ s k, I s → (∀ s', I s' → μ s' < μ s → Has1 Post (k s')) → Has1 Post (b k s)) : ∀ n s, I s → μ s < n → Has1 Post (whileF n b s)
  | 0, s, _, h => absurd h (Nat.not_lt_zero _)
  | n + 1, s, hI, h => by
    rw [whileF_succ]
    exact step s _ hI (fun s' h1 h2 => whileF_ex μ I step n s' h1 (by omega))
theorem rangeF_fold {α S R : Type} (g : S → α → S) (k : S → Option R) : ∀ (xs : List α) (j : Nat) (s : S), rangeF (fun _ x s k => k (g s x)) j xs s k = k (xs.foldl g s)
  | [], _, _ => rfl
  | x :: xs, j, s => by rw [rangeF_cons]; exact rangeF_fold g k xs (j + 1) (g s x)
def rsB (c : Int) : List Int → Bool
  | [] => true
  | x :: xs => decide (c < x) && (decide (x ≤ 65536) && rsB x xs)
theorem rsB_cons {c x : Int} {xs : List Int} : rsB c (x :: xs) = true ↔ c < x ∧ x ≤ 65536 ∧ rsB x xs = true := by simp [rsB]
theorem rsB_mem : ∀ {l : List Int} {c : Int}, rsB c l = true → ∀ x ∈ l, c < x ∧ x ≤ 65536
  | [], _, _, x, hx => by simp at hx
  | y :: l, c, h, x, hx => by
    obtain ⟨h1, h2, h3⟩ := rsB_cons.1 h
    rcases List.mem_cons.1 hx with rfl | hx
    · exact ⟨h1, h2⟩
    · have := rsB_mem h3 x hx
      exact ⟨by omega, this.2⟩
theorem rsB_nodup : ∀ {l : List Int} {c : Int}, rsB c l = true → l.Nodup
  | [], _, _ => List.nodup_nil
  | y :: l, c, h => by
    obtain ⟨h1, h2, h3⟩ := rsB_cons.1 h
    exact List.nodup_cons.2 ⟨fun hm => by have := (rsB_mem h3 y hm).1; omega, rsB_nodup h3⟩
def lastD (l : List Int) : Int := (l.getLast?).getD 0
theorem lastD_app (l : List Int) (x : Int) : lastD (l ++ [x]) = x := by simp [lastD]
theorem lastD_get {l : List Int} (h : 0 < l.length) : l[l.length - 1]? = some (lastD l) := by
  unfold lastD
  rw [List.getLast?_eq_getElem?]
  have : l.length - 1 < l.length := by omega
  rw [List.getElem?_eq_getElem this]; rfl
theorem mget_fold {β : Type} (v : β) : ∀ (xs : List Int) (m : List (Int × β)) (k : Int), mget (xs.foldl (fun m x => mset m x v) m) k = if k ∈ xs then some v else mget m k
  | [], m, k => by simp
  | x :: xs, m, k => by
    rw [List.foldl_cons, mget_fold v xs, mget_mset]
    by_cases h1 : k ∈ xs
    · simp [h1]
    · by_cases h2 : k = x <;> simp [h1, h2]
end Go.Sk
namespace Go.Sk.X
open Go Go.Sk
theorem rises_eq (a : List Int) (hl : a.length ≤ 4194304) : F_prefix_rises a = some (rsB 0 a) := by
  refine rangeF_pre a (fun pre _ => 0 ≤ lastD pre) (fun pre xs _ => some (rsB (lastD pre) xs)) (fun _ _ => rfl) ?_ a [] () rfl (by decide)
  intro pre x xs s kk hf hI hk
  have hlen : pre.length < a.length := by rw [hf]; simp
  simp only [jn_eq, rsB]
  by_cases h1 : x < 1
  · have : ¬ lastD pre < x := by omega
    simp [h1, this]
  by_cases h2 : x > 65536
  · have : ¬ x ≤ 65536 := by omega
    simp [h1, h2, this]
  have hk' := hk () (by rw [lastD_app]; omega)
  rw [lastD_app] at hk'
  have h3 : x ≤ 65536 := by omega
  by_cases hp : 0 < pre.length
  · have e : IntKind.wrap .i64 (((pre.length : Nat) : Int) - 1) = ((pre.length - 1 : Nat) : Int) := by rw [wrap_id (by omega) (by omega)]; omega
    have hg : a[pre.length - 1]? = some (lastD pre) := by
      rw [hf, List.getElem?_append_left (by omega)]
      exact lastD_get hp
    have hp' : ((pre.length : Nat) : Int) > 0 := by omega
    simp only [h1, h2, hp', e, getI_nat, hg, decide_false, decide_true, if_true, if_false, Bool.false_eq_true]
    by_cases h4 : lastD pre ≥ x
    · have : ¬ lastD pre < x := by omega
      simp [h4, this]
    · have : lastD pre < x := by omega
      simp [h4, this, h3, hk']
  · have : pre = [] := List.eq_nil_of_length_eq_zero (by omega)
    subst this
    have h4 : lastD ([] : List Int) < x := by show (0 : Int) < x; omega
    simp [h1, h2, h3, h4, hk']
theorem rises3_eq (a : List Int) (hl : a.length ≤ 4194304) : F_skolemref03_Rises a = some (rsB 0 a) := rises_eq a hl
theorem abs3_eq {x : Int} (h0 : -9223372036854775807 ≤ x) (h1 : x ≤ 9223372036854775807) : F_skolemref03_Abs x = some (av x) := by
  unfold F_skolemref03_Abs av
  by_cases h : x < 0
  · have e : IntKind.wrap .i64 (0 - x) = -x := by rw [wrap_id (by omega) (by omega)]; omega
    simp only [h, decide_true, if_true, e]
  · simp [h]
theorem absp_eq {x : Int} (h0 : -9223372036854775807 ≤ x) (h1 : x ≤ 9223372036854775807) : F_prefix_abs x = some (av x) := by
  unfold F_prefix_abs av imx
  have e : IntKind.wrap .i64 (0 - x) = -x := by rw [wrap_id (by omega) (by omega)]; omega
  rw [e]
  by_cases h : x < 0
  · rw [if_pos (by omega), if_pos h]
  · rw [if_neg (by omega), if_neg h]
theorem normal_eq (a : List Int) (hl : a.length ≤ 4194304) : F_skolemref03_Normal a = some (nrmB 0 a) := by
  refine rangeF_pre a (fun pre _ => pre = [] ∨ (-65536 ≤ lastD pre ∧ lastD pre ≤ 65536)) (fun pre xs _ => some (nrmB (if pre = [] then 0 else av (lastD pre)) xs)) (fun _ _ => rfl) ?_ a [] () rfl (.inl rfl)
  intro pre x xs s kk hf hI hk
  have hlen : pre.length < a.length := by rw [hf]; simp
  simp only [jn_eq, nrmB]
  have av0 := av_nonneg (lastD pre)
  by_cases h0 : x = 0
  · subst h0
    have : av 0 = 0 := rfl
    have h5 : ¬ (if pre = [] then 0 else av (lastD pre)) < av 0 := by rw [this]; split <;> omega
    simp [h5]
  have h0' : (x == 0) = false := by simp [h0]
  by_cases h1 : x < -65536
  · have : ¬ -65536 ≤ x := by omega
    simp [h0', h1, this]
  by_cases h2 : x > 65536
  · have : ¬ x ≤ 65536 := by omega
    simp [h0', h1, h2, this]
  have hk' := hk () (.inr (by rw [lastD_app]; omega))
  rw [lastD_app] at hk'
  simp only [List.append_eq_nil_iff, List.cons_ne_self, and_false, if_false, reduceCtorEq] at hk'
  have h3 : x ≤ 65536 := by omega
  have h3' : -65536 ≤ x := by omega
  by_cases hp : 0 < pre.length
  · have e : IntKind.wrap .i64 (((pre.length : Nat) : Int) - 1) = ((pre.length - 1 : Nat) : Int) := by rw [wrap_id (by omega) (by omega)]; omega
    have hg : a[pre.length - 1]? = some (lastD pre) := by
      rw [hf, List.getElem?_append_left (by omega)]
      exact lastD_get hp
    have hp' : ((pre.length : Nat) : Int) > 0 := by omega
    have hne : pre ≠ [] := by intro e; subst e; simp at hp
    rcases hI with rfl | ⟨i1, i2⟩
    · exact absurd rfl hne
    simp only [h0', h1, h2, hp', e, getI_nat, hg, abs3_eq (x := x) (by omega) (by omega), abs3_eq (x := lastD pre) (by omega) (by omega), Option.bind_some, decide_false, decide_true, if_true, if_false, Bool.false_eq_true, hne]
    by_cases h4 : av (lastD pre) ≥ av x
    · have : ¬ av (lastD pre) < av x := by omega
      simp [h4, this]
    · have : av (lastD pre) < av x := by omega
      simp [h4, this, h3, h3', hk']
  · have : pre = [] := List.eq_nil_of_length_eq_zero (by omega)
    subst this
    have h4 : 0 < av x := by unfold av; split <;> omega
    simp [h0', h1, h2, h3, h3', h4, hk']
theorem has_eq (l : List Int) (v : Int) : F_skolemref03_Has l v = some (decide (v ∈ l)) := by
  refine rangeF_eq (fun _ xs _ => some (decide (v ∈ xs))) (fun _ _ => by simp) ?_ l 0 ()
  intro j x xs s kk hk
  by_cases h : x = v
  · subst h; simp
  · have : ¬ v = x := fun e => h e.symm
    simp [h, hk, this]
theorem has1_eq (l : List Int) (v : Int) : F_skolemref01_Has l v = some (decide (v ∈ l)) := has_eq l v
theorem part_eq (l u : List Int) : F_skolemref03_Part l u = some (l.all fun x => decide (x ∈ u)) := by
  refine rangeF_eq (fun _ xs _ => some (xs.all fun x => decide (x ∈ u))) (fun _ _ => rfl) ?_ l 0 ()
  intro j x xs s kk hk
  simp only [has_eq, Option.bind_some]
  by_cases h : x ∈ u <;> simp [h, hk]
def singB (pre : List Int) : List Int → Bool
  | [] => true
  | x :: xs => decide (1 ≤ x) && (decide (x ≤ 65536) && (!decide (x ∈ pre) && singB (pre ++ [x]) xs))
theorem single_eq (a : List Int) : F_skolemref03_single a = some (singB [] a) := by
  refine rangeF_pre a (fun pre _ => True) (fun pre xs _ => some (singB pre xs)) (fun _ _ => rfl) ?_ a [] () rfl trivial
  intro pre x xs s kk hf hI hk
  have hlen : pre.length < a.length := by rw [hf]; simp
  have hk' := hk () trivial
  simp only [jn_eq, singB]
  by_cases h1 : x < 1
  · have : ¬ 1 ≤ x := by omega
    simp [h1, this]
  by_cases h2 : x > 65536
  · have : ¬ x ≤ 65536 := by omega
    simp [h1, h2, this]
  have h3 : x ≤ 65536 := by omega
  have h4 : 1 ≤ x := by omega
  have ht : a.take (((pre.length : Nat) : Int)).toNat = pre := by rw [hf]; simp
  have ho : 0 ≤ ((pre.length : Nat) : Int) ∧ ((pre.length : Nat) : Int).toNat ≤ a.length := ⟨by omega, by omega⟩
  rw [okI_eq ho, ht, has_eq]
  by_cases h5 : x ∈ pre <;> simp [h1, h2, h3, h4, h5, hk']
theorem sing_iff : ∀ (l pre : List Int), singB pre l = true ↔ (∀ x ∈ l, 1 ≤ x ∧ x ≤ 65536) ∧ l.Nodup ∧ ∀ x ∈ l, x ∉ pre
  | [], pre => by simp [singB]
  | y :: l, pre => by
    simp only [singB, Bool.and_eq_true, decide_eq_true_eq, Bool.not_eq_true', decide_eq_false_iff_not, sing_iff l (pre ++ [y]), List.mem_append, List.mem_singleton, not_or, List.mem_cons, List.not_mem_nil, or_false, forall_eq_or_imp, List.nodup_cons]
    constructor
    · rintro ⟨a, b, c, d, e, f⟩
      exact ⟨⟨⟨a, b⟩, d⟩, ⟨fun hm => (f y hm).2 rfl, e⟩, c, fun x hx => (f x hx).1⟩
    · rintro ⟨⟨⟨a, b⟩, d⟩, ⟨f, e⟩, c, g⟩
      exact ⟨a, b, c, d, e, fun x hx => ⟨g x hx, fun e => f (e ▸ hx)⟩⟩
def varsD (d : S_api_Dqbf) : List Int := d.Exist.map (·.Var)
theorem all_eq (d : S_api_Dqbf) (h : d.Univ.length + d.Exist.length ≤ 8388608) : F_skolemref03_All d = some (d.Univ ++ varsD d) := by
  unfold F_skolemref03_All
  rw [capN_eq (by simp; omega)]
  refine rangeF_pre d.Exist (fun pre s => s.length = d.Univ.length + pre.length) (fun _ xs s => some (s ++ xs.map (·.Var))) (fun s _ => by simp) ?_ d.Exist [] ([] ++ d.Univ) rfl (by simp)
  intro pre x xs s kk hf hI hk
  have hlen : pre.length < d.Exist.length := by rw [hf]; simp
  rw [capN_eq (by simp; omega), hk _ (by simp [hI]; omega)]
  simp
def tot (cs : List (List Int)) : Nat := (cs.map List.length).sum
theorem tot_app (a b : List (List Int)) : tot (a ++ b) = tot a + tot b := by simp [tot]
theorem tot_cons (a : List Int) (b : List (List Int)) : tot (a :: b) = a.length + tot b := by simp [tot]
theorem tot_mem {cs : List (List Int)} {c : List Int} (h : c ∈ cs) : c.length ≤ tot cs := by
  obtain ⟨a, b, rfl⟩ := List.append_of_mem h
  rw [tot_app, tot_cons]; omega
theorem cnf_eq (cs : List (List Int)) (h : tot cs ≤ 4194304) : F_skolemref03_Cnf cs = some (cs.all (nrmB 0) && (decide (cs.length ≤ 20000) && decide (tot cs ≤ 200000))) := by
  refine rangeF_pre cs (fun pre s => s = (tot pre : Int)) (fun pre xs s => some (xs.all (nrmB 0) && (decide (cs.length ≤ 20000) && decide (tot cs ≤ 200000)))) ?_ ?_ cs [] 0 rfl rfl
  · rintro s rfl
    by_cases h1 : cs.length ≤ 20000
    · have : ((cs.length : Nat) : Int) ≤ 20000 := by omega
      by_cases h2 : tot cs ≤ 200000
      · have h3 : (tot cs : Int) ≤ 200000 := by omega
        simp [this, h1, h2, h3]
      · have h3 : ¬ (tot cs : Int) ≤ 200000 := by omega
        simp [this, h1, h2, h3]
    · have : ¬ ((cs.length : Nat) : Int) ≤ 20000 := by omega
      simp [this, h1]
  · intro pre x xs s kk hf hI hk
    have ht : tot pre + x.length ≤ tot cs := by rw [hf, tot_app, tot_cons]; omega
    rw [normal_eq x (by omega), Option.bind_some]
    have hk' := hk (IntKind.wrap .i64 (s + ((x.length : Nat) : Int))) (by rw [hI, wrap_id (by omega) (by omega), tot_app]; simp [tot])
    by_cases hx : nrmB 0 x = true
    · simp [hx, hk']
    · simp [hx]
theorem within_in (u : List Int) (kk : Unit → Option Bool) (c : List Int) (hr : ∀ x ∈ c, -65536 ≤ x ∧ x ≤ 65536) (hl : c.length ≤ 4194304) (R : Option Bool) (hk : kk () = R) :
    whileF 1000000000000 (fun k130 (s128 : Int) => (if (decide (s128 < ((c.length : Nat) : Int))) = true then (getI c s128 (fun x146 => ((F_skolemref03_Abs x146).bind (fun y147 => ((F_skolemref03_Has u y147).bind (fun y148 => (if (!y148) = true then (some false) else (k130 (IntKind.wrap .i64 (s128 + (1 : Int))))))))))) else (kk ()))) (0 : Int)
      = if (c.all fun x => decide (av x ∈ u)) = true then R else some false := by
  have := whileF_by (b := (fun k130 (s128 : Int) => (if (decide (s128 < ((c.length : Nat) : Int))) = true then (getI c s128 (fun x146 => ((F_skolemref03_Abs x146).bind (fun y147 => ((F_skolemref03_Has u y147).bind (fun y148 => (if (!y148) = true then (some false) else (k130 (IntKind.wrap .i64 (s128 + (1 : Int))))))))))) else (kk ())))) (fun s : Int => c.length - s.toNat) (fun s => 0 ≤ s ∧ s ≤ c.length) (fun s => if ((c.drop s.toNat).all fun x => decide (av x ∈ u)) = true then R else some false) ?_ 1000000000000 0 (by simp) (by simp; omega)
  · simpa using this
  · intro s k ⟨h0, h1⟩ hs
    by_cases h2 : s < ((c.length : Nat) : Int)
    · obtain ⟨n, rfl⟩ : ∃ n : Nat, s = n := ⟨s.toNat, by omega⟩
      have hn : n < c.length := by omega
      have hd : c.drop n = c[n] :: c.drop (n + 1) := by rw [List.drop_eq_getElem_cons hn]
      have hm := hr c[n] (List.getElem_mem hn)
      have hw : IntKind.wrap .i64 (((n : Nat) : Int) + 1) = ((n + 1 : Nat) : Int) := by rw [wrap_id (by omega) (by omega)]; omega
      have hs' := hs ((n + 1 : Nat) : Int) ⟨by omega, by omega⟩ (by simp; omega)
      simp only [h2, decide_true, if_true, getI_nat, List.getElem?_eq_getElem hn, abs3_eq (x := c[n]) (by omega) (by omega), has_eq, Option.bind_some, hw, hs', Int.toNat_natCast, hd, List.all_cons]
      by_cases h3 : av c[n] ∈ u <;> simp [h3]
    · have : s.toNat = c.length := by omega
      simp [h2, this, hk]
theorem within_eq (cs : List (List Int)) (u : List Int) (hr : ∀ c ∈ cs, nrmB 0 c = true) (hl : tot cs ≤ 4194304) : F_skolemref03_within cs u = some (cs.all fun c => c.all fun x => decide (av x ∈ u)) := by
  refine rangeF_pre cs (fun pre _ => True) (fun _ xs _ => some (xs.all fun c => c.all fun x => decide (av x ∈ u))) (fun _ _ => rfl) ?_ cs [] () rfl trivial
  intro pre x xs s kk hf hI hk
  have hx : x ∈ cs := by rw [hf]; simp
  rw [within_in u kk x (fun y hy => (nrm_mem (hr x hx) y hy).2) (Nat.le_trans (tot_mem hx) hl) _ (hk () trivial)]
  by_cases h : (x.all fun x => decide (av x ∈ u)) = true
  · rw [if_pos h]; simp only [List.all_cons, h, Bool.true_and]
  · rw [if_neg h]; simp only [List.all_cons, Bool.eq_false_iff.2 h, Bool.false_and]
end Go.Sk.X
namespace Go.Sk.X
open Go Go.Sk
structure Sm (d : S_api_Dqbf) : Prop where
  univ : d.Univ.length ≤ 2097152
  exist : d.Exist.length ≤ 2097152
  cls : d.Clauses.length ≤ 2097152
  tot : tot d.Clauses ≤ 2097152
  on : (d.Exist.map fun e => e.On.length).sum ≤ 2097152
theorem Sm.onE {d : S_api_Dqbf} (h : Sm d) {e : S_api_Dep} (he : e ∈ d.Exist) : e.On.length ≤ 2097152 := by
  have := h.on
  obtain ⟨a, b, hh⟩ := List.append_of_mem he
  rw [hh] at this
  simp at this
  omega
def depB (u : List Int) (e : S_api_Dep) : Bool := rsB 0 e.On && e.On.all fun x => decide (x ∈ u)
def MayD (d : S_api_Dqbf) : Bool :=
  (d.Exist.all fun e => !decide (e.Var ∈ d.Univ) && depB d.Univ e) && (rsB 0 d.Univ && (rsB 0 (varsD d) && (decide (d.Univ.length + d.Exist.length ≤ 1024) &&
    (decide (d.Clauses.length ≤ 20000) && ((d.Clauses.all fun c => nrmB 0 c && c.all fun x => decide (av x ∈ d.Univ ++ varsD d)) && decide (tot d.Clauses ≤ 200000))))))
theorem may3_eq {d : S_api_Dqbf} (h : Sm d) : F_skolemref03_MayDqbf d = some (MayD d) := by
  unfold F_skolemref03_MayDqbf
  have hv : (varsD d).length = d.Exist.length := by simp [varsD]
  have hA : (d.Univ ++ varsD d).length = d.Univ.length + d.Exist.length := by simp [hv]
  have h1 := h.univ
  have h2 := h.exist
  rw [all_eq d (by omega), Option.bind_some]
  simp only [jn_eq]
  by_cases hlen : d.Univ.length + d.Exist.length ≤ 1024
  case neg =>
    have : (((d.Univ ++ varsD d).length : Nat) : Int) > 1024 := by omega
    simp only [this, decide_true, if_true, MayD, hlen, decide_false, Bool.false_and, Bool.and_false]
  have hlen' : ¬ (((d.Univ ++ varsD d).length : Nat) : Int) > 1024 := by omega
  simp only [hlen', decide_false, Bool.false_eq_true, if_false, single_eq, Option.bind_some, rises3_eq d.Univ (by omega)]
  by_cases hU : rsB 0 d.Univ = true
  case neg =>
    have hU' := Bool.eq_false_iff.2 hU
    by_cases hs : singB [] (d.Univ ++ varsD d) = true <;> simp [hs, hU', MayD]
  have ho : 0 ≤ ((d.Univ.length : Nat) : Int) ∧ (((d.Univ.length : Nat) : Int)).toNat ≤ (d.Univ ++ varsD d).length := ⟨by omega, by omega⟩
  have hd : (d.Univ ++ varsD d).drop (((d.Univ.length : Nat) : Int)).toNat = varsD d := by simp
  rw [okI_eq ho, hd, rises3_eq (varsD d) (by omega)]
  simp only [Option.bind_some]
  by_cases hV : rsB 0 (varsD d) = true
  case neg =>
    have hV' := Bool.eq_false_iff.2 hV
    by_cases hs : singB [] (d.Univ ++ varsD d) = true <;> simp [hs, hU, hV', MayD]
  -- one of each, since both rise
  have hs : singB [] (d.Univ ++ varsD d) = true ↔ ∀ e ∈ d.Exist, e.Var ∉ d.Univ := by
    rw [sing_iff]
    constructor
    · rintro ⟨_, a, _⟩ e he hm
      exact (List.nodup_append.1 a).2.2 _ hm _ (List.mem_map.2 ⟨e, he, rfl⟩) rfl
    · intro hx
      refine ⟨fun x hm => ?_, List.nodup_append.2 ⟨rsB_nodup hU, rsB_nodup hV, ?_⟩, by simp⟩
      · rcases List.mem_append.1 hm with hm | hm
        · have := rsB_mem hU x hm; omega
        · have := rsB_mem hV x hm; omega
      · rintro x hm y hy rfl
        obtain ⟨e, he, rfl⟩ := List.mem_map.1 hy
        exact hx e he hm
  by_cases hS : singB [] (d.Univ ++ varsD d) = true
  case neg =>
    have hS' := Bool.eq_false_iff.2 hS
    have : ∃ e ∈ d.Exist, e.Var ∈ d.Univ := by
      refine Classical.byContradiction fun hc => hS (hs.2 fun e he hm => hc ⟨e, he, hm⟩)
    obtain ⟨e, he, hm⟩ := this
    have hall : (d.Exist.all fun e => !decide (e.Var ∈ d.Univ) && depB d.Univ e) = false := by
      rw [List.all_eq_false]
      exact ⟨e, he, by simp [hm]⟩
    simp [hS', MayD, hall]
  have hS2 := hs.1 hS
  have hall : (d.Exist.all fun e => !decide (e.Var ∈ d.Univ) && depB d.Univ e) = d.Exist.all (depB d.Univ) := by
    rw [Bool.eq_iff_iff]
    simp only [List.all_eq_true, Bool.and_eq_true, Bool.not_eq_true', decide_eq_false_iff_not]
    exact ⟨fun q e he => (q e he).2, fun q e he => ⟨hS2 e he, q e he⟩⟩
  rw [cnf_eq d.Clauses (Nat.le_trans h.tot (by decide))]
  simp only [hS, hU, hV, Bool.not_true, Bool.false_eq_true, if_false, Option.bind_some]
  -- the deps
  have hdeps : (rangeF (fun (j146 : Nat) (x147 : S_api_Dep) (s143 : Unit) k145 => (((F_skolemref03_Rises x147.On).bind (fun y185 => (if (!y185) = true then (if True then (some false) else (k145 ())) else ((F_skolemref03_Part x147.On d.Univ).bind (fun y187 => (if (!y187) = true then (some false) else (k145 ()))))))))) 0 d.Exist () (fun (s143 : Unit) => (some true))) = some (d.Exist.all (depB d.Univ)) := by
    refine rangeF_pre d.Exist (fun pre _ => True) (fun _ xs _ => some (xs.all (depB d.Univ))) (fun _ _ => rfl) ?_ d.Exist [] () rfl trivial
    intro pre x xs s kk hf hI hk
    have hx : x ∈ d.Exist := by rw [hf]; simp
    rw [rises3_eq x.On (Nat.le_trans (h.onE hx) (by decide)), Option.bind_some, part_eq, Option.bind_some, hk () trivial, List.all_cons, depB]
    by_cases a : rsB 0 x.On = true
    · by_cases b : (x.On.all fun x => decide (x ∈ d.Univ)) = true
      · rw [a, b]; simp
      · rw [a, Bool.eq_false_iff.2 b]; simp
    · rw [Bool.eq_false_iff.2 a]; simp
  rw [hdeps]
  unfold MayD
  rw [hall, hU, hV]
  by_cases hN : d.Clauses.all (nrmB 0) = true
  case neg =>
    have hN' := Bool.eq_false_iff.2 hN
    have : (d.Clauses.all fun c => nrmB 0 c && c.all fun x => decide (av x ∈ d.Univ ++ varsD d)) = false := by
      rw [List.all_eq_false] at hN' ⊢
      obtain ⟨c, hc, hn⟩ := hN'
      exact ⟨c, hc, by simp [Bool.eq_false_iff.2 hn]⟩
    simp only [hN', this, Bool.false_and, Bool.and_false, Bool.not_false, if_true]
  have hN2 := List.all_eq_true.1 hN
  rw [within_eq d.Clauses _ hN2 (Nat.le_trans h.tot (by decide)), Option.bind_some]
  have hW : (d.Clauses.all fun c => nrmB 0 c && c.all fun x => decide (av x ∈ d.Univ ++ varsD d)) = d.Clauses.all fun c => c.all fun x => decide (av x ∈ d.Univ ++ varsD d) := by
    rw [Bool.eq_iff_iff]
    simp only [List.all_eq_true, Bool.and_eq_true]
    exact ⟨fun q e he => (q e he).2, fun q e he => ⟨hN2 e he, q e he⟩⟩
  rw [hW, hN]
  generalize (d.Clauses.all fun c => c.all fun x => decide (av x ∈ d.Univ ++ varsD d)) = w
  generalize d.Exist.all (depB d.Univ) = e
  by_cases a : d.Clauses.length ≤ 20000 <;> by_cases b : tot d.Clauses ≤ 200000 <;> cases w <;> cases e <;> simp [a, b, hlen]
theorem fold2 (xs : List Int) : ∀ (m m' : List (Int × Bool)), xs.foldl (fun (s : List (Int × Bool) × List (Int × Bool)) x => (mset s.1 x true, mset s.2 x true)) (m, m') = (xs.foldl (fun m x => mset m x true) m, xs.foldl (fun m x => mset m x true) m') := by
  induction xs with
  | nil => intro m m'; rfl
  | cons x xs ih => intro m m'; rw [List.foldl_cons, List.foldl_cons, List.foldl_cons, ih]
theorem findF_eq (m : Int → Bool) (kk : Int → Option Bool) (l : List Int) (R : Option Bool) (hb : ∀ j : Nat, kk (j : Int) = some false) (hk : kk (-1) = R) :
    rangeF (fun (j1617 : Nat) (x1618 : Int) (s1614 : Unit) k1616 => (if (!(m x1618)) = true then (kk ((j1617 : Nat) : Int)) else (k1616 ()))) 0 l () (fun (s1614 : Unit) => kk (-1 : Int)) = if (l.all m) = true then R else some false := by
  refine rangeF_eq (fun _ xs _ => if (xs.all m) = true then R else some false) (fun _ _ => hk.symm) ?_ l 0 ()
  intro j x xs s k2 h2
  by_cases h : m x = true
  · simp [h, h2]
  · simp [Bool.eq_false_iff.2 h, hb]
theorem lits_in (m : Int → Bool) (kk : Int → Option Bool) (l : List Int) (R : Option Bool) (hk : ∀ s, kk s = R) :
    rangeF (fun (j3902 : Nat) (x3903 : Int) (s3899 : Int) k3901 => (jn (fun (s4091 : Bool) => (if s4091 = true then (some false) else ((F_prefix_abs x3903).bind (fun y4095 => (k3901 y4095))))) (fun k4093 => (if (x3903 == (0 : Int)) = true then (k4093 true) else (if (decide (x3903 < (-65536 : Int))) = true then (k4093 true) else (if (decide (x3903 > (65536 : Int))) = true then (k4093 true) else ((F_prefix_abs x3903).bind (fun y4099 => (if (decide (y4099 ≤ s3899)) = true then (k4093 true) else ((F_prefix_abs x3903).bind (fun y4101 => (k4093 (!(m y4101)))))))))))))) 0 l (0 : Int) kk
      = if (nrmB 0 l && l.all fun x => m (av x)) = true then R else some false := by
  refine rangeF_pre l (fun _ s => 0 ≤ s) (fun _ xs s => if (nrmB s xs && xs.all fun x => m (av x)) = true then R else some false) (fun s _ => by simp [nrmB, hk]) ?_ l [] 0 rfl (by decide)
  intro pre x xs s k2 hf hI h2
  simp only [jn_eq]
  by_cases h0 : x = 0
  · subst h0
    have h5 : ¬ s < av 0 := by show ¬ s < 0; omega
    simp [h5, nrmB]
  have h0' : (x == 0) = false := by simp [h0]
  by_cases h1 : x < -65536
  · have : ¬ -65536 ≤ x := by omega
    simp [h0', h1, this, nrmB]
  by_cases h3 : x > 65536
  · have : ¬ x ≤ 65536 := by omega
    simp [h0', h1, h3, this, nrmB]
  have e1 : -65536 ≤ x := by omega
  have e2 : x ≤ 65536 := by omega
  rw [absp_eq (x := x) (by omega) (by omega)]
  simp only [h0', h1, h3, decide_false, Bool.false_eq_true, if_false, Option.bind_some, nrmB, e1, e2, decide_true, Bool.true_and, List.all_cons]
  by_cases h4 : av x ≤ s
  · have : ¬ s < av x := by omega
    simp [h4, this]
  · have h5 : s < av x := by omega
    rw [h2 (av x) (av_nonneg x)]
    cases h6 : m (av x) <;> simp [h4, h5, h6]
theorem mayp_eq {d : S_api_Dqbf} (h : Sm d) : F_prefix_MayDqbf d = some (MayD d) := by
  unfold F_prefix_MayDqbf
  rw [rangeF_fold (fun (s : List (Int × Bool) × List (Int × Bool)) x => (mset s.1 x true, mset s.2 x true)), fold2]
  have h1 := h.univ
  have h2 := h.exist
  have h3 := h.tot
  have hmu : ∀ x, ((mget (d.Univ.foldl (fun m x => mset m x true) []) x).getD false) = decide (x ∈ d.Univ) := by
    intro x; rw [mget_fold]; by_cases hx : x ∈ d.Univ <;> simp [hx, mget]
  generalize hM : d.Univ.foldl (fun m x => mset m x true) ([] : List (Int × Bool)) = M at hmu ⊢
  simp only [hmu, jn_eq]
  refine (rangeF_pre d.Exist (fun pre s => s = pre.map (·.Var)) (fun _ xs _ => some ((xs.all fun e => !decide (e.Var ∈ d.Univ) && depB d.Univ e) && (rsB 0 d.Univ && (rsB 0 (varsD d) && (decide (d.Univ.length + d.Exist.length ≤ 1024) &&
    (decide (d.Clauses.length ≤ 20000) && ((d.Clauses.all fun c => nrmB 0 c && c.all fun x => decide (av x ∈ d.Univ ++ varsD d)) && decide (tot d.Clauses ≤ 200000)))))))) ?_ ?_ d.Exist [] [] rfl rfl)
  · rintro s rfl
    have hv : (d.Exist.map (·.Var)).length = d.Exist.length := by simp
    rw [rangeF_fold (fun m x => mset m x true)]
    have hma : ∀ x, (mget ((d.Exist.map (·.Var)).foldl (fun m x => mset m x true) M) x).isSome = decide (x ∈ d.Univ ++ varsD d) := by
      intro x
      rw [mget_fold, ← hM, mget_fold]
      by_cases a : x ∈ d.Exist.map (·.Var)
      · rw [if_pos a]; simp [varsD]; exact .inr (by simpa using a)
      · rw [if_neg a]
        by_cases b : x ∈ d.Univ
        · rw [if_pos b]; simp [b]
        · rw [if_neg b]
          have : x ∉ d.Univ ++ varsD d := by simp only [List.mem_append, not_or]; exact ⟨b, a⟩
          simp [mget, this]
    simp only [hma, rises_eq d.Univ (by omega), Option.bind_some, List.all_nil, Bool.true_and]
    by_cases hU : rsB 0 d.Univ = true
    case neg => simp [Bool.eq_false_iff.2 hU]
    rw [rises_eq _ (by rw [hv]; omega), Option.bind_some]
    by_cases hV : rsB 0 (varsD d) = true
    case neg =>
      have : rsB 0 (d.Exist.map (·.Var)) = false := Bool.eq_false_iff.2 hV
      simp [hU, this, Bool.eq_false_iff.2 hV]
    have hV' : rsB 0 (d.Exist.map (·.Var)) = true := hV
    rw [hv, wrap_id (by omega) (by omega)]
    by_cases hl : d.Univ.length + d.Exist.length ≤ 1024
    case neg =>
      have : ¬ ((d.Univ.length : Int) + (d.Exist.length : Int) ≤ 1024) := by omega
      simp [hU, hV', hl, this]
    have hl' : ((d.Univ.length : Int) + (d.Exist.length : Int) ≤ 1024) := by omega
    simp only [hU, hV, hV', hl, hl', decide_true, if_true, Bool.true_and]
    by_cases hc : d.Clauses.length ≤ 20000
    case neg =>
      have : ((d.Clauses.length : Nat) : Int) > 20000 := by omega
      simp [hc, this]
    have hc' : ¬ ((d.Clauses.length : Nat) : Int) > 20000 := by omega
    simp only [hc, hc', decide_true, decide_false, Bool.false_eq_true, if_false, Bool.true_and]
    have key := rangeF_pre (f := (fun (j3491 : Nat) (x3492 : (List Int)) (s3488 : Int) (k3490 : Int → Option Bool) => (rangeF (fun (j3902 : Nat) (x3903 : Int) (s3899 : Int) k3901 => (jn (fun (s4091 : Bool) => (if s4091 = true then (some false) else ((F_prefix_abs x3903).bind (fun y4095 => (k3901 y4095))))) (fun k4093 => (if (x3903 == (0 : Int)) = true then (k4093 true) else (if (decide (x3903 < (-65536 : Int))) = true then (k4093 true) else (if (decide (x3903 > (65536 : Int))) = true then (k4093 true) else ((F_prefix_abs x3903).bind (fun y4099 => (if (decide (y4099 ≤ s3899)) = true then (k4093 true) else ((F_prefix_abs x3903).bind (fun y4101 => (k4093 (!(decide (y4101 ∈ d.Univ ++ varsD d))))))))))))))) 0 x3492 (0 : Int) (fun (s3899 : Int) => (k3490 (IntKind.wrap .i64 (s3488 + ((x3492.length : Nat) : Int)))))))) (k := fun s3488 => some (decide (s3488 ≤ (200000 : Int))))
      d.Clauses (fun pre s => s = (tot pre : Int)) (fun _ xs _ => some ((xs.all fun c => nrmB 0 c && c.all fun x => decide (av x ∈ d.Univ ++ varsD d)) && decide (tot d.Clauses ≤ 200000))) ?_ ?_ d.Clauses [] 0 rfl rfl
    · simp only [jn_eq, if_true, List.length_nil] at key
      rw [key]; simp
    · rintro s rfl
      by_cases ht : tot d.Clauses ≤ 200000
      · have h3 : (tot d.Clauses : Int) ≤ 200000 := by omega
        simp [ht, h3]
      · have h3 : ¬ (tot d.Clauses : Int) ≤ 200000 := by omega
        simp [ht, h3]
    · intro pre x xs s kk hf hI hk
      have ht : tot pre + x.length ≤ tot d.Clauses := by rw [hf, tot_app, tot_cons]; omega
      have hk' := hk (IntKind.wrap .i64 (s + ((x.length : Nat) : Int))) (by rw [hI, wrap_id (by omega) (by omega), tot_app]; simp [tot])
      rw [lits_in (fun y => decide (y ∈ d.Univ ++ varsD d)) _ x _ (fun _ => hk'), List.all_cons]
      by_cases hx : (nrmB 0 x && x.all fun x => decide (av x ∈ d.Univ ++ varsD d)) = true
      · rw [if_pos hx, hx, Bool.true_and]
      · rw [if_neg hx, Bool.eq_false_iff.2 hx, Bool.false_and, Bool.false_and]
  · intro pre x xs s kk hf hI hk
    have hx : x ∈ d.Exist := by rw [hf]; simp
    have hlen : pre.length < d.Exist.length := by rw [hf]; simp
    have hk' := hk (s ++ [x.Var]) (by rw [hI]; simp)
    rw [List.all_cons]
    by_cases hu : x.Var ∈ d.Univ
    · simp [hu]
    rw [rises_eq x.On (Nat.le_trans (h.onE hx) (by decide)), Option.bind_some, depB]
    by_cases a : rsB 0 x.On = true
    case neg => simp [hu, Bool.eq_false_iff.2 a]
    simp only [hu, a, decide_false, Bool.false_eq_true, if_false, Bool.not_true]
    have hA : ∀ j : Nat, (if (decide (((j : Nat) : Int) ≥ (0 : Int))) = true then (some false) else (capN (s.length + [x.Var].length) (kk (s ++ [x.Var])))) = some false := fun j => by
      have : ((j : Nat) : Int) ≥ 0 := by omega
      simp [this]
    have hB : (if (decide ((-1 : Int) ≥ (0 : Int))) = true then (some false) else (capN (s.length + [x.Var].length) (kk (s ++ [x.Var])))) = kk (s ++ [x.Var]) := by
      rw [capN_eq (by rw [hI]; simp; omega)]; simp
    rw [findF_eq (fun y => decide (y ∈ d.Univ)) (fun s1611 => (if (decide (s1611 ≥ (0 : Int))) = true then (some false) else (capN (s.length + [x.Var].length) (kk (s ++ [x.Var]))))) x.On (kk (s ++ [x.Var])) hA hB]
    rw [hk']
    by_cases b : (x.On.all fun y => decide (y ∈ d.Univ)) = true
    · rw [if_pos b, b]; simp
    · rw [if_neg b, Bool.eq_false_iff.2 b]; simp
end Go.Sk.X
namespace Go.Sk.X
open Go Go.Sk
structure May (d : S_api_Dqbf) : Prop where
  dj : ∀ e ∈ d.Exist, e.Var ∉ d.Univ
  on : ∀ e ∈ d.Exist, rsB 0 e.On = true ∧ ∀ x ∈ e.On, x ∈ d.Univ
  ru : rsB 0 d.Univ = true
  rv : rsB 0 (varsD d) = true
  len : d.Univ.length + d.Exist.length ≤ 1024
  nrm : ∀ c ∈ d.Clauses, nrmB 0 c = true
  wi : ∀ c ∈ d.Clauses, ∀ x ∈ c, av x ∈ d.Univ ∨ av x ∈ varsD d
theorem may_of {d : S_api_Dqbf} (h : MayD d = true) : May d := by
  simp only [MayD, Bool.and_eq_true, List.all_eq_true, decide_eq_true_eq, Bool.not_eq_true', decide_eq_false_iff_not, depB, List.mem_append] at h
  obtain ⟨h1, h2, h3, h4, h5, h6, h7⟩ := h
  exact ⟨fun e he => (h1 e he).1, fun e he => (h1 e he).2, h2, h3, h4, fun c hc => (h6 c hc).1, fun c hc => (h6 c hc).2⟩
theorem May.sep {d : S_api_Dqbf} (h : May d) {x : Int} (h1 : x ∈ d.Univ) : x ∉ varsD d := fun hm => by
  obtain ⟨e, he, rfl⟩ := List.mem_map.1 hm
  exact h.dj e he h1
theorem wrapu (n : Int) : IntKind.wrap .u64 n = n % 18446744073709551616 := by
  simp only [IntKind.wrap, IntKind.bits, IntKind.signed]
  simp
theorem litsVar_eq {x : Int} (h0 : -65536 ≤ x) (h1 : x ≤ 65536) : F_lits_Var x = some (av x) := by
  unfold F_lits_Var F_lits_size av
  by_cases h : x < 0
  · have e : IntKind.wrap .u64 (0 - IntKind.wrap .u64 x) = -x := by rw [wrapu, wrapu]; omega
    have e2 : -x ≤ 65536 := by omega
    simp only [h, decide_true, if_true, e, Option.bind_some, e2, wrap_id (n := -x) (by omega) (by omega)]
  · have e : IntKind.wrap .u64 x = x := by rw [wrapu]; omega
    simp [h, e, h1, wrap_id (n := x) (by omega) (by omega)]
theorem rVar_eq {x : Int} (h0 : -65536 ≤ x) (h1 : x ≤ 65536) (hx : x ≠ 0) : F_skolemref01_Var x = some (av x) := by
  have hs : F_skolemref01_size x = some (av x) := by
    unfold F_skolemref01_size av
    by_cases h : x < 0
    · have e : IntKind.wrap .u64 ((IntKind.wrap .u64 (IntKind.wrap .i64 (0 - (IntKind.wrap .i64 (x + (1 : Int)))))) + (1 : Int)) = -x := by
        rw [wrap_id (n := x + 1) (by omega) (by omega), wrap_id (n := 0 - (x + 1)) (by omega) (by omega), wrapu, wrapu]; omega
      simp only [h, decide_true, if_true, e]
    · have e : IntKind.wrap .u64 x = x := by rw [wrapu]; omega
      simp [h, e]
  have hv : av x ≤ 65536 := by unfold av; split <;> omega
  have hv0 := av_nonneg x
  unfold F_skolemref01_Var F_skolemref01_literal
  simp [hs, hx, hv, wrap_id (n := av x) (by omega) (by omega)]
theorem mget_foldV (es : List S_api_Dep) : ∀ (m : List (Int × List Int)) (k : Int), (mget (es.foldl (fun m e => mset m e.Var e.On) m) k).isSome = (decide (k ∈ es.map (·.Var)) || (mget m k).isSome) := by
  induction es with
  | nil => intro m k; simp
  | cons e es ih =>
    intro m k
    rw [List.foldl_cons, ih, mget_mset]
    by_cases h : k = e.Var
    · simp [h]
    · simp [h]
end Go.Sk.X
namespace Go.Sk.X
open Go Go.Sk
theorem nrm_before : ∀ {pre : List Int} {c x : Int} {xs : List Int}, nrmB c (pre ++ x :: xs) = true → ∀ y ∈ pre, av y < av x
  | [], _, _, _, _, y, hy => by simp at hy
  | z :: pre, c, x, xs, h, y, hy => by
    rw [List.cons_append, nrm_cons] at h
    rcases List.mem_cons.1 hy with rfl | hy
    · exact (nrm_mem h.2.2.2 x (by simp)).1
    · exact nrm_before h.2.2.2 y hy
theorem nrm_lit {c : List Int} (h : nrmB 0 c = true) {x : Int} (hx : x ∈ c) : x ≠ 0 ∧ -65536 ≤ x ∧ x ≤ 65536 := by
  obtain ⟨h1, h2⟩ := nrm_mem h x hx
  exact ⟨fun e => by subst e; simp [av] at h1, h2⟩
theorem nrm_neg {c : List Int} (h : nrmB 0 c = true) {x : Int} (hx : x ∈ c) : -x ∉ c := fun hm => by
  have := nrm_two h (by decide) hx hm (av_neg x).symm
  have := (nrm_lit h hx).1
  omega
theorem lmay_run : ∀ (xs : List Int) (j : Nat) (s : Int), 0 ≤ s → nrmB s xs = true →
    rangeF (fun (j104 : Nat) (x105 : Int) (s101 : Int) k103 => ((F_lits_Var x105).bind (fun y110 => (if (decide (y110 ≤ s101)) = true then (some false) else (k103 y110))))) j xs s (fun (s101 : Int) => (some true)) = some true
  | [], _, _, _, _ => rfl
  | x :: xs, j, s, hs, h => by
    rw [nrm_cons] at h
    have : ¬ av x ≤ s := by omega
    rw [rangeF_cons, litsVar_eq h.1 h.2.1]
    simp only [Option.bind_some, this, decide_false, Bool.false_eq_true, if_false]
    exact lmay_run xs (j + 1) (av x) (av_nonneg x) h.2.2.2
theorem lmay_eq {c : List Int} (h : nrmB 0 c = true) : F_lits_May c = some true := lmay_run c 0 0 (by decide) h
theorem lit_eq {x : Int} (h0 : -65536 ≤ x) (h1 : x ≤ 65536) (hx : x ≠ 0) : F_skolemref01_literal x = some true := by
  have := rVar_eq h0 h1 hx
  unfold F_skolemref01_Var at this
  cases hl : F_skolemref01_literal x with
  | none => rw [hl] at this; simp at this
  | some b =>
    cases b
    · rw [hl] at this
      simp at this
      have h2 : 0 < av x := by unfold av; split <;> omega
      omega
    · rfl
theorem rmay1_eq {c : List Int} (h : nrmB 0 c = true) (hl : c.length ≤ 4194304) : F_skolemref01_May c = some true := by
  refine rangeF_pre c (fun _ _ => True) (fun _ _ _ => some true) (fun _ _ => rfl) ?_ c [] () rfl trivial
  intro pre x xs s kk hf hI hk
  have hlen : pre.length < c.length := by rw [hf]; simp
  have hx := nrm_lit h (x := x) (by rw [hf]; simp)
  simp only [jn_eq, lit_eq hx.2.1 hx.2.2 hx.1, Option.bind_some, Bool.not_true, Bool.false_eq_true, if_false]
  by_cases hp : 0 < pre.length
  · have e : IntKind.wrap .i64 (((pre.length : Nat) : Int) - 1) = ((pre.length - 1 : Nat) : Int) := by rw [wrap_id (by omega) (by omega)]; omega
    have hg : c[pre.length - 1]? = some (lastD pre) := by
      rw [hf, List.getElem?_append_left (by omega)]
      exact lastD_get hp
    have hp' : ((pre.length : Nat) : Int) > 0 := by omega
    have hlm : lastD pre ∈ pre := List.mem_of_getElem? (lastD_get hp)
    have hy := nrm_lit h (x := lastD pre) (by rw [hf]; simp [hlm])
    have hlt := nrm_before (hf ▸ h) _ hlm
    have : ¬ av (lastD pre) ≥ av x := by omega
    simp only [hp', decide_true, if_true, e, getI_nat, hg, rVar_eq hy.2.1 hy.2.2 hy.1, rVar_eq hx.2.1 hx.2.2 hx.1, Option.bind_some, this, decide_false, Bool.false_eq_true, if_false, hk () trivial]
  · have hp' : ¬ ((pre.length : Nat) : Int) > 0 := by omega
    simp only [hp', decide_false, Bool.false_eq_true, if_false, hk () trivial]
def subB (a b : List Int) : Bool := a.all fun x => decide (x ∈ b)
theorem rsub_eq {a b : List Int} (ha : nrmB 0 a = true) (hb : nrmB 0 b = true) (la : a.length ≤ 4194304) (lb : b.length ≤ 4194304) : F_skolemref01_Sub a b = some (subB a b) := by
  unfold F_skolemref01_Sub
  simp only [jn_eq, rmay1_eq ha la, rmay1_eq hb lb, Option.bind_some, Bool.not_true, Bool.false_eq_true, if_false]
  refine rangeF_eq (fun _ xs _ => some (subB xs b)) (fun _ _ => rfl) ?_ a 0 ()
  intro j x xs s kk hk
  simp only [has1_eq, Option.bind_some, subB, List.all_cons]
  by_cases h : x ∈ b <;> simp [h, hk, subB]
theorem find_ge (x : Int) (hx : -65536 ≤ x ∧ x ≤ 65536) {R : Type} (kk : Int → Option R) : ∀ (s p : List Int) (j : Nat), (∀ y ∈ s, -65536 ≤ y ∧ y ≤ 65536) →
    rangeF (fun (j697 : Nat) (x698 : Int) (s694 : Unit) k696 => ((F_lits_Var x698).bind (fun y732 => ((F_lits_Var x).bind (fun y733 => (if (decide (y732 ≥ y733)) = true then (kk ((j697 : Nat) : Int)) else (k696 ()))))))) j s () (fun (s694 : Unit) => (kk (-1 : Int)))
      = match s.dropWhile (fun y => decide (av y < av x)) with
        | [] => kk (-1)
        | _ :: t => kk ((j + (s.length - t.length - 1) : Nat) : Int)
  | [], p, j, _ => rfl
  | y :: s, p, j, hs => by
    have hy := hs y (by simp)
    have ih := find_ge x hx kk s p (j + 1) (fun z hz => hs z (by simp [hz]))
    rw [rangeF_cons]
    generalize hT : (fun s' => rangeF (fun (j697 : Nat) (x698 : Int) (s694 : Unit) k696 => ((F_lits_Var x698).bind (fun y732 => ((F_lits_Var x).bind (fun y733 => (if (decide (y732 ≥ y733)) = true then (kk ((j697 : Nat) : Int)) else (k696 ()))))))) (j + 1) s s' (fun (s694 : Unit) => (kk (-1 : Int)))) = T
    have ihT := ih
    rw [show (rangeF (fun (j697 : Nat) (x698 : Int) (s694 : Unit) k696 => ((F_lits_Var x698).bind (fun y732 => ((F_lits_Var x).bind (fun y733 => (if (decide (y732 ≥ y733)) = true then (kk ((j697 : Nat) : Int)) else (k696 ()))))))) (j + 1) s () (fun (s694 : Unit) => (kk (-1 : Int)))) = T () by rw [← hT]] at ihT
    rw [litsVar_eq hy.1 hy.2, litsVar_eq hx.1 hx.2]
    simp only [Option.bind_some, List.dropWhile_cons]
    by_cases h : av y < av x
    · have h' : ¬ av y ≥ av x := by omega
      simp only [h, h', decide_true, decide_false, if_true, Bool.false_eq_true, if_false]
      rw [ihT]
      cases hd : s.dropWhile (fun y => decide (av y < av x)) with
      | nil => rfl
      | cons z t =>
        have : t.length + 1 ≤ s.length := by
          have h1 : (s.dropWhile (fun y => decide (av y < av x))).length ≤ s.length := (List.dropWhile_suffix _).length_le
          rw [hd] at h1; simpa using h1
        simp only [List.length_cons]
        congr 2; omega
    · have h' : av y ≥ av x := by omega
      simp only [h, h', decide_true, decide_false, if_true, Bool.false_eq_true, if_false]
      congr 2; simp
theorem dw_spec {x : Int} : ∀ (s : List Int), ∃ p, s = p ++ s.dropWhile (fun y => decide (av y < av x)) ∧ (∀ y ∈ p, av y < av x) ∧ ∀ z t, s.dropWhile (fun y => decide (av y < av x)) = z :: t → av x ≤ av z
  | [] => ⟨[], rfl, by simp, by simp⟩
  | y :: s => by
    rw [List.dropWhile_cons]
    by_cases h : av y < av x
    · obtain ⟨p, h1, h2, h3⟩ := dw_spec (x := x) s
      simp only [h, decide_true, if_true]
      refine ⟨y :: p, by rw [List.cons_append, ← h1], fun z hz => ?_, h3⟩
      rcases List.mem_cons.1 hz with rfl | hz
      · exact h
      · exact h2 z hz
    · simp only [h, decide_false, Bool.false_eq_true, if_false]
      refine ⟨[], rfl, by simp, fun z t e => ?_⟩
      injection e with e1 e2
      subst e1; omega
theorem sub_step {x : Int} (hx : -65536 ≤ x ∧ x ≤ 65536) (s : List Int) (hsr : ∀ y ∈ s, -65536 ≤ y ∧ y ≤ 65536) (hl : s.length ≤ 4194304) (k120 : List Int → Option Bool) (f : Int → Option Bool)
    (hf : f = fun (s674 : Int) => (jn (fun (s687 : Bool) => (if s687 = true then (some false) else (okI (0 ≤ (IntKind.wrap .i64 (s674 + (1 : Int))) ∧ (IntKind.wrap .i64 (s674 + (1 : Int))).toNat ≤ s.length) (k120 (s.drop (IntKind.wrap .i64 (s674 + (1 : Int))).toNat))))) (fun k689 => (if (decide (s674 < (0 : Int))) = true then (k689 true) else (getI s s674 (fun x693 => (k689 (x693 != x)))))))) :
    jn f (fun k676 => (rangeF (fun (j697 : Nat) (x698 : Int) (s694 : Unit) k696 => ((F_lits_Var x698).bind (fun y732 => ((F_lits_Var x).bind (fun y733 => (if (decide (y732 ≥ y733)) = true then (k676 ((j697 : Nat) : Int)) else (k696 ()))))))) 0 s () (fun (s694 : Unit) => (k676 (-1 : Int)))))
      = match s.dropWhile (fun y => decide (av y < av x)) with
        | [] => some false
        | z :: t => if z = x then k120 t else some false := by
  rw [jn_eq, find_ge x hx f s [] 0 hsr]
  obtain ⟨q, h1, h2, h3⟩ := dw_spec (x := x) s
  cases hd : s.dropWhile (fun y => decide (av y < av x)) with
  | nil => subst hf; rfl
  | cons z t =>
    rw [hd] at h1
    have hsl : s.length = q.length + t.length + 1 := by rw [h1]; simp; omega
    have hidx : 0 + (s.length - t.length - 1) = q.length := by omega
    have hgz : s[q.length]? = some z := by rw [h1]; simp
    have hw : IntKind.wrap .i64 (((q.length : Nat) : Int) + 1) = ((q.length + 1 : Nat) : Int) := by rw [wrap_id (by omega) (by omega)]; omega
    have hn : ¬ (((q.length : Nat) : Int) < 0) := by omega
    have hdr : s.drop (q.length + 1) = t := by rw [h1]; simp
    subst hf
    simp only [hidx, jn_eq, hn, decide_false, Bool.false_eq_true, if_false, getI_nat, hgz, hw, Int.toNat_natCast]
    rw [okI_eq ⟨by omega, by omega⟩, hdr]
    by_cases hzx : z = x
    · simp [hzx]
    · simp [hzx]
theorem lsub_run (b : List Int) (hb : nrmB 0 b = true) (lb : b.length ≤ 4194304) : ∀ (a s p : List Int) (c : Int) (j : Nat), nrmB c a = true → 0 ≤ c → b = p ++ s → (∀ y ∈ p, av y ≤ c) →
    rangeF (fun (j121 : Nat) (x122 : Int) (s118 : (List Int)) k120 => (jn (fun (s674 : Int) => (jn (fun (s687 : Bool) => (if s687 = true then (some false) else (okI (0 ≤ (IntKind.wrap .i64 (s674 + (1 : Int))) ∧ (IntKind.wrap .i64 (s674 + (1 : Int))).toNat ≤ s118.length) (k120 (s118.drop (IntKind.wrap .i64 (s674 + (1 : Int))).toNat))))) (fun k689 => (if (decide (s674 < (0 : Int))) = true then (k689 true) else (getI s118 s674 (fun x693 => (k689 (x693 != x122)))))))) (fun k676 => (rangeF (fun (j697 : Nat) (x698 : Int) (s694 : Unit) k696 => ((F_lits_Var x698).bind (fun y732 => ((F_lits_Var x122).bind (fun y733 => (if (decide (y732 ≥ y733)) = true then (k676 ((j697 : Nat) : Int)) else (k696 ()))))))) 0 s118 () (fun (s694 : Unit) => (k676 (-1 : Int))))))) j a s (fun (s118 : (List Int)) => (some true))
      = some (subB a b)
  | [], s, p, c, j, _, _, _, _ => rfl
  | x :: a, s, p, c, j, ha, hc, hbs, hp => by
    rw [nrm_cons] at ha
    obtain ⟨hx1, hx2, hx3, ha⟩ := ha
    have hsr : ∀ y ∈ s, -65536 ≤ y ∧ y ≤ 65536 := fun y hy => (nrm_lit hb (by rw [hbs]; simp [hy])).2
    have hbl : b.length = p.length + s.length := by rw [hbs]; simp
    rw [rangeF_cons]
    refine (sub_step ⟨hx1, hx2⟩ s hsr (by omega) (fun s' => rangeF _ (j + 1) a s' _) _ rfl).trans ?_
    obtain ⟨q, h1, h2, h3⟩ := dw_spec (x := x) s
    have hmem : x ∈ b ↔ x ∈ s.dropWhile (fun y => decide (av y < av x)) := by
      constructor
      · intro hm
        rw [hbs, h1] at hm
        rcases List.mem_append.1 hm with hm | hm
        · have := hp x hm; omega
        · rcases List.mem_append.1 hm with hm | hm
          · have := h2 x hm; omega
          · exact hm
      · intro hm
        rw [hbs, h1]
        simp [hm]
    cases hd : s.dropWhile (fun y => decide (av y < av x)) with
    | nil =>
      rw [hd] at hmem
      have : x ∉ b := fun h => by simpa using hmem.1 h
      simp [subB, this]
    | cons z t =>
      rw [hd] at hmem h1
      have hpz : nrmB 0 ((p ++ q) ++ z :: t) = true := by rw [List.append_assoc, ← h1, ← hbs]; exact hb
      by_cases hzx : z = x
      · subst hzx
        have hzb : z ∈ b := hmem.2 (by simp)
        dsimp only
        rw [if_pos rfl, lsub_run b hb lb a t (p ++ q ++ [z]) (av z) (j + 1) ha (av_nonneg z) (by rw [hbs, h1]; simp) (fun y hy => ?_)]
        · simp [subB, hzb]
        · rcases List.mem_append.1 hy with hy | hy
          · have := nrm_before hpz y hy; omega
          · simp only [List.mem_singleton] at hy; subst hy; omega
      · have hxb : x ∉ b := fun h => by
          rcases List.mem_cons.1 (hmem.1 h) with e | e
          · exact hzx e.symm
          · have h4 := h3 z t hd
            obtain ⟨u, v, huv⟩ := List.append_of_mem e
            rw [huv] at hpz
            have h6 := nrm_before (pre := (p ++ q) ++ z :: u) (x := x) (xs := v) (c := 0) (by simpa using hpz) z (by simp)
            omega
        dsimp only
        rw [if_neg hzx]
        simp [subB, hxb]
theorem lsub_eq {a b : List Int} (ha : nrmB 0 a = true) (hb : nrmB 0 b = true) (lb : b.length ≤ 4194304) : F_lits_Sub a b = some (subB a b) := by
  unfold F_lits_Sub
  simp only [jn_eq, lmay_eq ha, lmay_eq hb, Option.bind_some, Bool.not_true, Bool.false_eq_true, if_false]
  exact lsub_run b hb lb a b [] 0 0 ha (by decide) rfl (by simp)
end Go.Sk.X
namespace Go.Sk.X
open Go Go.Sk
def strikeV (a b : List Int) : Int := match a.filter (fun x => !decide (x ∈ b)) with
  | [x] => if -x ∈ b then -x else 0
  | _ => 0
theorem idx_run (v : Int) : ∀ (xs : List Int) (j : Nat), ∃ n : Int, rangeF (fun (j104 : Nat) (x105 : Int) (s101 : Unit) k103 => (if (v == x105) = true then (some ((j104 : Nat) : Int)) else (k103 ()))) j xs () (fun (s101 : Unit) => (some (-1 : Int))) = some n ∧ (0 ≤ n ↔ v ∈ xs)
  | [], j => ⟨-1, rfl, by simp⟩
  | x :: xs, j => by
    rw [rangeF_cons]
    by_cases h : v = x
    · subst h
      exact ⟨(j : Int), by simp, by simp⟩
    · obtain ⟨n, h1, h2⟩ := idx_run v xs (j + 1)
      have h' : (v == x) = false := by simp [h]
      refine ⟨n, by simp only [h', Bool.false_eq_true, if_false]; exact h1, ?_⟩
      rw [h2]; simp [h]
theorem lhas_eq (l : List Int) (v : Int) : F_lits_Has l v = some (decide (v ∈ l)) := by
  unfold F_lits_Has F_slices_Contains_int_int F_slices_Index_int_int
  obtain ⟨n, h1, h2⟩ := idx_run v l 0
  rw [h1]
  simp only [Option.bind_some]
  congr 1
  rw [Bool.eq_iff_iff]
  simp only [decide_eq_true_eq, ge_iff_le]
  exact h2
def stW (b : List Int) : List Int → Int → Int
  | [], o => o
  | x :: xs, o => if x ∈ b then stW b xs o else if o = 0 ∧ -x ∈ b then stW b xs (-x) else 0
theorem lstrike_eq {a b : List Int} (ha : nrmB 0 a = true) (hb : nrmB 0 b = true) : F_lits_Strike a b = some (stW b a 0) := by
  unfold F_lits_Strike
  simp only [jn_eq, lmay_eq ha, lmay_eq hb, Option.bind_some, Bool.not_true, Bool.false_eq_true, if_false]
  refine rangeF_pre a (fun _ _ => True) (fun _ xs s => some (stW b xs s)) (fun s _ => rfl) ?_ a [] 0 rfl trivial
  intro pre x xs s kk hf hI hk
  have hx := nrm_lit ha (x := x) (by rw [hf]; simp)
  have hw : IntKind.wrap .i64 (0 - x) = -x := by rw [wrap_id (by omega) (by omega)]; omega
  simp only [lhas_eq, Option.bind_some, hw, stW, hk _ trivial]
  by_cases h1 : x ∈ b
  · simp [h1]
  · by_cases h2 : s = 0
    · subst h2
      by_cases h3 : -x ∈ b <;> simp [h1, h3]
    · have h2' : (s == 0) = false := by simp [h2]
      simp [h1, h2, h2']
theorem stW_spec (b : List Int) : ∀ (a : List Int) (o : Int), (∀ x ∈ a, x ≠ 0) → stW b a o = match a.filter (fun x => !decide (x ∈ b)) with
    | [] => o
    | [x] => if o = 0 ∧ -x ∈ b then -x else 0
    | _ => 0
  | [], o, _ => rfl
  | x :: a, o, h => by
    have hx := h x (by simp)
    have ih := fun o => stW_spec b a o (fun y hy => h y (by simp [hy]))
    simp only [stW, List.filter_cons]
    by_cases h1 : x ∈ b
    · simp only [h1, if_true, decide_true, Bool.not_true, Bool.false_eq_true, if_false]
      exact ih o
    · simp only [h1, if_false, decide_false, Bool.not_false, if_true]
      by_cases h2 : o = 0 ∧ -x ∈ b
      · rw [if_pos h2, ih (-x)]
        have hn : -x ≠ 0 := by omega
        cases hf : a.filter (fun x => !decide (x ∈ b)) with
        | nil => simp [h2]
        | cons y t =>
          cases t with
          | nil => simp [hx]
          | cons z t => rfl
      · rw [if_neg h2]
        cases hf : a.filter (fun x => !decide (x ∈ b)) with
        | nil => simp only [if_neg h2]
        | cons y t => rfl
theorem stW_eq {a b : List Int} (ha : nrmB 0 a = true) : stW b a 0 = strikeV a b := by
  rw [stW_spec b a 0 (fun x hx => (nrm_lit ha hx).1)]
  unfold strikeV
  cases hf : a.filter (fun x => !decide (x ∈ b)) with
  | nil => rfl
  | cons y t =>
    cases t with
    | nil => simp
    | cons z t => rfl
theorem rwithout_eq {a : List Int} (ha : nrmB 0 a = true) (la : a.length ≤ 4194304) (v : Int) : F_skolemref01_Without a v = some (a.filter fun x => decide (av x ≠ v)) := by
  unfold F_skolemref01_Without
  simp only [jn_eq, rmay1_eq ha la, Option.bind_some, Bool.not_true, Bool.false_eq_true, if_false]
  refine rangeF_pre a (fun pre s => s.length ≤ pre.length) (fun _ xs s => some (s ++ xs.filter fun x => decide (av x ≠ v))) (fun s _ => by simp) ?_ a [] [] rfl (by simp)
  intro pre x xs s kk hf hI hk
  have hlen : pre.length < a.length := by rw [hf]; simp
  have hx := nrm_lit ha (x := x) (by rw [hf]; simp)
  rw [rVar_eq hx.2.1 hx.2.2 hx.1]
  simp only [Option.bind_some, List.filter_cons]
  by_cases h : av x = v
  · have h' : (av x != v) = false := by simp [h]
    simp only [h', Bool.false_eq_true, if_false]
    rw [hk s (by simp; omega)]
    simp [h]
  · have h' : (av x != v) = true := by simp [h]
    simp only [h', if_true]
    rw [capN_eq (by simp; omega), hk _ (by simp; omega)]
    simp [h]
theorem rstrike_run {a b : List Int} (ha : nrmB 0 a = true) (hb : nrmB 0 b = true) (la : a.length ≤ 4194304) (lb : b.length ≤ 4194304) :
    F_skolemref01_Strike a b = some (((b.find? fun y => decide (-y ∈ a) && subB (a.filter fun x => decide (av x ≠ av y)) b)).getD 0) := by
  unfold F_skolemref01_Strike
  simp only [jn_eq, rmay1_eq ha la, rmay1_eq hb lb, Option.bind_some, Bool.not_true, Bool.false_eq_true, if_false]
  refine rangeF_pre b (fun _ _ => True) (fun _ xs _ => some (((xs.find? fun y => decide (-y ∈ a) && subB (a.filter fun x => decide (av x ≠ av y)) b)).getD 0)) (fun _ _ => rfl) ?_ b [] () rfl trivial
  intro pre y ys s kk hf hI hk
  have hy := nrm_lit hb (x := y) (by rw [hf]; simp)
  have hw : IntKind.wrap .i64 (0 - y) = -y := by rw [wrap_id (by omega) (by omega)]; omega
  have hfl : nrmB 0 (a.filter fun x => decide (av x ≠ av y)) = true := nrm_filter _ ha
  have hll : (a.filter fun x => decide (av x ≠ av y)).length ≤ 4194304 := Nat.le_trans (List.length_filter_le _ _) la
  simp only [hw, has1_eq, Option.bind_some, List.find?_cons, hk () trivial]
  by_cases h1 : -y ∈ a
  · simp only [h1, decide_true, if_true, rVar_eq hy.2.1 hy.2.2 hy.1, rwithout_eq ha la, rsub_eq hfl hb hll lb, Option.bind_some, Bool.true_and]
    cases subB (a.filter fun x => decide (av x ≠ av y)) b <;> simp
  · simp [h1]
theorem strike_find {a b : List Int} (ha : nrmB 0 a = true) (hb : nrmB 0 b = true) :
    ((b.find? fun y => decide (-y ∈ a) && subB (a.filter fun x => decide (av x ≠ av y)) b)).getD 0 = strikeV a b := by
  -- what is found tells what is left over
  have key : ∀ y ∈ b, (decide (-y ∈ a) && subB (a.filter fun x => decide (av x ≠ av y)) b) = true → a.filter (fun x => !decide (x ∈ b)) = [-y] := by
    intro y hy hp
    simp only [Bool.and_eq_true, decide_eq_true_eq, subB, List.all_eq_true, List.mem_filter] at hp
    obtain ⟨h1, h2⟩ := hp
    have hnb : -y ∉ b := nrm_neg hb hy
    refine nrm_ext (c := 0) (c' := 0) (nrm_filter _ ha) ?_ (fun x => ?_)
    · have := nrm_lit ha h1
      rw [nrm_cons]
      exact ⟨this.2.1, this.2.2, (nrm_mem ha _ h1).1, rfl⟩
    · simp only [List.mem_filter, Bool.not_eq_true', decide_eq_false_iff_not, List.mem_singleton]
      constructor
      · rintro ⟨hx, hxb⟩
        have he : av x = av y := Classical.byContradiction fun hc => hxb (by simpa using h2 x ⟨hx, hc⟩)
        exact nrm_two ha (by decide) hx h1 (by rw [he, av_neg])
      · rintro rfl
        exact ⟨h1, hnb⟩
  cases hf : b.find? (fun y => decide (-y ∈ a) && subB (a.filter fun x => decide (av x ≠ av y)) b) with
  | some y =>
    have hy := List.mem_of_find?_eq_some hf
    have hp := List.find?_some hf
    unfold strikeV
    rw [key y hy hp]
    simp [hy]
  | none =>
    rw [List.find?_eq_none] at hf
    unfold strikeV
    cases hm : a.filter (fun x => !decide (x ∈ b)) with
    | nil => rfl
    | cons x t =>
      cases t with
      | cons z t => rfl
      | nil =>
        by_cases hx : -x ∈ b
        · exfalso
          have hxa : x ∈ a := by
            have : x ∈ a.filter (fun x => !decide (x ∈ b)) := by rw [hm]; simp
            exact (List.mem_filter.1 this).1
          refine hf (-x) hx ?_
          simp only [Int.neg_neg, hxa, decide_true, Bool.true_and, subB, List.all_eq_true, List.mem_filter, decide_eq_true_eq]
          rintro z ⟨hz, hzn⟩
          refine Classical.byContradiction fun hc => ?_
          have : z ∈ a.filter (fun x => !decide (x ∈ b)) := List.mem_filter.2 ⟨hz, by simpa using hc⟩
          rw [hm] at this
          simp at this
          subst this
          rw [av_neg] at hzn
          exact hzn rfl
        · simp [hx]
theorem strikes {a b : List Int} (ha : nrmB 0 a = true) (hb : nrmB 0 b = true) (la : a.length ≤ 4194304) (lb : b.length ≤ 4194304) : F_lits_Strike a b = some (strikeV a b) ∧ F_skolemref01_Strike a b = some (strikeV a b) :=
  ⟨by rw [lstrike_eq ha hb, stW_eq ha], by rw [rstrike_run ha hb la lb, strike_find ha hb]⟩
end Go.Sk.X
namespace Go.Sk.X
open Go Go.Sk
theorem mget_foldV2 : ∀ (es : List S_api_Dep) (m : List (Int × List Int)) (k : Int), (es.map (·.Var)).Nodup →
    mget (es.foldl (fun m e => mset m e.Var e.On) m) k = match es.find? (fun e => decide (e.Var = k)) with | some e => some e.On | none => mget m k
  | [], m, k, _ => rfl
  | e :: es, m, k, h => by
    rw [List.map_cons, List.nodup_cons] at h
    rw [List.foldl_cons, mget_foldV2 es _ k h.2, List.find?_cons]
    by_cases hk : e.Var = k
    · simp only [hk, decide_true]
      cases hf : es.find? (fun e => decide (e.Var = k)) with
      | none => simp only [mget_mset, if_true]
      | some e2 =>
        have h1 := List.mem_of_find?_eq_some hf
        have h2 := List.find?_some hf
        simp only [decide_eq_true_eq] at h2
        exact absurd (List.mem_map.2 ⟨e2, h1, h2.trans hk.symm⟩) h.1
    · simp only [hk, decide_false]
      cases hf : es.find? (fun e => decide (e.Var = k)) with
      | none => simp only [mget_mset]; rw [if_neg (fun e => hk e.symm)]
      | some e2 => rfl
def onD (d : S_api_Dqbf) (v : Int) : List Int := match d.Exist.find? (fun e => decide (e.Var = v)) with | some e => e.On | none => []
theorem ron_eq (d : S_api_Dqbf) (v : Int) : F_skolemref13_On d v = some (onD d v) := by
  refine rangeF_eq (fun _ xs _ => some (match xs.find? (fun e => decide (e.Var = v)) with | some e => e.On | none => [])) (fun _ _ => rfl) ?_ d.Exist 0 ()
  intro j x xs s kk hk
  simp only [List.find?_cons]
  by_cases h : x.Var = v
  · simp [h]
  · have h' : (x.Var == v) = false := by simp [h]
    simp only [h', h, Bool.false_eq_true, if_false, decide_false, hk]
theorem rex_eq (d : S_api_Dqbf) (v : Int) : F_skolemref13_Existential d v = some (decide (v ∈ varsD d)) := by
  unfold F_skolemref13_Existential
  refine rangeF_eq (k := fun (s102 : Unit) => (some false : Option Bool)) (fun _ (xs : List S_api_Dep) _ => some (decide (v ∈ xs.map (·.Var)))) (fun _ _ => by simp) ?_ d.Exist 0 ()
  intro j x xs s kk hk
  by_cases h : x.Var = v
  · subst h; simp
  · have h' : (x.Var == v) = false := by simp [h]
    have h2 : ¬ v = x.Var := fun e => h e.symm
    simp [h', hk, h2]
theorem run_eq (d : S_api_Dqbf) (v : Int) : F_skolemref13_Universal d v = some (decide (v ∈ d.Univ)) := by
  unfold F_skolemref13_Universal; rw [has1_eq]; rfl
theorem rnowhere_eq (d : S_api_Dqbf) (v : Int) : F_skolemref13_nowhere d v = some (d.Clauses.all fun c => !decide (v ∈ c)) := by
  refine rangeF_eq (fun _ xs _ => some (xs.all fun c => !decide (v ∈ c))) (fun _ _ => rfl) ?_ d.Clauses 0 ()
  intro j x xs s kk hk
  simp only [has1_eq, Option.bind_some, List.all_cons]
  by_cases h : v ∈ x <;> simp [h, hk]
theorem rfree_eq {d : S_api_Dqbf} {c : List Int} (hc : nrmB 0 c = true) (u : Int) : F_skolemref13_free d c u = some (c.all fun x => !decide (u ∈ onD d (av x))) := by
  refine rangeF_pre c (fun _ _ => True) (fun _ xs _ => some (xs.all fun x => !decide (u ∈ onD d (av x)))) (fun _ _ => rfl) ?_ c [] () rfl trivial
  intro pre x xs s kk hf hI hk
  have hx := nrm_lit hc (x := x) (by rw [hf]; simp)
  simp only [rVar_eq hx.2.1 hx.2.2 hx.1, ron_eq, has1_eq, Option.bind_some, List.all_cons]
  by_cases h : u ∈ onD d (av x) <;> simp [h, hk () trivial]
theorem on_map {d : S_api_Dqbf} (h : May d) (v : Int) : (mget (d.Exist.foldl (fun m e => mset m e.Var e.On) ([] : List (Int × List Int))) v).getD [] = onD d v := by
  rw [mget_foldV2 _ _ _ (rsB_nodup h.rv)]
  unfold onD
  cases d.Exist.find? (fun e => decide (e.Var = v)) <;> rfl
theorem on_rs {d : S_api_Dqbf} (h : May d) (v : Int) : rsB 0 (onD d v) = true ∧ ∀ x ∈ onD d v, x ∈ d.Univ := by
  unfold onD
  cases hf : d.Exist.find? (fun e => decide (e.Var = v)) with
  | none => exact ⟨rfl, by simp⟩
  | some e => exact h.on e (List.mem_of_find?_eq_some hf)
theorem on_len {d : S_api_Dqbf} (h : Sm d) (v : Int) : (onD d v).length ≤ 2097152 := by
  unfold onD
  cases hf : d.Exist.find? (fun e => decide (e.Var = v)) with
  | none => simp
  | some e => exact h.onE (List.mem_of_find?_eq_some hf)
def cntL (x : Int) (l : List Int) : Nat := (l.filter fun y => decide (y = x)).length
theorem cnt_app (x : Int) (a b : List Int) : cntL x (a ++ b) = cntL x a + cntL x b := by simp [cntL]
theorem cnt_le (x : Int) (a : List Int) : cntL x a ≤ a.length := List.length_filter_le _ _
theorem cnt_zero (x : Int) (a : List Int) : cntL x a = 0 ↔ x ∉ a := by
  unfold cntL
  rw [List.length_eq_zero_iff, List.filter_eq_nil_iff]
  constructor
  · intro h hm; exact h x hm (by simp)
  · intro h y hy; simp; rintro rfl; exact h hy
def timesM (cs : List (List Int)) (m : List (Int × Int)) : Prop := ∀ x, (mget m x).getD 0 = (cntL x cs.flatten : Int)
theorem times_in (K : List (Int × Int) → Option (S_api_Change × Bool)) (P : List (Int × Int) → Prop) (w : Option (S_api_Change × Bool)) : ∀ (c pre : List Int) (j : Nat) (s : List (Int × Int)), (pre ++ c).length ≤ 4194304 → (∀ x, (mget s x).getD 0 = (cntL x pre : Int)) →
    (∀ s', (∀ x, (mget s' x).getD 0 = (cntL x (pre ++ c) : Int)) → K s' = w) →
    rangeF (fun (j161 : Nat) (x162 : Int) (s158 : (List (Int × Int))) k160 => (k160 (mset s158 x162 (IntKind.wrap .i64 (((mget s158 x162).getD (0 : Int)) + (1 : Int)))))) j c s K = w
  | [], pre, j, s, hl, hs, hK => by rw [List.append_nil] at hK; exact hK s hs
  | x :: c, pre, j, s, hl, hs, hK => by
    rw [rangeF_cons]
    have hcl := cnt_le x pre
    simp only [List.length_append, List.length_cons] at hl
    refine times_in K P w c (pre ++ [x]) (j + 1) _ (by simp; omega) (fun y => ?_) (fun s' h' => hK s' (fun y => by rw [h' y]; simp))
    rw [mget_mset, cnt_app]
    by_cases e : y = x
    · subst e
      rw [if_pos rfl, hs y]
      have : cntL y [y] = 1 := by simp [cntL]
      rw [this, Option.getD_some, wrap_id (by omega) (by omega)]; omega
    · rw [if_neg e, hs y]
      have : cntL y [x] = 0 := (cnt_zero _ _).2 (by simp [e])
      rw [this]; omega
theorem times_out (K : List (Int × Int) → Option (S_api_Change × Bool)) (w : Option (S_api_Change × Bool)) (cs : List (List Int)) (hl : tot cs ≤ 4194304) (hK : ∀ m, timesM cs m → K m = w) :
    (rangeF (fun (j146 : Nat) (x147 : (List Int)) (s143 : (List (Int × Int))) k145 => (rangeF (fun (j161 : Nat) (x162 : Int) (s158 : (List (Int × Int))) k160 => (k160 (mset s158 x162 (IntKind.wrap .i64 (((mget s158 x162).getD (0 : Int)) + (1 : Int)))))) 0 x147 s143 (fun (s158 : (List (Int × Int))) => (k145 s158)))) 0 cs ([] : List (Int × Int)) K) = w := by
  refine rangeF_pre cs (fun pre s => timesM pre s) (fun _ _ _ => w) (fun s hs => hK s hs) ?_ cs [] [] rfl (fun x => by simp [mget, cntL])
  intro pre x xs s kk hf hI hk
  have ht : tot pre + x.length ≤ tot cs := by rw [hf, tot_app, tot_cons]; omega
  have hfl : pre.flatten.length = tot pre := by simp [tot, List.length_flatten]
  refine times_in _ (fun _ => True) w x pre.flatten 0 s (by simp only [List.length_append]; omega) hI (fun s' h' => hk s' (fun y => ?_))
  rw [h' y]; simp
theorem times_zero {cs : List (List Int)} {m : List (Int × Int)} (h : timesM cs m) (v : Int) : ((mget m v).getD 0 == 0) = cs.all fun c => !decide (v ∈ c) := by
  rw [h v, Bool.eq_iff_iff]
  simp only [beq_iff_eq, List.all_eq_true, Bool.not_eq_true', decide_eq_false_iff_not]
  constructor
  · intro h0 c hc hm
    exact (cnt_zero v cs.flatten).1 (by omega) (List.mem_flatten.2 ⟨c, hc, hm⟩)
  · intro h0
    have := (cnt_zero v cs.flatten).2 (fun hm => by
      obtain ⟨c, hc, hv⟩ := List.mem_flatten.1 hm
      exact h0 c hc hv)
    omega
theorem rsB_get : ∀ {l : List Int} {c : Int}, rsB c l = true → ∀ (i j : Nat) (x y : Int), l[i]? = some x → l[j]? = some y → i < j → x < y
  | [], _, _, i, j, x, y, hi, _, _ => by simp at hi
  | z :: l, c, h, i, j, x, y, hi, hj, hij => by
    obtain ⟨h1, h2, h3⟩ := rsB_cons.1 h
    obtain ⟨j, rfl⟩ : ∃ k, j = k + 1 := ⟨j - 1, by omega⟩
    rw [List.getElem?_cons_succ] at hj
    cases i with
    | zero =>
      simp only [List.getElem?_cons_zero, Option.some.injEq] at hi
      subst hi
      exact (rsB_mem h3 y (List.mem_of_getElem? hj)).1
    | succ i =>
      rw [List.getElem?_cons_succ] at hi
      exact rsB_get h3 i j x y hi hj (by omega)
theorem less_eq (x y : Int) : F_cmp_Less_int x y = some (decide (x < y)) := by
  unfold F_cmp_Less_int F_cmp_isNaN_int
  simp
theorem bin_eq {l : List Int} (h : rsB 0 l = true) (hl : l.length ≤ 4194304) (v : Int) : ∃ i, F_slices_BinarySearch_int_int l v = some (i, decide (v ∈ l)) := by
  unfold F_slices_BinarySearch_int_int
  have := whileF_ex (Post := fun r : Int × Bool => r.2 = decide (v ∈ l)) (b := (fun k103 (s101 : (Int × Int)) => (if (decide (s101.1 < s101.2)) = true then (okI (0 ≤ (1 : Int)) (getI l (IntKind.wrap .i64 (Int.fdiv (IntKind.wrap .u64 (IntKind.wrap .i64 (s101.1 + s101.2))) (2 ^ (min (1 : Int).toNat (IntKind.bits .u64))))) (fun x142 => ((F_cmp_Less_int x142 v).bind (fun y143 => (if y143 = true then (k103 ((IntKind.wrap .i64 ((IntKind.wrap .i64 (Int.fdiv (IntKind.wrap .u64 (IntKind.wrap .i64 (s101.1 + s101.2))) (2 ^ (min (1 : Int).toNat (IntKind.bits .u64))))) + (1 : Int))), s101.2)) else (k103 (s101.1, (IntKind.wrap .i64 (Int.fdiv (IntKind.wrap .u64 (IntKind.wrap .i64 (s101.1 + s101.2))) (2 ^ (min (1 : Int).toNat (IntKind.bits .u64))))))))))))) else (if (decide (s101.1 < ((l.length : Nat) : Int))) = true then (getI l s101.1 (fun x152 => (if (x152 == v) = true then (some (s101.1, true)) else ((F_slices_isNaN_int x152).bind (fun y154 => (if y154 = true then ((F_slices_isNaN_int v).bind (fun y156 => (some (s101.1, y156)))) else (some (s101.1, false)))))))) else (some (s101.1, false))))))
    (fun s => (s.2 - s.1).toNat) (fun s => ∃ i j : Nat, s = ((i : Int), (j : Int)) ∧ i ≤ j ∧ j ≤ l.length ∧ (∀ k x, k < i → l[k]? = some x → x < v) ∧ (∀ k x, j ≤ k → l[k]? = some x → v ≤ x)) ?_ 1000000000000 (0, (l.length : Int)) ?_ (by simp; omega)
  · obtain ⟨⟨i, b⟩, h1, h2⟩ := this
    simp only [] at h2
    subst h2
    exact ⟨i, h1⟩
  · rintro s k ⟨i, j, rfl, hij, hj, hlo, hhi⟩ hs
    simp only []
    by_cases hlt : i < j
    · have hlt' : ((i : Nat) : Int) < ((j : Nat) : Int) := by omega
      obtain ⟨m, hm⟩ : ∃ m : Nat, m = (i + j) / 2 := ⟨_, rfl⟩
      have hmj : m < l.length := by omega
      have e1 : (2 : Int) ^ (min (1 : Int).toNat (IntKind.bits .u64)) = 2 := rfl
      have ew : IntKind.wrap .i64 (Int.fdiv (IntKind.wrap .u64 (IntKind.wrap .i64 (((i : Nat) : Int) + ((j : Nat) : Int)))) 2) = ((m : Nat) : Int) := by
        rw [wrap_id (n := ((i : Nat) : Int) + ((j : Nat) : Int)) (by omega) (by omega), wrapu, Int.fdiv_eq_ediv_of_nonneg _ (by decide)]
        have : (((i : Nat) : Int) + ((j : Nat) : Int)) % 18446744073709551616 = ((i : Nat) : Int) + ((j : Nat) : Int) := by omega
        rw [this, wrap_id (by omega) (by omega)]; omega
      have hw : IntKind.wrap .i64 (((m : Nat) : Int) + 1) = ((m + 1 : Nat) : Int) := by rw [wrap_id (by omega) (by omega)]; omega
      simp only [hlt', decide_true, if_true, e1, ew, getI_nat, List.getElem?_eq_getElem hmj, less_eq, Option.bind_some, hw]
      rw [okI_eq (by decide)]
      by_cases hx : l[m] < v
      · simp only [hx, decide_true, if_true]
        refine hs _ ⟨m + 1, j, rfl, by omega, hj, fun k x hk hg => ?_, hhi⟩ (by simp only []; omega)
        by_cases e : k = m
        · subst e; rw [List.getElem?_eq_getElem hmj] at hg; injection hg with hg; omega
        · have := rsB_get h k m x l[m] hg (List.getElem?_eq_getElem hmj) (by omega); omega
      · simp only [hx, decide_false, Bool.false_eq_true, if_false]
        refine hs _ ⟨i, m, rfl, by omega, by omega, hlo, fun k x hk hg => ?_⟩ (by simp only []; omega)
        by_cases e : k = m
        · subst e; rw [List.getElem?_eq_getElem hmj] at hg; injection hg with hg; omega
        · have := rsB_get h m k l[m] x (List.getElem?_eq_getElem hmj) hg (by omega); omega
    · have hij2 : i = j := by omega
      subst hij2
      have hlt' : ¬ ((i : Nat) : Int) < ((i : Nat) : Int) := by omega
      simp only [hlt', decide_false, Bool.false_eq_true, if_false]
      have hnot : ∀ k x, l[k]? = some x → x = v → k = i := fun k x hg e => by
        subst e
        rcases Nat.lt_trichotomy k i with h1 | h1 | h1
        · have := hlo k x h1 hg; omega
        · exact h1
        · have hil : i < l.length := by have := (List.getElem?_eq_some_iff.1 hg).1; omega
          have h2 := hhi i l[i] (Nat.le_refl i) (List.getElem?_eq_getElem hil)
          have h3 := rsB_get h i k l[i] x (List.getElem?_eq_getElem hil) hg h1
          omega
      by_cases hil : i < l.length
      · have hil' : ((i : Nat) : Int) < ((l.length : Nat) : Int) := by omega
        simp only [hil', decide_true, if_true, getI_nat, List.getElem?_eq_getElem hil]
        by_cases he : l[i] = v
        · have he' : (l[i] == v) = true := by simp [he]
          rw [if_pos he']
          refine ⟨_, rfl, ?_⟩
          have : v ∈ l := he ▸ List.getElem_mem hil
          simp [this]
        · have he' : (l[i] == v) = false := by simp [he]
          have hv : v ∉ l := fun hm => by
            obtain ⟨k, hk⟩ := List.mem_iff_getElem?.1 hm
            have := hnot k v hk rfl
            subst this
            rw [List.getElem?_eq_getElem hil] at hk
            injection hk with hk
            exact he hk
          simp only [he', Bool.false_eq_true, if_false, F_slices_isNaN_int, Option.bind_some, bne_self_eq_false]
          exact ⟨_, rfl, by simp [hv]⟩
      · have hil' : ¬ ((i : Nat) : Int) < ((l.length : Nat) : Int) := by omega
        have hv : v ∉ l := fun hm => by
          obtain ⟨k, hk⟩ := List.mem_iff_getElem?.1 hm
          have := hnot k v hk rfl
          have := (List.getElem?_eq_some_iff.1 hk).1
          omega
        simp only [hil', decide_false, Bool.false_eq_true, if_false]
        exact ⟨_, rfl, by simp [hv]⟩
  · exact ⟨0, l.length, rfl, Nat.zero_le _, Nat.le_refl _, fun k x hk _ => absurd hk (Nat.not_lt_zero k), fun k x hk hg => by
      have := (List.getElem?_eq_some_iff.1 hg).1; omega⟩
end Go.Sk.X
namespace Go.Sk.X
open Go Go.Sk
def sgN : List Int → Nat → Nat
  | [], n => n
  | x :: xs, n => sgN xs (n ||| 2 ^ ((av x).toNat % 64))
theorem sgN_bit : ∀ (c : List Int) (n i : Nat), (sgN c n).testBit i = (n.testBit i || c.any fun x => decide ((av x).toNat % 64 = i))
  | [], n, i => by simp [sgN]
  | x :: c, n, i => by
    rw [sgN, sgN_bit c, Nat.testBit_or, Nat.testBit_two_pow, List.any_cons, Bool.or_assoc]
theorem sgN_lt : ∀ (c : List Int) (n : Nat), n < 18446744073709551616 → sgN c n < 18446744073709551616
  | [], n, h => h
  | x :: c, n, h => by
    rw [sgN]
    refine sgN_lt c _ ?_
    have : (18446744073709551616 : Nat) = 2 ^ 64 := rfl
    rw [this] at h ⊢
    exact Nat.or_lt_two_pow h (Nat.pow_lt_pow_right (by decide) (Nat.mod_lt _ (by decide)))
theorem nat_mod (w : Nat) (h : w < 18446744073709551616) : ((w : Nat) : Int) % 18446744073709551616 = w := by omega
theorem sign_run : ∀ (c : List Int) (j n : Nat), (∀ x ∈ c, -65536 ≤ x ∧ x ≤ 65536) → n < 18446744073709551616 →
    rangeF (fun (j104 : Nat) (x105 : Int) (s101 : Int) k103 => ((F_lits_Var x105).bind (fun y110 => (okI (0 ≤ (IntKind.wrap .i64 ((BitVec.ofInt (IntKind.bits .i64) y110 &&& BitVec.ofInt (IntKind.bits .i64) (63 : Int)).toNat : Int))) (k103 (IntKind.wrap .u64 ((BitVec.ofInt (IntKind.bits .u64) s101 ||| BitVec.ofInt (IntKind.bits .u64) (IntKind.wrap .u64 ((1 : Int) * 2 ^ (min (IntKind.wrap .i64 ((BitVec.ofInt (IntKind.bits .i64) y110 &&& BitVec.ofInt (IntKind.bits .i64) (63 : Int)).toNat : Int)).toNat (IntKind.bits .u64))))).toNat : Int))))))) j c (n : Int) (fun (s101 : Int) => (some s101)) = some ((sgN c n : Nat) : Int)
  | [], j, n, _, _ => rfl
  | x :: c, j, n, h, hn => by
    have hx := h x (by simp)
    have hv := av_nonneg x
    have hv2 : av x ≤ 65536 := by unfold av; split <;> omega
    rw [rangeF_cons, litsVar_eq hx.1 hx.2]
    obtain ⟨v, hvn⟩ : ∃ v : Nat, av x = v := ⟨(av x).toNat, by omega⟩
    have e63 : (BitVec.ofInt (IntKind.bits .i64) (av x) &&& BitVec.ofInt (IntKind.bits .i64) (63 : Int)).toNat = v % 64 := by
      have e2 : IntKind.bits .i64 = 64 := rfl
      rw [e2, BitVec.toNat_and]
      have e3 : (BitVec.ofInt 64 63).toNat = 2 ^ 6 - 1 := by decide
      rw [e3, Nat.and_two_pow_sub_one_eq_mod, BitVec.toNat_ofInt, hvn]
      omega
    have e64 : IntKind.wrap .i64 (((BitVec.ofInt (IntKind.bits .i64) (av x) &&& BitVec.ofInt (IntKind.bits .i64) (63 : Int)).toNat : Nat) : Int) = ((v % 64 : Nat) : Int) := by
      rw [e63, wrap_id (by omega) (by omega)]
    have hp : 2 ^ (v % 64) < 18446744073709551616 := by
      have : (18446744073709551616 : Nat) = 2 ^ 64 := rfl
      rw [this]
      exact Nat.pow_lt_pow_right (by decide) (Nat.mod_lt _ (by decide))
    have hor : n ||| 2 ^ (v % 64) < 18446744073709551616 := by
      have : (18446744073709551616 : Nat) = 2 ^ 64 := rfl
      rw [this] at hn hp ⊢
      exact Nat.or_lt_two_pow hn hp
    have em : min (((v % 64 : Nat) : Int)).toNat (IntKind.bits .u64) = v % 64 := by
      have : IntKind.bits .u64 = 64 := rfl
      rw [this]; omega
    have e1 : IntKind.wrap .u64 ((1 : Int) * 2 ^ (v % 64)) = ((2 ^ (v % 64) : Nat) : Int) := by
      rw [wrapu, Int.one_mul]
      have : (2 : Int) ^ (v % 64) = ((2 ^ (v % 64) : Nat) : Int) := by simp
      rw [this, nat_mod _ hp]
    have e5 : IntKind.wrap .u64 (((BitVec.ofInt (IntKind.bits .u64) (n : Int) ||| BitVec.ofInt (IntKind.bits .u64) ((2 ^ (v % 64) : Nat) : Int)).toNat : Nat) : Int) = ((n ||| 2 ^ (v % 64) : Nat) : Int) := by
      have e2 : IntKind.bits .u64 = 64 := rfl
      rw [e2, BitVec.toNat_or, BitVec.toNat_ofInt, BitVec.toNat_ofInt, wrapu]
      have g1 : ((n : Int) % ((2 ^ 64 : Nat) : Int)).toNat = n := by
        have : ((2 ^ 64 : Nat) : Int) = 18446744073709551616 := rfl
        rw [this]; omega
      have g2 : (((2 ^ (v % 64) : Nat) : Int) % ((2 ^ 64 : Nat) : Int)).toNat = 2 ^ (v % 64) := by
        have : ((2 ^ 64 : Nat) : Int) = 18446744073709551616 := rfl
        rw [this, nat_mod _ hp]; rfl
      rw [g1, g2, nat_mod _ hor]
    have ih := sign_run c (j + 1) (n ||| 2 ^ (v % 64)) (fun y hy => h y (by simp [hy])) hor
    simp only [Option.bind_some, e64]
    rw [okI_eq (by omega), em, e1, e5, ih, sgN, hvn]
    rfl
theorem sign_eq {c : List Int} (h : nrmB 0 c = true) : F_clean_sign c = some ((sgN c 0 : Nat) : Int) :=
  sign_run c 0 0 (fun x hx => (nrm_lit h hx).2) (by decide)
theorem sign_pass {a b : List Int} (h : ∀ x ∈ a, ∃ y ∈ b, av y = av x) :
    (IntKind.wrap .u64 ((BitVec.ofInt (IntKind.bits .u64) ((sgN a 0 : Nat) : Int) &&& ~~~ BitVec.ofInt (IntKind.bits .u64) ((sgN b 0 : Nat) : Int)).toNat : Int)) = 0 := by
  have e2 : IntKind.bits .u64 = 64 := rfl
  have ha := sgN_lt a 0 (by decide)
  have hb := sgN_lt b 0 (by decide)
  rw [e2]
  have : (BitVec.ofInt 64 ((sgN a 0 : Nat) : Int) &&& ~~~ BitVec.ofInt 64 ((sgN b 0 : Nat) : Int)) = 0#64 := by
    apply BitVec.eq_of_getLsbD_eq
    intro i hi
    rw [BitVec.getLsbD_and, BitVec.getLsbD_not]
    have g : ∀ n : Nat, n < 18446744073709551616 → (BitVec.ofInt 64 (n : Int)).getLsbD i = n.testBit i := fun n hn => by
      rw [← BitVec.testBit_toNat, BitVec.toNat_ofInt]
      have : ((n : Int) % ((2 ^ 64 : Nat) : Int)).toNat = n := by
        have : ((2 ^ 64 : Nat) : Int) = 18446744073709551616 := rfl
        rw [this]; omega
      rw [this]
    rw [g _ ha, g _ hb, sgN_bit, sgN_bit]
    simp only [Nat.zero_testBit, Bool.false_or, BitVec.getLsbD_zero, hi, decide_true, Bool.true_and]
    by_cases hx : (a.any fun x => decide ((av x).toNat % 64 = i)) = true
    · obtain ⟨x, hxa, hxi⟩ := List.any_eq_true.1 hx
      obtain ⟨y, hy, hyx⟩ := h x hxa
      have : (b.any fun x => decide ((av x).toNat % 64 = i)) = true := List.any_eq_true.2 ⟨y, hy, by rw [hyx]; exact hxi⟩
      rw [this]; simp
    · rw [Bool.eq_false_iff.2 hx]; simp
  rw [this]
  rfl
theorem nodup_len : ∀ {l m : List Int}, l.Nodup → (∀ x ∈ l, x ∈ m) → l.length ≤ m.length
  | [], m, _, _ => Nat.zero_le _
  | x :: l, m, h, hm => by
    rw [List.nodup_cons] at h
    obtain ⟨a, b, rfl⟩ := List.append_of_mem (hm x (by simp))
    have := nodup_len (l := l) (m := a ++ b) h.2 (fun y hy => by
      have := hm y (by simp [hy])
      simp only [List.mem_append, List.mem_cons] at this ⊢
      rcases this with h1 | h1 | h1
      · exact .inl h1
      · subst h1; exact absurd hy h.1
      · exact .inr h1)
    simp only [List.length_append, List.length_cons] at this ⊢
    omega
theorem nrm_nodup : ∀ {l : List Int} {c : Int}, nrmB c l = true → (l.map av).Nodup
  | [], _, _ => List.nodup_nil
  | x :: l, c, h => by
    rw [nrm_cons] at h
    rw [List.map_cons, List.nodup_cons]
    refine ⟨fun hm => ?_, nrm_nodup h.2.2.2⟩
    obtain ⟨y, hy, e⟩ := List.mem_map.1 hm
    have := (nrm_mem h.2.2.2 y hy).1
    omega
theorem vars_len {a b : List Int} (ha : nrmB 0 a = true) (h : ∀ x ∈ a, ∃ y ∈ b, av y = av x) : a.length ≤ b.length := by
  have := nodup_len (nrm_nodup ha) (m := b.map av) (fun v hv => by
    obtain ⟨x, hx, rfl⟩ := List.mem_map.1 hv
    obtain ⟨y, hy, e⟩ := h x hx
    exact e ▸ List.mem_map_of_mem hy)
  simpa using this
theorem sub_vars {a b : List Int} (h : subB a b = true) : ∀ x ∈ a, ∃ y ∈ b, av y = av x := fun x hx => by
  have := List.all_eq_true.1 h x hx
  exact ⟨x, by simpa using this, rfl⟩
theorem strike_vars {a b : List Int} (h : strikeV a b ≠ 0) : ∀ x ∈ a, ∃ y ∈ b, av y = av x := fun x hx => by
  by_cases hxb : x ∈ b
  · exact ⟨x, hxb, rfl⟩
  · have hm : x ∈ a.filter (fun x => !decide (x ∈ b)) := List.mem_filter.2 ⟨hx, by simp [hxb]⟩
    unfold strikeV at h
    cases hf : a.filter (fun x => !decide (x ∈ b)) with
    | nil => rw [hf] at hm; simp at hm
    | cons z t =>
      rw [hf] at h hm
      cases t with
      | cons _ _ => simp at h
      | nil =>
        simp only [List.mem_singleton] at hm
        subst hm
        by_cases hz : -x ∈ b
        · exact ⟨-x, hz, av_neg x⟩
        · simp [hz] at h
end Go.Sk.X
namespace Go.Sk.X
open Go Go.Sk
def St1 (a0 : S_api_Dqbf) (a1 : List Int) (s133 : List (Int × Bool)) (s138 : List (Int × List Int)) (s143 : List (Int × Int)) (k25125 : (Int × Int × Int × Int × Bool) → Option (S_api_Change × Bool)) (k25199 : Unit → Option (S_api_Change × Bool)) : Option (S_api_Change × Bool) :=
  (jn (fun (s50030 : Bool) => (if s50030 = true then (k25199 ()) else (rangeF (fun (j50038 : Nat) (x50039 : (List Int)) (s50035 : Unit) k50037 => (jn (fun (s50077 : Unit) => (k50037 ())) (fun k50079 => (if (((x50039.length : Nat) : Int) == (1 : Int)) = true then (getI x50039 (0 : Int) (fun x50081 => ((F_lits_Var x50081).bind (fun y50082 => (if (mget s138 y50082).isSome = true then (k25125 ((1 : Int), x50081, ((j50038 : Nat) : Int), (0 : Int), true)) else (k50079 ())))))) else (k50079 ()))))) 0 a0.Clauses () (fun (s50035 : Unit) => (k25199 ()))))) (fun k50032 => (if (decide (((a1.length : Nat) : Int) > (0 : Int))) = true then ((F_slices_Contains_api_ChangeKind_api_ChangeKind a1 (1 : Int)).bind (fun y50085 => (k50032 (!y50085)))) else (k50032 false))))
def St3 (a0 : S_api_Dqbf) (a1 : List Int) (s133 : List (Int × Bool)) (s138 : List (Int × List Int)) (s143 : List (Int × Int)) (k25125 : (Int × Int × Int × Int × Bool) → Option (S_api_Change × Bool)) (k36338 : Unit → Option (S_api_Change × Bool)) : Option (S_api_Change × Bool) :=
  (jn (fun (s38894 : Bool) => (if s38894 = true then (k36338 ()) else (rangeF (fun (j38902 : Nat) (x38903 : (List Int)) (s38899 : Unit) k38901 => (rangeF (fun (j44464 : Nat) (x44465 : Int) (s44461 : Unit) k44463 => (jn (fun (s49669 : Bool) => (if s49669 = true then (k25125 ((3 : Int), x44465, ((j38902 : Nat) : Int), (0 : Int), true)) else (k44463 ()))) (fun k49671 => ((F_lits_Var x44465).bind (fun y49673 => (if ((mget s133 y49673).getD false) = true then (Option.bind (jn (fun (s49974 : Int) => (some (decide (s49974 ≥ (0 : Int))))) (fun k49976 => (rangeF (fun (j49980 : Nat) (x49981 : Int) (s49977 : Unit) k49979 => ((F_lits_Var x49981).bind (fun y50015 => ((F_slices_BinarySearch_int_int ((mget s138 y50015).getD ([] : List Int)) y49673).bind (fun y50016 => (if y50016.2 = true then (k49976 ((j49980 : Nat) : Int)) else (k49979 ()))))))) 0 x38903 () (fun (s49977 : Unit) => (k49976 (-1 : Int)))))) (fun (y49932 : Bool) => (k49671 (!y49932)))) else (k49671 false))))))) 0 x38903 () (fun (s44461 : Unit) => (k38901 ())))) 0 a0.Clauses () (fun (s38899 : Unit) => (k36338 ()))))) (fun k38896 => (if (decide (((a1.length : Nat) : Int) > (0 : Int))) = true then ((F_slices_Contains_api_ChangeKind_api_ChangeKind a1 (3 : Int)).bind (fun y50019 => (k38896 (!y50019)))) else (k38896 false))))
def St2 (a0 : S_api_Dqbf) (a1 : List Int) (s133 : List (Int × Bool)) (s138 : List (Int × List Int)) (s143 : List (Int × Int)) (k25125 : (Int × Int × Int × Int × Bool) → Option (S_api_Change × Bool)) (k36453 : ((List Int) × (List Int)) → Option (S_api_Change × Bool)) : Option (S_api_Change × Bool) :=
  (jn (fun (s38782 : Bool) => (if s38782 = true then (k36453 (a0.Univ, a0.Univ)) else (jn (fun (s38811 : ((List Int) × (List Int) × (List Int))) => (rangeF (fun (j38817 : Nat) (x38818 : S_api_Dep) (s38814 : (List Int)) k38816 => (capN (s38814.length + [x38818.Var].length) (k38816 (s38814 ++ [x38818.Var])))) 0 a0.Exist s38811.2.2 (fun (s38814 : (List Int)) => (okI (s38814.length ≤ 1099511627776) (rangeF (fun (j38826 : Nat) (x38827 : Int) (s38823 : Unit) k38825 => (okI (-9223372036854775808 ≤ (0 : Int) ∧ ((2 : Nat) : Int) ≤ 9223372036854775807) (upF (fun (j38856 : Int) (s38853 : Unit) k38855 => (getI [x38827, (IntKind.wrap .i64 (0 - x38827))] j38856 (fun x38875 => (if (((mget s143 (IntKind.wrap .i64 (0 - x38875))).getD (0 : Int)) == (0 : Int)) = true then (k25125 ((2 : Int), x38875, (0 : Int), (0 : Int), true)) else (k38855 ()))))) ((((2 : Nat) : Int) - (0 : Int)).toNat) (0 : Int) () (fun (s38853 : Unit) => (k38825 ()))))) 0 (srt s38814) () (fun (s38823 : Unit) => (k36453 (s38811.1, s38811.2.1)))))))) (fun k38813 => (if a0.Univ.isEmpty = true then (k38813 (([] : List Int), ([] : List Int), ([] : List Int))) else (capN (([] : List Int).length + a0.Univ.length) (k38813 (a0.Univ, a0.Univ, (([] : List Int) ++ a0.Univ))))))))) (fun k38784 => (if (decide (((a1.length : Nat) : Int) > (0 : Int))) = true then ((F_slices_Contains_api_ChangeKind_api_ChangeKind a1 (2 : Int)).bind (fun y38883 => (k38784 (!y38883)))) else (k38784 false))))
def St4 (a0 : S_api_Dqbf) (a1 : List Int) (s133 : List (Int × Bool)) (s138 : List (Int × List Int)) (s143 : List (Int × Int)) (k25125 : (Int × Int × Int × Int × Bool) → Option (S_api_Change × Bool)) (k37034 : Unit → Option (S_api_Change × Bool)) : Option (S_api_Change × Bool) :=
  (jn (fun (s38204 : Bool) => (if s38204 = true then (k37034 ()) else (jn (fun (s38488 : (Int × Int)) => (k25125 ((4 : Int), (0 : Int), s38488.1, s38488.2, true))) (fun k38490 => (okI (a0.Clauses.length ≤ 1099511627776) (rangeF (fun (j38495 : Nat) (x38496 : (List Int)) (s38492 : (List Int)) k38494 => ((F_clean_sign x38496).bind (fun y38501 => (getI s38492 ((j38495 : Nat) : Int) (fun x38502 => (k38494 (s38492.set (((j38495 : Nat) : Int).toNat) y38501))))))) 0 a0.Clauses (List.replicate a0.Clauses.length (0 : Int)) (fun (s38492 : (List Int)) => (rangeF (fun (j38506 : Nat) (x38507 : (List Int)) (s38503 : Unit) k38505 => (rangeF (fun (j38642 : Nat) (x38643 : (List Int)) (s38639 : Unit) k38641 => (jn (fun (s38737 : Unit) => (k38641 ())) (fun k38739 => (jn (fun (s38756 : Bool) => (if s38756 = true then (k38739 ()) else ((F_lits_Sub x38643 x38507).bind (fun y38763 => (if y38763 = true then (k38490 (((j38506 : Nat) : Int), ((j38642 : Nat) : Int))) else (k38739 ())))))) (fun k38758 => (if (((j38506 : Nat) : Int) == ((j38642 : Nat) : Int)) = true then (k38758 true) else (if (decide (((x38643.length : Nat) : Int) > ((x38507.length : Nat) : Int))) = true then (k38758 true) else (getI s38492 ((j38642 : Nat) : Int) (fun x38768 => (getI s38492 ((j38506 : Nat) : Int) (fun x38769 => (k38758 ((IntKind.wrap .u64 ((BitVec.ofInt (IntKind.bits .u64) x38768 &&& ~~~ BitVec.ofInt (IntKind.bits .u64) x38769).toNat : Int)) != (0 : Int)))))))))))))) 0 a0.Clauses () (fun (s38639 : Unit) => (k38505 ())))) 0 a0.Clauses () (fun (s38503 : Unit) => (k37034 ())))))))))) (fun k38206 => (if (decide (((a1.length : Nat) : Int) > (0 : Int))) = true then ((F_slices_Contains_api_ChangeKind_api_ChangeKind a1 (4 : Int)).bind (fun y38771 => (k38206 (!y38771)))) else (k38206 false))))
def St5 (a0 : S_api_Dqbf) (a1 : List Int) (s133 : List (Int × Bool)) (s138 : List (Int × List Int)) (s143 : List (Int × Int)) (k25125 : (Int × Int × Int × Int × Bool) → Option (S_api_Change × Bool)) (k37615 : Unit → Option (S_api_Change × Bool)) : Option (S_api_Change × Bool) :=
  (jn (fun (s37626 : Bool) => (if s37626 = true then (k37615 ()) else (jn (fun (s37910 : (Int × Int × Int)) => (k25125 ((5 : Int), s37910.1, s37910.2.1, s37910.2.2, true))) (fun k37912 => (okI (a0.Clauses.length ≤ 1099511627776) (rangeF (fun (j37917 : Nat) (x37918 : (List Int)) (s37914 : (List Int)) k37916 => ((F_clean_sign x37918).bind (fun y37923 => (getI s37914 ((j37917 : Nat) : Int) (fun x37924 => (k37916 (s37914.set (((j37917 : Nat) : Int).toNat) y37923))))))) 0 a0.Clauses (List.replicate a0.Clauses.length (0 : Int)) (fun (s37914 : (List Int)) => (rangeF (fun (j37928 : Nat) (x37929 : (List Int)) (s37925 : Unit) k37927 => (rangeF (fun (j38064 : Nat) (x38065 : (List Int)) (s38061 : Unit) k38063 => (jn (fun (s38159 : Unit) => (k38063 ())) (fun k38161 => (jn (fun (s38178 : Bool) => (if s38178 = true then (k38161 ()) else ((F_lits_Strike x38065 x37929).bind (fun y38185 => (if (y38185 != (0 : Int)) = true then (k37912 (y38185, ((j37928 : Nat) : Int), ((j38064 : Nat) : Int))) else (k38161 ())))))) (fun k38180 => (if (((j37928 : Nat) : Int) == ((j38064 : Nat) : Int)) = true then (k38180 true) else (if (decide (((x38065.length : Nat) : Int) > ((x37929.length : Nat) : Int))) = true then (k38180 true) else (getI s37914 ((j38064 : Nat) : Int) (fun x38190 => (getI s37914 ((j37928 : Nat) : Int) (fun x38191 => (k38180 ((IntKind.wrap .u64 ((BitVec.ofInt (IntKind.bits .u64) x38190 &&& ~~~ BitVec.ofInt (IntKind.bits .u64) x38191).toNat : Int)) != (0 : Int)))))))))))))) 0 a0.Clauses () (fun (s38061 : Unit) => (k37927 ())))) 0 a0.Clauses () (fun (s37925 : Unit) => (k37615 ())))))))))) (fun k37628 => (if (decide (((a1.length : Nat) : Int) > (0 : Int))) = true then ((F_slices_Contains_api_ChangeKind_api_ChangeKind a1 (5 : Int)).bind (fun y38193 => (k37628 (!y38193)))) else (k37628 false))))
theorem next_unfold (a0 : S_api_Dqbf) (a1 : List Int) : F_clean_Next a0 a1 =
  ((F_prefix_MayDqbf a0).bind (fun y101 => (if (!y101) = true then (some ((S_api_Change.mk (0 : Int) (0 : Int) (0 : Int) (0 : Int) (0 : Int)), false)) else (rangeF (fun (j136 : Nat) (x137 : Int) (s133 : (List (Int × Bool))) k135 => (k135 (mset s133 x137 true))) 0 a0.Univ ([] : List (Int × Bool)) (fun (s133 : (List (Int × Bool))) => (rangeF (fun (j141 : Nat) (x142 : S_api_Dep) (s138 : (List (Int × (List Int)))) k140 => (k140 (mset s138 x142.Var x142.On))) 0 a0.Exist ([] : List (Int × (List Int))) (fun (s138 : (List (Int × (List Int)))) => (rangeF (fun (j146 : Nat) (x147 : (List Int)) (s143 : (List (Int × Int))) k145 => (rangeF (fun (j161 : Nat) (x162 : Int) (s158 : (List (Int × Int))) k160 => (k160 (mset s158 x162 (IntKind.wrap .i64 (((mget s158 x162).getD (0 : Int)) + (1 : Int)))))) 0 x147 s143 (fun (s158 : (List (Int × Int))) => (k145 s158)))) 0 a0.Clauses ([] : List (Int × Int)) (fun (s143 : (List (Int × Int))) => (jn (fun (s25123 : (Int × Int × Int × Int × Bool)) => (some ((S_api_Change.mk s25123.1 s25123.2.1 (0 : Int) s25123.2.2.1 s25123.2.2.2.1), s25123.2.2.2.2))) (fun k25125 => (jn (fun (s25197 : Unit) => (jn (fun (s36336 : Unit) => (jn (fun (s36451 : ((List Int) × (List Int))) => (jn (fun (s37032 : Unit) => (jn (fun (s37613 : Unit) => (k25125 ((0 : Int), (0 : Int), (0 : Int), (0 : Int), false))) (fun k37615 => (St5 a0 a1 s133 s138 s143 k25125 k37615)))) (fun k37034 => (St4 a0 a1 s133 s138 s143 k25125 k37034)))) (fun k36453 => (St2 a0 a1 s133 s138 s143 k25125 k36453)))) (fun k36338 => (St3 a0 a1 s133 s138 s143 k25125 k36338)))) (fun k25199 => (St1 a0 a1 s133 s138 s143 k25125 k25199)))))))))))))) := rfl
def firstI {α β : Type} (g : Nat → α → Option β) : Nat → List α → Option β
  | _, [] => none
  | j, x :: xs => match g j x with
    | some y => some y
    | none => firstI g (j + 1) xs
def orE {β R : Type} (o : Option β) (E : β → Option R) (k : Option R) : Option R := match o with
  | some y => E y
  | none => k
theorem rangeF_first {α β R : Type} {f : Nat → α → Unit → (Unit → Option R) → Option R} {k : Unit → Option R} (full : List α) (g : Nat → α → Option β) (E : β → Option R)
    (h : ∀ pre x xs kk, full = pre ++ x :: xs → f pre.length x () kk = orE (g pre.length x) E (kk ())) : rangeF f 0 full () k = orE (firstI g 0 full) E (k ()) := by
  refine rangeF_pre full (fun _ _ => True) (fun pre xs _ => orE (firstI g pre.length xs) E (k ())) (fun _ _ => rfl) ?_ full [] () rfl trivial
  intro pre x xs s kk hf _ hk
  rw [show s = () from rfl, h pre x xs kk hf, hk () trivial]
  simp only [firstI, List.length_append, List.length_cons, List.length_nil, Nat.zero_add]
  cases g pre.length x <;> rfl
def wantB (ks : List Int) (k : Int) : Bool := decide (ks = []) || decide (k ∈ ks)
def unitO (d : S_api_Dqbf) : Option S_api_Change := firstI (fun j c => match c with | [y] => (if av y ∈ varsD d then some (S_api_Change.mk 1 y 0 (j : Int) 0) else none) | _ => none) 0 d.Clauses
def redB (d : S_api_Dqbf) (c : List Int) (x : Int) : Bool := decide (av x ∈ d.Univ) && c.all fun y => !decide (av x ∈ onD d (av y))
def redO (d : S_api_Dqbf) : Option S_api_Change := firstI (fun j c => firstI (fun _ x => if redB d c x = true then some (S_api_Change.mk 3 x 0 (j : Int) 0) else none) 0 c) 0 d.Clauses
def nowB (d : S_api_Dqbf) (v : Int) : Bool := d.Clauses.all fun c => !decide (v ∈ c)
def pureO (d : S_api_Dqbf) : Option S_api_Change := firstI (fun _ v => firstI (fun _ x => if nowB d (-x) = true then some (S_api_Change.mk 2 x 0 0 0) else none) 0 [v, -v]) 0 (srt (d.Univ ++ varsD d))
def dropO (d : S_api_Dqbf) : Option S_api_Change := firstI (fun i c => firstI (fun j b => if i ≠ j ∧ subB b c = true then some (S_api_Change.mk 4 0 0 (i : Int) (j : Int)) else none) 0 d.Clauses) 0 d.Clauses
def strikeO (d : S_api_Dqbf) : Option S_api_Change := firstI (fun i c => firstI (fun j b => if strikeV b c ≠ 0 then some (S_api_Change.mk 5 (strikeV b c) 0 (i : Int) (j : Int)) else none) 0 d.Clauses) 0 d.Clauses
def selO (ks : List Int) (k : Int) (o : Option S_api_Change) : Option S_api_Change := if wantB ks k = true then o else none
theorem kidx_run (v : Int) (xs : List Int) : ∃ n : Int, F_slices_Index_api_ChangeKind_api_ChangeKind xs v = some n ∧ (0 ≤ n ↔ v ∈ xs) := idx_run v xs 0
theorem skip_eq {R : Type} (ks : List Int) (k : Int) (f : Bool → Option R) :
    (if (decide (((ks.length : Nat) : Int) > (0 : Int))) = true then ((F_slices_Contains_api_ChangeKind_api_ChangeKind ks k).bind (fun y => (f (!y)))) else (f false)) = f (!wantB ks k) := by
  unfold F_slices_Contains_api_ChangeKind_api_ChangeKind
  obtain ⟨n, h1, h2⟩ := kidx_run k ks
  rw [h1]
  unfold wantB
  by_cases h : ks = []
  · subst h; simp
  · have hl : ((ks.length : Nat) : Int) > 0 := by
      have : ks.length ≠ 0 := fun e => h (List.eq_nil_of_length_eq_zero e)
      omega
    simp only [hl, decide_true, if_true, Option.bind_some, h, decide_false, Bool.false_or]
    congr 2
    rw [Bool.eq_iff_iff]
    simp only [decide_eq_true_eq, ge_iff_le]
    exact h2
theorem skip_jn {R : Type} (ks : List Int) (k : Int) (f : Bool → Option R) :
    jn f (fun (k1 : Bool → Option R) => (if (decide (((ks.length : Nat) : Int) > (0 : Int))) = true then ((F_slices_Contains_api_ChangeKind_api_ChangeKind ks k).bind (fun y => (k1 (!y)))) else (k1 false))) = f (!wantB ks k) := skip_eq ks k f
abbrev KE := (Int × Int × Int × Int × Bool) → Option (S_api_Change × Bool)
def hit (ke : KE) (c : S_api_Change) : Option (S_api_Change × Bool) := ke (c.Kind, c.Lit, c.At, c.By, true)
theorem st1_eq {d : S_api_Dqbf} (h : May d) (ks : List Int) (M1 : List (Int × Bool)) (M2 : List (Int × List Int)) (M3 : List (Int × Int)) (ke : KE) (k : Unit → Option (S_api_Change × Bool)) (h2 : ∀ v, (mget M2 v).isSome = decide (v ∈ varsD d)) :
    St1 d ks M1 M2 M3 ke k = orE (selO ks 1 (unitO d)) (hit ke) (k ()) := by
  unfold St1
  rw [skip_jn]
  unfold selO
  cases hw : wantB ks 1
  · simp [orE]
  · simp only [Bool.not_true, Bool.false_eq_true, if_false, if_true]
    refine rangeF_first d.Clauses _ (hit ke) ?_
    intro pre x xs kk hf
    have hx := h.nrm x (by rw [hf]; simp)
    simp only [jn_eq]
    match x, hx with
    | [], _ => rfl
    | [y], hx =>
      have hy := nrm_lit hx (x := y) (by simp)
      simp only [List.length_cons, List.length_nil]
      have e0 : getI [y] (0 : Int) (fun (x50081 : Int) => ((F_lits_Var x50081).bind (fun y50082 => (if (mget M2 y50082).isSome = true then (ke ((1 : Int), x50081, ((pre.length : Nat) : Int), (0 : Int), true)) else (kk ()))))) = (if (mget M2 (av y)).isSome = true then (ke ((1 : Int), y, ((pre.length : Nat) : Int), (0 : Int), true)) else (kk ())) := by
        have : getI [y] (0 : Int) (fun (x50081 : Int) => ((F_lits_Var x50081).bind (fun y50082 => (if (mget M2 y50082).isSome = true then (ke ((1 : Int), x50081, ((pre.length : Nat) : Int), (0 : Int), true)) else (kk ()))))) = ((F_lits_Var y).bind (fun y50082 => (if (mget M2 y50082).isSome = true then (ke ((1 : Int), y, ((pre.length : Nat) : Int), (0 : Int), true)) else (kk ())))) := rfl
        rw [this, litsVar_eq hy.2.1 hy.2.2]; rfl
      have e1 : ((((0 + 1 : Nat)) : Int) == (1 : Int)) = true := rfl
      rw [if_pos e1, e0, h2]
      by_cases hv : av y ∈ varsD d
      · simp [hv, orE, hit]
      · simp [hv, orE]
    | y :: z :: t, _ =>
      have : ((((y :: z :: t).length : Nat) : Int) == (1 : Int)) = false := by simp; omega
      rw [if_neg (by rw [this]; simp)]
      rfl
theorem dep_run {d : S_api_Dqbf} (h : May d) (hs : Sm d) (M2 : List (Int × List Int)) (h2 : ∀ v, (mget M2 v).getD [] = onD d v) (v : Int) (c : List Int) (hc : nrmB 0 c = true) (kk : Int → Option Bool) (A B : Option Bool) (hA : ∀ j : Nat, kk (j : Int) = A) (hB : kk (-1) = B) :
    (rangeF (fun (j49980 : Nat) (x49981 : Int) (s49977 : Unit) k49979 => ((F_lits_Var x49981).bind (fun y50015 => ((F_slices_BinarySearch_int_int ((mget M2 y50015).getD ([] : List Int)) v).bind (fun y50016 => (if y50016.2 = true then (kk ((j49980 : Nat) : Int)) else (k49979 ()))))))) 0 c () (fun (s49977 : Unit) => (kk (-1 : Int))))
      = if (c.any fun y => decide (v ∈ onD d (av y))) = true then A else B := by
  refine rangeF_pre c (fun _ _ => True) (fun _ xs _ => if (xs.any fun y => decide (v ∈ onD d (av y))) = true then A else B) (fun _ _ => by simp [hB]) ?_ c [] () rfl trivial
  intro pre x xs s k2 hf hI hk
  have hx := nrm_lit hc (x := x) (by rw [hf]; simp)
  obtain ⟨i, hi⟩ := bin_eq (on_rs h (av x)).1 (Nat.le_trans (on_len hs (av x)) (by decide)) v
  rw [litsVar_eq hx.2.1 hx.2.2, Option.bind_some, h2, hi, Option.bind_some, List.any_cons, hA, hk () trivial]
  by_cases hv : v ∈ onD d (av x)
  · simp [hv]
  · simp [hv]
theorem st3_eq {d : S_api_Dqbf} (h : May d) (hs : Sm d) (ks : List Int) (M1 : List (Int × Bool)) (M2 : List (Int × List Int)) (M3 : List (Int × Int)) (ke : KE) (k : Unit → Option (S_api_Change × Bool)) (h1 : ∀ v, (mget M1 v).getD false = decide (v ∈ d.Univ)) (h2 : ∀ v, (mget M2 v).getD [] = onD d v) :
    St3 d ks M1 M2 M3 ke k = orE (selO ks 3 (redO d)) (hit ke) (k ()) := by
  unfold St3
  rw [skip_jn]
  unfold selO
  cases hw : wantB ks 3
  · simp [orE]
  · simp only [Bool.not_true, Bool.false_eq_true, if_false, if_true]
    refine rangeF_first d.Clauses _ (hit ke) ?_
    intro pre c xs kk hf
    have hc := h.nrm c (by rw [hf]; simp)
    refine rangeF_first c _ (hit ke) ?_
    intro p2 x ys k2 hf2
    have hx := nrm_lit hc (x := x) (by rw [hf2]; simp)
    simp only [jn_eq]
    rw [litsVar_eq hx.2.1 hx.2.2, Option.bind_some, h1]
    rw [dep_run h hs M2 h2 (av x) c hc (fun (s49974 : Int) => (some (decide (s49974 ≥ (0 : Int))))) (some true) (some false) (fun j => by simp) (by simp)]
    unfold redB
    by_cases hv : av x ∈ d.Univ
    · have e : (c.all fun y => !decide (av x ∈ onD d (av y))) = !(c.any fun y => decide (av x ∈ onD d (av y))) := by
        rw [List.not_any_eq_all_not]
      rw [e]
      cases c.any fun y => decide (av x ∈ onD d (av y)) <;> simp [hv, orE, hit]
    · simp [hv, orE]
end Go.Sk.X
namespace Go.Sk.X
open Go Go.Sk
theorem app_run {R : Type} (es : List S_api_Dep) (K : List Int → Option R) (l : List Int) (hl : l.length + es.length ≤ 4194304) :
    rangeF (fun (j38817 : Nat) (x38818 : S_api_Dep) (s38814 : (List Int)) k38816 => (capN (s38814.length + [x38818.Var].length) (k38816 (s38814 ++ [x38818.Var])))) 0 es l K = K (l ++ es.map (·.Var)) := by
  refine rangeF_pre es (fun pre s => s = l ++ pre.map (·.Var)) (fun _ _ _ => K (l ++ es.map (·.Var))) (fun s hs => by rw [hs]) ?_ es [] l rfl (by simp)
  intro pre x xs s kk hf hI hk
  have : pre.length < es.length := by rw [hf]; simp
  subst hI
  rw [capN_eq (by simp only [List.length_append, List.length_map, List.length_cons, List.length_nil]; omega), hk _ (by simp)]
theorem st2_eq {d : S_api_Dqbf} (h : May d) (ks : List Int) (M1 : List (Int × Bool)) (M2 : List (Int × List Int)) (M3 : List (Int × Int)) (ke : KE) (k : (List Int × List Int) → Option (S_api_Change × Bool)) (K0 : Option (S_api_Change × Bool)) (hk : ∀ p, k p = K0) (h3 : timesM d.Clauses M3) :
    St2 d ks M1 M2 M3 ke k = orE (selO ks 2 (pureO d)) (hit ke) K0 := by
  have hlen := h.len
  have hv : (varsD d).length = d.Exist.length := by simp [varsD]
  unfold St2
  rw [skip_jn]
  unfold selO
  cases hw : wantB ks 2
  · simp [orE, hk]
  · have main : ∀ l1 l2 : List Int, (rangeF (fun (j38817 : Nat) (x38818 : S_api_Dep) (s38814 : (List Int)) k38816 => (capN (s38814.length + [x38818.Var].length) (k38816 (s38814 ++ [x38818.Var])))) 0 d.Exist d.Univ (fun (s38814 : (List Int)) => (okI (s38814.length ≤ 1099511627776) (rangeF (fun (j38826 : Nat) (x38827 : Int) (s38823 : Unit) k38825 => (okI (-9223372036854775808 ≤ (0 : Int) ∧ ((2 : Nat) : Int) ≤ 9223372036854775807) (upF (fun (j38856 : Int) (s38853 : Unit) k38855 => (getI [x38827, (IntKind.wrap .i64 (0 - x38827))] j38856 (fun x38875 => (if (((mget M3 (IntKind.wrap .i64 (0 - x38875))).getD (0 : Int)) == (0 : Int)) = true then (ke ((2 : Int), x38875, (0 : Int), (0 : Int), true)) else (k38855 ()))))) ((((2 : Nat) : Int) - (0 : Int)).toNat) (0 : Int) () (fun (s38853 : Unit) => (k38825 ()))))) 0 (srt s38814) () (fun (s38823 : Unit) => (k (l1, l2)))))))
        = orE (pureO d) (hit ke) K0 := by
      intro l1 l2
      rw [app_run d.Exist _ d.Univ (by omega)]
      have e : d.Univ ++ d.Exist.map (·.Var) = d.Univ ++ varsD d := rfl
      rw [e, okI_eq (by simp only [List.length_append]; omega)]
      refine (rangeF_first (srt (d.Univ ++ varsD d)) (fun _ v => firstI (fun _ x => if nowB d (-x) = true then some (S_api_Change.mk 2 x 0 0 0) else none) 0 [v, -v]) (hit ke) ?_).trans (by rw [hk]; rfl)
      intro pre x xs kk hf
      have hxm : x ∈ d.Univ ++ varsD d := by
        have : x ∈ srt (d.Univ ++ varsD d) := by rw [hf]; simp
        exact (List.mergeSort_perm _ _).mem_iff.1 this
      have hx : 0 < x ∧ x ≤ 65536 := by
        rcases List.mem_append.1 hxm with hm | hm
        · exact rsB_mem h.ru x hm
        · exact rsB_mem h.rv x hm
      have w1 : IntKind.wrap .i64 (0 - x) = -x := by rw [wrap_id (by omega) (by omega)]; omega
      have w2 : IntKind.wrap .i64 (0 - -x) = x := by rw [wrap_id (by omega) (by omega)]; omega
      have o2 : (((2 : Nat) : Int) - (0 : Int)).toNat = 2 := rfl
      have t0 : ∀ v, ((mget M3 v).getD 0 == 0) = nowB d v := fun v => times_zero h3 v
      have g0 : ∀ (f : Int → Option (S_api_Change × Bool)), getI [x, -x] (0 : Int) f = f x := fun _ => rfl
      have g1 : ∀ (f : Int → Option (S_api_Change × Bool)), getI [x, -x] (0 + 1 : Int) f = f (-x) := fun _ => rfl
      rw [okI_eq (by decide), w1, o2, upF_succ, g0, w1, t0]
      simp only [firstI]
      by_cases n1 : nowB d (-x) = true
      · simp only [n1, if_true]; rfl
      · simp only [n1, Bool.false_eq_true, if_false]
        rw [upF_succ, g1, w2, t0, Int.neg_neg]
        by_cases n2 : nowB d x = true
        · simp only [n2, if_true]; rfl
        · simp only [n2, Bool.false_eq_true, if_false]; rfl
    simp only [Bool.not_true, Bool.false_eq_true, if_false, if_true, jn_eq]
    by_cases hu : d.Univ = []
    · have he : d.Univ.isEmpty = true := by simp [hu]
      rw [if_pos he]
      have := main [] []
      rw [hu] at this
      exact this
    · have he : ¬ d.Univ.isEmpty = true := by simpa using hu
      rw [if_neg he, capN_eq (by simp; omega), List.nil_append]
      exact main d.Univ d.Univ
theorem signs_run {R : Type} (cs : List (List Int)) (hc : ∀ c ∈ cs, nrmB 0 c = true) (K : List Int → Option R) :
    (rangeF (fun (j37917 : Nat) (x37918 : (List Int)) (s37914 : (List Int)) k37916 => ((F_clean_sign x37918).bind (fun y37923 => (getI s37914 ((j37917 : Nat) : Int) (fun x37924 => (k37916 (s37914.set (((j37917 : Nat) : Int).toNat) y37923))))))) 0 cs (List.replicate cs.length (0 : Int)) K) = K (cs.map fun c => ((sgN c 0 : Nat) : Int)) := by
  refine rangeF_pre cs (fun pre s => s = (pre.map fun c => ((sgN c 0 : Nat) : Int)) ++ List.replicate (cs.length - pre.length) 0) (fun _ _ _ => K (cs.map fun c => ((sgN c 0 : Nat) : Int))) (fun s hs => by rw [hs]; simp) ?_ cs [] _ rfl (by simp)
  intro pre x xs s kk hf hI hk
  have hlt : pre.length < cs.length := by rw [hf]; simp
  rw [sign_eq (hc x (by rw [hf]; simp)), Option.bind_some]
  subst hI
  obtain ⟨m, hm⟩ : ∃ m, cs.length - pre.length = m + 1 := ⟨cs.length - pre.length - 1, by omega⟩
  have hg : ((pre.map fun c => ((sgN c 0 : Nat) : Int)) ++ List.replicate (cs.length - pre.length) 0)[pre.length]? = some 0 := by
    rw [List.getElem?_append_right (by simp), hm]; simp
  rw [getI_nat, hg]
  refine hk _ ?_
  rw [Int.toNat_natCast, List.set_append_right _ _ (by simp), hm]
  have : cs.length - (pre ++ [x]).length = m := by simp; omega
  rw [this]
  simp [List.replicate_succ]
theorem sg_get (cs : List (List Int)) (i : Nat) (c : List Int) (h : cs[i]? = some c) {R : Type} (f : Int → Option R) : getI (cs.map fun c => ((sgN c 0 : Nat) : Int)) (i : Int) f = f ((sgN c 0 : Nat) : Int) := by
  rw [getI_nat, List.getElem?_map, h]; rfl
theorem st4_eq {d : S_api_Dqbf} (h : May d) (hs : Sm d) (ks : List Int) (M1 : List (Int × Bool)) (M2 : List (Int × List Int)) (M3 : List (Int × Int)) (ke : KE) (k : Unit → Option (S_api_Change × Bool)) :
    St4 d ks M1 M2 M3 ke k = orE (selO ks 4 (dropO d)) (hit ke) (k ()) := by
  have hcl := hs.cls
  have htot := hs.tot
  unfold St4
  rw [skip_jn]
  unfold selO
  cases hw : wantB ks 4
  · simp [orE]
  · simp only [Bool.not_true, Bool.false_eq_true, if_false, if_true]
    rw [jn_eq, okI_eq (by omega), signs_run d.Clauses h.nrm]
    refine rangeF_first d.Clauses _ (hit ke) ?_
    intro pre c xs kk hf
    have hgc : d.Clauses[pre.length]? = some c := by rw [hf]; simp
    have hc := h.nrm c (List.mem_of_getElem? hgc)
    have hcl2 := tot_mem (List.mem_of_getElem? hgc)
    refine rangeF_first d.Clauses _ (hit ke) ?_
    intro p2 b ys k2 hf2
    have hgb : d.Clauses[p2.length]? = some b := by rw [hf2]; simp
    have hb := h.nrm b (List.mem_of_getElem? hgb)
    have hbl2 := tot_mem (List.mem_of_getElem? hgb)
    simp only [jn_eq, sg_get d.Clauses _ c hgc, sg_get d.Clauses _ b hgb]
    by_cases hij : pre.length = p2.length
    · have : (((pre.length : Nat) : Int) == ((p2.length : Nat) : Int)) = true := by simp [hij]
      simp [this, hij, orE]
    have hij' : (((pre.length : Nat) : Int) == ((p2.length : Nat) : Int)) = false := by simp; omega
    by_cases hsub : subB b c = true
    · have hv := sub_vars hsub
      have hl := vars_len hb hv
      have hl' : ¬ ((b.length : Nat) : Int) > ((c.length : Nat) : Int) := by omega
      have hcnd : pre.length ≠ p2.length ∧ subB b c = true := ⟨hij, hsub⟩
      simp only [hij', hl', decide_false, Bool.false_eq_true, if_false, sign_pass hv, bne_self_eq_false, lsub_eq hb hc (by omega : c.length ≤ 4194304), Option.bind_some, hsub, if_true]
      rw [if_pos ⟨hij, trivial⟩]; rfl
    · have hn : (if pre.length ≠ p2.length ∧ subB b c = true then some (S_api_Change.mk 4 0 0 ((pre.length : Nat) : Int) ((p2.length : Nat) : Int)) else none) = none := by simp [hsub]
      rw [hn, lsub_eq hb hc (by omega)]
      simp only [hij', Bool.false_eq_true, if_false, Option.bind_some, Bool.eq_false_iff.2 hsub, orE]
      repeat' split
      all_goals rfl
theorem strike_self (c : List Int) : strikeV c c = 0 := by
  unfold strikeV
  have : c.filter (fun x => !decide (x ∈ c)) = [] := by
    rw [List.filter_eq_nil_iff]; intro x hx; simp [hx]
  rw [this]
theorem st5_eq {d : S_api_Dqbf} (h : May d) (hs : Sm d) (ks : List Int) (M1 : List (Int × Bool)) (M2 : List (Int × List Int)) (M3 : List (Int × Int)) (ke : KE) (k : Unit → Option (S_api_Change × Bool)) :
    St5 d ks M1 M2 M3 ke k = orE (selO ks 5 (strikeO d)) (hit ke) (k ()) := by
  have hcl := hs.cls
  have htot := hs.tot
  unfold St5
  rw [skip_jn]
  unfold selO
  cases hw : wantB ks 5
  · simp [orE]
  · simp only [Bool.not_true, Bool.false_eq_true, if_false, if_true]
    rw [jn_eq, okI_eq (by omega), signs_run d.Clauses h.nrm]
    refine rangeF_first d.Clauses _ (hit ke) ?_
    intro pre c xs kk hf
    have hgc : d.Clauses[pre.length]? = some c := by rw [hf]; simp
    have hc := h.nrm c (List.mem_of_getElem? hgc)
    have hcl2 := tot_mem (List.mem_of_getElem? hgc)
    refine rangeF_first d.Clauses _ (hit ke) ?_
    intro p2 b ys k2 hf2
    have hgb : d.Clauses[p2.length]? = some b := by rw [hf2]; simp
    have hb := h.nrm b (List.mem_of_getElem? hgb)
    have hbl2 := tot_mem (List.mem_of_getElem? hgb)
    simp only [jn_eq, sg_get d.Clauses _ c hgc, sg_get d.Clauses _ b hgb]
    by_cases hij : pre.length = p2.length
    · have : (((pre.length : Nat) : Int) == ((p2.length : Nat) : Int)) = true := by simp [hij]
      have hbc : b = c := by rw [hij, hgb] at hgc; injection hgc
      subst hbc
      simp [this, strike_self, orE]
    have hij' : (((pre.length : Nat) : Int) == ((p2.length : Nat) : Int)) = false := by simp; omega
    rw [(strikes hb hc (by omega) (by omega)).1]
    by_cases hst : strikeV b c ≠ 0
    · have hv := strike_vars hst
      have hl := vars_len hb hv
      have hl' : ¬ ((b.length : Nat) : Int) > ((c.length : Nat) : Int) := by omega
      have hne : (strikeV b c != 0) = true := by simp [hst]
      simp only [hij', hl', decide_false, Bool.false_eq_true, if_false, sign_pass hv, bne_self_eq_false, Option.bind_some, hne, if_true]
      rw [if_pos hst]; rfl
    · have h0 : strikeV b c = 0 := Classical.byContradiction hst
      have hn : (if strikeV b c ≠ 0 then some (S_api_Change.mk 5 (strikeV b c) 0 ((pre.length : Nat) : Int) ((p2.length : Nat) : Int)) else none) = none := by simp [h0]
      rw [hn, h0]
      simp only [hij', Bool.false_eq_true, if_false, Option.bind_some, bne_self_eq_false, orE]
      repeat' split
      all_goals rfl
end Go.Sk.X
namespace Go.Sk.X
open Go Go.Sk
theorem orE_or {β R : Type} (a b : Option β) (E : β → Option R) (k : Option R) : orE a E (orE b E k) = orE (a.or b) E k := by cases a <;> rfl
theorem firstI_some {α β : Type} {g : Nat → α → Option β} {c : β} : ∀ {xs : List α} {j : Nat}, firstI g j xs = some c → ∃ i x, g i x = some c
  | [], j, h => by simp [firstI] at h
  | x :: xs, j, h => by
    simp only [firstI] at h
    cases hg : g j x with
    | some y => rw [hg] at h; exact ⟨j, x, by rw [hg]; exact h⟩
    | none => rw [hg] at h; exact firstI_some h
def ToZ (o : Option S_api_Change) : Prop := ∀ c, o = some c → c.To = 0
theorem toZ_first {α : Type} {g : Nat → α → Option S_api_Change} (h : ∀ i x, ToZ (g i x)) (j : Nat) (xs : List α) : ToZ (firstI g j xs) := fun c hc => by
  obtain ⟨i, x, hg⟩ := firstI_some hc
  exact h i x c hg
theorem toZ_if {p : Prop} [Decidable p] {c : S_api_Change} (h : c.To = 0) : ToZ (if p then some c else none) := fun x hx => by
  split at hx
  · injection hx with hx; subst hx; exact h
  · simp at hx
theorem toZ_sel {ks : List Int} {k : Int} {o : Option S_api_Change} (h : ToZ o) : ToZ (selO ks k o) := fun c hc => by
  unfold selO at hc
  split at hc
  · exact h c hc
  · simp at hc
theorem toZ_or {a b : Option S_api_Change} (ha : ToZ a) (hb : ToZ b) : ToZ (a.or b) := fun c hc => by
  cases a with
  | some x => exact ha c hc
  | none => exact hb c hc
theorem toZ_unit (d : S_api_Dqbf) : ToZ (unitO d) := toZ_first (fun i x => by
  split
  · exact toZ_if rfl
  · intro c hc; simp at hc) 0 _
theorem toZ_red (d : S_api_Dqbf) : ToZ (redO d) := toZ_first (fun i x => toZ_first (fun _ _ => toZ_if rfl) 0 _) 0 _
theorem toZ_pure (d : S_api_Dqbf) : ToZ (pureO d) := toZ_first (fun i x => toZ_first (fun _ _ => toZ_if rfl) 0 _) 0 _
theorem toZ_drop (d : S_api_Dqbf) : ToZ (dropO d) := toZ_first (fun i x => toZ_first (fun _ _ => toZ_if rfl) 0 _) 0 _
theorem toZ_strike (d : S_api_Dqbf) : ToZ (strikeO d) := toZ_first (fun i x => toZ_first (fun _ _ => toZ_if rfl) 0 _) 0 _
def allO (d : S_api_Dqbf) (ks : List Int) : Option S_api_Change :=
  (selO ks 1 (unitO d)).or ((selO ks 3 (redO d)).or ((selO ks 2 (pureO d)).or ((selO ks 4 (dropO d)).or (selO ks 5 (strikeO d)))))
theorem toZ_all (d : S_api_Dqbf) (ks : List Int) : ToZ (allO d ks) :=
  toZ_or (toZ_sel (toZ_unit d)) (toZ_or (toZ_sel (toZ_red d)) (toZ_or (toZ_sel (toZ_pure d)) (toZ_or (toZ_sel (toZ_drop d)) (toZ_sel (toZ_strike d)))))
def noC : S_api_Change × Bool := (S_api_Change.mk 0 0 0 0 0, false)
def nextV (d : S_api_Dqbf) (ks : List Int) : S_api_Change × Bool := if MayD d = true then (match allO d ks with | some c => (c, true) | none => noC) else noC
theorem pnext_eq {d : S_api_Dqbf} (hs : Sm d) (ks : List Int) : F_clean_Next d ks = some (nextV d ks) := by
  rw [next_unfold, mayp_eq hs, Option.bind_some]
  unfold nextV
  by_cases hM : MayD d = true
  case neg => simp [Bool.eq_false_iff.2 hM, noC]
  have h := may_of hM
  have htot := hs.tot
  simp only [hM, Bool.not_true, Bool.false_eq_true, if_false, if_true]
  rw [rangeF_fold (fun m x => mset m x true), rangeF_fold (fun m (e : S_api_Dep) => mset m e.Var e.On)]
  refine times_out _ _ d.Clauses (by omega) (fun m hm => ?_)
  have h1 : ∀ v, (mget (d.Univ.foldl (fun m x => mset m x true) ([] : List (Int × Bool))) v).getD false = decide (v ∈ d.Univ) := fun v => by
    rw [mget_fold]; by_cases hx : v ∈ d.Univ <;> simp [hx, mget]
  have h2 := fun v => on_map h v
  have h2' : ∀ v, (mget (d.Exist.foldl (fun m e => mset m e.Var e.On) ([] : List (Int × List Int))) v).isSome = decide (v ∈ varsD d) := fun v => by
    rw [mget_foldV]; simp [mget, varsD]
  rw [jn_eq, jn_eq, st1_eq h ks _ _ _ _ _ h2', jn_eq, st3_eq h hs ks _ _ _ _ _ h1 h2, jn_eq]
  rw [st2_eq h ks _ _ _ _ _ _ (fun p => rfl) hm, jn_eq, st4_eq h hs, jn_eq, st5_eq h hs]
  simp only [orE_or]
  show orE (allO d ks) _ _ = _
  cases ha : allO d ks with
  | none => rfl
  | some c =>
    have := toZ_all d ks c ha
    obtain ⟨k, l, t, a, b⟩ := c
    simp only at this
    subst this
    rfl
theorem while_first {β R : Type} (x : List Int) (hl : x.length ≤ 4194304) (g : Nat → Int → Option β) (E : β → Option R) (K0 : Option R) (body : Int → Option R → Option R)
    (h : ∀ i y r, x[i]? = some y → body y r = orE (g i y) E r) :
    whileF 1000000000000 (fun (k127 : Int → Option R) (s125 : Int) => (if (decide (s125 < ((x.length : Nat) : Int))) = true then (getI x s125 (fun x141 => body x141 (k127 (IntKind.wrap .i64 (s125 + (1 : Int)))))) else K0)) (0 : Int) = orE (firstI g 0 x) E K0 := by
  have := whileF_by (b := (fun (k127 : Int → Option R) (s125 : Int) => (if (decide (s125 < ((x.length : Nat) : Int))) = true then (getI x s125 (fun x141 => body x141 (k127 (IntKind.wrap .i64 (s125 + (1 : Int)))))) else K0))) (fun s : Int => x.length - s.toNat) (fun s => 0 ≤ s ∧ s ≤ x.length) (fun s => orE (firstI g s.toNat (x.drop s.toNat)) E K0) ?_ 1000000000000 0 (by simp) (by simp; omega)
  · simpa using this
  · intro s k ⟨h0, h1⟩ hs
    by_cases h2 : s < ((x.length : Nat) : Int)
    · obtain ⟨n, rfl⟩ : ∃ n : Nat, s = n := ⟨s.toNat, by omega⟩
      have hn : n < x.length := by omega
      have hd : x.drop n = x[n] :: x.drop (n + 1) := by rw [List.drop_eq_getElem_cons hn]
      have hw : IntKind.wrap .i64 (((n : Nat) : Int) + 1) = ((n + 1 : Nat) : Int) := by rw [wrap_id (by omega) (by omega)]; omega
      have hs' := hs ((n + 1 : Nat) : Int) ⟨by omega, by omega⟩ (by simp; omega)
      simp only [h2, decide_true, if_true, getI_nat, List.getElem?_eq_getElem hn, hw, hs', Int.toNat_natCast, hd, firstI]
      rw [h n x[n] _ (List.getElem?_eq_getElem hn)]
      cases g n x[n] <;> rfl
    · have : s.toNat = x.length := by omega
      simp [h2, this, firstI, orE]
theorem clause_eq {d : S_api_Dqbf} {n : Nat} {c : List Int} (h : d.Clauses[n]? = some c) : F_skolemref13_clause d (n : Int) = some (c, true) := by
  have hlt := (List.getElem?_eq_some_iff.1 h).1
  unfold F_skolemref13_clause
  have h1 : ¬ ((n : Nat) : Int) < 0 := by omega
  have h2 : ¬ ((n : Nat) : Int) ≥ ((d.Clauses.length : Nat) : Int) := by omega
  simp only [jn_eq, h1, h2, decide_false, Bool.false_eq_true, if_false, getI_nat, h]
theorem clause_any (d : S_api_Dqbf) : ∃ p, F_skolemref13_clause d 0 = some p := by
  cases hc : d.Clauses with
  | nil => exact ⟨([], false), by unfold F_skolemref13_clause; simp [jn_eq, hc]⟩
  | cons c cs => exact ⟨(c, true), clause_eq (n := 0) (by rw [hc]; rfl)⟩
theorem var0 : F_skolemref01_Var 0 = some 0 := by decide +kernel
theorem allow1 {d : S_api_Dqbf} {n : Nat} {c : List Int} (hc : d.Clauses[n]? = some c) (hn : nrmB 0 c = true) {x : Int} (hx : x ∈ c) :
    F_skolemref13_Allowed d (S_api_Change.mk 1 x 0 (n : Int) 0) = some (decide (c = [x]) && decide (av x ∈ varsD d)) := by
  obtain ⟨p, hp⟩ := clause_any d
  have hl := nrm_lit hn hx
  unfold F_skolemref13_Allowed
  simp only [clause_eq hc, hp, rVar_eq hl.2.1 hl.2.2 hl.1, Option.bind_some, bne_self_eq_false, Bool.false_eq_true, if_false, beq_self_eq_true, if_true, rex_eq]
  match c, hx with
  | [y], hx =>
    have : x = y := by simpa using hx
    subst this
    have e : ∀ f : Int → Option Bool, getI [x] (0 : Int) f = f x := fun _ => rfl
    simp [e]
  | y :: z :: t, hx =>
    have h1 : ((((y :: z :: t).length : Nat) : Int) == (1 : Int)) = false := by simp; omega
    have h2 : decide (y :: z :: t = [x]) = false := by simp
    simp only [h1, h2, Bool.false_eq_true, if_false, Bool.false_and]
theorem allow3 {d : S_api_Dqbf} {n : Nat} {c : List Int} (hc : d.Clauses[n]? = some c) (hn : nrmB 0 c = true) {x : Int} (hx : x ∈ c) :
    F_skolemref13_Allowed d (S_api_Change.mk 3 x 0 (n : Int) 0) = some (redB d c x) := by
  obtain ⟨p, hp⟩ := clause_any d
  have hl := nrm_lit hn hx
  unfold F_skolemref13_Allowed redB
  have e1 : ((3 : Int) == 1) = false := rfl
  simp only [clause_eq hc, hp, rVar_eq hl.2.1 hl.2.2 hl.1, Option.bind_some, bne_self_eq_false, Bool.false_eq_true, if_false, beq_self_eq_true, if_true, e1, has1_eq, hx, decide_true, run_eq, rfree_eq hn]
  by_cases h : av x ∈ d.Univ <;> simp [h]
theorem allow2 {d : S_api_Dqbf} {x : Int} (hx : x ≠ 0) (h0 : -65536 ≤ x) (h1 : x ≤ 65536) (hm : av x ∈ d.Univ ∨ av x ∈ varsD d) :
    F_skolemref13_Allowed d (S_api_Change.mk 2 x 0 0 0) = some (nowB d (-x)) := by
  obtain ⟨p, hp⟩ := clause_any d
  have hw : IntKind.wrap .i64 (0 - x) = -x := by rw [wrap_id (by omega) (by omega)]; omega
  have hv : av x > 0 := by unfold av; split <;> omega
  unfold F_skolemref13_Allowed nowB
  have e1 : ((2 : Int) == 1) = false := rfl
  have e2 : ((2 : Int) == 3) = false := rfl
  simp only [hp, rVar_eq h0 h1 hx, Option.bind_some, bne_self_eq_false, Bool.false_eq_true, if_false, beq_self_eq_true, if_true, e1, e2, hv, decide_true, hw, rnowhere_eq, rex_eq, run_eq]
  cases d.Clauses.all fun c => !decide (-x ∈ c)
  · simp
  · rcases hm with hm | hm
    · by_cases h : av x ∈ varsD d <;> simp [h, hm]
    · simp [hm]
theorem allow4 {d : S_api_Dqbf} {i j : Nat} {c b : List Int} (hc : d.Clauses[i]? = some c) (hb : d.Clauses[j]? = some b) (nc : nrmB 0 c = true) (nb : nrmB 0 b = true) (lc : c.length ≤ 4194304) (lb : b.length ≤ 4194304) :
    F_skolemref13_Allowed d (S_api_Change.mk 4 0 0 (i : Int) (j : Int)) = some (decide (i ≠ j) && subB b c) := by
  unfold F_skolemref13_Allowed
  have e1 : ((4 : Int) == 1) = false := rfl
  have e2 : ((4 : Int) == 3) = false := rfl
  have e3 : ((4 : Int) == 2) = false := rfl
  simp only [clause_eq hc, clause_eq hb, var0, Option.bind_some, bne_self_eq_false, Bool.false_eq_true, if_false, beq_self_eq_true, if_true, e1, e2, e3, rsub_eq nb nc lb lc]
  by_cases h : i = j
  · subst h; simp
  · have : (((i : Nat) : Int) != ((j : Nat) : Int)) = true := by simp; omega
    simp [this, h]
theorem strike_mem {a b : List Int} (h : strikeV a b ≠ 0) : strikeV a b ∈ b := by
  unfold strikeV at h ⊢
  split at h
  · rename_i x hf
    by_cases hx : -x ∈ b
    · simp only [hx, if_true]
    · simp [hx] at h
  · exact absurd rfl h
theorem allow5 {d : S_api_Dqbf} {i j : Nat} {c b : List Int} (hc : d.Clauses[i]? = some c) (hb : d.Clauses[j]? = some b) (nc : nrmB 0 c = true) (nb : nrmB 0 b = true) (lc : c.length ≤ 4194304) (lb : b.length ≤ 4194304) :
    F_skolemref13_Allowed d (S_api_Change.mk 5 (strikeV b c) 0 (i : Int) (j : Int)) = some (decide (strikeV b c ≠ 0)) := by
  have hv : ∃ v, F_skolemref01_Var (strikeV b c) = some v := by
    by_cases h : strikeV b c = 0
    · rw [h]; exact ⟨0, var0⟩
    · have := nrm_lit nc (strike_mem h)
      exact ⟨_, rVar_eq this.2.1 this.2.2 this.1⟩
  obtain ⟨v, hv⟩ := hv
  unfold F_skolemref13_Allowed
  have e1 : ((5 : Int) == 1) = false := rfl
  have e2 : ((5 : Int) == 3) = false := rfl
  have e3 : ((5 : Int) == 2) = false := rfl
  have e4 : ((5 : Int) == 4) = false := rfl
  simp only [clause_eq hc, clause_eq hb, hv, Option.bind_some, bne_self_eq_false, Bool.false_eq_true, if_false, beq_self_eq_true, if_true, e1, e2, e3, e4, (strikes nb nc lb lc).2]
  by_cases h : strikeV b c = 0
  · simp [h]
  · have : (strikeV b c != 0) = true := by simp [h]
    simp [this, h]
end Go.Sk.X
namespace Go.Sk.X
open Go Go.Sk
def pairO (o : Option S_api_Change) : S_api_Change × Bool := match o with
  | some c => (c, true)
  | none => noC
theorem orE_pair (o : Option S_api_Change) : orE o (fun c => some (c, true)) (some noC) = some (pairO o) := by cases o <;> rfl
theorem unit_first (d : S_api_Dqbf) (j : Int) (c : List Int) :
    firstI (fun _ x => if (decide (c = [x]) && decide (av x ∈ varsD d)) = true then some (S_api_Change.mk 1 x 0 j 0) else none) 0 c = (match c with | [y] => (if av y ∈ varsD d then some (S_api_Change.mk 1 y 0 j 0) else none) | _ => none) := by
  match c with
  | [] => rfl
  | [y] =>
    simp only [firstI, decide_true, Bool.true_and, decide_eq_true_eq]
    by_cases h : av y ∈ varsD d
    · rw [if_pos h]
    · rw [if_neg h]
  | y :: z :: t =>
    have : ∀ (xs : List Int) (k : Nat), firstI (fun _ x => if (decide (y :: z :: t = [x]) && decide (av x ∈ varsD d)) = true then some (S_api_Change.mk 1 x 0 j 0) else none) k xs = none := by
      intro xs
      induction xs with
      | nil => intro k; rfl
      | cons x xs ih =>
        intro k
        simp only [firstI]
        rw [if_neg (by simp)]
        exact ih (k + 1)
    exact this _ 0
theorem single1 {d : S_api_Dqbf} (h : May d) (hs : Sm d) : F_skolemref13_single d 1 = some (pairO (unitO d)) := by
  have htot := hs.tot
  unfold F_skolemref13_single
  refine (rangeF_first (k := fun _ => some noC) d.Clauses (fun j c => match c with | [y] => (if av y ∈ varsD d then some (S_api_Change.mk 1 y 0 (j : Int) 0) else none) | _ => none) (fun c => some (c, true)) ?_).trans (orE_pair _)
  intro pre c xs kk hf
  have hgc : d.Clauses[pre.length]? = some c := by rw [hf]; simp
  have hc := h.nrm c (List.mem_of_getElem? hgc)
  have hcl := tot_mem (List.mem_of_getElem? hgc)
  refine (while_first c (by omega) (fun _ x => if (decide (c = [x]) && decide (av x ∈ varsD d)) = true then some (S_api_Change.mk 1 x 0 ((pre.length : Nat) : Int) 0) else none) (fun c => some (c, true)) (kk ())
    (fun x141 r => (F_skolemref13_Allowed d (S_api_Change.mk 1 x141 (0 : Int) ((pre.length : Nat) : Int) (0 : Int))).bind (fun y142 => (if y142 = true then (some ((S_api_Change.mk 1 x141 (0 : Int) ((pre.length : Nat) : Int) (0 : Int)), true)) else r))) ?_).trans ?_
  · intro i y r hy
    rw [allow1 hgc hc (List.mem_of_getElem? hy), Option.bind_some]
    cases (decide (c = [y]) && decide (av y ∈ varsD d)) <;> rfl
  · rw [unit_first]
theorem single3 {d : S_api_Dqbf} (h : May d) (hs : Sm d) : F_skolemref13_single d 3 = some (pairO (redO d)) := by
  have htot := hs.tot
  unfold F_skolemref13_single
  refine (rangeF_first (k := fun _ => some noC) d.Clauses (fun j c => firstI (fun _ x => if redB d c x = true then some (S_api_Change.mk 3 x 0 (j : Int) 0) else none) 0 c) (fun c => some (c, true)) ?_).trans (orE_pair _)
  intro pre c xs kk hf
  have hgc : d.Clauses[pre.length]? = some c := by rw [hf]; simp
  have hc := h.nrm c (List.mem_of_getElem? hgc)
  have hcl := tot_mem (List.mem_of_getElem? hgc)
  refine (while_first c (by omega) (fun _ x => if redB d c x = true then some (S_api_Change.mk 3 x 0 ((pre.length : Nat) : Int) 0) else none) (fun c => some (c, true)) (kk ())
    (fun x141 r => (F_skolemref13_Allowed d (S_api_Change.mk 3 x141 (0 : Int) ((pre.length : Nat) : Int) (0 : Int))).bind (fun y142 => (if y142 = true then (some ((S_api_Change.mk 3 x141 (0 : Int) ((pre.length : Nat) : Int) (0 : Int)), true)) else r))) ?_)
  intro i y r hy
  rw [allow3 hgc hc (List.mem_of_getElem? hy), Option.bind_some]
  cases redB d c y <;> rfl
theorem double4 {d : S_api_Dqbf} (h : May d) (hs : Sm d) : F_skolemref13_double d 4 = some (pairO (dropO d)) := by
  have htot := hs.tot
  unfold F_skolemref13_double
  refine (rangeF_first (k := fun _ => some noC) d.Clauses (fun i c => firstI (fun j b => if i ≠ j ∧ subB b c = true then some (S_api_Change.mk 4 0 0 (i : Int) (j : Int)) else none) 0 d.Clauses) (fun c => some (c, true)) ?_).trans (orE_pair _)
  intro pre c xs kk hf
  have hgc : d.Clauses[pre.length]? = some c := by rw [hf]; simp
  have hc := h.nrm c (List.mem_of_getElem? hgc)
  have hcl := tot_mem (List.mem_of_getElem? hgc)
  refine rangeF_first d.Clauses _ (fun c => some (c, true)) ?_
  intro p2 b ys k2 hf2
  have hgb : d.Clauses[p2.length]? = some b := by rw [hf2]; simp
  have hb := h.nrm b (List.mem_of_getElem? hgb)
  have hbl := tot_mem (List.mem_of_getElem? hgb)
  have e1 : ((4 : Int) == 5) = false := rfl
  simp only [jn_eq, e1, Bool.false_eq_true, if_false, allow4 hgc hgb hc hb (by omega) (by omega), Option.bind_some]
  by_cases hij : pre.length = p2.length
  · simp [hij, orE]
  · cases hsub : subB b c <;> simp [hij, orE]
theorem double5 {d : S_api_Dqbf} (h : May d) (hs : Sm d) : F_skolemref13_double d 5 = some (pairO (strikeO d)) := by
  have htot := hs.tot
  unfold F_skolemref13_double
  refine (rangeF_first (k := fun _ => some noC) d.Clauses (fun i c => firstI (fun j b => if strikeV b c ≠ 0 then some (S_api_Change.mk 5 (strikeV b c) 0 (i : Int) (j : Int)) else none) 0 d.Clauses) (fun c => some (c, true)) ?_).trans (orE_pair _)
  intro pre c xs kk hf
  have hgc : d.Clauses[pre.length]? = some c := by rw [hf]; simp
  have hc := h.nrm c (List.mem_of_getElem? hgc)
  have hcl := tot_mem (List.mem_of_getElem? hgc)
  refine rangeF_first d.Clauses _ (fun c => some (c, true)) ?_
  intro p2 b ys k2 hf2
  have hgb : d.Clauses[p2.length]? = some b := by rw [hf2]; simp
  have hb := h.nrm b (List.mem_of_getElem? hgb)
  have hbl := tot_mem (List.mem_of_getElem? hgb)
  have e1 : ((5 : Int) == 5) = true := rfl
  simp only [jn_eq, e1, if_true, (strikes hb hc (by omega : b.length ≤ 4194304) (by omega : c.length ≤ 4194304)).2, allow5 hgc hgb hc hb (by omega) (by omega), Option.bind_some]
  by_cases h0 : strikeV b c = 0
  · simp [h0, orE]
  · simp [h0, orE]
theorem rs_ext : ∀ {l l' : List Int} {c c' : Int}, rsB c l = true → rsB c' l' = true → (∀ x, x ∈ l ↔ x ∈ l') → l = l'
  | [], [], _, _, _, _, _ => rfl
  | [], y :: ys, _, _, _, _, h => by have := (h y).2 (by simp); simp at this
  | x :: xs, [], _, _, _, _, h => by have := (h x).1 (by simp); simp at this
  | x :: xs, y :: ys, c, c', h1, h2, h => by
    rw [rsB_cons] at h1 h2
    have hxy : x = y := by
      have hx := (h x).1 (by simp)
      have hy := (h y).2 (by simp)
      rcases List.mem_cons.1 hx with e | hx
      · exact e
      · rcases List.mem_cons.1 hy with e | hy
        · exact e.symm
        · have := (rsB_mem h2.2.2 x hx).1
          have := (rsB_mem h1.2.2 y hy).1
          omega
    subst hxy
    congr 1
    refine rs_ext h1.2.2 h2.2.2 (fun z => ⟨fun hz => ?_, fun hz => ?_⟩)
    · rcases List.mem_cons.1 ((h z).1 (by simp [hz])) with e | e
      · subst e; have := (rsB_mem h1.2.2 z hz).1; omega
      · exact e
    · rcases List.mem_cons.1 ((h z).2 (by simp [hz])) with e | e
      · subst e; have := (rsB_mem h2.2.2 z hz).1; omega
      · exact e
theorem rs_of : ∀ {l : List Int} {c : Int}, l.Pairwise (· ≤ ·) → l.Nodup → (∀ x ∈ l, c < x ∧ x ≤ 65536) → rsB c l = true
  | [], _, _, _, _ => rfl
  | x :: l, c, hp, hn, hm => by
    rw [List.pairwise_cons] at hp
    rw [List.nodup_cons] at hn
    rw [rsB_cons]
    refine ⟨(hm x (by simp)).1, (hm x (by simp)).2, rs_of hp.2 hn.2 (fun y hy => ⟨?_, (hm y (by simp [hy])).2⟩)⟩
    have h1 := hp.1 y hy
    have h2 : x ≠ y := fun e => hn.1 (e ▸ hy)
    omega
theorem srt_rs {l : List Int} (hn : l.Nodup) (hm : ∀ x ∈ l, 0 < x ∧ x ≤ 65536) : rsB 0 (srt l) = true := by
  have hp : (srt l).Pairwise (· ≤ ·) := by
    have := List.pairwise_mergeSort (le := fun (x y : Int) => decide (x ≤ y)) (fun a b c h1 h2 => by simp at *; omega) (fun a b => by simp; omega) l
    exact this.imp (fun h => by simpa using h)
  have hperm := List.mergeSort_perm l (fun (x y : Int) => decide (x ≤ y))
  exact rs_of hp (hperm.nodup_iff.2 hn) (fun x hx => hm x (hperm.mem_iff.1 hx))
def insP (x : Int) : List Int → List Int
  | [] => [x]
  | y :: ys => if y < x then y :: insP x ys else x :: y :: ys
theorem mem_insP {x z : Int} : ∀ {l : List Int}, z ∈ insP x l ↔ z = x ∨ z ∈ l
  | [] => by simp [insP]
  | y :: ys => by
    simp only [insP]
    split
    · rw [List.mem_cons, mem_insP, List.mem_cons]
      constructor
      · rintro (h | h | h) <;> simp [h]
      · rintro (h | h | h) <;> simp [h]
    · simp
theorem insP_rs {x : Int} : ∀ {l : List Int} {c : Int}, rsB c l = true → c < x → x ≤ 65536 → x ∉ l → rsB c (insP x l) = true
  | [], c, _, h1, h2, _ => by rw [insP, rsB_cons]; exact ⟨h1, h2, rfl⟩
  | y :: ys, c, h, h1, h2, hm => by
    have h' := rsB_cons.1 h
    simp only [insP]
    split
    · rename_i hlt
      rw [rsB_cons]
      exact ⟨h'.1, h'.2.1, insP_rs h'.2.2 hlt h2 (fun h => hm (by simp [h]))⟩
    · rename_i hlt
      have : y ≠ x := fun e => hm (by simp [e])
      rw [rsB_cons, rsB_cons]
      exact ⟨h1, h2, by omega, h'.2.1, h'.2.2⟩
theorem insP_split {x : Int} : ∀ {l : List Int}, ∃ p q, l = p ++ q ∧ insP x l = p ++ x :: q ∧ (∀ y ∈ p, y < x) ∧ ∀ z t, q = z :: t → ¬ z < x
  | [] => ⟨[], [], rfl, rfl, by simp, by simp⟩
  | y :: ys => by
    simp only [insP]
    by_cases h : y < x
    · obtain ⟨p, q, h1, h2, h3, h4⟩ := insP_split (x := x) (l := ys)
      refine ⟨y :: p, q, by rw [h1]; rfl, by rw [if_pos h, h2]; rfl, fun z hz => ?_, h4⟩
      rcases List.mem_cons.1 hz with rfl | hz
      · exact h
      · exact h3 z hz
    · exact ⟨[], y :: ys, rfl, by rw [if_neg h]; rfl, by simp, fun z t e => by injection e with e; subst e; exact h⟩
theorem size1_eq {x : Int} (h0 : 0 < x) (h1 : x ≤ 65536) : F_skolemref01_size x = some x := by
  unfold F_skolemref01_size
  have h : ¬ x < 0 := by omega
  have e : IntKind.wrap .u64 x = x := by rw [wrapu]; omega
  simp [h, e]
theorem before_eq {x y : Int} (hx : 0 < x ∧ x ≤ 65536) (hy : 0 < y ∧ y ≤ 65536) : F_skolemref01_before x y = some (decide (x < y)) := by
  unfold F_skolemref01_before
  simp only [size1_eq hx.1 hx.2, size1_eq hy.1 hy.2, Option.bind_some]
  by_cases h : x = y
  · subst h; simp
  · simp [h]
theorem with_eq {l : List Int} {x : Int} (hl : ∀ y ∈ l, 0 < y ∧ y ≤ 65536) (hx : 0 < x ∧ x ≤ 65536) (hm : x ∉ l) (hn : l.length ≤ 4194304) : F_skolemref01_with l x = some (insP x l) := by
  obtain ⟨p, q, h1, h2, h3, h4⟩ := insP_split (x := x) (l := l)
  unfold F_skolemref01_with
  have hlen : l.length = p.length + q.length := by rw [h1]; simp
  refine whileF_by (b := _) (fun s : Int => p.length - s.toNat) (fun s => 0 ≤ s ∧ s ≤ p.length) (fun _ => some (insP x l)) ?_ 1000000000000 0 ⟨by decide, by omega⟩ (by simp; omega)
  intro s k ⟨g0, g1⟩ hs
  obtain ⟨n, rfl⟩ : ∃ n : Nat, s = n := ⟨s.toNat, by omega⟩
  by_cases hnp : n < p.length
  · have hlt : ((n : Nat) : Int) < ((l.length : Nat) : Int) := by omega
    have hg : l[n]? = some p[n] := by rw [h1, List.getElem?_append_left hnp, List.getElem?_eq_getElem hnp]
    have hpm : p[n] ∈ p := List.getElem_mem hnp
    have hb := h3 _ hpm
    have hw : IntKind.wrap .i64 (((n : Nat) : Int) + 1) = ((n + 1 : Nat) : Int) := by rw [wrap_id (by omega) (by omega)]; omega
    simp only [jn_eq, hlt, decide_true, if_true, getI_nat, hg, before_eq (hl p[n] (by rw [h1]; simp [hpm])) hx, hb, Option.bind_some, hw]
    exact hs _ ⟨by omega, by omega⟩ (by simp; omega)
  · have hne : n = p.length := by omega
    subst hne
    have hd : l.drop p.length = q := by rw [h1]; simp
    have ht : l.take p.length = p := by rw [h1]; simp
    have fin : (okI (0 ≤ ((p.length : Nat) : Int) ∧ ((p.length : Nat) : Int).toNat ≤ l.length) (capN ((l.take ((p.length : Nat) : Int).toNat).length) (capN ((l.take ((p.length : Nat) : Int).toNat).length + [x].length) (okI (0 ≤ ((p.length : Nat) : Int) ∧ ((p.length : Nat) : Int).toNat ≤ l.length) (capN (((l.take ((p.length : Nat) : Int).toNat) ++ [x]).length + (l.drop ((p.length : Nat) : Int).toNat).length) (some (((l.take ((p.length : Nat) : Int).toNat) ++ [x]) ++ (l.drop ((p.length : Nat) : Int).toNat)))))))) = some (insP x l) := by
      rw [Int.toNat_natCast, ht, hd, okI_eq ⟨by omega, by omega⟩, capN_eq (by omega), capN_eq (by simp; omega), okI_eq ⟨by omega, by omega⟩, capN_eq (by simp; omega), h2]
      simp
    cases hq : q with
    | nil =>
      have hlt : ¬ ((p.length : Nat) : Int) < ((l.length : Nat) : Int) := by rw [hlen, hq]; simp
      simp only [jn_eq, hlt, decide_false, Bool.false_eq_true, if_false]
      exact fin
    | cons z t =>
      have hlt : ((p.length : Nat) : Int) < ((l.length : Nat) : Int) := by rw [hlen, hq]; simp; omega
      have hg : l[p.length]? = some z := by rw [h1, hq]; simp
      have hzl : z ∈ l := List.mem_of_getElem? hg
      have hz := h4 z t hq
      have hzx : (z == x) = false := by
        have : z ≠ x := fun e => hm (e ▸ hzl)
        simp [this]
      simp only [jn_eq, hlt, decide_true, if_true, getI_nat, hg, before_eq (hl z hzl) hx, hz, decide_false, Option.bind_some, Bool.false_eq_true, if_false, hzx]
      exact fin
end Go.Sk.X
namespace Go.Sk.X
open Go Go.Sk
theorem norm_run : ∀ (l acc : List Int) (j : Nat) (K : List Int → Option (List Int × Int)), (∀ x ∈ l, 0 < x ∧ x ≤ 65536) → l.Nodup → (∀ x ∈ l, x ∉ acc) → rsB 0 acc = true → acc.length + l.length ≤ 4194304 →
    rangeF (fun (j114 : Nat) (x115 : Int) (s111 : (List Int)) k113 => ((F_skolemref01_with s111 x115).bind (fun y119 => (k113 y119)))) j l acc K = K (l.foldl (fun a x => insP x a) acc) ∧ rsB 0 (l.foldl (fun a x => insP x a) acc) = true ∧ ∀ z, z ∈ l.foldl (fun a x => insP x a) acc ↔ z ∈ acc ∨ z ∈ l
  | [], acc, j, K, _, _, _, ha, _ => ⟨rfl, ha, by simp⟩
  | x :: l, acc, j, K, hm, hn, hd, ha, hl => by
    have hx := hm x (by simp)
    have hxa := hd x (by simp)
    rw [List.nodup_cons] at hn
    simp only [List.length_cons] at hl
    have hins : (insP x acc).length = acc.length + 1 := by
      obtain ⟨p, q, h1, h2, _, _⟩ := insP_split (x := x) (l := acc)
      rw [h2, h1]; simp; omega
    obtain ⟨e1, e2, e3⟩ := norm_run l (insP x acc) (j + 1) K (fun y hy => hm y (by simp [hy])) hn.2 (fun y hy => by
      rw [mem_insP]
      rintro (e | e)
      · subst e; exact hn.1 hy
      · exact hd y (by simp [hy]) e) (insP_rs ha hx.1 hx.2 hxa) (by omega)
    rw [List.foldl_cons]
    refine ⟨?_, e2, fun z => ?_⟩
    · rw [rangeF_cons, with_eq (fun y hy => rsB_mem ha y hy) hx hxa (by omega), Option.bind_some]
      exact e1
    · rw [e3, mem_insP, List.mem_cons]
      constructor
      · rintro ((h | h) | h)
        · exact .inr (.inl h)
        · exact .inl h
        · exact .inr (.inr h)
      · rintro (h | h | h)
        · exact .inl (.inr h)
        · exact .inl (.inl h)
        · exact .inr h
theorem rs_nrm : ∀ {l : List Int} {c : Int}, 0 ≤ c → rsB c l = true → nrmB c l = true
  | [], _, _, _ => rfl
  | x :: l, c, hc, h => by
    obtain ⟨h1, h2, h3⟩ := rsB_cons.1 h
    have hav : av x = x := by unfold av; rw [if_neg (by omega)]
    rw [nrm_cons, hav]
    exact ⟨by omega, h2, h1, rs_nrm (by omega) h3⟩
theorem norm_eq {l : List Int} (hm : ∀ x ∈ l, 0 < x ∧ x ≤ 65536) (hn : l.Nodup) (hl : l.length ≤ 2048) : F_skolemref01_Norm l = some (srt l, 0) := by
  unfold F_skolemref01_Norm
  have h1 : ¬ ((l.length : Nat) : Int) > 200000 := by omega
  simp only [h1, decide_false, Bool.false_eq_true, if_false]
  obtain ⟨e1, e2, e3⟩ := norm_run l [] 0 (fun (s111 : (List Int)) => ((F_skolemref01_May s111).bind (fun y120 => (if (!y120) = true then (some (([] : List Int), (10 : Int))) else (some (s111, (0 : Int))))))) hm hn (by simp) rfl (by simp; omega)
  have es : l.foldl (fun a x => insP x a) [] = srt l := rs_ext e2 (srt_rs hn hm) (fun z => by
    rw [e3]
    have := (List.mergeSort_perm l (fun (x y : Int) => decide (x ≤ y))).mem_iff (a := z)
    simp only [List.not_mem_nil, false_or]
    exact this.symm)
  refine rangeF_pre l (fun _ _ => True) (fun _ _ _ => some (srt l, 0)) (fun s _ => ?_) ?_ l [] () rfl trivial
  · rw [e1, es, rmay1_eq (rs_nrm (by decide) (srt_rs hn hm)) (by unfold srt; rw [List.length_mergeSort]; omega)]
    rfl
  · intro pre x xs s kk hf hI hk
    have hx := hm x (by rw [hf]; simp)
    rw [lit_eq (by omega) hx.2 (by omega), Option.bind_some, hk () trivial]
    rfl
theorem pure_eq {d : S_api_Dqbf} (h : May d) (hs : Sm d) : F_skolemref13_pure d = some (pairO (pureO d)) := by
  have hlen := h.len
  have hv : (varsD d).length = d.Exist.length := by simp [varsD]
  unfold F_skolemref13_pure
  rw [capN_eq (by simp; omega), app_run d.Exist _ _ (by simp; omega), List.nil_append]
  have e : d.Univ ++ d.Exist.map (·.Var) = d.Univ ++ varsD d := rfl
  have hm : ∀ x ∈ d.Univ ++ varsD d, 0 < x ∧ x ≤ 65536 := fun x hx => by
    rcases List.mem_append.1 hx with hx | hx
    · exact rsB_mem h.ru x hx
    · exact rsB_mem h.rv x hx
  have hn : (d.Univ ++ varsD d).Nodup := List.nodup_append.2 ⟨rsB_nodup h.ru, rsB_nodup h.rv, fun a ha b hb e => h.sep ha (e ▸ hb)⟩
  rw [e, norm_eq hm hn (by rw [List.length_append]; omega), Option.bind_some]
  refine (rangeF_first (k := fun _ => some noC) (srt (d.Univ ++ varsD d)) (fun _ v => firstI (fun _ x => if nowB d (-x) = true then some (S_api_Change.mk 2 x 0 0 0) else none) 0 [v, -v]) (fun c => some (c, true)) ?_).trans (orE_pair _)
  intro pre x xs kk hf
  have hxm : x ∈ d.Univ ++ varsD d := by
    have : x ∈ srt (d.Univ ++ varsD d) := by rw [hf]; simp
    exact (List.mergeSort_perm _ _).mem_iff.1 this
  have hx := hm x hxm
  have hav : av x = x := by unfold av; rw [if_neg (by omega)]
  have hmem : av x ∈ d.Univ ∨ av x ∈ varsD d := by rw [hav]; exact List.mem_append.1 hxm
  have hmem2 : av (-x) ∈ d.Univ ∨ av (-x) ∈ varsD d := by rw [av_neg]; exact hmem
  have m1 : IntKind.wrap .i64 ((1 : Int) * x) = x := by rw [Int.one_mul, wrap_id (by omega) (by omega)]
  have m2 : IntKind.wrap .i64 ((-1 : Int) * x) = -x := by rw [wrap_id (by omega) (by omega)]; omega
  have s1 : IntKind.wrap .i64 ((1 : Int) - 2) = -1 := by decide
  have s2 : IntKind.wrap .i64 ((-1 : Int) - 2) = -3 := by decide
  obtain ⟨n, hn3⟩ : ∃ n, (1000000000000 : Nat) = n + 3 := ⟨999999999997, rfl⟩
  rw [hn3, whileF_succ]
  have g1 : decide ((1 : Int) ≥ -1) = true := by decide
  have g2 : decide ((-1 : Int) ≥ -1) = true := by decide
  have g3 : decide ((-3 : Int) ≥ -1) = false := by decide
  simp only [g1, if_true, m1, allow2 (by omega : x ≠ 0) (by omega) hx.2 hmem, Option.bind_some, s1]
  simp only [firstI]
  by_cases n1 : nowB d (-x) = true
  · simp only [n1, if_true, orE]
  · simp only [n1, Bool.false_eq_true, if_false]
    rw [whileF_succ]
    simp only [g2, if_true, m2, allow2 (by omega : -x ≠ 0) (by omega) (by omega) hmem2, Option.bind_some, s2, Int.neg_neg]
    by_cases n2 : nowB d x = true
    · simp only [n2, if_true, orE]
    · simp only [n2, Bool.false_eq_true, if_false]
      rw [whileF_succ]
      simp only [g3, Bool.false_eq_true, if_false, orE]
theorem wanted_eq (ks : List Int) (k : Int) : F_skolemref13_wanted ks k = some (wantB ks k) := by
  unfold F_skolemref13_wanted wantB
  refine (rangeF_eq (k := fun _ => some (((ks.length : Nat) : Int) == (0 : Int))) (fun _ (xs : List Int) _ => some (decide (ks = []) || decide (k ∈ xs))) (fun _ _ => ?_) ?_ ks 0 ())
  · cases ks with
    | nil => rfl
    | cons a t => simp; omega
  · intro j x xs s kk hk
    by_cases h : x = k
    · subst h; simp
    · have h' : (x == k) = false := by simp [h]
      have h2 : ¬ k = x := fun e => h e.symm
      simp [h', hk, h2]
theorem rnext_eq {d : S_api_Dqbf} (hs : Sm d) (ks : List Int) : F_skolemref13_Next d ks = some (nextV d ks) := by
  unfold F_skolemref13_Next nextV
  rw [may3_eq hs, Option.bind_some]
  by_cases hM : MayD d = true
  case neg => simp [Bool.eq_false_iff.2 hM, noC]
  have h := may_of hM
  simp only [hM, Bool.not_true, Bool.false_eq_true, if_false, if_true]
  have step : ∀ (o : Option S_api_Change) (w : Bool) (k : Option (S_api_Change × Bool)), (if (!w) = true then k else (if (pairO o).2 = true then some (S_api_Change.mk (pairO o).1.Kind (pairO o).1.Lit (pairO o).1.To (pairO o).1.At (pairO o).1.By, true) else k)) = orE (if w = true then o else none) (fun c => some (c, true)) k := by
    intro o w k
    cases w
    · rfl
    · cases o <;> rfl
  have e0 : ((0 : Nat) : Int) < 2 := by decide
  have e1 : ((0 + 1 : Nat) : Int) < 2 := by decide
  have e2 : ¬ ((0 + 1 + 1 : Nat) : Int) < 2 := by decide
  have e2' : (((0 + 1 + 1 : Nat) : Int) == 2) = true := by decide
  have e3 : ¬ ((0 + 1 + 1 + 1 : Nat) : Int) < 2 := by decide
  have e3' : (((0 + 1 + 1 + 1 : Nat) : Int) == 2) = false := by decide
  have e4 : ¬ ((0 + 1 + 1 + 1 + 1 : Nat) : Int) < 2 := by decide
  have e4' : (((0 + 1 + 1 + 1 + 1 : Nat) : Int) == 2) = false := by decide
  simp only [rangeF_cons, rangeF_nil, jn_eq, wanted_eq, Option.bind_some, e0, e1, e2, e2', e3, e3', e4, e4', decide_true, decide_false, if_true, Bool.false_eq_true, if_false, single1 h hs, single3 h hs, pure_eq h hs, double4 h hs, double5 h hs]
  simp only [step, orE_or]
  show orE (allO d ks) _ _ = _
  cases ha : allO d ks <;> rfl
end Go.Sk.X
namespace Go.Sk.X
open Go Go.Sk
theorem large_ok2 {d : S_api_Dqbf} : ∃ b, F_skolemlaw13_large d = some b := by
  unfold F_skolemlaw13_large
  rw [rangeF_fold (fun s (x : List Int) => IntKind.wrap .i64 (s + ((x.length : Nat) : Int))), rangeF_fold (fun s (x : S_api_Dep) => IntKind.wrap .i64 (s + (IntKind.wrap .i64 ((1 : Int) + ((x.On.length : Nat) : Int)))))]
  split
  · exact ⟨_, rfl⟩
  · exact ⟨_, rfl⟩
theorem awake_eq2 : F_skolemlaw13_awake = some true := by decide +kernel
theorem cleanNext_eq {d : S_api_Dqbf} (h : Sm d) (ks : List Int) : F_skolemlaw13_CleanNext d ks = some true := by
  unfold F_skolemlaw13_CleanNext
  obtain ⟨b, hb⟩ := large_ok2 (d := d)
  rw [hb, awake_eq2, pnext_eq h, rnext_eq h]
  simp only [Option.bind_some, jn_eq]
  cases b
  · by_cases hk : ((ks.length : Nat) : Int) > 20
    · simp [hk]
    · simp [hk]
  · simp
end Go.Sk.X