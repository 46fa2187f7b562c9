/- The plain law of CleanSteps: about numbers and lists alone. It has no conditions. -/
import Derived.Test.YtokbhdfaccahbaaDoorXCleanStepsF
set_option linter.unusedVariables false
set_option linter.unusedSimpArgs false
namespace Go.Sk
open Go
theorem jn_eq {S R : Type} (f : S → Option R) (g : (S → Option R) → Option R) : jn f g = g f := rfl
theorem rangeF_nil {α S R : Type} (f : Nat → α → S → (S → Option R) → Option R) (i : Nat) (s : S) (k : S → Option R) : rangeF f i [] s k = k s := rfl
theorem rangeF_cons {α S R : Type} (f : Nat → α → S → (S → Option R) → Option R) (i : Nat) (x : α) (xs : List α) (s : S) (k : S → Option R) : rangeF f i (x :: xs) s k = f i x s (fun s' => rangeF f (i + 1) xs s' k) := rfl
theorem upF_succ {S R : Type} (f : Int → S → (S → Option R) → Option R) (n : Nat) (i : Int) (s : S) (k : S → Option R) : upF f (n + 1) i s k = f i s (fun s' => upF f n (i + 1) s' k) := rfl
theorem whileF_succ {S R : Type} (n : Nat) (b : (S → Option R) → S → Option R) (s : S) : whileF (n + 1) b s = b (whileF n b) s := rfl
theorem whileF_by {S R : Type} {b : (S → Option R) → S → Option R} (μ : S → Nat) (I : S → Prop) (g : S → Option R)
    (step : ∀ s k, I s → (∀ s', I s' → μ s' < μ s → k s' = g s') → b k s = g s) : ∀ n s, I s → μ s < n → whileF n b s = g s
  | 0, s, _, h => absurd h (Nat.not_lt_zero _)
  | n + 1, s, hI, h => by
    rw [whileF_succ]
    exact step s _ hI (fun s' h1 h2 => whileF_by μ I g step n s' h1 (by omega))
theorem rangeF_eq {α S R : Type} {f : Nat → α → S → (S → Option R) → Option R} {k : S → Option R} (g : Nat → List α → S → Option R) (h0 : ∀ j s, g j [] s = k s)
    (h1 : ∀ j x xs s kk, (∀ s', kk s' = g (j + 1) xs s') → f j x s kk = g j (x :: xs) s) : ∀ xs j s, rangeF f j xs s k = g j xs s
  | [], j, s => (h0 j s).symm
  | x :: xs, j, s => h1 j x xs s _ (fun s' => rangeF_eq g h0 h1 xs (j + 1) s')
theorem rangeF_pre {α S R : Type} {f : Nat → α → S → (S → Option R) → Option R} {k : S → Option R} (full : List α) (I : List α → S → Prop) (g : List α → List α → S → Option R) (h0 : ∀ s, I full s → k s = g full [] s)
    (h1 : ∀ pre x xs s kk, full = pre ++ x :: xs → I pre s → (∀ s', I (pre ++ [x]) s' → kk s' = g (pre ++ [x]) xs s') → f pre.length x s kk = g pre (x :: xs) s) : ∀ xs pre s, full = pre ++ xs → I pre s → rangeF f pre.length xs s k = g pre xs s
  | [], pre, s, hf, hI => by
    rw [List.append_nil] at hf; subst hf
    exact h0 s hI
  | x :: xs, pre, s, hf, hI => by
    refine h1 pre x xs s _ hf hI (fun s' hs' => ?_)
    have := rangeF_pre full I g h0 h1 xs (pre ++ [x]) s' (by simp [hf]) hs'
    rw [List.length_append] at this
    exact this
theorem wrap_id {n : Int} (h0 : -9223372036854775808 ≤ n) (h1 : n ≤ 9223372036854775807) : IntKind.wrap .i64 n = n := by
  simp only [IntKind.wrap, IntKind.bits, IntKind.signed]
  simp only [Bool.true_and]
  split <;> rename_i h <;> simp only [ge_iff_le, decide_eq_true_eq] at h <;> omega
theorem inK64 {n : Int} : InK .i64 n ↔ -9223372036854775808 ≤ n ∧ n ≤ 9223372036854775807 := Iff.rfl
def av (x : Int) : Int := if x < 0 then -x else x
def nrmB (last : Int) : List Int → Bool
  | [] => true
  | x :: xs => decide (-65536 ≤ x) && decide (x ≤ 65536) && decide (last < av x) && nrmB (av x) xs
theorem av_nonneg (x : Int) : 0 ≤ av x := by unfold av; split <;> omega
theorem av_neg (x : Int) : av (-x) = av x := by unfold av; split <;> split <;> omega
theorem nrm_cons {c x : Int} {xs : List Int} : nrmB c (x :: xs) = true ↔ -65536 ≤ x ∧ x ≤ 65536 ∧ c < av x ∧ nrmB (av x) xs = true := by
  simp [nrmB, and_assoc]
theorem nrm_mono {c c' : Int} (h : c' ≤ c) : ∀ {l : List Int}, nrmB c l = true → nrmB c' l = true
  | [], _ => rfl
  | x :: xs, h' => by
    rw [nrm_cons] at h' ⊢
    exact ⟨h'.1, h'.2.1, by omega, h'.2.2.2⟩
theorem nrm_mem : ∀ {c : Int} {l : List Int}, nrmB c l = true → ∀ x ∈ l, c < av x ∧ -65536 ≤ x ∧ x ≤ 65536
  | c, [], _, x, h => by simp at h
  | c, y :: ys, h, x, hx => by
    rw [nrm_cons] at h
    rcases List.mem_cons.1 hx with rfl | hx
    · exact ⟨h.2.2.1, h.1, h.2.1⟩
    · have := nrm_mem h.2.2.2 x hx
      exact ⟨by omega, this.2⟩
theorem nrm_filter (p : Int → Bool) : ∀ {l : List Int} {c : Int}, nrmB c l = true → nrmB c (l.filter p) = true
  | [], _, h => rfl
  | x :: xs, c, h => by
    rw [nrm_cons] at h
    simp only [List.filter_cons]
    split
    · rw [nrm_cons]; exact ⟨h.1, h.2.1, h.2.2.1, nrm_filter p h.2.2.2⟩
    · exact nrm_mono (by omega) (nrm_filter p h.2.2.2)
end Go.Sk
namespace Go.Sk
open Go
def Has1 {R : Type} (Post : R → Prop) (x : Option R) : Prop := ∃ r, x = some r ∧ Post r
theorem whileF_ex {S R : Type} {Post : R → Prop} {b : (S → Option R) → S → Option R} (μ : S → Nat) (I : S → Prop)
    (step : ∀ s k, I s → (∀ s', I s' → μ s' < μ s → Has1 Post (k s')) → Has1 Post (b k s)) : ∀ n s, I s → μ s < n → Has1 Post (whileF n b s)
  | 0, s, _, h => absurd h (Nat.not_lt_zero _)
  | n + 1, s, hI, h => by
    rw [whileF_succ]
    exact step s _ hI (fun s' h1 h2 => whileF_ex μ I step n s' h1 (by omega))
theorem rangeF_fold {α S R : Type} (g : S → α → S) (k : S → Option R) : ∀ (xs : List α) (j : Nat) (s : S), rangeF (fun _ x s k => k (g s x)) j xs s k = k (xs.foldl g s)
  | [], _, _ => rfl
  | x :: xs, j, s => by rw [rangeF_cons]; exact rangeF_fold g k xs (j + 1) (g s x)
def rsB (c : Int) : List Int → Bool
  | [] => true
  | x :: xs => decide (c < x) && (decide (x ≤ 65536) && rsB x xs)
theorem rsB_cons {c x : Int} {xs : List Int} : rsB c (x :: xs) = true ↔ c < x ∧ x ≤ 65536 ∧ rsB x xs = true := by simp [rsB]
theorem rsB_mem : ∀ {l : List Int} {c : Int}, rsB c l = true → ∀ x ∈ l, c < x ∧ x ≤ 65536
  | [], _, _, x, hx => by simp at hx
  | y :: l, c, h, x, hx => by
    obtain ⟨h1, h2, h3⟩ := rsB_cons.1 h
    rcases List.mem_cons.1 hx with rfl | hx
    · exact ⟨h1, h2⟩
    · have := rsB_mem h3 x hx
      exact ⟨by omega, this.2⟩
theorem rsB_nodup : ∀ {l : List Int} {c : Int}, rsB c l = true → l.Nodup
  | [], _, _ => List.nodup_nil
  | y :: l, c, h => by
    obtain ⟨h1, h2, h3⟩ := rsB_cons.1 h
    exact List.nodup_cons.2 ⟨fun hm => by have := (rsB_mem h3 y hm).1; omega, rsB_nodup h3⟩
def lastD (l : List Int) : Int := (l.getLast?).getD 0
theorem lastD_app (l : List Int) (x : Int) : lastD (l ++ [x]) = x := by simp [lastD]
theorem lastD_get {l : List Int} (h : 0 < l.length) : l[l.length - 1]? = some (lastD l) := by
  unfold lastD
  rw [List.getLast?_eq_getElem?]
  have : l.length - 1 < l.length := by omega
  rw [List.getElem?_eq_getElem this]; rfl
theorem mget_fold {β : Type} (v : β) : ∀ (xs : List Int) (m : List (Int × β)) (k : Int), mget (xs.foldl (fun m x => mset m x v) m) k = if k ∈ xs then some v else mget m k
  | [], m, k => by simp
  | x :: xs, m, k => by
    rw [List.foldl_cons, mget_fold v xs, mget_mset]
    by_cases h1 : k ∈ xs
    · simp [h1]
    · by_cases h2 : k = x <;> simp [h1, h2]
end Go.Sk
namespace Go.Sk.X
open Go Go.Sk
theorem rises_eq (a : List Int) (hl : a.length ≤ 4194304) : F_prefix_rises a = some (rsB 0 a) := by
  refine rangeF_pre a (fun pre _ => 0 ≤ lastD pre) (fun pre xs _ => some (rsB (lastD pre) xs)) (fun _ _ => rfl) ?_ a [] () rfl (by decide)
  intro pre x xs s kk hf hI hk
  have hlen : pre.length < a.length := by rw [hf]; simp
  simp only [jn_eq, rsB]
  by_cases h1 : x < 1
  · have : ¬ lastD pre < x := by omega
    simp [h1, this]
  by_cases h2 : x > 65536
  · have : ¬ x ≤ 65536 := by omega
    simp [h1, h2, this]
  have hk' := hk () (by rw [lastD_app]; omega)
  rw [lastD_app] at hk'
  have h3 : x ≤ 65536 := by omega
  by_cases hp : 0 < pre.length
  · have e : IntKind.wrap .i64 (((pre.length : Nat) : Int) - 1) = ((pre.length - 1 : Nat) : Int) := by rw [wrap_id (by omega) (by omega)]; omega
    have hg : a[pre.length - 1]? = some (lastD pre) := by
      rw [hf, List.getElem?_append_left (by omega)]
      exact lastD_get hp
    have hp' : ((pre.length : Nat) : Int) > 0 := by omega
    simp only [h1, h2, hp', e, getI_nat, hg, decide_false, decide_true, if_true, if_false, Bool.false_eq_true]
    by_cases h4 : lastD pre ≥ x
    · have : ¬ lastD pre < x := by omega
      simp [h4, this]
    · have : lastD pre < x := by omega
      simp [h4, this, h3, hk']
  · have : pre = [] := List.eq_nil_of_length_eq_zero (by omega)
    subst this
    have h4 : lastD ([] : List Int) < x := by show (0 : Int) < x; omega
    simp [h1, h2, h3, h4, hk']
theorem rises3_eq (a : List Int) (hl : a.length ≤ 4194304) : F_skolemref03_Rises a = some (rsB 0 a) := rises_eq a hl
theorem abs3_eq {x : Int} (h0 : -9223372036854775807 ≤ x) (h1 : x ≤ 9223372036854775807) : F_skolemref03_Abs x = some (av x) := by
  unfold F_skolemref03_Abs av
  by_cases h : x < 0
  · have e : IntKind.wrap .i64 (0 - x) = -x := by rw [wrap_id (by omega) (by omega)]; omega
    simp only [h, decide_true, if_true, e]
  · simp [h]
theorem absp_eq {x : Int} (h0 : -9223372036854775807 ≤ x) (h1 : x ≤ 9223372036854775807) : F_prefix_abs x = some (av x) := by
  unfold F_prefix_abs av imx
  have e : IntKind.wrap .i64 (0 - x) = -x := by rw [wrap_id (by omega) (by omega)]; omega
  rw [e]
  by_cases h : x < 0
  · rw [if_pos (by omega), if_pos h]
  · rw [if_neg (by omega), if_neg h]
theorem normal_eq (a : List Int) (hl : a.length ≤ 4194304) : F_skolemref03_Normal a = some (nrmB 0 a) := by
  refine rangeF_pre a (fun pre _ => pre = [] ∨ (-65536 ≤ lastD pre ∧ lastD pre ≤ 65536)) (fun pre xs _ => some (nrmB (if pre = [] then 0 else av (lastD pre)) xs)) (fun _ _ => rfl) ?_ a [] () rfl (.inl rfl)
  intro pre x xs s kk hf hI hk
  have hlen : pre.length < a.length := by rw [hf]; simp
  simp only [jn_eq, nrmB]
  have av0 := av_nonneg (lastD pre)
  by_cases h0 : x = 0
  · subst h0
    have : av 0 = 0 := rfl
    have h5 : ¬ (if pre = [] then 0 else av (lastD pre)) < av 0 := by rw [this]; split <;> omega
    simp [h5]
  have h0' : (x == 0) = false := by simp [h0]
  by_cases h1 : x < -65536
  · have : ¬ -65536 ≤ x := by omega
    simp [h0', h1, this]
  by_cases h2 : x > 65536
  · have : ¬ x ≤ 65536 := by omega
    simp [h0', h1, h2, this]
  have hk' := hk () (.inr (by rw [lastD_app]; omega))
  rw [lastD_app] at hk'
  simp only [List.append_eq_nil_iff, List.cons_ne_self, and_false, if_false, reduceCtorEq] at hk'
  have h3 : x ≤ 65536 := by omega
  have h3' : -65536 ≤ x := by omega
  by_cases hp : 0 < pre.length
  · have e : IntKind.wrap .i64 (((pre.length : Nat) : Int) - 1) = ((pre.length - 1 : Nat) : Int) := by rw [wrap_id (by omega) (by omega)]; omega
    have hg : a[pre.length - 1]? = some (lastD pre) := by
      rw [hf, List.getElem?_append_left (by omega)]
      exact lastD_get hp
    have hp' : ((pre.length : Nat) : Int) > 0 := by omega
    have hne : pre ≠ [] := by intro e; subst e; simp at hp
    rcases hI with rfl | ⟨i1, i2⟩
    · exact absurd rfl hne
    simp only [h0', h1, h2, hp', e, getI_nat, hg, abs3_eq (x := x) (by omega) (by omega), abs3_eq (x := lastD pre) (by omega) (by omega), Option.bind_some, decide_false, decide_true, if_true, if_false, Bool.false_eq_true, hne]
    by_cases h4 : av (lastD pre) ≥ av x
    · have : ¬ av (lastD pre) < av x := by omega
      simp [h4, this]
    · have : av (lastD pre) < av x := by omega
      simp [h4, this, h3, h3', hk']
  · have : pre = [] := List.eq_nil_of_length_eq_zero (by omega)
    subst this
    have h4 : 0 < av x := by unfold av; split <;> omega
    simp [h0', h1, h2, h3, h3', h4, hk']
theorem has_eq (l : List Int) (v : Int) : F_skolemref03_Has l v = some (decide (v ∈ l)) := by
  refine rangeF_eq (fun _ xs _ => some (decide (v ∈ xs))) (fun _ _ => by simp) ?_ l 0 ()
  intro j x xs s kk hk
  by_cases h : x = v
  · subst h; simp
  · have : ¬ v = x := fun e => h e.symm
    simp [h, hk, this]
theorem part_eq (l u : List Int) : F_skolemref03_Part l u = some (l.all fun x => decide (x ∈ u)) := by
  refine rangeF_eq (fun _ xs _ => some (xs.all fun x => decide (x ∈ u))) (fun _ _ => rfl) ?_ l 0 ()
  intro j x xs s kk hk
  simp only [has_eq, Option.bind_some]
  by_cases h : x ∈ u <;> simp [h, hk]
def singB (pre : List Int) : List Int → Bool
  | [] => true
  | x :: xs => decide (1 ≤ x) && (decide (x ≤ 65536) && (!decide (x ∈ pre) && singB (pre ++ [x]) xs))
theorem single_eq (a : List Int) : F_skolemref03_single a = some (singB [] a) := by
  refine rangeF_pre a (fun pre _ => True) (fun pre xs _ => some (singB pre xs)) (fun _ _ => rfl) ?_ a [] () rfl trivial
  intro pre x xs s kk hf hI hk
  have hlen : pre.length < a.length := by rw [hf]; simp
  have hk' := hk () trivial
  simp only [jn_eq, singB]
  by_cases h1 : x < 1
  · have : ¬ 1 ≤ x := by omega
    simp [h1, this]
  by_cases h2 : x > 65536
  · have : ¬ x ≤ 65536 := by omega
    simp [h1, h2, this]
  have h3 : x ≤ 65536 := by omega
  have h4 : 1 ≤ x := by omega
  have ht : a.take (((pre.length : Nat) : Int)).toNat = pre := by rw [hf]; simp
  have ho : 0 ≤ ((pre.length : Nat) : Int) ∧ ((pre.length : Nat) : Int).toNat ≤ a.length := ⟨by omega, by omega⟩
  rw [okI_eq ho, ht, has_eq]
  by_cases h5 : x ∈ pre <;> simp [h1, h2, h3, h4, h5, hk']
theorem sing_iff : ∀ (l pre : List Int), singB pre l = true ↔ (∀ x ∈ l, 1 ≤ x ∧ x ≤ 65536) ∧ l.Nodup ∧ ∀ x ∈ l, x ∉ pre
  | [], pre => by simp [singB]
  | y :: l, pre => by
    simp only [singB, Bool.and_eq_true, decide_eq_true_eq, Bool.not_eq_true', decide_eq_false_iff_not, sing_iff l (pre ++ [y]), List.mem_append, List.mem_singleton, not_or, List.mem_cons, List.not_mem_nil, or_false, forall_eq_or_imp, List.nodup_cons]
    constructor
    · rintro ⟨a, b, c, d, e, f⟩
      exact ⟨⟨⟨a, b⟩, d⟩, ⟨fun hm => (f y hm).2 rfl, e⟩, c, fun x hx => (f x hx).1⟩
    · rintro ⟨⟨⟨a, b⟩, d⟩, ⟨f, e⟩, c, g⟩
      exact ⟨a, b, c, d, e, fun x hx => ⟨g x hx, fun e => f (e ▸ hx)⟩⟩
def varsD (d : S_api_Dqbf) : List Int := d.Exist.map (·.Var)
theorem all_eq (d : S_api_Dqbf) (h : d.Univ.length + d.Exist.length ≤ 8388608) : F_skolemref03_All d = some (d.Univ ++ varsD d) := by
  unfold F_skolemref03_All
  rw [capN_eq (by simp; omega)]
  refine rangeF_pre d.Exist (fun pre s => s.length = d.Univ.length + pre.length) (fun _ xs s => some (s ++ xs.map (·.Var))) (fun s _ => by simp) ?_ d.Exist [] ([] ++ d.Univ) rfl (by simp)
  intro pre x xs s kk hf hI hk
  have hlen : pre.length < d.Exist.length := by rw [hf]; simp
  rw [capN_eq (by simp; omega), hk _ (by simp [hI]; omega)]
  simp
def tot (cs : List (List Int)) : Nat := (cs.map List.length).sum
theorem tot_app (a b : List (List Int)) : tot (a ++ b) = tot a + tot b := by simp [tot]
theorem tot_cons (a : List Int) (b : List (List Int)) : tot (a :: b) = a.length + tot b := by simp [tot]
theorem tot_mem {cs : List (List Int)} {c : List Int} (h : c ∈ cs) : c.length ≤ tot cs := by
  obtain ⟨a, b, rfl⟩ := List.append_of_mem h
  rw [tot_app, tot_cons]; omega
theorem cnf_eq (cs : List (List Int)) (h : tot cs ≤ 4194304) : F_skolemref03_Cnf cs = some (cs.all (nrmB 0) && (decide (cs.length ≤ 20000) && decide (tot cs ≤ 200000))) := by
  refine rangeF_pre cs (fun pre s => s = (tot pre : Int)) (fun pre xs s => some (xs.all (nrmB 0) && (decide (cs.length ≤ 20000) && decide (tot cs ≤ 200000)))) ?_ ?_ cs [] 0 rfl rfl
  · rintro s rfl
    by_cases h1 : cs.length ≤ 20000
    · have : ((cs.length : Nat) : Int) ≤ 20000 := by omega
      by_cases h2 : tot cs ≤ 200000
      · have h3 : (tot cs : Int) ≤ 200000 := by omega
        simp [this, h1, h2, h3]
      · have h3 : ¬ (tot cs : Int) ≤ 200000 := by omega
        simp [this, h1, h2, h3]
    · have : ¬ ((cs.length : Nat) : Int) ≤ 20000 := by omega
      simp [this, h1]
  · intro pre x xs s kk hf hI hk
    have ht : tot pre + x.length ≤ tot cs := by rw [hf, tot_app, tot_cons]; omega
    rw [normal_eq x (by omega), Option.bind_some]
    have hk' := hk (IntKind.wrap .i64 (s + ((x.length : Nat) : Int))) (by rw [hI, wrap_id (by omega) (by omega), tot_app]; simp [tot])
    by_cases hx : nrmB 0 x = true
    · simp [hx, hk']
    · simp [hx]
theorem within_in (u : List Int) (kk : Unit → Option Bool) (c : List Int) (hr : ∀ x ∈ c, -65536 ≤ x ∧ x ≤ 65536) (hl : c.length ≤ 4194304) (R : Option Bool) (hk : kk () = R) :
    whileF 1000000000000 (fun k130 (s128 : Int) => (if (decide (s128 < ((c.length : Nat) : Int))) = true then (getI c s128 (fun x146 => ((F_skolemref03_Abs x146).bind (fun y147 => ((F_skolemref03_Has u y147).bind (fun y148 => (if (!y148) = true then (some false) else (k130 (IntKind.wrap .i64 (s128 + (1 : Int))))))))))) else (kk ()))) (0 : Int)
      = if (c.all fun x => decide (av x ∈ u)) = true then R else some false := by
  have := whileF_by (b := (fun k130 (s128 : Int) => (if (decide (s128 < ((c.length : Nat) : Int))) = true then (getI c s128 (fun x146 => ((F_skolemref03_Abs x146).bind (fun y147 => ((F_skolemref03_Has u y147).bind (fun y148 => (if (!y148) = true then (some false) else (k130 (IntKind.wrap .i64 (s128 + (1 : Int))))))))))) else (kk ())))) (fun s : Int => c.length - s.toNat) (fun s => 0 ≤ s ∧ s ≤ c.length) (fun s => if ((c.drop s.toNat).all fun x => decide (av x ∈ u)) = true then R else some false) ?_ 1000000000000 0 (by simp) (by simp; omega)
  · simpa using this
  · intro s k ⟨h0, h1⟩ hs
    by_cases h2 : s < ((c.length : Nat) : Int)
    · obtain ⟨n, rfl⟩ : ∃ n : Nat, s = n := ⟨s.toNat, by omega⟩
      have hn : n < c.length := by omega
      have hd : c.drop n = c[n] :: c.drop (n + 1) := by rw [List.drop_eq_getElem_cons hn]
      have hm := hr c[n] (List.getElem_mem hn)
      have hw : IntKind.wrap .i64 (((n : Nat) : Int) + 1) = ((n + 1 : Nat) : Int) := by rw [wrap_id (by omega) (by omega)]; omega
      have hs' := hs ((n + 1 : Nat) : Int) ⟨by omega, by omega⟩ (by simp; omega)
      simp only [h2, decide_true, if_true, getI_nat, List.getElem?_eq_getElem hn, abs3_eq (x := c[n]) (by omega) (by omega), has_eq, Option.bind_some, hw, hs', Int.toNat_natCast, hd, List.all_cons]
      by_cases h3 : av c[n] ∈ u <;> simp [h3]
    · have : s.toNat = c.length := by omega
      simp [h2, this, hk]
theorem within_eq (cs : List (List Int)) (u : List Int) (hr : ∀ c ∈ cs, nrmB 0 c = true) (hl : tot cs ≤ 4194304) : F_skolemref03_within cs u = some (cs.all fun c => c.all fun x => decide (av x ∈ u)) := by
  refine rangeF_pre cs (fun pre _ => True) (fun _ xs _ => some (xs.all fun c => c.all fun x => decide (av x ∈ u))) (fun _ _ => rfl) ?_ cs [] () rfl trivial
  intro pre x xs s kk hf hI hk
  have hx : x ∈ cs := by rw [hf]; simp
  rw [within_in u kk x (fun y hy => (nrm_mem (hr x hx) y hy).2) (Nat.le_trans (tot_mem hx) hl) _ (hk () trivial)]
  by_cases h : (x.all fun x => decide (av x ∈ u)) = true
  · rw [if_pos h]; simp only [List.all_cons, h, Bool.true_and]
  · rw [if_neg h]; simp only [List.all_cons, Bool.eq_false_iff.2 h, Bool.false_and]
end Go.Sk.X
namespace Go.Sk.X
open Go Go.Sk
structure Sm (d : S_api_Dqbf) : Prop where
  univ : d.Univ.length ≤ 2097152
  exist : d.Exist.length ≤ 2097152
  cls : d.Clauses.length ≤ 2097152
  tot : tot d.Clauses ≤ 2097152
  on : (d.Exist.map fun e => e.On.length).sum ≤ 2097152
theorem Sm.onE {d : S_api_Dqbf} (h : Sm d) {e : S_api_Dep} (he : e ∈ d.Exist) : e.On.length ≤ 2097152 := by
  have := h.on
  obtain ⟨a, b, hh⟩ := List.append_of_mem he
  rw [hh] at this
  simp at this
  omega
def depB (u : List Int) (e : S_api_Dep) : Bool := rsB 0 e.On && e.On.all fun x => decide (x ∈ u)
def MayD (d : S_api_Dqbf) : Bool :=
  (d.Exist.all fun e => !decide (e.Var ∈ d.Univ) && depB d.Univ e) && (rsB 0 d.Univ && (rsB 0 (varsD d) && (decide (d.Univ.length + d.Exist.length ≤ 1024) &&
    (decide (d.Clauses.length ≤ 20000) && ((d.Clauses.all fun c => nrmB 0 c && c.all fun x => decide (av x ∈ d.Univ ++ varsD d)) && decide (tot d.Clauses ≤ 200000))))))
theorem may3_eq {d : S_api_Dqbf} (h : Sm d) : F_skolemref03_MayDqbf d = some (MayD d) := by
  unfold F_skolemref03_MayDqbf
  have hv : (varsD d).length = d.Exist.length := by simp [varsD]
  have hA : (d.Univ ++ varsD d).length = d.Univ.length + d.Exist.length := by simp [hv]
  have h1 := h.univ
  have h2 := h.exist
  rw [all_eq d (by omega), Option.bind_some]
  simp only [jn_eq]
  by_cases hlen : d.Univ.length + d.Exist.length ≤ 1024
  case neg =>
    have : (((d.Univ ++ varsD d).length : Nat) : Int) > 1024 := by omega
    simp only [this, decide_true, if_true, MayD, hlen, decide_false, Bool.false_and, Bool.and_false]
  have hlen' : ¬ (((d.Univ ++ varsD d).length : Nat) : Int) > 1024 := by omega
  simp only [hlen', decide_false, Bool.false_eq_true, if_false, single_eq, Option.bind_some, rises3_eq d.Univ (by omega)]
  by_cases hU : rsB 0 d.Univ = true
  case neg =>
    have hU' := Bool.eq_false_iff.2 hU
    by_cases hs : singB [] (d.Univ ++ varsD d) = true <;> simp [hs, hU', MayD]
  have ho : 0 ≤ ((d.Univ.length : Nat) : Int) ∧ (((d.Univ.length : Nat) : Int)).toNat ≤ (d.Univ ++ varsD d).length := ⟨by omega, by omega⟩
  have hd : (d.Univ ++ varsD d).drop (((d.Univ.length : Nat) : Int)).toNat = varsD d := by simp
  rw [okI_eq ho, hd, rises3_eq (varsD d) (by omega)]
  simp only [Option.bind_some]
  by_cases hV : rsB 0 (varsD d) = true
  case neg =>
    have hV' := Bool.eq_false_iff.2 hV
    by_cases hs : singB [] (d.Univ ++ varsD d) = true <;> simp [hs, hU, hV', MayD]
  -- one of each, since both rise
  have hs : singB [] (d.Univ ++ varsD d) = true ↔ ∀ e ∈ d.Exist, e.Var ∉ d.Univ := by
    rw [sing_iff]
    constructor
    · rintro ⟨_, a, _⟩ e he hm
      exact (List.nodup_append.1 a).2.2 _ hm _ (List.mem_map.2 ⟨e, he, rfl⟩) rfl
    · intro hx
      refine ⟨fun x hm => ?_, List.nodup_append.2 ⟨rsB_nodup hU, rsB_nodup hV, ?_⟩, by simp⟩
      · rcases List.mem_append.1 hm with hm | hm
        · have := rsB_mem hU x hm; omega
        · have := rsB_mem hV x hm; omega
      · rintro x hm y hy rfl
        obtain ⟨e, he, rfl⟩ := List.mem_map.1 hy
        exact hx e he hm
  by_cases hS : singB [] (d.Univ ++ varsD d) = true
  case neg =>
    have hS' := Bool.eq_false_iff.2 hS
    have : ∃ e ∈ d.Exist, e.Var ∈ d.Univ := by
      refine Classical.byContradiction fun hc => hS (hs.2 fun e he hm => hc ⟨e, he, hm⟩)
    obtain ⟨e, he, hm⟩ := this
    have hall : (d.Exist.all fun e => !decide (e.Var ∈ d.Univ) && depB d.Univ e) = false := by
      rw [List.all_eq_false]
      exact ⟨e, he, by simp [hm]⟩
    simp [hS', MayD, hall]
  have hS2 := hs.1 hS
  have hall : (d.Exist.all fun e => !decide (e.Var ∈ d.Univ) && depB d.Univ e) = d.Exist.all (depB d.Univ) := by
    rw [Bool.eq_iff_iff]
    simp only [List.all_eq_true, Bool.and_eq_true, Bool.not_eq_true', decide_eq_false_iff_not]
    exact ⟨fun q e he => (q e he).2, fun q e he => ⟨hS2 e he, q e he⟩⟩
  rw [cnf_eq d.Clauses (Nat.le_trans h.tot (by decide))]
  simp only [hS, hU, hV, Bool.not_true, Bool.false_eq_true, if_false, Option.bind_some]
  -- the deps
  have hdeps : (rangeF (fun (j146 : Nat) (x147 : S_api_Dep) (s143 : Unit) k145 => (((F_skolemref03_Rises x147.On).bind (fun y185 => (if (!y185) = true then (if True then (some false) else (k145 ())) else ((F_skolemref03_Part x147.On d.Univ).bind (fun y187 => (if (!y187) = true then (some false) else (k145 ()))))))))) 0 d.Exist () (fun (s143 : Unit) => (some true))) = some (d.Exist.all (depB d.Univ)) := by
    refine rangeF_pre d.Exist (fun pre _ => True) (fun _ xs _ => some (xs.all (depB d.Univ))) (fun _ _ => rfl) ?_ d.Exist [] () rfl trivial
    intro pre x xs s kk hf hI hk
    have hx : x ∈ d.Exist := by rw [hf]; simp
    rw [rises3_eq x.On (Nat.le_trans (h.onE hx) (by decide)), Option.bind_some, part_eq, Option.bind_some, hk () trivial, List.all_cons, depB]
    by_cases a : rsB 0 x.On = true
    · by_cases b : (x.On.all fun x => decide (x ∈ d.Univ)) = true
      · rw [a, b]; simp
      · rw [a, Bool.eq_false_iff.2 b]; simp
    · rw [Bool.eq_false_iff.2 a]; simp
  rw [hdeps]
  unfold MayD
  rw [hall, hU, hV]
  by_cases hN : d.Clauses.all (nrmB 0) = true
  case neg =>
    have hN' := Bool.eq_false_iff.2 hN
    have : (d.Clauses.all fun c => nrmB 0 c && c.all fun x => decide (av x ∈ d.Univ ++ varsD d)) = false := by
      rw [List.all_eq_false] at hN' ⊢
      obtain ⟨c, hc, hn⟩ := hN'
      exact ⟨c, hc, by simp [Bool.eq_false_iff.2 hn]⟩
    simp only [hN', this, Bool.false_and, Bool.and_false, Bool.not_false, if_true]
  have hN2 := List.all_eq_true.1 hN
  rw [within_eq d.Clauses _ hN2 (Nat.le_trans h.tot (by decide)), Option.bind_some]
  have hW : (d.Clauses.all fun c => nrmB 0 c && c.all fun x => decide (av x ∈ d.Univ ++ varsD d)) = d.Clauses.all fun c => c.all fun x => decide (av x ∈ d.Univ ++ varsD d) := by
    rw [Bool.eq_iff_iff]
    simp only [List.all_eq_true, Bool.and_eq_true]
    exact ⟨fun q e he => (q e he).2, fun q e he => ⟨hN2 e he, q e he⟩⟩
  rw [hW, hN]
  generalize (d.Clauses.all fun c => c.all fun x => decide (av x ∈ d.Univ ++ varsD d)) = w
  generalize d.Exist.all (depB d.Univ) = e
  by_cases a : d.Clauses.length ≤ 20000 <;> by_cases b : tot d.Clauses ≤ 200000 <;> cases w <;> cases e <;> simp [a, b, hlen]
theorem fold2 (xs : List Int) : ∀ (m m' : List (Int × Bool)), xs.foldl (fun (s : List (Int × Bool) × List (Int × Bool)) x => (mset s.1 x true, mset s.2 x true)) (m, m') = (xs.foldl (fun m x => mset m x true) m, xs.foldl (fun m x => mset m x true) m') := by
  induction xs with
  | nil => intro m m'; rfl
  | cons x xs ih => intro m m'; rw [List.foldl_cons, List.foldl_cons, List.foldl_cons, ih]
theorem findF_eq (m : Int → Bool) (kk : Int → Option Bool) (l : List Int) (R : Option Bool) (hb : ∀ j : Nat, kk (j : Int) = some false) (hk : kk (-1) = R) :
    rangeF (fun (j1617 : Nat) (x1618 : Int) (s1614 : Unit) k1616 => (if (!(m x1618)) = true then (kk ((j1617 : Nat) : Int)) else (k1616 ()))) 0 l () (fun (s1614 : Unit) => kk (-1 : Int)) = if (l.all m) = true then R else some false := by
  refine rangeF_eq (fun _ xs _ => if (xs.all m) = true then R else some false) (fun _ _ => hk.symm) ?_ l 0 ()
  intro j x xs s k2 h2
  by_cases h : m x = true
  · simp [h, h2]
  · simp [Bool.eq_false_iff.2 h, hb]
theorem lits_in (m : Int → Bool) (kk : Int → Option Bool) (l : List Int) (R : Option Bool) (hk : ∀ s, kk s = R) :
    rangeF (fun (j3902 : Nat) (x3903 : Int) (s3899 : Int) k3901 => (jn (fun (s4091 : Bool) => (if s4091 = true then (some false) else ((F_prefix_abs x3903).bind (fun y4095 => (k3901 y4095))))) (fun k4093 => (if (x3903 == (0 : Int)) = true then (k4093 true) else (if (decide (x3903 < (-65536 : Int))) = true then (k4093 true) else (if (decide (x3903 > (65536 : Int))) = true then (k4093 true) else ((F_prefix_abs x3903).bind (fun y4099 => (if (decide (y4099 ≤ s3899)) = true then (k4093 true) else ((F_prefix_abs x3903).bind (fun y4101 => (k4093 (!(m y4101)))))))))))))) 0 l (0 : Int) kk
      = if (nrmB 0 l && l.all fun x => m (av x)) = true then R else some false := by
  refine rangeF_pre l (fun _ s => 0 ≤ s) (fun _ xs s => if (nrmB s xs && xs.all fun x => m (av x)) = true then R else some false) (fun s _ => by simp [nrmB, hk]) ?_ l [] 0 rfl (by decide)
  intro pre x xs s k2 hf hI h2
  simp only [jn_eq]
  by_cases h0 : x = 0
  · subst h0
    have h5 : ¬ s < av 0 := by show ¬ s < 0; omega
    simp [h5, nrmB]
  have h0' : (x == 0) = false := by simp [h0]
  by_cases h1 : x < -65536
  · have : ¬ -65536 ≤ x := by omega
    simp [h0', h1, this, nrmB]
  by_cases h3 : x > 65536
  · have : ¬ x ≤ 65536 := by omega
    simp [h0', h1, h3, this, nrmB]
  have e1 : -65536 ≤ x := by omega
  have e2 : x ≤ 65536 := by omega
  rw [absp_eq (x := x) (by omega) (by omega)]
  simp only [h0', h1, h3, decide_false, Bool.false_eq_true, if_false, Option.bind_some, nrmB, e1, e2, decide_true, Bool.true_and, List.all_cons]
  by_cases h4 : av x ≤ s
  · have : ¬ s < av x := by omega
    simp [h4, this]
  · have h5 : s < av x := by omega
    rw [h2 (av x) (av_nonneg x)]
    cases h6 : m (av x) <;> simp [h4, h5, h6]
theorem mayp_eq {d : S_api_Dqbf} (h : Sm d) : F_prefix_MayDqbf d = some (MayD d) := by
  unfold F_prefix_MayDqbf
  rw [rangeF_fold (fun (s : List (Int × Bool) × List (Int × Bool)) x => (mset s.1 x true, mset s.2 x true)), fold2]
  have h1 := h.univ
  have h2 := h.exist
  have h3 := h.tot
  have hmu : ∀ x, ((mget (d.Univ.foldl (fun m x => mset m x true) []) x).getD false) = decide (x ∈ d.Univ) := by
    intro x; rw [mget_fold]; by_cases hx : x ∈ d.Univ <;> simp [hx, mget]
  generalize hM : d.Univ.foldl (fun m x => mset m x true) ([] : List (Int × Bool)) = M at hmu ⊢
  simp only [hmu, jn_eq]
  refine (rangeF_pre d.Exist (fun pre s => s = pre.map (·.Var)) (fun _ xs _ => some ((xs.all fun e => !decide (e.Var ∈ d.Univ) && depB d.Univ e) && (rsB 0 d.Univ && (rsB 0 (varsD d) && (decide (d.Univ.length + d.Exist.length ≤ 1024) &&
    (decide (d.Clauses.length ≤ 20000) && ((d.Clauses.all fun c => nrmB 0 c && c.all fun x => decide (av x ∈ d.Univ ++ varsD d)) && decide (tot d.Clauses ≤ 200000)))))))) ?_ ?_ d.Exist [] [] rfl rfl)
  · rintro s rfl
    have hv : (d.Exist.map (·.Var)).length = d.Exist.length := by simp
    rw [rangeF_fold (fun m x => mset m x true)]
    have hma : ∀ x, (mget ((d.Exist.map (·.Var)).foldl (fun m x => mset m x true) M) x).isSome = decide (x ∈ d.Univ ++ varsD d) := by
      intro x
      rw [mget_fold, ← hM, mget_fold]
      by_cases a : x ∈ d.Exist.map (·.Var)
      · rw [if_pos a]; simp [varsD]; exact .inr (by simpa using a)
      · rw [if_neg a]
        by_cases b : x ∈ d.Univ
        · rw [if_pos b]; simp [b]
        · rw [if_neg b]
          have : x ∉ d.Univ ++ varsD d := by simp only [List.mem_append, not_or]; exact ⟨b, a⟩
          simp [mget, this]
    simp only [hma, rises_eq d.Univ (by omega), Option.bind_some, List.all_nil, Bool.true_and]
    by_cases hU : rsB 0 d.Univ = true
    case neg => simp [Bool.eq_false_iff.2 hU]
    rw [rises_eq _ (by rw [hv]; omega), Option.bind_some]
    by_cases hV : rsB 0 (varsD d) = true
    case neg =>
      have : rsB 0 (d.Exist.map (·.Var)) = false := Bool.eq_false_iff.2 hV
      simp [hU, this, Bool.eq_false_iff.2 hV]
    have hV' : rsB 0 (d.Exist.map (·.Var)) = true := hV
    rw [hv, wrap_id (by omega) (by omega)]
    by_cases hl : d.Univ.length + d.Exist.length ≤ 1024
    case neg =>
      have : ¬ ((d.Univ.length : Int) + (d.Exist.length : Int) ≤ 1024) := by omega
      simp [hU, hV', hl, this]
    have hl' : ((d.Univ.length : Int) + (d.Exist.length : Int) ≤ 1024) := by omega
    simp only [hU, hV, hV', hl, hl', decide_true, if_true, Bool.true_and]
    by_cases hc : d.Clauses.length ≤ 20000
    case neg =>
      have : ((d.Clauses.length : Nat) : Int) > 20000 := by omega
      simp [hc, this]
    have hc' : ¬ ((d.Clauses.length : Nat) : Int) > 20000 := by omega
    simp only [hc, hc', decide_true, decide_false, Bool.false_eq_true, if_false, Bool.true_and]
    have key := rangeF_pre (f := (fun (j3491 : Nat) (x3492 : (List Int)) (s3488 : Int) (k3490 : Int → Option Bool) => (rangeF (fun (j3902 : Nat) (x3903 : Int) (s3899 : Int) k3901 => (jn (fun (s4091 : Bool) => (if s4091 = true then (some false) else ((F_prefix_abs x3903).bind (fun y4095 => (k3901 y4095))))) (fun k4093 => (if (x3903 == (0 : Int)) = true then (k4093 true) else (if (decide (x3903 < (-65536 : Int))) = true then (k4093 true) else (if (decide (x3903 > (65536 : Int))) = true then (k4093 true) else ((F_prefix_abs x3903).bind (fun y4099 => (if (decide (y4099 ≤ s3899)) = true then (k4093 true) else ((F_prefix_abs x3903).bind (fun y4101 => (k4093 (!(decide (y4101 ∈ d.Univ ++ varsD d))))))))))))))) 0 x3492 (0 : Int) (fun (s3899 : Int) => (k3490 (IntKind.wrap .i64 (s3488 + ((x3492.length : Nat) : Int)))))))) (k := fun s3488 => some (decide (s3488 ≤ (200000 : Int))))
      d.Clauses (fun pre s => s = (tot pre : Int)) (fun _ xs _ => some ((xs.all fun c => nrmB 0 c && c.all fun x => decide (av x ∈ d.Univ ++ varsD d)) && decide (tot d.Clauses ≤ 200000))) ?_ ?_ d.Clauses [] 0 rfl rfl
    · simp only [jn_eq, if_true, List.length_nil] at key
      rw [key]; simp
    · rintro s rfl
      by_cases ht : tot d.Clauses ≤ 200000
      · have h3 : (tot d.Clauses : Int) ≤ 200000 := by omega
        simp [ht, h3]
      · have h3 : ¬ (tot d.Clauses : Int) ≤ 200000 := by omega
        simp [ht, h3]
    · intro pre x xs s kk hf hI hk
      have ht : tot pre + x.length ≤ tot d.Clauses := by rw [hf, tot_app, tot_cons]; omega
      have hk' := hk (IntKind.wrap .i64 (s + ((x.length : Nat) : Int))) (by rw [hI, wrap_id (by omega) (by omega), tot_app]; simp [tot])
      rw [lits_in (fun y => decide (y ∈ d.Univ ++ varsD d)) _ x _ (fun _ => hk'), List.all_cons]
      by_cases hx : (nrmB 0 x && x.all fun x => decide (av x ∈ d.Univ ++ varsD d)) = true
      · rw [if_pos hx, hx, Bool.true_and]
      · rw [if_neg hx, Bool.eq_false_iff.2 hx, Bool.false_and, Bool.false_and]
  · intro pre x xs s kk hf hI hk
    have hx : x ∈ d.Exist := by rw [hf]; simp
    have hlen : pre.length < d.Exist.length := by rw [hf]; simp
    have hk' := hk (s ++ [x.Var]) (by rw [hI]; simp)
    rw [List.all_cons]
    by_cases hu : x.Var ∈ d.Univ
    · simp [hu]
    rw [rises_eq x.On (Nat.le_trans (h.onE hx) (by decide)), Option.bind_some, depB]
    by_cases a : rsB 0 x.On = true
    case neg => simp [hu, Bool.eq_false_iff.2 a]
    simp only [hu, a, decide_false, Bool.false_eq_true, if_false, Bool.not_true]
    have hA : ∀ j : Nat, (if (decide (((j : Nat) : Int) ≥ (0 : Int))) = true then (some false) else (capN (s.length + [x.Var].length) (kk (s ++ [x.Var])))) = some false := fun j => by
      have : ((j : Nat) : Int) ≥ 0 := by omega
      simp [this]
    have hB : (if (decide ((-1 : Int) ≥ (0 : Int))) = true then (some false) else (capN (s.length + [x.Var].length) (kk (s ++ [x.Var])))) = kk (s ++ [x.Var]) := by
      rw [capN_eq (by rw [hI]; simp; omega)]; simp
    rw [findF_eq (fun y => decide (y ∈ d.Univ)) (fun s1611 => (if (decide (s1611 ≥ (0 : Int))) = true then (some false) else (capN (s.length + [x.Var].length) (kk (s ++ [x.Var]))))) x.On (kk (s ++ [x.Var])) hA hB]
    rw [hk']
    by_cases b : (x.On.all fun y => decide (y ∈ d.Univ)) = true
    · rw [if_pos b, b]; simp
    · rw [if_neg b, Bool.eq_false_iff.2 b]; simp
end Go.Sk.X
namespace Go.Sk.X
open Go Go.Sk
structure May (d : S_api_Dqbf) : Prop where
  dj : ∀ e ∈ d.Exist, e.Var ∉ d.Univ
  on : ∀ e ∈ d.Exist, rsB 0 e.On = true ∧ ∀ x ∈ e.On, x ∈ d.Univ
  ru : rsB 0 d.Univ = true
  rv : rsB 0 (varsD d) = true
  len : d.Univ.length + d.Exist.length ≤ 1024
  nrm : ∀ c ∈ d.Clauses, nrmB 0 c = true
  wi : ∀ c ∈ d.Clauses, ∀ x ∈ c, av x ∈ d.Univ ∨ av x ∈ varsD d
theorem may_of {d : S_api_Dqbf} (h : MayD d = true) : May d := by
  simp only [MayD, Bool.and_eq_true, List.all_eq_true, decide_eq_true_eq, Bool.not_eq_true', decide_eq_false_iff_not, depB, List.mem_append] at h
  obtain ⟨h1, h2, h3, h4, h5, h6, h7⟩ := h
  exact ⟨fun e he => (h1 e he).1, fun e he => (h1 e he).2, h2, h3, h4, fun c hc => (h6 c hc).1, fun c hc => (h6 c hc).2⟩
theorem wrapu (n : Int) : IntKind.wrap .u64 n = n % 18446744073709551616 := by
  simp only [IntKind.wrap, IntKind.bits, IntKind.signed]
  simp
theorem litsVar_eq {x : Int} (h0 : -65536 ≤ x) (h1 : x ≤ 65536) : F_lits_Var x = some (av x) := by
  unfold F_lits_Var F_lits_size av
  by_cases h : x < 0
  · have e : IntKind.wrap .u64 (0 - IntKind.wrap .u64 x) = -x := by rw [wrapu, wrapu]; omega
    have e2 : -x ≤ 65536 := by omega
    simp only [h, decide_true, if_true, e, Option.bind_some, e2, wrap_id (n := -x) (by omega) (by omega)]
  · have e : IntKind.wrap .u64 x = x := by rw [wrapu]; omega
    simp [h, e, h1, wrap_id (n := x) (by omega) (by omega)]
theorem mget_foldV (es : List S_api_Dep) : ∀ (m : List (Int × List Int)) (k : Int), (mget (es.foldl (fun m e => mset m e.Var e.On) m) k).isSome = (decide (k ∈ es.map (·.Var)) || (mget m k).isSome) := by
  induction es with
  | nil => intro m k; simp
  | cons e es ih =>
    intro m k
    rw [List.foldl_cons, ih, mget_mset]
    by_cases h : k = e.Var
    · simp [h]
    · simp [h]
end Go.Sk.X
namespace Go.Sk.X
open Go Go.Sk
theorem nrm_before : ∀ {pre : List Int} {c x : Int} {xs : List Int}, nrmB c (pre ++ x :: xs) = true → ∀ y ∈ pre, av y < av x
  | [], _, _, _, _, y, hy => by simp at hy
  | z :: pre, c, x, xs, h, y, hy => by
    rw [List.cons_append, nrm_cons] at h
    rcases List.mem_cons.1 hy with rfl | hy
    · exact (nrm_mem h.2.2.2 x (by simp)).1
    · exact nrm_before h.2.2.2 y hy
theorem nrm_lit {c : List Int} (h : nrmB 0 c = true) {x : Int} (hx : x ∈ c) : x ≠ 0 ∧ -65536 ≤ x ∧ x ≤ 65536 := by
  obtain ⟨h1, h2⟩ := nrm_mem h x hx
  exact ⟨fun e => by subst e; simp [av] at h1, h2⟩
theorem lmay_run : ∀ (xs : List Int) (j : Nat) (s : Int), 0 ≤ s → nrmB s xs = true →
    rangeF (fun (j104 : Nat) (x105 : Int) (s101 : Int) k103 => ((F_lits_Var x105).bind (fun y110 => (if (decide (y110 ≤ s101)) = true then (some false) else (k103 y110))))) j xs s (fun (s101 : Int) => (some true)) = some true
  | [], _, _, _, _ => rfl
  | x :: xs, j, s, hs, h => by
    rw [nrm_cons] at h
    have : ¬ av x ≤ s := by omega
    rw [rangeF_cons, litsVar_eq h.1 h.2.1]
    simp only [Option.bind_some, this, decide_false, Bool.false_eq_true, if_false]
    exact lmay_run xs (j + 1) (av x) (av_nonneg x) h.2.2.2
theorem lmay_eq {c : List Int} (h : nrmB 0 c = true) : F_lits_May c = some true := lmay_run c 0 0 (by decide) h
def subB (a b : List Int) : Bool := a.all fun x => decide (x ∈ b)
theorem find_ge (x : Int) (hx : -65536 ≤ x ∧ x ≤ 65536) {R : Type} (kk : Int → Option R) : ∀ (s p : List Int) (j : Nat), (∀ y ∈ s, -65536 ≤ y ∧ y ≤ 65536) →
    rangeF (fun (j697 : Nat) (x698 : Int) (s694 : Unit) k696 => ((F_lits_Var x698).bind (fun y732 => ((F_lits_Var x).bind (fun y733 => (if (decide (y732 ≥ y733)) = true then (kk ((j697 : Nat) : Int)) else (k696 ()))))))) j s () (fun (s694 : Unit) => (kk (-1 : Int)))
      = match s.dropWhile (fun y => decide (av y < av x)) with
        | [] => kk (-1)
        | _ :: t => kk ((j + (s.length - t.length - 1) : Nat) : Int)
  | [], p, j, _ => rfl
  | y :: s, p, j, hs => by
    have hy := hs y (by simp)
    have ih := find_ge x hx kk s p (j + 1) (fun z hz => hs z (by simp [hz]))
    rw [rangeF_cons]
    generalize hT : (fun s' => rangeF (fun (j697 : Nat) (x698 : Int) (s694 : Unit) k696 => ((F_lits_Var x698).bind (fun y732 => ((F_lits_Var x).bind (fun y733 => (if (decide (y732 ≥ y733)) = true then (kk ((j697 : Nat) : Int)) else (k696 ()))))))) (j + 1) s s' (fun (s694 : Unit) => (kk (-1 : Int)))) = T
    have ihT := ih
    rw [show (rangeF (fun (j697 : Nat) (x698 : Int) (s694 : Unit) k696 => ((F_lits_Var x698).bind (fun y732 => ((F_lits_Var x).bind (fun y733 => (if (decide (y732 ≥ y733)) = true then (kk ((j697 : Nat) : Int)) else (k696 ()))))))) (j + 1) s () (fun (s694 : Unit) => (kk (-1 : Int)))) = T () by rw [← hT]] at ihT
    rw [litsVar_eq hy.1 hy.2, litsVar_eq hx.1 hx.2]
    simp only [Option.bind_some, List.dropWhile_cons]
    by_cases h : av y < av x
    · have h' : ¬ av y ≥ av x := by omega
      simp only [h, h', decide_true, decide_false, if_true, Bool.false_eq_true, if_false]
      rw [ihT]
      cases hd : s.dropWhile (fun y => decide (av y < av x)) with
      | nil => rfl
      | cons z t =>
        have : t.length + 1 ≤ s.length := by
          have h1 : (s.dropWhile (fun y => decide (av y < av x))).length ≤ s.length := (List.dropWhile_suffix _).length_le
          rw [hd] at h1; simpa using h1
        simp only [List.length_cons]
        congr 2; omega
    · have h' : av y ≥ av x := by omega
      simp only [h, h', decide_true, decide_false, if_true, Bool.false_eq_true, if_false]
      congr 2; simp
theorem dw_spec {x : Int} : ∀ (s : List Int), ∃ p, s = p ++ s.dropWhile (fun y => decide (av y < av x)) ∧ (∀ y ∈ p, av y < av x) ∧ ∀ z t, s.dropWhile (fun y => decide (av y < av x)) = z :: t → av x ≤ av z
  | [] => ⟨[], rfl, by simp, by simp⟩
  | y :: s => by
    rw [List.dropWhile_cons]
    by_cases h : av y < av x
    · obtain ⟨p, h1, h2, h3⟩ := dw_spec (x := x) s
      simp only [h, decide_true, if_true]
      refine ⟨y :: p, by rw [List.cons_append, ← h1], fun z hz => ?_, h3⟩
      rcases List.mem_cons.1 hz with rfl | hz
      · exact h
      · exact h2 z hz
    · simp only [h, decide_false, Bool.false_eq_true, if_false]
      refine ⟨[], rfl, by simp, fun z t e => ?_⟩
      injection e with e1 e2
      subst e1; omega
theorem sub_step {x : Int} (hx : -65536 ≤ x ∧ x ≤ 65536) (s : List Int) (hsr : ∀ y ∈ s, -65536 ≤ y ∧ y ≤ 65536) (hl : s.length ≤ 4194304) (k120 : List Int → Option Bool) (f : Int → Option Bool)
    (hf : f = fun (s674 : Int) => (jn (fun (s687 : Bool) => (if s687 = true then (some false) else (okI (0 ≤ (IntKind.wrap .i64 (s674 + (1 : Int))) ∧ (IntKind.wrap .i64 (s674 + (1 : Int))).toNat ≤ s.length) (k120 (s.drop (IntKind.wrap .i64 (s674 + (1 : Int))).toNat))))) (fun k689 => (if (decide (s674 < (0 : Int))) = true then (k689 true) else (getI s s674 (fun x693 => (k689 (x693 != x)))))))) :
    jn f (fun k676 => (rangeF (fun (j697 : Nat) (x698 : Int) (s694 : Unit) k696 => ((F_lits_Var x698).bind (fun y732 => ((F_lits_Var x).bind (fun y733 => (if (decide (y732 ≥ y733)) = true then (k676 ((j697 : Nat) : Int)) else (k696 ()))))))) 0 s () (fun (s694 : Unit) => (k676 (-1 : Int)))))
      = match s.dropWhile (fun y => decide (av y < av x)) with
        | [] => some false
        | z :: t => if z = x then k120 t else some false := by
  rw [jn_eq, find_ge x hx f s [] 0 hsr]
  obtain ⟨q, h1, h2, h3⟩ := dw_spec (x := x) s
  cases hd : s.dropWhile (fun y => decide (av y < av x)) with
  | nil => subst hf; rfl
  | cons z t =>
    rw [hd] at h1
    have hsl : s.length = q.length + t.length + 1 := by rw [h1]; simp; omega
    have hidx : 0 + (s.length - t.length - 1) = q.length := by omega
    have hgz : s[q.length]? = some z := by rw [h1]; simp
    have hw : IntKind.wrap .i64 (((q.length : Nat) : Int) + 1) = ((q.length + 1 : Nat) : Int) := by rw [wrap_id (by omega) (by omega)]; omega
    have hn : ¬ (((q.length : Nat) : Int) < 0) := by omega
    have hdr : s.drop (q.length + 1) = t := by rw [h1]; simp
    subst hf
    simp only [hidx, jn_eq, hn, decide_false, Bool.false_eq_true, if_false, getI_nat, hgz, hw, Int.toNat_natCast]
    rw [okI_eq ⟨by omega, by omega⟩, hdr]
    by_cases hzx : z = x
    · simp [hzx]
    · simp [hzx]
theorem lsub_run (b : List Int) (hb : nrmB 0 b = true) (lb : b.length ≤ 4194304) : ∀ (a s p : List Int) (c : Int) (j : Nat), nrmB c a = true → 0 ≤ c → b = p ++ s → (∀ y ∈ p, av y ≤ c) →
    rangeF (fun (j121 : Nat) (x122 : Int) (s118 : (List Int)) k120 => (jn (fun (s674 : Int) => (jn (fun (s687 : Bool) => (if s687 = true then (some false) else (okI (0 ≤ (IntKind.wrap .i64 (s674 + (1 : Int))) ∧ (IntKind.wrap .i64 (s674 + (1 : Int))).toNat ≤ s118.length) (k120 (s118.drop (IntKind.wrap .i64 (s674 + (1 : Int))).toNat))))) (fun k689 => (if (decide (s674 < (0 : Int))) = true then (k689 true) else (getI s118 s674 (fun x693 => (k689 (x693 != x122)))))))) (fun k676 => (rangeF (fun (j697 : Nat) (x698 : Int) (s694 : Unit) k696 => ((F_lits_Var x698).bind (fun y732 => ((F_lits_Var x122).bind (fun y733 => (if (decide (y732 ≥ y733)) = true then (k676 ((j697 : Nat) : Int)) else (k696 ()))))))) 0 s118 () (fun (s694 : Unit) => (k676 (-1 : Int))))))) j a s (fun (s118 : (List Int)) => (some true))
      = some (subB a b)
  | [], s, p, c, j, _, _, _, _ => rfl
  | x :: a, s, p, c, j, ha, hc, hbs, hp => by
    rw [nrm_cons] at ha
    obtain ⟨hx1, hx2, hx3, ha⟩ := ha
    have hsr : ∀ y ∈ s, -65536 ≤ y ∧ y ≤ 65536 := fun y hy => (nrm_lit hb (by rw [hbs]; simp [hy])).2
    have hbl : b.length = p.length + s.length := by rw [hbs]; simp
    rw [rangeF_cons]
    refine (sub_step ⟨hx1, hx2⟩ s hsr (by omega) (fun s' => rangeF _ (j + 1) a s' _) _ rfl).trans ?_
    obtain ⟨q, h1, h2, h3⟩ := dw_spec (x := x) s
    have hmem : x ∈ b ↔ x ∈ s.dropWhile (fun y => decide (av y < av x)) := by
      constructor
      · intro hm
        rw [hbs, h1] at hm
        rcases List.mem_append.1 hm with hm | hm
        · have := hp x hm; omega
        · rcases List.mem_append.1 hm with hm | hm
          · have := h2 x hm; omega
          · exact hm
      · intro hm
        rw [hbs, h1]
        simp [hm]
    cases hd : s.dropWhile (fun y => decide (av y < av x)) with
    | nil =>
      rw [hd] at hmem
      have : x ∉ b := fun h => by simpa using hmem.1 h
      simp [subB, this]
    | cons z t =>
      rw [hd] at hmem h1
      have hpz : nrmB 0 ((p ++ q) ++ z :: t) = true := by rw [List.append_assoc, ← h1, ← hbs]; exact hb
      by_cases hzx : z = x
      · subst hzx
        have hzb : z ∈ b := hmem.2 (by simp)
        dsimp only
        rw [if_pos rfl, lsub_run b hb lb a t (p ++ q ++ [z]) (av z) (j + 1) ha (av_nonneg z) (by rw [hbs, h1]; simp) (fun y hy => ?_)]
        · simp [subB, hzb]
        · rcases List.mem_append.1 hy with hy | hy
          · have := nrm_before hpz y hy; omega
          · simp only [List.mem_singleton] at hy; subst hy; omega
      · have hxb : x ∉ b := fun h => by
          rcases List.mem_cons.1 (hmem.1 h) with e | e
          · exact hzx e.symm
          · have h4 := h3 z t hd
            obtain ⟨u, v, huv⟩ := List.append_of_mem e
            rw [huv] at hpz
            have h6 := nrm_before (pre := (p ++ q) ++ z :: u) (x := x) (xs := v) (c := 0) (by simpa using hpz) z (by simp)
            omega
        dsimp only
        rw [if_neg hzx]
        simp [subB, hxb]
theorem lsub_eq {a b : List Int} (ha : nrmB 0 a = true) (hb : nrmB 0 b = true) (lb : b.length ≤ 4194304) : F_lits_Sub a b = some (subB a b) := by
  unfold F_lits_Sub
  simp only [jn_eq, lmay_eq ha, lmay_eq hb, Option.bind_some, Bool.not_true, Bool.false_eq_true, if_false]
  exact lsub_run b hb lb a b [] 0 0 ha (by decide) rfl (by simp)
end Go.Sk.X
namespace Go.Sk.X
open Go Go.Sk
def strikeV (a b : List Int) : Int := match a.filter (fun x => !decide (x ∈ b)) with
  | [x] => if -x ∈ b then -x else 0
  | _ => 0
theorem idx_run (v : Int) : ∀ (xs : List Int) (j : Nat), ∃ n : Int, rangeF (fun (j104 : Nat) (x105 : Int) (s101 : Unit) k103 => (if (v == x105) = true then (some ((j104 : Nat) : Int)) else (k103 ()))) j xs () (fun (s101 : Unit) => (some (-1 : Int))) = some n ∧ (0 ≤ n ↔ v ∈ xs)
  | [], j => ⟨-1, rfl, by simp⟩
  | x :: xs, j => by
    rw [rangeF_cons]
    by_cases h : v = x
    · subst h
      exact ⟨(j : Int), by simp, by simp⟩
    · obtain ⟨n, h1, h2⟩ := idx_run v xs (j + 1)
      have h' : (v == x) = false := by simp [h]
      refine ⟨n, by simp only [h', Bool.false_eq_true, if_false]; exact h1, ?_⟩
      rw [h2]; simp [h]
theorem lhas_eq (l : List Int) (v : Int) : F_lits_Has l v = some (decide (v ∈ l)) := by
  unfold F_lits_Has F_slices_Contains_int_int F_slices_Index_int_int
  obtain ⟨n, h1, h2⟩ := idx_run v l 0
  rw [h1]
  simp only [Option.bind_some]
  congr 1
  rw [Bool.eq_iff_iff]
  simp only [decide_eq_true_eq, ge_iff_le]
  exact h2
def stW (b : List Int) : List Int → Int → Int
  | [], o => o
  | x :: xs, o => if x ∈ b then stW b xs o else if o = 0 ∧ -x ∈ b then stW b xs (-x) else 0
theorem lstrike_eq {a b : List Int} (ha : nrmB 0 a = true) (hb : nrmB 0 b = true) : F_lits_Strike a b = some (stW b a 0) := by
  unfold F_lits_Strike
  simp only [jn_eq, lmay_eq ha, lmay_eq hb, Option.bind_some, Bool.not_true, Bool.false_eq_true, if_false]
  refine rangeF_pre a (fun _ _ => True) (fun _ xs s => some (stW b xs s)) (fun s _ => rfl) ?_ a [] 0 rfl trivial
  intro pre x xs s kk hf hI hk
  have hx := nrm_lit ha (x := x) (by rw [hf]; simp)
  have hw : IntKind.wrap .i64 (0 - x) = -x := by rw [wrap_id (by omega) (by omega)]; omega
  simp only [lhas_eq, Option.bind_some, hw, stW, hk _ trivial]
  by_cases h1 : x ∈ b
  · simp [h1]
  · by_cases h2 : s = 0
    · subst h2
      by_cases h3 : -x ∈ b <;> simp [h1, h3]
    · have h2' : (s == 0) = false := by simp [h2]
      simp [h1, h2, h2']
theorem stW_spec (b : List Int) : ∀ (a : List Int) (o : Int), (∀ x ∈ a, x ≠ 0) → stW b a o = match a.filter (fun x => !decide (x ∈ b)) with
    | [] => o
    | [x] => if o = 0 ∧ -x ∈ b then -x else 0
    | _ => 0
  | [], o, _ => rfl
  | x :: a, o, h => by
    have hx := h x (by simp)
    have ih := fun o => stW_spec b a o (fun y hy => h y (by simp [hy]))
    simp only [stW, List.filter_cons]
    by_cases h1 : x ∈ b
    · simp only [h1, if_true, decide_true, Bool.not_true, Bool.false_eq_true, if_false]
      exact ih o
    · simp only [h1, if_false, decide_false, Bool.not_false, if_true]
      by_cases h2 : o = 0 ∧ -x ∈ b
      · rw [if_pos h2, ih (-x)]
        have hn : -x ≠ 0 := by omega
        cases hf : a.filter (fun x => !decide (x ∈ b)) with
        | nil => simp [h2]
        | cons y t =>
          cases t with
          | nil => simp [hx]
          | cons z t => rfl
      · rw [if_neg h2]
        cases hf : a.filter (fun x => !decide (x ∈ b)) with
        | nil => simp only [if_neg h2]
        | cons y t => rfl
theorem stW_eq {a b : List Int} (ha : nrmB 0 a = true) : stW b a 0 = strikeV a b := by
  rw [stW_spec b a 0 (fun x hx => (nrm_lit ha hx).1)]
  unfold strikeV
  cases hf : a.filter (fun x => !decide (x ∈ b)) with
  | nil => rfl
  | cons y t =>
    cases t with
    | nil => simp
    | cons z t => rfl
theorem lstrikeV {a b : List Int} (ha : nrmB 0 a = true) (hb : nrmB 0 b = true) : F_lits_Strike a b = some (strikeV a b) := by rw [lstrike_eq ha hb, stW_eq ha]
end Go.Sk.X
namespace Go.Sk.X
open Go Go.Sk
theorem mget_foldV2 : ∀ (es : List S_api_Dep) (m : List (Int × List Int)) (k : Int), (es.map (·.Var)).Nodup →
    mget (es.foldl (fun m e => mset m e.Var e.On) m) k = match es.find? (fun e => decide (e.Var = k)) with | some e => some e.On | none => mget m k
  | [], m, k, _ => rfl
  | e :: es, m, k, h => by
    rw [List.map_cons, List.nodup_cons] at h
    rw [List.foldl_cons, mget_foldV2 es _ k h.2, List.find?_cons]
    by_cases hk : e.Var = k
    · simp only [hk, decide_true]
      cases hf : es.find? (fun e => decide (e.Var = k)) with
      | none => simp only [mget_mset, if_true]
      | some e2 =>
        have h1 := List.mem_of_find?_eq_some hf
        have h2 := List.find?_some hf
        simp only [decide_eq_true_eq] at h2
        exact absurd (List.mem_map.2 ⟨e2, h1, h2.trans hk.symm⟩) h.1
    · simp only [hk, decide_false]
      cases hf : es.find? (fun e => decide (e.Var = k)) with
      | none => simp only [mget_mset]; rw [if_neg (fun e => hk e.symm)]
      | some e2 => rfl
def onD (d : S_api_Dqbf) (v : Int) : List Int := match d.Exist.find? (fun e => decide (e.Var = v)) with | some e => e.On | none => []
theorem on_map {d : S_api_Dqbf} (h : May d) (v : Int) : (mget (d.Exist.foldl (fun m e => mset m e.Var e.On) ([] : List (Int × List Int))) v).getD [] = onD d v := by
  rw [mget_foldV2 _ _ _ (rsB_nodup h.rv)]
  unfold onD
  cases d.Exist.find? (fun e => decide (e.Var = v)) <;> rfl
theorem on_rs {d : S_api_Dqbf} (h : May d) (v : Int) : rsB 0 (onD d v) = true ∧ ∀ x ∈ onD d v, x ∈ d.Univ := by
  unfold onD
  cases hf : d.Exist.find? (fun e => decide (e.Var = v)) with
  | none => exact ⟨rfl, by simp⟩
  | some e => exact h.on e (List.mem_of_find?_eq_some hf)
theorem on_len {d : S_api_Dqbf} (h : Sm d) (v : Int) : (onD d v).length ≤ 2097152 := by
  unfold onD
  cases hf : d.Exist.find? (fun e => decide (e.Var = v)) with
  | none => simp
  | some e => exact h.onE (List.mem_of_find?_eq_some hf)
def cntL (x : Int) (l : List Int) : Nat := (l.filter fun y => decide (y = x)).length
theorem cnt_app (x : Int) (a b : List Int) : cntL x (a ++ b) = cntL x a + cntL x b := by simp [cntL]
theorem cnt_le (x : Int) (a : List Int) : cntL x a ≤ a.length := List.length_filter_le _ _
theorem cnt_zero (x : Int) (a : List Int) : cntL x a = 0 ↔ x ∉ a := by
  unfold cntL
  rw [List.length_eq_zero_iff, List.filter_eq_nil_iff]
  constructor
  · intro h hm; exact h x hm (by simp)
  · intro h y hy; simp; rintro rfl; exact h hy
def timesM (cs : List (List Int)) (m : List (Int × Int)) : Prop := ∀ x, (mget m x).getD 0 = (cntL x cs.flatten : Int)
theorem times_in {R : Type} (K : List (Int × Int) → Option R) (P : List (Int × Int) → Prop) (w : Option R) : ∀ (c pre : List Int) (j : Nat) (s : List (Int × Int)), (pre ++ c).length ≤ 4194304 → (∀ x, (mget s x).getD 0 = (cntL x pre : Int)) →
    (∀ s', (∀ x, (mget s' x).getD 0 = (cntL x (pre ++ c) : Int)) → K s' = w) →
    rangeF (fun (j161 : Nat) (x162 : Int) (s158 : (List (Int × Int))) k160 => (k160 (mset s158 x162 (IntKind.wrap .i64 (((mget s158 x162).getD (0 : Int)) + (1 : Int)))))) j c s K = w
  | [], pre, j, s, hl, hs, hK => by rw [List.append_nil] at hK; exact hK s hs
  | x :: c, pre, j, s, hl, hs, hK => by
    rw [rangeF_cons]
    have hcl := cnt_le x pre
    simp only [List.length_append, List.length_cons] at hl
    refine times_in K P w c (pre ++ [x]) (j + 1) _ (by simp; omega) (fun y => ?_) (fun s' h' => hK s' (fun y => by rw [h' y]; simp))
    rw [mget_mset, cnt_app]
    by_cases e : y = x
    · subst e
      rw [if_pos rfl, hs y]
      have : cntL y [y] = 1 := by simp [cntL]
      rw [this, Option.getD_some, wrap_id (by omega) (by omega)]; omega
    · rw [if_neg e, hs y]
      have : cntL y [x] = 0 := (cnt_zero _ _).2 (by simp [e])
      rw [this]; omega
theorem times_out {R : Type} (K : List (Int × Int) → Option R) (w : Option R) (cs : List (List Int)) (hl : tot cs ≤ 4194304) (hK : ∀ m, timesM cs m → K m = w) :
    (rangeF (fun (j146 : Nat) (x147 : (List Int)) (s143 : (List (Int × Int))) k145 => (rangeF (fun (j161 : Nat) (x162 : Int) (s158 : (List (Int × Int))) k160 => (k160 (mset s158 x162 (IntKind.wrap .i64 (((mget s158 x162).getD (0 : Int)) + (1 : Int)))))) 0 x147 s143 (fun (s158 : (List (Int × Int))) => (k145 s158)))) 0 cs ([] : List (Int × Int)) K) = w := by
  refine rangeF_pre cs (fun pre s => timesM pre s) (fun _ _ _ => w) (fun s hs => hK s hs) ?_ cs [] [] rfl (fun x => by simp [mget, cntL])
  intro pre x xs s kk hf hI hk
  have ht : tot pre + x.length ≤ tot cs := by rw [hf, tot_app, tot_cons]; omega
  have hfl : pre.flatten.length = tot pre := by simp [tot, List.length_flatten]
  refine times_in _ (fun _ => True) w x pre.flatten 0 s (by simp only [List.length_append]; omega) hI (fun s' h' => hk s' (fun y => ?_))
  rw [h' y]; simp
theorem times_zero {cs : List (List Int)} {m : List (Int × Int)} (h : timesM cs m) (v : Int) : ((mget m v).getD 0 == 0) = cs.all fun c => !decide (v ∈ c) := by
  rw [h v, Bool.eq_iff_iff]
  simp only [beq_iff_eq, List.all_eq_true, Bool.not_eq_true', decide_eq_false_iff_not]
  constructor
  · intro h0 c hc hm
    exact (cnt_zero v cs.flatten).1 (by omega) (List.mem_flatten.2 ⟨c, hc, hm⟩)
  · intro h0
    have := (cnt_zero v cs.flatten).2 (fun hm => by
      obtain ⟨c, hc, hv⟩ := List.mem_flatten.1 hm
      exact h0 c hc hv)
    omega
theorem rsB_get : ∀ {l : List Int} {c : Int}, rsB c l = true → ∀ (i j : Nat) (x y : Int), l[i]? = some x → l[j]? = some y → i < j → x < y
  | [], _, _, i, j, x, y, hi, _, _ => by simp at hi
  | z :: l, c, h, i, j, x, y, hi, hj, hij => by
    obtain ⟨h1, h2, h3⟩ := rsB_cons.1 h
    obtain ⟨j, rfl⟩ : ∃ k, j = k + 1 := ⟨j - 1, by omega⟩
    rw [List.getElem?_cons_succ] at hj
    cases i with
    | zero =>
      simp only [List.getElem?_cons_zero, Option.some.injEq] at hi
      subst hi
      exact (rsB_mem h3 y (List.mem_of_getElem? hj)).1
    | succ i =>
      rw [List.getElem?_cons_succ] at hi
      exact rsB_get h3 i j x y hi hj (by omega)
theorem less_eq (x y : Int) : F_cmp_Less_int x y = some (decide (x < y)) := by
  unfold F_cmp_Less_int F_cmp_isNaN_int
  simp
theorem bin_eq {l : List Int} (h : rsB 0 l = true) (hl : l.length ≤ 4194304) (v : Int) : ∃ i, F_slices_BinarySearch_int_int l v = some (i, decide (v ∈ l)) := by
  unfold F_slices_BinarySearch_int_int
  have := whileF_ex (Post := fun r : Int × Bool => r.2 = decide (v ∈ l)) (b := (fun k103 (s101 : (Int × Int)) => (if (decide (s101.1 < s101.2)) = true then (okI (0 ≤ (1 : Int)) (getI l (IntKind.wrap .i64 (Int.fdiv (IntKind.wrap .u64 (IntKind.wrap .i64 (s101.1 + s101.2))) (2 ^ (min (1 : Int).toNat (IntKind.bits .u64))))) (fun x142 => ((F_cmp_Less_int x142 v).bind (fun y143 => (if y143 = true then (k103 ((IntKind.wrap .i64 ((IntKind.wrap .i64 (Int.fdiv (IntKind.wrap .u64 (IntKind.wrap .i64 (s101.1 + s101.2))) (2 ^ (min (1 : Int).toNat (IntKind.bits .u64))))) + (1 : Int))), s101.2)) else (k103 (s101.1, (IntKind.wrap .i64 (Int.fdiv (IntKind.wrap .u64 (IntKind.wrap .i64 (s101.1 + s101.2))) (2 ^ (min (1 : Int).toNat (IntKind.bits .u64))))))))))))) else (if (decide (s101.1 < ((l.length : Nat) : Int))) = true then (getI l s101.1 (fun x152 => (if (x152 == v) = true then (some (s101.1, true)) else ((F_slices_isNaN_int x152).bind (fun y154 => (if y154 = true then ((F_slices_isNaN_int v).bind (fun y156 => (some (s101.1, y156)))) else (some (s101.1, false)))))))) else (some (s101.1, false))))))
    (fun s => (s.2 - s.1).toNat) (fun s => ∃ i j : Nat, s = ((i : Int), (j : Int)) ∧ i ≤ j ∧ j ≤ l.length ∧ (∀ k x, k < i → l[k]? = some x → x < v) ∧ (∀ k x, j ≤ k → l[k]? = some x → v ≤ x)) ?_ 1000000000000 (0, (l.length : Int)) ?_ (by simp; omega)
  · obtain ⟨⟨i, b⟩, h1, h2⟩ := this
    simp only [] at h2
    subst h2
    exact ⟨i, h1⟩
  · rintro s k ⟨i, j, rfl, hij, hj, hlo, hhi⟩ hs
    simp only []
    by_cases hlt : i < j
    · have hlt' : ((i : Nat) : Int) < ((j : Nat) : Int) := by omega
      obtain ⟨m, hm⟩ : ∃ m : Nat, m = (i + j) / 2 := ⟨_, rfl⟩
      have hmj : m < l.length := by omega
      have e1 : (2 : Int) ^ (min (1 : Int).toNat (IntKind.bits .u64)) = 2 := rfl
      have ew : IntKind.wrap .i64 (Int.fdiv (IntKind.wrap .u64 (IntKind.wrap .i64 (((i : Nat) : Int) + ((j : Nat) : Int)))) 2) = ((m : Nat) : Int) := by
        rw [wrap_id (n := ((i : Nat) : Int) + ((j : Nat) : Int)) (by omega) (by omega), wrapu, Int.fdiv_eq_ediv_of_nonneg _ (by decide)]
        have : (((i : Nat) : Int) + ((j : Nat) : Int)) % 18446744073709551616 = ((i : Nat) : Int) + ((j : Nat) : Int) := by omega
        rw [this, wrap_id (by omega) (by omega)]; omega
      have hw : IntKind.wrap .i64 (((m : Nat) : Int) + 1) = ((m + 1 : Nat) : Int) := by rw [wrap_id (by omega) (by omega)]; omega
      simp only [hlt', decide_true, if_true, e1, ew, getI_nat, List.getElem?_eq_getElem hmj, less_eq, Option.bind_some, hw]
      rw [okI_eq (by decide)]
      by_cases hx : l[m] < v
      · simp only [hx, decide_true, if_true]
        refine hs _ ⟨m + 1, j, rfl, by omega, hj, fun k x hk hg => ?_, hhi⟩ (by simp only []; omega)
        by_cases e : k = m
        · subst e; rw [List.getElem?_eq_getElem hmj] at hg; injection hg with hg; omega
        · have := rsB_get h k m x l[m] hg (List.getElem?_eq_getElem hmj) (by omega); omega
      · simp only [hx, decide_false, Bool.false_eq_true, if_false]
        refine hs _ ⟨i, m, rfl, by omega, by omega, hlo, fun k x hk hg => ?_⟩ (by simp only []; omega)
        by_cases e : k = m
        · subst e; rw [List.getElem?_eq_getElem hmj] at hg; injection hg with hg; omega
        · have := rsB_get h m k l[m] x (List.getElem?_eq_getElem hmj) hg (by omega); omega
    · have hij2 : i = j := by omega
      subst hij2
      have hlt' : ¬ ((i : Nat) : Int) < ((i : Nat) : Int) := by omega
      simp only [hlt', decide_false, Bool.false_eq_true, if_false]
      have hnot : ∀ k x, l[k]? = some x → x = v → k = i := fun k x hg e => by
        subst e
        rcases Nat.lt_trichotomy k i with h1 | h1 | h1
        · have := hlo k x h1 hg; omega
        · exact h1
        · have hil : i < l.length := by have := (List.getElem?_eq_some_iff.1 hg).1; omega
          have h2 := hhi i l[i] (Nat.le_refl i) (List.getElem?_eq_getElem hil)
          have h3 := rsB_get h i k l[i] x (List.getElem?_eq_getElem hil) hg h1
          omega
      by_cases hil : i < l.length
      · have hil' : ((i : Nat) : Int) < ((l.length : Nat) : Int) := by omega
        simp only [hil', decide_true, if_true, getI_nat, List.getElem?_eq_getElem hil]
        by_cases he : l[i] = v
        · have he' : (l[i] == v) = true := by simp [he]
          rw [if_pos he']
          refine ⟨_, rfl, ?_⟩
          have : v ∈ l := he ▸ List.getElem_mem hil
          simp [this]
        · have he' : (l[i] == v) = false := by simp [he]
          have hv : v ∉ l := fun hm => by
            obtain ⟨k, hk⟩ := List.mem_iff_getElem?.1 hm
            have := hnot k v hk rfl
            subst this
            rw [List.getElem?_eq_getElem hil] at hk
            injection hk with hk
            exact he hk
          simp only [he', Bool.false_eq_true, if_false, F_slices_isNaN_int, Option.bind_some, bne_self_eq_false]
          exact ⟨_, rfl, by simp [hv]⟩
      · have hil' : ¬ ((i : Nat) : Int) < ((l.length : Nat) : Int) := by omega
        have hv : v ∉ l := fun hm => by
          obtain ⟨k, hk⟩ := List.mem_iff_getElem?.1 hm
          have := hnot k v hk rfl
          have := (List.getElem?_eq_some_iff.1 hk).1
          omega
        simp only [hil', decide_false, Bool.false_eq_true, if_false]
        exact ⟨_, rfl, by simp [hv]⟩
  · exact ⟨0, l.length, rfl, Nat.zero_le _, Nat.le_refl _, fun k x hk _ => absurd hk (Nat.not_lt_zero k), fun k x hk hg => by
      have := (List.getElem?_eq_some_iff.1 hg).1; omega⟩
end Go.Sk.X
namespace Go.Sk.X
open Go Go.Sk
def sgN : List Int → Nat → Nat
  | [], n => n
  | x :: xs, n => sgN xs (n ||| 2 ^ ((av x).toNat % 64))
theorem sgN_bit : ∀ (c : List Int) (n i : Nat), (sgN c n).testBit i = (n.testBit i || c.any fun x => decide ((av x).toNat % 64 = i))
  | [], n, i => by simp [sgN]
  | x :: c, n, i => by
    rw [sgN, sgN_bit c, Nat.testBit_or, Nat.testBit_two_pow, List.any_cons, Bool.or_assoc]
theorem sgN_lt : ∀ (c : List Int) (n : Nat), n < 18446744073709551616 → sgN c n < 18446744073709551616
  | [], n, h => h
  | x :: c, n, h => by
    rw [sgN]
    refine sgN_lt c _ ?_
    have : (18446744073709551616 : Nat) = 2 ^ 64 := rfl
    rw [this] at h ⊢
    exact Nat.or_lt_two_pow h (Nat.pow_lt_pow_right (by decide) (Nat.mod_lt _ (by decide)))
theorem nat_mod (w : Nat) (h : w < 18446744073709551616) : ((w : Nat) : Int) % 18446744073709551616 = w := by omega
theorem sign_run : ∀ (c : List Int) (j n : Nat), (∀ x ∈ c, -65536 ≤ x ∧ x ≤ 65536) → n < 18446744073709551616 →
    rangeF (fun (j104 : Nat) (x105 : Int) (s101 : Int) k103 => ((F_lits_Var x105).bind (fun y110 => (okI (0 ≤ (IntKind.wrap .i64 ((BitVec.ofInt (IntKind.bits .i64) y110 &&& BitVec.ofInt (IntKind.bits .i64) (63 : Int)).toNat : Int))) (k103 (IntKind.wrap .u64 ((BitVec.ofInt (IntKind.bits .u64) s101 ||| BitVec.ofInt (IntKind.bits .u64) (IntKind.wrap .u64 ((1 : Int) * 2 ^ (min (IntKind.wrap .i64 ((BitVec.ofInt (IntKind.bits .i64) y110 &&& BitVec.ofInt (IntKind.bits .i64) (63 : Int)).toNat : Int)).toNat (IntKind.bits .u64))))).toNat : Int))))))) j c (n : Int) (fun (s101 : Int) => (some s101)) = some ((sgN c n : Nat) : Int)
  | [], j, n, _, _ => rfl
  | x :: c, j, n, h, hn => by
    have hx := h x (by simp)
    have hv := av_nonneg x
    have hv2 : av x ≤ 65536 := by unfold av; split <;> omega
    rw [rangeF_cons, litsVar_eq hx.1 hx.2]
    obtain ⟨v, hvn⟩ : ∃ v : Nat, av x = v := ⟨(av x).toNat, by omega⟩
    have e63 : (BitVec.ofInt (IntKind.bits .i64) (av x) &&& BitVec.ofInt (IntKind.bits .i64) (63 : Int)).toNat = v % 64 := by
      have e2 : IntKind.bits .i64 = 64 := rfl
      rw [e2, BitVec.toNat_and]
      have e3 : (BitVec.ofInt 64 63).toNat = 2 ^ 6 - 1 := by decide
      rw [e3, Nat.and_two_pow_sub_one_eq_mod, BitVec.toNat_ofInt, hvn]
      omega
    have e64 : IntKind.wrap .i64 (((BitVec.ofInt (IntKind.bits .i64) (av x) &&& BitVec.ofInt (IntKind.bits .i64) (63 : Int)).toNat : Nat) : Int) = ((v % 64 : Nat) : Int) := by
      rw [e63, wrap_id (by omega) (by omega)]
    have hp : 2 ^ (v % 64) < 18446744073709551616 := by
      have : (18446744073709551616 : Nat) = 2 ^ 64 := rfl
      rw [this]
      exact Nat.pow_lt_pow_right (by decide) (Nat.mod_lt _ (by decide))
    have hor : n ||| 2 ^ (v % 64) < 18446744073709551616 := by
      have : (18446744073709551616 : Nat) = 2 ^ 64 := rfl
      rw [this] at hn hp ⊢
      exact Nat.or_lt_two_pow hn hp
    have em : min (((v % 64 : Nat) : Int)).toNat (IntKind.bits .u64) = v % 64 := by
      have : IntKind.bits .u64 = 64 := rfl
      rw [this]; omega
    have e1 : IntKind.wrap .u64 ((1 : Int) * 2 ^ (v % 64)) = ((2 ^ (v % 64) : Nat) : Int) := by
      rw [wrapu, Int.one_mul]
      have : (2 : Int) ^ (v % 64) = ((2 ^ (v % 64) : Nat) : Int) := by simp
      rw [this, nat_mod _ hp]
    have e5 : IntKind.wrap .u64 (((BitVec.ofInt (IntKind.bits .u64) (n : Int) ||| BitVec.ofInt (IntKind.bits .u64) ((2 ^ (v % 64) : Nat) : Int)).toNat : Nat) : Int) = ((n ||| 2 ^ (v % 64) : Nat) : Int) := by
      have e2 : IntKind.bits .u64 = 64 := rfl
      rw [e2, BitVec.toNat_or, BitVec.toNat_ofInt, BitVec.toNat_ofInt, wrapu]
      have g1 : ((n : Int) % ((2 ^ 64 : Nat) : Int)).toNat = n := by
        have : ((2 ^ 64 : Nat) : Int) = 18446744073709551616 := rfl
        rw [this]; omega
      have g2 : (((2 ^ (v % 64) : Nat) : Int) % ((2 ^ 64 : Nat) : Int)).toNat = 2 ^ (v % 64) := by
        have : ((2 ^ 64 : Nat) : Int) = 18446744073709551616 := rfl
        rw [this, nat_mod _ hp]; rfl
      rw [g1, g2, nat_mod _ hor]
    have ih := sign_run c (j + 1) (n ||| 2 ^ (v % 64)) (fun y hy => h y (by simp [hy])) hor
    simp only [Option.bind_some, e64]
    rw [okI_eq (by omega), em, e1, e5, ih, sgN, hvn]
    rfl
theorem sign_eq {c : List Int} (h : nrmB 0 c = true) : F_clean_sign c = some ((sgN c 0 : Nat) : Int) :=
  sign_run c 0 0 (fun x hx => (nrm_lit h hx).2) (by decide)
theorem sign_pass {a b : List Int} (h : ∀ x ∈ a, ∃ y ∈ b, av y = av x) :
    (IntKind.wrap .u64 ((BitVec.ofInt (IntKind.bits .u64) ((sgN a 0 : Nat) : Int) &&& ~~~ BitVec.ofInt (IntKind.bits .u64) ((sgN b 0 : Nat) : Int)).toNat : Int)) = 0 := by
  have e2 : IntKind.bits .u64 = 64 := rfl
  have ha := sgN_lt a 0 (by decide)
  have hb := sgN_lt b 0 (by decide)
  rw [e2]
  have : (BitVec.ofInt 64 ((sgN a 0 : Nat) : Int) &&& ~~~ BitVec.ofInt 64 ((sgN b 0 : Nat) : Int)) = 0#64 := by
    apply BitVec.eq_of_getLsbD_eq
    intro i hi
    rw [BitVec.getLsbD_and, BitVec.getLsbD_not]
    have g : ∀ n : Nat, n < 18446744073709551616 → (BitVec.ofInt 64 (n : Int)).getLsbD i = n.testBit i := fun n hn => by
      rw [← BitVec.testBit_toNat, BitVec.toNat_ofInt]
      have : ((n : Int) % ((2 ^ 64 : Nat) : Int)).toNat = n := by
        have : ((2 ^ 64 : Nat) : Int) = 18446744073709551616 := rfl
        rw [this]; omega
      rw [this]
    rw [g _ ha, g _ hb, sgN_bit, sgN_bit]
    simp only [Nat.zero_testBit, Bool.false_or, BitVec.getLsbD_zero, hi, decide_true, Bool.true_and]
    by_cases hx : (a.any fun x => decide ((av x).toNat % 64 = i)) = true
    · obtain ⟨x, hxa, hxi⟩ := List.any_eq_true.1 hx
      obtain ⟨y, hy, hyx⟩ := h x hxa
      have : (b.any fun x => decide ((av x).toNat % 64 = i)) = true := List.any_eq_true.2 ⟨y, hy, by rw [hyx]; exact hxi⟩
      rw [this]; simp
    · rw [Bool.eq_false_iff.2 hx]; simp
  rw [this]
  rfl
theorem nodup_len : ∀ {l m : List Int}, l.Nodup → (∀ x ∈ l, x ∈ m) → l.length ≤ m.length
  | [], m, _, _ => Nat.zero_le _
  | x :: l, m, h, hm => by
    rw [List.nodup_cons] at h
    obtain ⟨a, b, rfl⟩ := List.append_of_mem (hm x (by simp))
    have := nodup_len (l := l) (m := a ++ b) h.2 (fun y hy => by
      have := hm y (by simp [hy])
      simp only [List.mem_append, List.mem_cons] at this ⊢
      rcases this with h1 | h1 | h1
      · exact .inl h1
      · subst h1; exact absurd hy h.1
      · exact .inr h1)
    simp only [List.length_append, List.length_cons] at this ⊢
    omega
theorem nrm_nodup : ∀ {l : List Int} {c : Int}, nrmB c l = true → (l.map av).Nodup
  | [], _, _ => List.nodup_nil
  | x :: l, c, h => by
    rw [nrm_cons] at h
    rw [List.map_cons, List.nodup_cons]
    refine ⟨fun hm => ?_, nrm_nodup h.2.2.2⟩
    obtain ⟨y, hy, e⟩ := List.mem_map.1 hm
    have := (nrm_mem h.2.2.2 y hy).1
    omega
theorem vars_len {a b : List Int} (ha : nrmB 0 a = true) (h : ∀ x ∈ a, ∃ y ∈ b, av y = av x) : a.length ≤ b.length := by
  have := nodup_len (nrm_nodup ha) (m := b.map av) (fun v hv => by
    obtain ⟨x, hx, rfl⟩ := List.mem_map.1 hv
    obtain ⟨y, hy, e⟩ := h x hx
    exact e ▸ List.mem_map_of_mem hy)
  simpa using this
theorem sub_vars {a b : List Int} (h : subB a b = true) : ∀ x ∈ a, ∃ y ∈ b, av y = av x := fun x hx => by
  have := List.all_eq_true.1 h x hx
  exact ⟨x, by simpa using this, rfl⟩
theorem strike_vars {a b : List Int} (h : strikeV a b ≠ 0) : ∀ x ∈ a, ∃ y ∈ b, av y = av x := fun x hx => by
  by_cases hxb : x ∈ b
  · exact ⟨x, hxb, rfl⟩
  · have hm : x ∈ a.filter (fun x => !decide (x ∈ b)) := List.mem_filter.2 ⟨hx, by simp [hxb]⟩
    unfold strikeV at h
    cases hf : a.filter (fun x => !decide (x ∈ b)) with
    | nil => rw [hf] at hm; simp at hm
    | cons z t =>
      rw [hf] at h hm
      cases t with
      | cons _ _ => simp at h
      | nil =>
        simp only [List.mem_singleton] at hm
        subst hm
        by_cases hz : -x ∈ b
        · exact ⟨-x, hz, av_neg x⟩
        · simp [hz] at h
end Go.Sk.X
namespace Go.Sk.X
open Go Go.Sk
def St1 {R : Type} (a0 : S_api_Dqbf) (a1 : List Int) (s154455 : List (Int × Bool)) (s154460 : List (Int × List Int)) (s154465 : List (Int × Int)) (k179407 : (Int × Int × Int × Int × Bool) → Option R) (k181017 : Unit → Option R) : Option R :=
  (jn (fun (s205808 : Bool) => (if s205808 = true then (k181017 ()) else (rangeF (fun (j205816 : Nat) (x205817 : (List Int)) (s205813 : Unit) k205815 => (jn (fun (s205855 : Unit) => (k205815 ())) (fun k205857 => (if (((x205817.length : Nat) : Int) == (1 : Int)) = true then (getI x205817 (0 : Int) (fun x205859 => ((F_lits_Var x205859).bind (fun y205860 => (if (mget s154460 y205860).isSome = true then (k179407 ((1 : Int), x205859, ((j205816 : Nat) : Int), (0 : Int), true)) else (k205857 ())))))) else (k205857 ()))))) 0 a0.Clauses () (fun (s205813 : Unit) => (k181017 ()))))) (fun k205810 => (if (decide (((a1.length : Nat) : Int) > (0 : Int))) = true then ((F_slices_Contains_api_ChangeKind_api_ChangeKind a1 (1 : Int)).bind (fun y205863 => (k205810 (!y205863)))) else (k205810 false))))
def St3 {R : Type} (a0 : S_api_Dqbf) (a1 : List Int) (s154455 : List (Int × Bool)) (s154460 : List (Int × List Int)) (s154465 : List (Int × Int)) (k179407 : (Int × Int × Int × Int × Bool) → Option R) (k192156 : Unit → Option R) : Option R :=
  (jn (fun (s194672 : Bool) => (if s194672 = true then (k192156 ()) else (rangeF (fun (j194680 : Nat) (x194681 : (List Int)) (s194677 : Unit) k194679 => (rangeF (fun (j200242 : Nat) (x200243 : Int) (s200239 : Unit) k200241 => (jn (fun (s205447 : Bool) => (if s205447 = true then (k179407 ((3 : Int), x200243, ((j194680 : Nat) : Int), (0 : Int), true)) else (k200241 ()))) (fun k205449 => ((F_lits_Var x200243).bind (fun y205451 => (if ((mget s154455 y205451).getD false) = true then (Option.bind (jn (fun (s205752 : Int) => (some (decide (s205752 ≥ (0 : Int))))) (fun k205754 => (rangeF (fun (j205758 : Nat) (x205759 : Int) (s205755 : Unit) k205757 => ((F_lits_Var x205759).bind (fun y205793 => ((F_slices_BinarySearch_int_int ((mget s154460 y205793).getD ([] : List Int)) y205451).bind (fun y205794 => (if y205794.2 = true then (k205754 ((j205758 : Nat) : Int)) else (k205757 ()))))))) 0 x194681 () (fun (s205755 : Unit) => (k205754 (-1 : Int)))))) (fun (y205710 : Bool) => (k205449 (!y205710)))) else (k205449 false))))))) 0 x194681 () (fun (s200239 : Unit) => (k194679 ())))) 0 a0.Clauses () (fun (s194677 : Unit) => (k192156 ()))))) (fun k194674 => (if (decide (((a1.length : Nat) : Int) > (0 : Int))) = true then ((F_slices_Contains_api_ChangeKind_api_ChangeKind a1 (3 : Int)).bind (fun y205797 => (k194674 (!y205797)))) else (k194674 false))))
def St2 {R : Type} (a0 : S_api_Dqbf) (a1 : List Int) (s154455 : List (Int × Bool)) (s154460 : List (Int × List Int)) (s154465 : List (Int × Int)) (k179407 : (Int × Int × Int × Int × Bool) → Option R) (k192251 : Unit → Option R) : Option R :=
  (jn (fun (s194580 : Bool) => (if s194580 = true then (k192251 ()) else ((F_slices_Clone_int_int_15 a0.Univ).bind (fun y194595 => (rangeF (fun (j194599 : Nat) (x194600 : S_api_Dep) (s194596 : (List Int)) k194598 => (capN (s194596.length + [x194600.Var].length) (k194598 (s194596 ++ [x194600.Var])))) 0 a0.Exist y194595 (fun (s194596 : (List Int)) => (okI (s194596.length ≤ 1099511627776) (rangeF (fun (j194608 : Nat) (x194609 : Int) (s194605 : Unit) k194607 => (okI (-9223372036854775808 ≤ (0 : Int) ∧ ((2 : Nat) : Int) ≤ 9223372036854775807) (upF (fun (j194638 : Int) (s194635 : Unit) k194637 => (getI [x194609, (IntKind.wrap .i64 (0 - x194609))] j194638 (fun x194657 => (if (((mget s154465 (IntKind.wrap .i64 (0 - x194657))).getD (0 : Int)) == (0 : Int)) = true then (k179407 ((2 : Int), x194657, (0 : Int), (0 : Int), true)) else (k194637 ()))))) ((((2 : Nat) : Int) - (0 : Int)).toNat) (0 : Int) () (fun (s194635 : Unit) => (k194607 ()))))) 0 (srt s194596) () (fun (s194605 : Unit) => (k192251 ())))))))))) (fun k194582 => (if (decide (((a1.length : Nat) : Int) > (0 : Int))) = true then ((F_slices_Contains_api_ChangeKind_api_ChangeKind a1 (2 : Int)).bind (fun y194661 => (k194582 (!y194661)))) else (k194582 false))))
def St4 {R : Type} (a0 : S_api_Dqbf) (a1 : List Int) (s154455 : List (Int × Bool)) (s154460 : List (Int × List Int)) (s154465 : List (Int × Int)) (k179407 : (Int × Int × Int × Int × Bool) → Option R) (k192832 : Unit → Option R) : Option R :=
  (jn (fun (s194002 : Bool) => (if s194002 = true then (k192832 ()) else (jn (fun (s194286 : (Int × Int)) => (k179407 ((4 : Int), (0 : Int), s194286.1, s194286.2, true))) (fun k194288 => (okI (a0.Clauses.length ≤ 1099511627776) (rangeF (fun (j194293 : Nat) (x194294 : (List Int)) (s194290 : (List Int)) k194292 => ((F_clean_sign x194294).bind (fun y194299 => (getI s194290 ((j194293 : Nat) : Int) (fun x194300 => (k194292 (s194290.set (((j194293 : Nat) : Int).toNat) y194299))))))) 0 a0.Clauses (List.replicate a0.Clauses.length (0 : Int)) (fun (s194290 : (List Int)) => (rangeF (fun (j194304 : Nat) (x194305 : (List Int)) (s194301 : Unit) k194303 => (rangeF (fun (j194440 : Nat) (x194441 : (List Int)) (s194437 : Unit) k194439 => (jn (fun (s194535 : Unit) => (k194439 ())) (fun k194537 => (jn (fun (s194554 : Bool) => (if s194554 = true then (k194537 ()) else ((F_lits_Sub x194441 x194305).bind (fun y194561 => (if y194561 = true then (k194288 (((j194304 : Nat) : Int), ((j194440 : Nat) : Int))) else (k194537 ())))))) (fun k194556 => (if (((j194304 : Nat) : Int) == ((j194440 : Nat) : Int)) = true then (k194556 true) else (if (decide (((x194441.length : Nat) : Int) > ((x194305.length : Nat) : Int))) = true then (k194556 true) else (getI s194290 ((j194440 : Nat) : Int) (fun x194566 => (getI s194290 ((j194304 : Nat) : Int) (fun x194567 => (k194556 ((IntKind.wrap .u64 ((BitVec.ofInt (IntKind.bits .u64) x194566 &&& ~~~ BitVec.ofInt (IntKind.bits .u64) x194567).toNat : Int)) != (0 : Int)))))))))))))) 0 a0.Clauses () (fun (s194437 : Unit) => (k194303 ())))) 0 a0.Clauses () (fun (s194301 : Unit) => (k192832 ())))))))))) (fun k194004 => (if (decide (((a1.length : Nat) : Int) > (0 : Int))) = true then ((F_slices_Contains_api_ChangeKind_api_ChangeKind a1 (4 : Int)).bind (fun y194569 => (k194004 (!y194569)))) else (k194004 false))))
def St5 {R : Type} (a0 : S_api_Dqbf) (a1 : List Int) (s154455 : List (Int × Bool)) (s154460 : List (Int × List Int)) (s154465 : List (Int × Int)) (k179407 : (Int × Int × Int × Int × Bool) → Option R) (k193413 : Unit → Option R) : Option R :=
  (jn (fun (s193424 : Bool) => (if s193424 = true then (k193413 ()) else (jn (fun (s193708 : (Int × Int × Int)) => (k179407 ((5 : Int), s193708.1, s193708.2.1, s193708.2.2, true))) (fun k193710 => (okI (a0.Clauses.length ≤ 1099511627776) (rangeF (fun (j193715 : Nat) (x193716 : (List Int)) (s193712 : (List Int)) k193714 => ((F_clean_sign x193716).bind (fun y193721 => (getI s193712 ((j193715 : Nat) : Int) (fun x193722 => (k193714 (s193712.set (((j193715 : Nat) : Int).toNat) y193721))))))) 0 a0.Clauses (List.replicate a0.Clauses.length (0 : Int)) (fun (s193712 : (List Int)) => (rangeF (fun (j193726 : Nat) (x193727 : (List Int)) (s193723 : Unit) k193725 => (rangeF (fun (j193862 : Nat) (x193863 : (List Int)) (s193859 : Unit) k193861 => (jn (fun (s193957 : Unit) => (k193861 ())) (fun k193959 => (jn (fun (s193976 : Bool) => (if s193976 = true then (k193959 ()) else ((F_lits_Strike x193863 x193727).bind (fun y193983 => (if (y193983 != (0 : Int)) = true then (k193710 (y193983, ((j193726 : Nat) : Int), ((j193862 : Nat) : Int))) else (k193959 ())))))) (fun k193978 => (if (((j193726 : Nat) : Int) == ((j193862 : Nat) : Int)) = true then (k193978 true) else (if (decide (((x193863.length : Nat) : Int) > ((x193727.length : Nat) : Int))) = true then (k193978 true) else (getI s193712 ((j193862 : Nat) : Int) (fun x193988 => (getI s193712 ((j193726 : Nat) : Int) (fun x193989 => (k193978 ((IntKind.wrap .u64 ((BitVec.ofInt (IntKind.bits .u64) x193988 &&& ~~~ BitVec.ofInt (IntKind.bits .u64) x193989).toNat : Int)) != (0 : Int)))))))))))))) 0 a0.Clauses () (fun (s193859 : Unit) => (k193725 ())))) 0 a0.Clauses () (fun (s193723 : Unit) => (k193413 ())))))))))) (fun k193426 => (if (decide (((a1.length : Nat) : Int) > (0 : Int))) = true then ((F_slices_Contains_api_ChangeKind_api_ChangeKind a1 (5 : Int)).bind (fun y193991 => (k193426 (!y193991)))) else (k193426 false))))
def firstI {α β : Type} (g : Nat → α → Option β) : Nat → List α → Option β
  | _, [] => none
  | j, x :: xs => match g j x with
    | some y => some y
    | none => firstI g (j + 1) xs
def orE {β R : Type} (o : Option β) (E : β → Option R) (k : Option R) : Option R := match o with
  | some y => E y
  | none => k
theorem rangeF_first {α β R : Type} {f : Nat → α → Unit → (Unit → Option R) → Option R} {k : Unit → Option R} (full : List α) (g : Nat → α → Option β) (E : β → Option R)
    (h : ∀ pre x xs kk, full = pre ++ x :: xs → f pre.length x () kk = orE (g pre.length x) E (kk ())) : rangeF f 0 full () k = orE (firstI g 0 full) E (k ()) := by
  refine rangeF_pre full (fun _ _ => True) (fun pre xs _ => orE (firstI g pre.length xs) E (k ())) (fun _ _ => rfl) ?_ full [] () rfl trivial
  intro pre x xs s kk hf _ hk
  rw [show s = () from rfl, h pre x xs kk hf, hk () trivial]
  simp only [firstI, List.length_append, List.length_cons, List.length_nil, Nat.zero_add]
  cases g pre.length x <;> rfl
def wantB (ks : List Int) (k : Int) : Bool := decide (ks = []) || decide (k ∈ ks)
def unitO (d : S_api_Dqbf) : Option S_api_Change := firstI (fun j c => match c with | [y] => (if av y ∈ varsD d then some (S_api_Change.mk 1 y 0 (j : Int) 0) else none) | _ => none) 0 d.Clauses
def redB (d : S_api_Dqbf) (c : List Int) (x : Int) : Bool := decide (av x ∈ d.Univ) && c.all fun y => !decide (av x ∈ onD d (av y))
def redO (d : S_api_Dqbf) : Option S_api_Change := firstI (fun j c => firstI (fun _ x => if redB d c x = true then some (S_api_Change.mk 3 x 0 (j : Int) 0) else none) 0 c) 0 d.Clauses
def nowB (d : S_api_Dqbf) (v : Int) : Bool := d.Clauses.all fun c => !decide (v ∈ c)
def pureO (d : S_api_Dqbf) : Option S_api_Change := firstI (fun _ v => firstI (fun _ x => if nowB d (-x) = true then some (S_api_Change.mk 2 x 0 0 0) else none) 0 [v, -v]) 0 (srt (d.Univ ++ varsD d))
def dropO (d : S_api_Dqbf) : Option S_api_Change := firstI (fun i c => firstI (fun j b => if i ≠ j ∧ subB b c = true then some (S_api_Change.mk 4 0 0 (i : Int) (j : Int)) else none) 0 d.Clauses) 0 d.Clauses
def strikeO (d : S_api_Dqbf) : Option S_api_Change := firstI (fun i c => firstI (fun j b => if strikeV b c ≠ 0 then some (S_api_Change.mk 5 (strikeV b c) 0 (i : Int) (j : Int)) else none) 0 d.Clauses) 0 d.Clauses
def selO (ks : List Int) (k : Int) (o : Option S_api_Change) : Option S_api_Change := if wantB ks k = true then o else none
theorem kidx_run (v : Int) (xs : List Int) : ∃ n : Int, F_slices_Index_api_ChangeKind_api_ChangeKind xs v = some n ∧ (0 ≤ n ↔ v ∈ xs) := idx_run v xs 0
theorem skip_eq {R : Type} (ks : List Int) (k : Int) (f : Bool → Option R) :
    (if (decide (((ks.length : Nat) : Int) > (0 : Int))) = true then ((F_slices_Contains_api_ChangeKind_api_ChangeKind ks k).bind (fun y => (f (!y)))) else (f false)) = f (!wantB ks k) := by
  unfold F_slices_Contains_api_ChangeKind_api_ChangeKind
  obtain ⟨n, h1, h2⟩ := kidx_run k ks
  rw [h1]
  unfold wantB
  by_cases h : ks = []
  · subst h; simp
  · have hl : ((ks.length : Nat) : Int) > 0 := by
      have : ks.length ≠ 0 := fun e => h (List.eq_nil_of_length_eq_zero e)
      omega
    simp only [hl, decide_true, if_true, Option.bind_some, h, decide_false, Bool.false_or]
    congr 2
    rw [Bool.eq_iff_iff]
    simp only [decide_eq_true_eq, ge_iff_le]
    exact h2
theorem skip_jn {R : Type} (ks : List Int) (k : Int) (f : Bool → Option R) :
    jn f (fun (k1 : Bool → Option R) => (if (decide (((ks.length : Nat) : Int) > (0 : Int))) = true then ((F_slices_Contains_api_ChangeKind_api_ChangeKind ks k).bind (fun y => (k1 (!y)))) else (k1 false))) = f (!wantB ks k) := skip_eq ks k f
abbrev KE (R : Type) := (Int × Int × Int × Int × Bool) → Option R
def hit {R : Type} (ke : KE R) (c : S_api_Change) : Option R := ke (c.Kind, c.Lit, c.At, c.By, true)
theorem st1_eq {R : Type} {d : S_api_Dqbf} (h : May d) (ks : List Int) (M1 : List (Int × Bool)) (M2 : List (Int × List Int)) (M3 : List (Int × Int)) (ke : KE R) (k : Unit → Option R) (h2 : ∀ v, (mget M2 v).isSome = decide (v ∈ varsD d)) :
    St1 d ks M1 M2 M3 ke k = orE (selO ks 1 (unitO d)) (hit ke) (k ()) := by
  unfold St1
  rw [skip_jn]
  unfold selO
  cases hw : wantB ks 1
  · simp [orE]
  · simp only [Bool.not_true, Bool.false_eq_true, if_false, if_true]
    refine rangeF_first d.Clauses _ (hit ke) ?_
    intro pre x xs kk hf
    have hx := h.nrm x (by rw [hf]; simp)
    simp only [jn_eq]
    match x, hx with
    | [], _ => rfl
    | [y], hx =>
      have hy := nrm_lit hx (x := y) (by simp)
      simp only [List.length_cons, List.length_nil]
      have e0 : getI [y] (0 : Int) (fun (x50081 : Int) => ((F_lits_Var x50081).bind (fun y50082 => (if (mget M2 y50082).isSome = true then (ke ((1 : Int), x50081, ((pre.length : Nat) : Int), (0 : Int), true)) else (kk ()))))) = (if (mget M2 (av y)).isSome = true then (ke ((1 : Int), y, ((pre.length : Nat) : Int), (0 : Int), true)) else (kk ())) := by
        have : getI [y] (0 : Int) (fun (x50081 : Int) => ((F_lits_Var x50081).bind (fun y50082 => (if (mget M2 y50082).isSome = true then (ke ((1 : Int), x50081, ((pre.length : Nat) : Int), (0 : Int), true)) else (kk ()))))) = ((F_lits_Var y).bind (fun y50082 => (if (mget M2 y50082).isSome = true then (ke ((1 : Int), y, ((pre.length : Nat) : Int), (0 : Int), true)) else (kk ())))) := rfl
        rw [this, litsVar_eq hy.2.1 hy.2.2]; rfl
      have e1 : ((((0 + 1 : Nat)) : Int) == (1 : Int)) = true := rfl
      rw [if_pos e1, e0, h2]
      by_cases hv : av y ∈ varsD d
      · simp [hv, orE, hit]
      · simp [hv, orE]
    | y :: z :: t, _ =>
      have : ((((y :: z :: t).length : Nat) : Int) == (1 : Int)) = false := by simp; omega
      rw [if_neg (by rw [this]; simp)]
      rfl
theorem dep_run {d : S_api_Dqbf} (h : May d) (hs : Sm d) (M2 : List (Int × List Int)) (h2 : ∀ v, (mget M2 v).getD [] = onD d v) (v : Int) (c : List Int) (hc : nrmB 0 c = true) (kk : Int → Option Bool) (A B : Option Bool) (hA : ∀ j : Nat, kk (j : Int) = A) (hB : kk (-1) = B) :
    (rangeF (fun (j49980 : Nat) (x49981 : Int) (s49977 : Unit) k49979 => ((F_lits_Var x49981).bind (fun y50015 => ((F_slices_BinarySearch_int_int ((mget M2 y50015).getD ([] : List Int)) v).bind (fun y50016 => (if y50016.2 = true then (kk ((j49980 : Nat) : Int)) else (k49979 ()))))))) 0 c () (fun (s49977 : Unit) => (kk (-1 : Int))))
      = if (c.any fun y => decide (v ∈ onD d (av y))) = true then A else B := by
  refine rangeF_pre c (fun _ _ => True) (fun _ xs _ => if (xs.any fun y => decide (v ∈ onD d (av y))) = true then A else B) (fun _ _ => by simp [hB]) ?_ c [] () rfl trivial
  intro pre x xs s k2 hf hI hk
  have hx := nrm_lit hc (x := x) (by rw [hf]; simp)
  obtain ⟨i, hi⟩ := bin_eq (on_rs h (av x)).1 (Nat.le_trans (on_len hs (av x)) (by decide)) v
  rw [litsVar_eq hx.2.1 hx.2.2, Option.bind_some, h2, hi, Option.bind_some, List.any_cons, hA, hk () trivial]
  by_cases hv : v ∈ onD d (av x)
  · simp [hv]
  · simp [hv]
theorem st3_eq {R : Type} {d : S_api_Dqbf} (h : May d) (hs : Sm d) (ks : List Int) (M1 : List (Int × Bool)) (M2 : List (Int × List Int)) (M3 : List (Int × Int)) (ke : KE R) (k : Unit → Option R) (h1 : ∀ v, (mget M1 v).getD false = decide (v ∈ d.Univ)) (h2 : ∀ v, (mget M2 v).getD [] = onD d v) :
    St3 d ks M1 M2 M3 ke k = orE (selO ks 3 (redO d)) (hit ke) (k ()) := by
  unfold St3
  rw [skip_jn]
  unfold selO
  cases hw : wantB ks 3
  · simp [orE]
  · simp only [Bool.not_true, Bool.false_eq_true, if_false, if_true]
    refine rangeF_first d.Clauses _ (hit ke) ?_
    intro pre c xs kk hf
    have hc := h.nrm c (by rw [hf]; simp)
    refine rangeF_first c _ (hit ke) ?_
    intro p2 x ys k2 hf2
    have hx := nrm_lit hc (x := x) (by rw [hf2]; simp)
    simp only [jn_eq]
    rw [litsVar_eq hx.2.1 hx.2.2, Option.bind_some, h1]
    rw [dep_run h hs M2 h2 (av x) c hc (fun (s49974 : Int) => (some (decide (s49974 ≥ (0 : Int))))) (some true) (some false) (fun j => by simp) (by simp)]
    unfold redB
    by_cases hv : av x ∈ d.Univ
    · have e : (c.all fun y => !decide (av x ∈ onD d (av y))) = !(c.any fun y => decide (av x ∈ onD d (av y))) := by
        rw [List.not_any_eq_all_not]
      rw [e]
      cases c.any fun y => decide (av x ∈ onD d (av y)) <;> simp [hv, orE, hit]
    · simp [hv, orE]
end Go.Sk.X
namespace Go.Sk.X
open Go Go.Sk
theorem app_run {R : Type} (es : List S_api_Dep) (K : List Int → Option R) (l : List Int) (hl : l.length + es.length ≤ 4194304) :
    rangeF (fun (j38817 : Nat) (x38818 : S_api_Dep) (s38814 : (List Int)) k38816 => (capN (s38814.length + [x38818.Var].length) (k38816 (s38814 ++ [x38818.Var])))) 0 es l K = K (l ++ es.map (·.Var)) := by
  refine rangeF_pre es (fun pre s => s = l ++ pre.map (·.Var)) (fun _ _ _ => K (l ++ es.map (·.Var))) (fun s hs => by rw [hs]) ?_ es [] l rfl (by simp)
  intro pre x xs s kk hf hI hk
  have : pre.length < es.length := by rw [hf]; simp
  subst hI
  rw [capN_eq (by simp only [List.length_append, List.length_map, List.length_cons, List.length_nil]; omega), hk _ (by simp)]
theorem clone1_eq {l : List Int} (hl : l.length ≤ 4194304) : F_slices_Clone_int_int_15 l = some l := by
  unfold F_slices_Clone_int_int_15
  cases l with
  | nil => rfl
  | cons a l => rw [if_neg (by simp), capN_eq (by simp at hl ⊢; omega)]; rfl
theorem st2_eq {R : Type} {d : S_api_Dqbf} (h : May d) (ks : List Int) (M1 : List (Int × Bool)) (M2 : List (Int × List Int)) (M3 : List (Int × Int)) (ke : KE R) (k : Unit → Option R) (h3 : timesM d.Clauses M3) :
    St2 d ks M1 M2 M3 ke k = orE (selO ks 2 (pureO d)) (hit ke) (k ()) := by
  have hlen := h.len
  have hv : (varsD d).length = d.Exist.length := by simp [varsD]
  unfold St2
  rw [skip_jn]
  unfold selO
  cases hw : wantB ks 2
  · simp [orE]
  · have main : (rangeF (fun (j38817 : Nat) (x38818 : S_api_Dep) (s38814 : (List Int)) k38816 => (capN (s38814.length + [x38818.Var].length) (k38816 (s38814 ++ [x38818.Var])))) 0 d.Exist d.Univ (fun (s38814 : (List Int)) => (okI (s38814.length ≤ 1099511627776) (rangeF (fun (j38826 : Nat) (x38827 : Int) (s38823 : Unit) k38825 => (okI (-9223372036854775808 ≤ (0 : Int) ∧ ((2 : Nat) : Int) ≤ 9223372036854775807) (upF (fun (j38856 : Int) (s38853 : Unit) k38855 => (getI [x38827, (IntKind.wrap .i64 (0 - x38827))] j38856 (fun x38875 => (if (((mget M3 (IntKind.wrap .i64 (0 - x38875))).getD (0 : Int)) == (0 : Int)) = true then (ke ((2 : Int), x38875, (0 : Int), (0 : Int), true)) else (k38855 ()))))) ((((2 : Nat) : Int) - (0 : Int)).toNat) (0 : Int) () (fun (s38853 : Unit) => (k38825 ()))))) 0 (srt s38814) () (fun (s38823 : Unit) => (k ()))))))
        = orE (pureO d) (hit ke) (k ()) := by
      rw [app_run d.Exist _ d.Univ (by omega)]
      have e : d.Univ ++ d.Exist.map (·.Var) = d.Univ ++ varsD d := rfl
      rw [e, okI_eq (by simp only [List.length_append]; omega)]
      refine (rangeF_first (srt (d.Univ ++ varsD d)) (fun _ v => firstI (fun _ x => if nowB d (-x) = true then some (S_api_Change.mk 2 x 0 0 0) else none) 0 [v, -v]) (hit ke) ?_).trans (by rfl)
      intro pre x xs kk hf
      have hxm : x ∈ d.Univ ++ varsD d := by
        have : x ∈ srt (d.Univ ++ varsD d) := by rw [hf]; simp
        exact (List.mergeSort_perm _ _).mem_iff.1 this
      have hx : 0 < x ∧ x ≤ 65536 := by
        rcases List.mem_append.1 hxm with hm | hm
        · exact rsB_mem h.ru x hm
        · exact rsB_mem h.rv x hm
      have w1 : IntKind.wrap .i64 (0 - x) = -x := by rw [wrap_id (by omega) (by omega)]; omega
      have w2 : IntKind.wrap .i64 (0 - -x) = x := by rw [wrap_id (by omega) (by omega)]; omega
      have o2 : (((2 : Nat) : Int) - (0 : Int)).toNat = 2 := rfl
      have t0 : ∀ v, ((mget M3 v).getD 0 == 0) = nowB d v := fun v => times_zero h3 v
      have g0 : ∀ (f : Int → Option R), getI [x, -x] (0 : Int) f = f x := fun _ => rfl
      have g1 : ∀ (f : Int → Option R), getI [x, -x] (0 + 1 : Int) f = f (-x) := fun _ => rfl
      rw [okI_eq (by decide), w1, o2, upF_succ, g0, w1, t0]
      simp only [firstI]
      by_cases n1 : nowB d (-x) = true
      · simp only [n1, if_true]; rfl
      · simp only [n1, Bool.false_eq_true, if_false]
        rw [upF_succ, g1, w2, t0, Int.neg_neg]
        by_cases n2 : nowB d x = true
        · simp only [n2, if_true]; rfl
        · simp only [n2, Bool.false_eq_true, if_false]; rfl
    simp only [Bool.not_true, Bool.false_eq_true, if_false, if_true, jn_eq]
    rw [clone1_eq (by omega), Option.bind_some]
    exact main
theorem signs_run {R : Type} (cs : List (List Int)) (hc : ∀ c ∈ cs, nrmB 0 c = true) (K : List Int → Option R) :
    (rangeF (fun (j37917 : Nat) (x37918 : (List Int)) (s37914 : (List Int)) k37916 => ((F_clean_sign x37918).bind (fun y37923 => (getI s37914 ((j37917 : Nat) : Int) (fun x37924 => (k37916 (s37914.set (((j37917 : Nat) : Int).toNat) y37923))))))) 0 cs (List.replicate cs.length (0 : Int)) K) = K (cs.map fun c => ((sgN c 0 : Nat) : Int)) := by
  refine rangeF_pre cs (fun pre s => s = (pre.map fun c => ((sgN c 0 : Nat) : Int)) ++ List.replicate (cs.length - pre.length) 0) (fun _ _ _ => K (cs.map fun c => ((sgN c 0 : Nat) : Int))) (fun s hs => by rw [hs]; simp) ?_ cs [] _ rfl (by simp)
  intro pre x xs s kk hf hI hk
  have hlt : pre.length < cs.length := by rw [hf]; simp
  rw [sign_eq (hc x (by rw [hf]; simp)), Option.bind_some]
  subst hI
  obtain ⟨m, hm⟩ : ∃ m, cs.length - pre.length = m + 1 := ⟨cs.length - pre.length - 1, by omega⟩
  have hg : ((pre.map fun c => ((sgN c 0 : Nat) : Int)) ++ List.replicate (cs.length - pre.length) 0)[pre.length]? = some 0 := by
    rw [List.getElem?_append_right (by simp), hm]; simp
  rw [getI_nat, hg]
  refine hk _ ?_
  rw [Int.toNat_natCast, List.set_append_right _ _ (by simp), hm]
  have : cs.length - (pre ++ [x]).length = m := by simp; omega
  rw [this]
  simp [List.replicate_succ]
theorem sg_get (cs : List (List Int)) (i : Nat) (c : List Int) (h : cs[i]? = some c) {R : Type} (f : Int → Option R) : getI (cs.map fun c => ((sgN c 0 : Nat) : Int)) (i : Int) f = f ((sgN c 0 : Nat) : Int) := by
  rw [getI_nat, List.getElem?_map, h]; rfl
theorem st4_eq {R : Type} {d : S_api_Dqbf} (h : May d) (hs : Sm d) (ks : List Int) (M1 : List (Int × Bool)) (M2 : List (Int × List Int)) (M3 : List (Int × Int)) (ke : KE R) (k : Unit → Option R) :
    St4 d ks M1 M2 M3 ke k = orE (selO ks 4 (dropO d)) (hit ke) (k ()) := by
  have hcl := hs.cls
  have htot := hs.tot
  unfold St4
  rw [skip_jn]
  unfold selO
  cases hw : wantB ks 4
  · simp [orE]
  · simp only [Bool.not_true, Bool.false_eq_true, if_false, if_true]
    rw [jn_eq, okI_eq (by omega), signs_run d.Clauses h.nrm]
    refine rangeF_first d.Clauses _ (hit ke) ?_
    intro pre c xs kk hf
    have hgc : d.Clauses[pre.length]? = some c := by rw [hf]; simp
    have hc := h.nrm c (List.mem_of_getElem? hgc)
    have hcl2 := tot_mem (List.mem_of_getElem? hgc)
    refine rangeF_first d.Clauses _ (hit ke) ?_
    intro p2 b ys k2 hf2
    have hgb : d.Clauses[p2.length]? = some b := by rw [hf2]; simp
    have hb := h.nrm b (List.mem_of_getElem? hgb)
    have hbl2 := tot_mem (List.mem_of_getElem? hgb)
    simp only [jn_eq, sg_get d.Clauses _ c hgc, sg_get d.Clauses _ b hgb]
    by_cases hij : pre.length = p2.length
    · have : (((pre.length : Nat) : Int) == ((p2.length : Nat) : Int)) = true := by simp [hij]
      simp [this, hij, orE]
    have hij' : (((pre.length : Nat) : Int) == ((p2.length : Nat) : Int)) = false := by simp; omega
    by_cases hsub : subB b c = true
    · have hv := sub_vars hsub
      have hl := vars_len hb hv
      have hl' : ¬ ((b.length : Nat) : Int) > ((c.length : Nat) : Int) := by omega
      have hcnd : pre.length ≠ p2.length ∧ subB b c = true := ⟨hij, hsub⟩
      simp only [hij', hl', decide_false, Bool.false_eq_true, if_false, sign_pass hv, bne_self_eq_false, lsub_eq hb hc (by omega : c.length ≤ 4194304), Option.bind_some, hsub, if_true]
      rw [if_pos ⟨hij, trivial⟩]; rfl
    · have hn : (if pre.length ≠ p2.length ∧ subB b c = true then some (S_api_Change.mk 4 0 0 ((pre.length : Nat) : Int) ((p2.length : Nat) : Int)) else none) = none := by simp [hsub]
      rw [hn, lsub_eq hb hc (by omega)]
      simp only [hij', Bool.false_eq_true, if_false, Option.bind_some, Bool.eq_false_iff.2 hsub, orE]
      repeat' split
      all_goals rfl
theorem strike_self (c : List Int) : strikeV c c = 0 := by
  unfold strikeV
  have : c.filter (fun x => !decide (x ∈ c)) = [] := by
    rw [List.filter_eq_nil_iff]; intro x hx; simp [hx]
  rw [this]
theorem st5_eq {R : Type} {d : S_api_Dqbf} (h : May d) (hs : Sm d) (ks : List Int) (M1 : List (Int × Bool)) (M2 : List (Int × List Int)) (M3 : List (Int × Int)) (ke : KE R) (k : Unit → Option R) :
    St5 d ks M1 M2 M3 ke k = orE (selO ks 5 (strikeO d)) (hit ke) (k ()) := by
  have hcl := hs.cls
  have htot := hs.tot
  unfold St5
  rw [skip_jn]
  unfold selO
  cases hw : wantB ks 5
  · simp [orE]
  · simp only [Bool.not_true, Bool.false_eq_true, if_false, if_true]
    rw [jn_eq, okI_eq (by omega), signs_run d.Clauses h.nrm]
    refine rangeF_first d.Clauses _ (hit ke) ?_
    intro pre c xs kk hf
    have hgc : d.Clauses[pre.length]? = some c := by rw [hf]; simp
    have hc := h.nrm c (List.mem_of_getElem? hgc)
    have hcl2 := tot_mem (List.mem_of_getElem? hgc)
    refine rangeF_first d.Clauses _ (hit ke) ?_
    intro p2 b ys k2 hf2
    have hgb : d.Clauses[p2.length]? = some b := by rw [hf2]; simp
    have hb := h.nrm b (List.mem_of_getElem? hgb)
    have hbl2 := tot_mem (List.mem_of_getElem? hgb)
    simp only [jn_eq, sg_get d.Clauses _ c hgc, sg_get d.Clauses _ b hgb]
    by_cases hij : pre.length = p2.length
    · have : (((pre.length : Nat) : Int) == ((p2.length : Nat) : Int)) = true := by simp [hij]
      have hbc : b = c := by rw [hij, hgb] at hgc; injection hgc
      subst hbc
      simp [this, strike_self, orE]
    have hij' : (((pre.length : Nat) : Int) == ((p2.length : Nat) : Int)) = false := by simp; omega
    rw [lstrikeV hb hc]
    by_cases hst : strikeV b c ≠ 0
    · have hv := strike_vars hst
      have hl := vars_len hb hv
      have hl' : ¬ ((b.length : Nat) : Int) > ((c.length : Nat) : Int) := by omega
      have hne : (strikeV b c != 0) = true := by simp [hst]
      simp only [hij', hl', decide_false, Bool.false_eq_true, if_false, sign_pass hv, bne_self_eq_false, Option.bind_some, hne, if_true]
      rw [if_pos hst]; rfl
    · have h0 : strikeV b c = 0 := Classical.byContradiction hst
      have hn : (if strikeV b c ≠ 0 then some (S_api_Change.mk 5 (strikeV b c) 0 ((pre.length : Nat) : Int) ((p2.length : Nat) : Int)) else none) = none := by simp [h0]
      rw [hn, h0]
      simp only [hij', Bool.false_eq_true, if_false, Option.bind_some, bne_self_eq_false, orE]
      repeat' split
      all_goals rfl
end Go.Sk.X
namespace Go.Sk.X
open Go Go.Sk
theorem orE_or {β R : Type} (a b : Option β) (E : β → Option R) (k : Option R) : orE a E (orE b E k) = orE (a.or b) E k := by cases a <;> rfl
theorem firstI_some {α β : Type} {g : Nat → α → Option β} {c : β} : ∀ {xs : List α} {j : Nat}, firstI g j xs = some c → ∃ i x, g i x = some c
  | [], j, h => by simp [firstI] at h
  | x :: xs, j, h => by
    simp only [firstI] at h
    cases hg : g j x with
    | some y => rw [hg] at h; exact ⟨j, x, by rw [hg]; exact h⟩
    | none => rw [hg] at h; exact firstI_some h
def ToZ (o : Option S_api_Change) : Prop := ∀ c, o = some c → c.To = 0
theorem toZ_first {α : Type} {g : Nat → α → Option S_api_Change} (h : ∀ i x, ToZ (g i x)) (j : Nat) (xs : List α) : ToZ (firstI g j xs) := fun c hc => by
  obtain ⟨i, x, hg⟩ := firstI_some hc
  exact h i x c hg
theorem toZ_if {p : Prop} [Decidable p] {c : S_api_Change} (h : c.To = 0) : ToZ (if p then some c else none) := fun x hx => by
  split at hx
  · injection hx with hx; subst hx; exact h
  · simp at hx
theorem toZ_sel {ks : List Int} {k : Int} {o : Option S_api_Change} (h : ToZ o) : ToZ (selO ks k o) := fun c hc => by
  unfold selO at hc
  split at hc
  · exact h c hc
  · simp at hc
theorem toZ_or {a b : Option S_api_Change} (ha : ToZ a) (hb : ToZ b) : ToZ (a.or b) := fun c hc => by
  cases a with
  | some x => exact ha c hc
  | none => exact hb c hc
theorem toZ_unit (d : S_api_Dqbf) : ToZ (unitO d) := toZ_first (fun i x => by
  split
  · exact toZ_if rfl
  · intro c hc; simp at hc) 0 _
theorem toZ_red (d : S_api_Dqbf) : ToZ (redO d) := toZ_first (fun i x => toZ_first (fun _ _ => toZ_if rfl) 0 _) 0 _
theorem toZ_pure (d : S_api_Dqbf) : ToZ (pureO d) := toZ_first (fun i x => toZ_first (fun _ _ => toZ_if rfl) 0 _) 0 _
theorem toZ_drop (d : S_api_Dqbf) : ToZ (dropO d) := toZ_first (fun i x => toZ_first (fun _ _ => toZ_if rfl) 0 _) 0 _
theorem toZ_strike (d : S_api_Dqbf) : ToZ (strikeO d) := toZ_first (fun i x => toZ_first (fun _ _ => toZ_if rfl) 0 _) 0 _
def allO (d : S_api_Dqbf) (ks : List Int) : Option S_api_Change :=
  (selO ks 1 (unitO d)).or ((selO ks 3 (redO d)).or ((selO ks 2 (pureO d)).or ((selO ks 4 (dropO d)).or (selO ks 5 (strikeO d)))))
theorem toZ_all (d : S_api_Dqbf) (ks : List Int) : ToZ (allO d ks) :=
  toZ_or (toZ_sel (toZ_unit d)) (toZ_or (toZ_sel (toZ_red d)) (toZ_or (toZ_sel (toZ_pure d)) (toZ_or (toZ_sel (toZ_drop d)) (toZ_sel (toZ_strike d)))))
def noC : S_api_Change × Bool := (S_api_Change.mk 0 0 0 0 0, false)
def nextV (d : S_api_Dqbf) (ks : List Int) : S_api_Change × Bool := if MayD d = true then (match allO d ks with | some c => (c, true) | none => noC) else noC
theorem stages {R : Type} {d : S_api_Dqbf} (h : May d) (hs : Sm d) (ks : List Int) (M1 : List (Int × Bool)) (M2 : List (Int × List Int)) (M3 : List (Int × Int)) (ke : KE R) (z : Option R)
    (h1 : ∀ v, (mget M1 v).getD false = decide (v ∈ d.Univ)) (h2 : ∀ v, (mget M2 v).getD [] = onD d v) (h2' : ∀ v, (mget M2 v).isSome = decide (v ∈ varsD d)) (hm : timesM d.Clauses M3) :
    St1 d ks M1 M2 M3 ke (fun _ => St3 d ks M1 M2 M3 ke (fun _ => St2 d ks M1 M2 M3 ke (fun _ => St4 d ks M1 M2 M3 ke (fun _ => St5 d ks M1 M2 M3 ke (fun _ => z))))) = orE (allO d ks) (hit ke) z := by
  rw [st1_eq h ks _ _ _ _ _ h2', st3_eq h hs ks _ _ _ _ _ h1 h2, st2_eq h ks _ _ _ _ _ hm, st4_eq h hs, st5_eq h hs]
  simp only [orE_or]
  rfl
theorem rs_nrm : ∀ {l : List Int} {c : Int}, 0 ≤ c → rsB c l = true → nrmB c l = true
  | [], _, _, _ => rfl
  | x :: l, c, hc, h => by
    obtain ⟨h1, h2, h3⟩ := rsB_cons.1 h
    have hav : av x = x := by unfold av; rw [if_neg (by omega)]
    rw [nrm_cons, hav]
    exact ⟨by omega, h2, h1, rs_nrm (by omega) h3⟩
theorem strike_mem {a b : List Int} (h : strikeV a b ≠ 0) : strikeV a b ∈ b := by
  unfold strikeV at h ⊢
  split at h
  · rename_i x hf
    by_cases hx : -x ∈ b
    · simp only [hx, if_true]
    · simp [hx] at h
  · exact absurd rfl h
end Go.Sk.X
namespace Go.Sk.X
open Go Go.Sk
abbrev MkT := (List Int) × (List S_api_Dep) × (List (List Int))
def MkL {T : Type} (a0 : S_api_Dqbf) (lit : Int) (kk : MkT → Option T) : Option T :=
  ((F_lits_Var lit).bind (fun y2896 => ((F_lits_Without a0.Univ y2896).bind (fun y2897 => (rangeF (fun (j2901 : Nat) (x2902 : S_api_Dep) (s2898 : (List S_api_Dep)) k2900 => (jn (fun (s2933 : (List S_api_Dep)) => (k2900 s2933)) (fun k2935 => (if (x2902.Var != y2896) = true then ((F_lits_Without x2902.On y2896).bind (fun y2937 => (capN (s2898.length + [(S_api_Dep.mk x2902.Var y2937)].length) (k2935 (s2898 ++ [(S_api_Dep.mk x2902.Var y2937)]))))) else (k2935 s2898))))) 0 a0.Exist ([] : List S_api_Dep) (fun (s2898 : (List S_api_Dep)) => (rangeF (fun (j2942 : Nat) (x2943 : (List Int)) (s2939 : (List (List Int))) k2941 => (jn (fun (s2981 : (List (List Int))) => (k2941 s2981)) (fun k2983 => ((F_lits_Has x2943 lit).bind (fun y2984 => (if (!y2984) = true then ((F_lits_Without x2943 y2896).bind (fun y2986 => (capN (s2939.length + [y2986].length) (k2983 (s2939 ++ [y2986]))))) else (k2983 s2939))))))) 0 a0.Clauses ([] : List (List Int)) (fun (s2939 : (List (List Int))) => (kk (y2897, s2898, s2939))))))))))
def MkB (a0 : S_api_Dqbf) (a1 : S_api_Change) (s133 : List (Int × Bool)) (s138 : List (Int × List Int)) (s143 : List (Int × Int)) (k1635 : Bool → Option (S_api_Dqbf × Int)) (y3173 : Int) (s3180 : Bool × Bool) (s3196 : Bool) : Option (S_api_Dqbf × Int) :=
  (if s3196 = true then (k1635 false) else (if (a1.Kind == (1 : Int)) = true then (if s3180.1 = true then (Option.bind (some ()) (fun (y3207 : Unit) => (if (mget s138 y3173).isSome = true then (getI a0.Clauses a1.At (fun x3209 => ((F_slices_Equal_int_int x3209 [a1.Lit]).bind (fun y3210 => (k1635 y3210))))) else (k1635 false)))) else (k1635 false)) else (if (a1.Kind == (3 : Int)) = true then (if s3180.1 = true then (getI a0.Clauses a1.At (fun x3908 => ((F_lits_Has x3908 a1.Lit).bind (fun y3909 => (if y3909 = true then (Option.bind ((F_lits_Var a1.Lit).bind (fun y4257 => (if ((mget s133 y4257).getD false) = true then (Option.bind (jn (fun (s4558 : Int) => (some (decide (s4558 ≥ (0 : Int))))) (fun k4560 => (rangeF (fun (j4564 : Nat) (x4565 : Int) (s4561 : Unit) k4563 => ((F_lits_Var x4565).bind (fun y4599 => ((F_slices_BinarySearch_int_int ((mget s138 y4599).getD ([] : List Int)) y4257).bind (fun y4600 => (if y4600.2 = true then (k4560 ((j4564 : Nat) : Int)) else (k4563 ()))))))) 0 x3908 () (fun (s4561 : Unit) => (k4560 (-1 : Int)))))) (fun (y4516 : Bool) => (some (!y4516)))) else (some false)))) (fun (y4256 : Bool) => (k1635 y4256))) else (k1635 false)))))) else (k1635 false)) else (if (a1.Kind == (2 : Int)) = true then (if (a1.At == (0 : Int)) = true then (if (decide (y3173 > (0 : Int))) = true then (if (((mget s143 (IntKind.wrap .i64 (0 - a1.Lit))).getD (0 : Int)) == (0 : Int)) = true then (if ((mget s133 y3173).getD false) = true then (k1635 true) else (Option.bind (some ()) (fun (y4612 : Unit) => (k1635 ((mget s138 y3173).isSome))))) else (k1635 false)) else (k1635 false)) else (k1635 false)) else (if (a1.Kind == (4 : Int)) = true then (if (a1.Lit == (0 : Int)) = true then (if s3180.2 = true then (if (a1.At != a1.By) = true then (getI a0.Clauses a1.By (fun x4623 => (getI a0.Clauses a1.At (fun x4624 => ((F_lits_Sub x4623 x4624).bind (fun y4625 => (k1635 y4625))))))) else (k1635 false)) else (k1635 false)) else (k1635 false)) else (if (a1.Kind == (5 : Int)) = true then (if (a1.Lit != (0 : Int)) = true then (if s3180.2 = true then (getI a0.Clauses a1.By (fun x4634 => (getI a0.Clauses a1.At (fun x4635 => ((F_lits_Strike x4634 x4635).bind (fun y4636 => (k1635 (y4636 == a1.Lit)))))))) else (k1635 false)) else (k1635 false)) else (k1635 false)))))))
def MkA (a0 : S_api_Dqbf) (a1 : S_api_Change) (s133 : List (Int × Bool)) (s138 : List (Int × List Int)) (s143 : List (Int × Int)) (k1635 : Bool → Option (S_api_Dqbf × Int)) : Option (S_api_Dqbf × Int) :=
  ((F_lits_Var a1.Lit).bind (fun y3173 => (jn (fun (s3175 : Bool) => (jn (fun (s3180 : (Bool × Bool)) => (jn (fun (s3196 : Bool) => (MkB a0 a1 s133 s138 s143 k1635 y3173 s3180 s3196)) (fun k3198 => (if (a1.To != (0 : Int)) = true then (k3198 true) else (if (a1.By != (0 : Int)) = true then (if (a1.Kind != (4 : Int)) = true then (k3198 (a1.Kind != (5 : Int))) else (k3198 false)) else (k3198 false)))))) (fun k3182 => (if s3175 = true then (if (decide (a1.By ≥ (0 : Int))) = true then (k3182 (true, (decide (a1.By < ((a0.Clauses.length : Nat) : Int))))) else (k3182 (true, false))) else (k3182 (false, false)))))) (fun k3177 => (if (decide (a1.At ≥ (0 : Int))) = true then (k3177 (decide (a1.At < ((a0.Clauses.length : Nat) : Int)))) else (k3177 false))))))
def MkM {T : Type} (a0 : S_api_Dqbf) (a1 : S_api_Change) (s133 : List (Int × Bool)) (k2405 : MkT → Option T) : Option T :=
  (if (a1.Kind == (4 : Int)) = true then ((F_slices_Clone_int_int a0.Clauses).bind (fun y2791 => (okI (0 ≤ a1.At ∧ a1.At ≤ (IntKind.wrap .i64 (a1.At + (1 : Int))) ∧ (IntKind.wrap .i64 (a1.At + (1 : Int))).toNat ≤ y2791.length ∧ 0 < y2791.length) (k2405 (a0.Univ, a0.Exist, (((delL y2791 a1.At.toNat (IntKind.wrap .i64 (a1.At + (1 : Int))).toNat []).take (0 + ((delL y2791 a1.At.toNat (IntKind.wrap .i64 (a1.At + (1 : Int))).toNat []).length - ((IntKind.wrap .i64 (a1.At + (1 : Int))).toNat - a1.At.toNat)))).drop 0)))))) else (jn (fun (s2794 : Bool) => (if s2794 = true then ((F_slices_Clone_int_int a0.Clauses).bind (fun y2798 => (getI y2798 a1.At (fun x2799 => ((F_lits_Var a1.Lit).bind (fun y2800 => ((F_lits_Without x2799 y2800).bind (fun y2801 => (k2405 (a0.Univ, a0.Exist, (y2798.set a1.At.toNat y2801))))))))))) else ((F_lits_Var a1.Lit).bind (fun y2802 => (if ((mget s133 y2802).getD false) = true then (MkL a0 (IntKind.wrap .i64 (0 - a1.Lit)) k2405) else (MkL a0 a1.Lit k2405)))))) (fun k2796 => (if (a1.Kind == (3 : Int)) = true then (k2796 true) else (k2796 (a1.Kind == (5 : Int)))))))
theorem make_unfold (a0 : S_api_Dqbf) (a1 : S_api_Change) : F_clean_Make a0 a1 =
  ((F_prefix_MayDqbf a0).bind (fun y101 => (if (!y101) = true then (some ((S_api_Dqbf.mk ([] : List Int) ([] : List S_api_Dep) ([] : List (List Int))), (2 : Int))) else (rangeF (fun (j136 : Nat) (x137 : Int) (s133 : (List (Int × Bool))) k135 => (k135 (mset s133 x137 true))) 0 a0.Univ ([] : List (Int × Bool)) (fun (s133 : (List (Int × Bool))) => (rangeF (fun (j141 : Nat) (x142 : S_api_Dep) (s138 : (List (Int × (List Int)))) k140 => (k140 (mset s138 x142.Var x142.On))) 0 a0.Exist ([] : List (Int × (List Int))) (fun (s138 : (List (Int × (List Int)))) => (rangeF (fun (j146 : Nat) (x147 : (List Int)) (s143 : (List (Int × Int))) k145 => (rangeF (fun (j161 : Nat) (x162 : Int) (s158 : (List (Int × Int))) k160 => (k160 (mset s158 x162 (IntKind.wrap .i64 (((mget s158 x162).getD (0 : Int)) + (1 : Int)))))) 0 x147 s143 (fun (s158 : (List (Int × Int))) => (k145 s158)))) 0 a0.Clauses ([] : List (Int × Int)) (fun (s143 : (List (Int × Int))) => (jn (fun (s1633 : Bool) => (if (!s1633) = true then (some ((S_api_Dqbf.mk ([] : List Int) ([] : List S_api_Dep) ([] : List (List Int))), (5 : Int))) else (jn (fun (s2403 : ((List Int) × (List S_api_Dep) × (List (List Int)))) => ((F_clean_own (S_api_Dqbf.mk s2403.1 s2403.2.1 s2403.2.2)).bind (fun y2406 => (some (y2406, (0 : Int)))))) (fun k2405 => (MkM a0 a1 s133 k2405))))) (fun k1635 => (MkA a0 a1 s133 s138 s143 k1635)))))))))))) := rfl
def vr (x : Int) : Int := if -65536 ≤ x ∧ x ≤ 65536 then av x else 0
theorem vr_in {x : Int} (h0 : -65536 ≤ x) (h1 : x ≤ 65536) : vr x = av x := if_pos ⟨h0, h1⟩
theorem lvar_any {x : Int} (h : InK .i64 x) : F_lits_Var x = some (vr x) := by
  by_cases hx : -65536 ≤ x ∧ x ≤ 65536
  · rw [litsVar_eq hx.1 hx.2, vr_in hx.1 hx.2]
  have h := inK64.1 h
  unfold F_lits_Var F_lits_size vr
  rw [if_neg hx]
  by_cases h0 : x < 0
  · have e : IntKind.wrap .u64 (0 - IntKind.wrap .u64 x) = -x := by rw [wrapu, wrapu]; omega
    have e2 : ¬ -x ≤ 65536 := by omega
    simp only [h0, decide_true, if_true, e, Option.bind_some, e2, decide_false, Bool.false_eq_true, if_false]
  · have e : IntKind.wrap .u64 x = x := by rw [wrapu]; omega
    have e2 : ¬ x ≤ 65536 := by omega
    simp only [h0, decide_false, e, Option.bind_some, e2, Bool.false_eq_true, if_false]
theorem vr_neg {x : Int} (h : InK .i64 x) : vr (IntKind.wrap .i64 (0 - x)) = vr x := by
  have h := inK64.1 h
  by_cases hx : x = -9223372036854775808
  · subst hx; decide +kernel
  have e : IntKind.wrap .i64 (0 - x) = -x := by rw [wrap_id (by omega) (by omega)]; omega
  rw [e]
  unfold vr
  rw [av_neg]
  by_cases hr : -65536 ≤ x ∧ x ≤ 65536
  · rw [if_pos hr, if_pos (by omega)]
  · rw [if_neg hr, if_neg (by omega)]
theorem inK_neg {x : Int} : InK .i64 (IntKind.wrap .i64 (0 - x)) := by
  rw [inK64]
  simp only [IntKind.wrap, IntKind.bits, IntKind.signed]
  simp only [Bool.true_and]
  split <;> rename_i h <;> simp only [ge_iff_le, decide_eq_true_eq] at h <;> omega
def clO (d : S_api_Dqbf) (at_ : Int) : Option (List Int) := if 0 ≤ at_ ∧ at_ < (d.Clauses.length : Int) then d.Clauses[at_.toNat]? else none
theorem clO_some {d : S_api_Dqbf} {i : Int} {c : List Int} (h : clO d i = some c) : 0 ≤ i ∧ i < (d.Clauses.length : Int) ∧ d.Clauses[i.toNat]? = some c := by
  unfold clO at h
  split at h
  · rename_i hh; exact ⟨hh.1, hh.2, h⟩
  · cases h
theorem clO_mem {d : S_api_Dqbf} {i : Int} {c : List Int} (h : clO d i = some c) : c ∈ d.Clauses := List.mem_of_getElem? (clO_some h).2.2
def allowB (d : S_api_Dqbf) (c : S_api_Change) : Bool :=
  decide (c.To = 0) &&
  (if c.Kind = 1 then decide (c.By = 0) && (match clO d c.At with | some b => decide (b = [c.Lit]) && decide (vr c.Lit ∈ varsD d) | none => false)
   else if c.Kind = 3 then decide (c.By = 0) && (match clO d c.At with | some b => decide (c.Lit ∈ b) && redB d b c.Lit | none => false)
   else if c.Kind = 2 then decide (c.By = 0) && decide (c.At = 0) && decide (vr c.Lit > 0) && nowB d (IntKind.wrap .i64 (0 - c.Lit)) && (decide (vr c.Lit ∈ varsD d) || decide (vr c.Lit ∈ d.Univ))
   else if c.Kind = 4 then decide (c.Lit = 0) && (match clO d c.At, clO d c.By with | some a, some b => decide (c.At ≠ c.By) && subB b a | _, _ => false)
   else if c.Kind = 5 then decide (c.Lit ≠ 0) && (match clO d c.At, clO d c.By with | some a, some b => decide (strikeV b a = c.Lit) | _, _ => false)
   else false)
end Go.Sk.X
namespace Go.Sk.X
open Go Go.Sk
abbrev MkR := Option (S_api_Dqbf × Int)
theorem mka_b {d : S_api_Dqbf} {c : S_api_Change} (hc : InK .i64 c.Lit) (M1 : List (Int × Bool)) (M2 : List (Int × List Int)) (M3 : List (Int × Int)) (k : Bool → MkR) :
    MkA d c M1 M2 M3 k = MkB d c M1 M2 M3 k (vr c.Lit) ((clO d c.At).isSome, (clO d c.At).isSome && (clO d c.By).isSome) (decide (c.To ≠ 0) || (decide (c.By ≠ 0) && (decide (c.Kind ≠ 4) && decide (c.Kind ≠ 5)))) := by
  have hO : ∀ i : Int, (clO d i).isSome = (decide (i ≥ 0) && decide (i < (d.Clauses.length : Int))) := fun i => by
    unfold clO
    by_cases hh : 0 ≤ i ∧ i < (d.Clauses.length : Int)
    · rw [if_pos hh, List.getElem?_eq_getElem (by omega)]
      simp [hh.1, hh.2]
    · rw [if_neg hh]
      simp only [Option.isSome_none]
      by_cases h0 : i ≥ 0
      · have : ¬ i < (d.Clauses.length : Int) := by omega
        simp [this]
      · simp [h0]
  have hk5 : (c.Kind != 5) = !decide (c.Kind = 5) := by by_cases h : c.Kind = 5 <;> simp [h]
  unfold MkA
  rw [lvar_any hc, Option.bind_some, hO, hO]
  simp only [jn_eq, hk5]
  by_cases e1 : c.At ≥ 0 <;> by_cases e2 : c.At < (d.Clauses.length : Int) <;> by_cases e3 : c.By ≥ 0 <;> by_cases e4 : c.By < (d.Clauses.length : Int) <;>
    simp only [e1, e2, e3, e4, decide_true, decide_false, Bool.and_true, Bool.and_false, Bool.true_and, Bool.false_and, if_true, if_false, Bool.false_eq_true, ge_iff_le] <;>
    (by_cases e5 : c.To = 0 <;> by_cases e6 : c.By = 0 <;> by_cases e7 : c.Kind = 4 <;> by_cases e8 : c.Kind = 5 <;> simp [e5, e6, e7, e8])
theorem equal_one (b : List Int) (x : Int) : F_slices_Equal_int_int b [x] = some (decide (b = [x])) := by
  unfold F_slices_Equal_int_int
  match b with
  | [] => simp
  | [y] =>
    by_cases h : y = x
    · subst h; simp [rangeF_cons, rangeF_nil, getI]
    · simp [rangeF_cons, rangeF_nil, getI, h]
  | y :: z :: t =>
    have h1 : ((((y :: z :: t).length : Nat) : Int) != ((([x] : List Int).length : Nat) : Int)) = true := by simp; omega
    have h2 : decide (y :: z :: t = [x]) = false := by simp
    rw [if_pos h1, h2]
theorem pallow_eq {d : S_api_Dqbf} (h : May d) (hs : Sm d) {c : S_api_Change} (hc : InK .i64 c.Lit) (M1 : List (Int × Bool)) (M2 : List (Int × List Int)) (M3 : List (Int × Int)) (k : Bool → MkR)
    (h1 : ∀ v, (mget M1 v).getD false = decide (v ∈ d.Univ)) (h2 : ∀ v, (mget M2 v).getD [] = onD d v) (h2' : ∀ v, (mget M2 v).isSome = decide (v ∈ varsD d)) (h3 : timesM d.Clauses M3) :
    MkA d c M1 M2 M3 k = k (allowB d c) := by
  have hl : ∀ {i : Int} {b : List Int}, clO d i = some b → nrmB 0 b = true ∧ b.length ≤ 4194304 := fun hb => ⟨h.nrm _ (clO_mem hb), Nat.le_trans (tot_mem (clO_mem hb)) (Nat.le_trans hs.tot (by decide))⟩
  have hget : ∀ {i : Int} {b : List Int} (f : List Int → MkR), clO d i = some b → getI d.Clauses i f = f b := fun f hb => getI_eq (clO_some hb).1 (clO_some hb).2.2
  rw [mka_b hc]
  obtain ⟨kd, l, t, i, j⟩ := c
  simp only at hc
  unfold MkB allowB
  simp only []
  by_cases ht : t = 0
  case neg => simp [ht]
  simp only [ht, ne_eq, not_true_eq_false, decide_false, Bool.false_or, decide_true, Bool.true_and]
  by_cases k4 : kd = 4
  · subst k4
    have e1 : ((4 : Int) == 1) = false := rfl
    have e2 : ((4 : Int) == 3) = false := rfl
    have e3 : ((4 : Int) == 2) = false := rfl
    have e4 : ¬ (4 : Int) = 1 := by decide
    have e5 : ¬ (4 : Int) = 3 := by decide
    have e6 : ¬ (4 : Int) = 2 := by decide
    simp only [not_true_eq_false, decide_false, Bool.and_false, Bool.false_and, Bool.false_eq_true, if_false, e1, e2, e3, e4, e5, e6, beq_self_eq_true, if_true]
    by_cases hz : l = 0
    case neg => simp [hz]
    simp only [hz, beq_self_eq_true, if_true, decide_true, Bool.true_and]
    cases hh : clO d i with
    | none => simp
    | some a =>
      cases hh2 : clO d j with
      | none => simp
      | some b =>
        simp only [Option.isSome_some, Bool.and_self, if_true]
        by_cases hij : i = j
        · simp [hij]
        · have : (i != j) = true := by simp [hij]
          rw [if_pos this, hget _ hh2, hget _ hh, lsub_eq (hl hh2).1 (hl hh).1 (hl hh).2]
          simp [hij]
  by_cases k5 : kd = 5
  · subst k5
    have e1 : ((5 : Int) == 1) = false := rfl
    have e2 : ((5 : Int) == 3) = false := rfl
    have e3 : ((5 : Int) == 2) = false := rfl
    have e0 : ((5 : Int) == 4) = false := rfl
    have e4 : ¬ (5 : Int) = 1 := by decide
    have e5 : ¬ (5 : Int) = 3 := by decide
    have e6 : ¬ (5 : Int) = 2 := by decide
    simp only [not_true_eq_false, decide_false, Bool.and_false, Bool.false_and, Bool.false_eq_true, if_false, e0, e1, e2, e3, e4, e5, e6, k4, beq_self_eq_true, if_true]
    by_cases hz : l = 0
    · simp [hz]
    have hz' : (l != 0) = true := by simp [hz]
    simp only [hz', if_true, hz, not_false_eq_true, decide_true, Bool.true_and]
    cases hh : clO d i with
    | none => simp
    | some a =>
      cases hh2 : clO d j with
      | none => simp
      | some b =>
        simp only [Option.isSome_some, Bool.and_self, if_true]
        rw [hget _ hh2, hget _ hh, lstrikeV (hl hh2).1 (hl hh).1]
        simp only [Option.bind_some]
        by_cases e : strikeV b a = l
        · simp [e]
        · have e' : (strikeV b a == l) = false := by simp [e]
          simp [e, e']
  have k4' : (kd == 4) = false := by simp [k4]
  have k5' : (kd == 5) = false := by simp [k5]
  simp only [k4, k5, k4', k5', not_false_eq_true, decide_true, Bool.and_true, if_false, Bool.false_eq_true]
  by_cases hj : j = 0
  case neg => simp [hj]
  subst hj
  simp only [not_true_eq_false, decide_false, Bool.false_eq_true, if_false, decide_true, Bool.true_and]
  by_cases k1 : kd = 1
  · subst k1
    simp only [beq_self_eq_true, if_true]
    cases hh : clO d i with
    | none => simp
    | some b =>
      simp only [Option.isSome_some, if_true, Option.bind_some, h2', hget _ hh, equal_one]
      by_cases hv : vr l ∈ varsD d <;> simp [hv]
  have k1' : (kd == 1) = false := by simp [k1]
  simp only [k1, k1', if_false, Bool.false_eq_true]
  by_cases k3 : kd = 3
  · subst k3
    simp only [beq_self_eq_true, if_true]
    cases hh : clO d i with
    | none => simp
    | some b =>
      have hb := hl hh
      simp only [Option.isSome_some, if_true]
      rw [hget _ hh, lhas_eq, Option.bind_some]
      by_cases hm : l ∈ b
      · have hx := nrm_lit hb.1 hm
        simp only [hm, decide_true, if_true, Bool.true_and, lvar_any hc, Option.bind_some, h1, vr_in hx.2.1 hx.2.2, jn_eq]
        rw [dep_run h hs M2 h2 (av l) b hb.1 (fun (s49974 : Int) => (some (decide (s49974 ≥ (0 : Int))))) (some true) (some false) (fun j => by simp) (by simp)]
        unfold redB
        by_cases hv : av l ∈ d.Univ
        · have e : (b.all fun y => !decide (av l ∈ onD d (av y))) = !(b.any fun y => decide (av l ∈ onD d (av y))) := by
            rw [List.not_any_eq_all_not]
          rw [e]
          cases b.any fun y => decide (av l ∈ onD d (av y)) <;> simp [hv]
        · simp [hv]
      · simp [hm]
  have k3' : (kd == 3) = false := by simp [k3]
  simp only [k3, k3', if_false, Bool.false_eq_true]
  by_cases k2 : kd = 2
  · subst k2
    simp only [beq_self_eq_true, if_true, Option.bind_some, times_zero h3, h1, h2', nowB]
    by_cases hi : i = 0
    case neg => simp [hi]
    by_cases hv : vr l > 0
    case neg => simp [hv, hi]
    simp only [hi, beq_self_eq_true, if_true, decide_true, Bool.true_and, hv]
    cases d.Clauses.all fun c => !decide (IntKind.wrap .i64 (0 - l) ∈ c)
    · simp
    · by_cases hm : vr l ∈ varsD d <;> by_cases hm2 : vr l ∈ d.Univ <;> simp [hm, hm2]
  have k2' : (kd == 2) = false := by simp [k2]
  simp [k2, k2']
end Go.Sk.X
namespace Go.Sk.X
open Go Go.Sk
def wo (v : Int) (l : List Int) : List Int := l.filter fun x => decide (av x ≠ v)
theorem wo_len (v : Int) (l : List Int) : (wo v l).length ≤ l.length := List.length_filter_le _ _
theorem lwithout_eq {a : List Int} (ha : nrmB 0 a = true) (la : a.length ≤ 4194304) (v : Int) : F_lits_Without a v = some (wo v a) := by
  unfold F_lits_Without
  simp only [jn_eq, lmay_eq ha, Option.bind_some, Bool.not_true, Bool.false_eq_true, if_false]
  refine rangeF_pre a (fun pre s => s.length ≤ pre.length) (fun _ xs s => some (s ++ wo v xs)) (fun s _ => by simp [wo]) ?_ a [] [] rfl (by simp)
  intro pre x xs s kk hf hI hk
  have hlen : pre.length < a.length := by rw [hf]; simp
  have hx := nrm_lit ha (x := x) (by rw [hf]; simp)
  rw [litsVar_eq hx.2.1 hx.2.2]
  unfold F_lits_only
  simp only [Option.bind_some, wo, List.filter_cons]
  by_cases h : av x = v
  · have h' : (av x != v) = false := by simp [h]
    simp only [h', Bool.false_eq_true, if_false, Option.bind_some, bne_self_eq_false]
    rw [hk s (by simp; omega)]
    simp [h, wo]
  · have h' : (av x != v) = true := by simp [h]
    have h2 : (x != (0 : Int)) = true := by simp [hx.1]
    simp only [h', if_true, Option.bind_some, h2]
    rw [capN_eq (by simp; omega), hk _ (by simp; omega)]
    simp [h, wo]
def depW (v : Int) (es : List S_api_Dep) : List S_api_Dep := (es.filter fun e => decide (e.Var ≠ v)).map fun e => S_api_Dep.mk e.Var (wo v e.On)
def clsW (lit v : Int) (cs : List (List Int)) : List (List Int) := (cs.filter fun c => !decide (lit ∈ c)).map (wo v)
def leaveV (d : S_api_Dqbf) (lit : Int) : MkT := (wo (vr lit) d.Univ, depW (vr lit) d.Exist, clsW lit (vr lit) d.Clauses)
structure Szs (d : S_api_Dqbf) : Prop where
  u : d.Univ.length ≤ 4194304
  e : d.Exist.length ≤ 4194304
  on : ∀ e ∈ d.Exist, e.On.length ≤ 4194304
  c : d.Clauses.length ≤ 4194304
  cs : ∀ c ∈ d.Clauses, c.length ≤ 4194304
theorem Sm.szs {d : S_api_Dqbf} (h : Sm d) : Szs d :=
  ⟨Nat.le_trans h.univ (by decide), Nat.le_trans h.exist (by decide), fun e he => Nat.le_trans (h.onE he) (by decide), Nat.le_trans h.cls (by decide), fun c hc => Nat.le_trans (tot_mem hc) (Nat.le_trans h.tot (by decide))⟩
theorem dep_loop {R : Type} {v : Int} {es : List S_api_Dep} (hn : ∀ e ∈ es, rsB 0 e.On = true) (hl : ∀ e ∈ es, e.On.length ≤ 4194304) (he : es.length ≤ 4194304) (W : List Int → Int → Option (List Int)) (hW : ∀ l : List Int, nrmB 0 l = true → l.length ≤ 4194304 → W l v = some (wo v l)) (K : List S_api_Dep → Option R) :
    rangeF (fun (j2901 : Nat) (x2902 : S_api_Dep) (s2898 : (List S_api_Dep)) k2900 => (jn (fun (s2933 : (List S_api_Dep)) => (k2900 s2933)) (fun k2935 => (if (x2902.Var != v) = true then ((W x2902.On v).bind (fun y2937 => (capN (s2898.length + [(S_api_Dep.mk x2902.Var y2937)].length) (k2935 (s2898 ++ [(S_api_Dep.mk x2902.Var y2937)]))))) else (k2935 s2898))))) 0 es ([] : List S_api_Dep) K = K (depW v es) := by
  refine rangeF_pre es (fun pre s => s = depW v pre) (fun pre xs s => K (depW v (pre ++ xs))) (fun s h => by rw [List.append_nil, h]) ?_ es [] [] rfl rfl
  intro pre x xs s kk hf hI hk
  have hx : x ∈ es := by rw [hf]; simp
  have hlen : s.length ≤ pre.length := by rw [hI]; unfold depW; rw [List.length_map]; exact List.length_filter_le _ _
  have hp : pre.length < es.length := by rw [hf]; simp
  simp only [jn_eq]
  rw [show pre ++ x :: xs = (pre ++ [x]) ++ xs by simp]
  by_cases h : x.Var = v
  · have h' : (x.Var != v) = false := by simp [h]
    simp only [h', Bool.false_eq_true, if_false]
    exact hk s (by rw [hI]; simp [depW, h])
  · have h' : (x.Var != v) = true := by simp [h]
    simp only [h', if_true, hW _ (rs_nrm (by decide) (hn x hx)) (hl x hx), Option.bind_some]
    rw [capN_eq (by simp; omega)]
    exact hk _ (by rw [hI]; simp [depW, h])
theorem cls_loop {R : Type} {v lit : Int} {cs : List (List Int)} (hn : ∀ c ∈ cs, nrmB 0 c = true) (hl : ∀ c ∈ cs, c.length ≤ 4194304) (he : cs.length ≤ 4194304) (K : List (List Int) → Option R)
    (body : List Int → List (List Int) → (List (List Int) → Option R) → Option R) (hb : ∀ c ∈ cs, ∀ (s : List (List Int)) k, s.length ≤ 4194304 → body c s k = if lit ∈ c then k s else k (s ++ [wo v c])) :
    rangeF (fun (j : Nat) (x : List Int) (s : List (List Int)) k => body x s k) 0 cs ([] : List (List Int)) K = K (clsW lit v cs) := by
  refine rangeF_pre cs (fun pre s => s = clsW lit v pre) (fun pre xs s => K (clsW lit v (pre ++ xs))) (fun s h => by rw [List.append_nil, h]) ?_ cs [] [] rfl rfl
  intro pre x xs s kk hf hI hk
  have hx : x ∈ cs := by rw [hf]; simp
  have hlen : s.length ≤ pre.length := by rw [hI]; unfold clsW; rw [List.length_map]; exact List.length_filter_le _ _
  have hp : pre.length < cs.length := by rw [hf]; simp
  rw [show pre ++ x :: xs = (pre ++ [x]) ++ xs by simp, hb x hx s kk (by omega)]
  by_cases h : lit ∈ x
  · rw [if_pos h]
    exact hk s (by rw [hI]; simp [clsW, h])
  · rw [if_neg h]
    exact hk _ (by rw [hI]; simp [clsW, h])
theorem mkl_eq {R : Type} {d : S_api_Dqbf} (h : May d) (hs : Sm d) {lit : Int} (hk : InK .i64 lit) (kk : MkT → Option R) : MkL d lit kk = kk (leaveV d lit) := by
  have hz := hs.szs
  unfold MkL leaveV
  rw [lvar_any hk, Option.bind_some, lwithout_eq (rs_nrm (by decide) h.ru) hz.u, Option.bind_some]
  rw [dep_loop (fun e he => (h.on e he).1) hz.on hz.e F_lits_Without (fun l h1 h2 => lwithout_eq h1 h2 _)]
  refine cls_loop h.nrm hz.cs hz.c (fun s => kk (wo (vr lit) d.Univ, depW (vr lit) d.Exist, s)) (fun x s k => (jn (fun (s2981 : (List (List Int))) => (k s2981)) (fun k2983 => ((F_lits_Has x lit).bind (fun y2984 => (if (!y2984) = true then ((F_lits_Without x (vr lit)).bind (fun y2986 => (capN (s.length + [y2986].length) (k2983 (s ++ [y2986]))))) else (k2983 s))))))) ?_
  intro c hc s k hl
  simp only [jn_eq]
  rw [lhas_eq, Option.bind_some]
  by_cases hm : lit ∈ c
  · simp [hm]
  · simp only [hm, decide_false, Bool.not_false, if_true, if_false]
    rw [lwithout_eq (h.nrm c hc) (hz.cs c hc), Option.bind_some, capN_eq (by simp; omega)]
end Go.Sk.X
namespace Go.Sk.X
open Go Go.Sk
def madeV (d : S_api_Dqbf) (c : S_api_Change) : MkT :=
  if c.Kind = 4 then (d.Univ, d.Exist, d.Clauses.eraseIdx c.At.toNat)
  else if c.Kind = 3 ∨ c.Kind = 5 then (d.Univ, d.Exist, d.Clauses.set c.At.toNat (wo (vr c.Lit) (d.Clauses.getD c.At.toNat [])))
  else leaveV d (if vr c.Lit ∈ d.Univ then IntKind.wrap .i64 (0 - c.Lit) else c.Lit)
def toD (t : MkT) : S_api_Dqbf := S_api_Dqbf.mk t.1 t.2.1 t.2.2
def emD : S_api_Dqbf := S_api_Dqbf.mk [] [] []
def makeV (d : S_api_Dqbf) (c : S_api_Change) : S_api_Dqbf × Int :=
  if MayD d = true then (if allowB d c = true then (toD (madeV d c), 0) else (emD, 5)) else (emD, 2)
theorem clone2_eq {l : List (List Int)} (hl : l.length ≤ 4194304) : F_slices_Clone_int_int l = some l := by
  unfold F_slices_Clone_int_int
  cases l with
  | nil => rfl
  | cons a l => rw [if_neg (by simp), capN_eq (by simp at hl ⊢; omega)]; rfl
theorem own_eq {d : S_api_Dqbf} (h : Szs d) : F_clean_own d = some d := by
  unfold F_clean_own
  rw [clone1_eq h.u, Option.bind_some]
  refine (rangeF_pre d.Exist (fun pre s => s = pre) (fun _ _ _ => some d) ?_ ?_ d.Exist [] [] rfl rfl)
  · rintro s rfl
    refine (rangeF_pre d.Clauses (fun pre s => s = pre) (fun _ _ _ => some d) ?_ ?_ d.Clauses [] [] rfl rfl)
    · rintro s rfl; rfl
    · rintro pre x xs s kk hf rfl hk
      have hp : s.length < d.Clauses.length := by rw [hf]; simp
      have := h.c
      rw [clone1_eq (h.cs x (by rw [hf]; simp)), Option.bind_some, capN_eq (by simp; omega)]
      exact hk _ rfl
  · rintro pre x xs s kk hf rfl hk
    have hp : s.length < d.Exist.length := by rw [hf]; simp
    have := h.e
    rw [clone1_eq (h.on x (by rw [hf]; simp)), Option.bind_some, capN_eq (by simp; omega)]
    exact hk _ rfl
theorem allow_at {d : S_api_Dqbf} {c : S_api_Change} (h : allowB d c = true) (hk : c.Kind = 3 ∨ c.Kind = 4 ∨ c.Kind = 5) : ∃ b, clO d c.At = some b := by
  unfold allowB at h
  cases hh : clO d c.At with
  | some b => exact ⟨b, rfl⟩
  | none =>
    rw [hh] at h
    rcases hk with k | k | k <;> simp [k] at h
theorem delL_erase {l : List (List Int)} {i : Nat} (h : i < l.length) : ((delL l i (i + 1) []).take (0 + (l.length - 1))).drop 0 = l.eraseIdx i := by
  have e1 : (l.take i ++ l.drop (i + 1)).length = l.length - 1 := by simp; omega
  unfold delL
  rw [List.drop_zero, Nat.zero_add, ← e1, List.take_left', List.eraseIdx_eq_take_drop_succ]
  rfl
theorem mkm_eq {R : Type} {d : S_api_Dqbf} (h : May d) (hs : Sm d) {c : S_api_Change} (hc : InK .i64 c.Lit) (M1 : List (Int × Bool)) (kk : MkT → Option R) (h1 : ∀ v, (mget M1 v).getD false = decide (v ∈ d.Univ)) (ha : allowB d c = true) :
    MkM d c M1 kk = kk (madeV d c) := by
  have hz := hs.szs
  unfold MkM madeV
  by_cases k4 : c.Kind = 4
  · obtain ⟨b, hb⟩ := allow_at ha (.inr (.inl k4))
    obtain ⟨g0, g1, g2⟩ := clO_some hb
    have hcz := hz.c
    have hw : IntKind.wrap .i64 (c.At + (1 : Int)) = c.At + 1 := wrap_id (by omega) (by omega)
    have e : (c.At + 1).toNat = c.At.toNat + 1 := by omega
    have e2 : c.At.toNat < d.Clauses.length := by omega
    simp only [k4, beq_self_eq_true, if_true, clone2_eq hz.c, Option.bind_some, hw]
    rw [okI_eq ⟨g0, by omega, by omega, by omega⟩, e, delL_length (by omega) (by omega)]
    rw [show c.At.toNat + 1 - c.At.toNat = 1 by omega, delL_erase e2]
  have k4' : (c.Kind == 4) = false := by simp [k4]
  simp only [k4, k4', Bool.false_eq_true, if_false, jn_eq]
  by_cases k35 : c.Kind = 3 ∨ c.Kind = 5
  · obtain ⟨b, hb⟩ := allow_at ha (by rcases k35 with k | k; exact .inl k; exact .inr (.inr k))
    obtain ⟨g0, g1, g2⟩ := clO_some hb
    rw [if_pos k35]
    have hb1 := h.nrm b (clO_mem hb)
    have hb2 := hz.cs b (clO_mem hb)
    have key : ((F_slices_Clone_int_int d.Clauses).bind (fun y2798 => (getI y2798 c.At (fun x2799 => ((F_lits_Var c.Lit).bind (fun y2800 => ((F_lits_Without x2799 y2800).bind (fun y2801 => (kk (d.Univ, d.Exist, (y2798.set c.At.toNat y2801))))))))))) = kk (d.Univ, d.Exist, d.Clauses.set c.At.toNat (wo (vr c.Lit) (d.Clauses.getD c.At.toNat []))) := by
      rw [clone2_eq hz.c, Option.bind_some, getI_eq g0 g2, lvar_any hc, Option.bind_some, lwithout_eq hb1 hb2, Option.bind_some]
      rw [List.getD_eq_getElem?_getD, g2]; rfl
    rcases k35 with k | k
    · simp only [k, beq_self_eq_true, if_true]; exact key
    · have e5 : ((5 : Int) == 3) = false := rfl
      simp only [k, beq_self_eq_true, e5, Bool.false_eq_true, if_false, if_true]; exact key
  · rw [if_neg k35]
    have k3 : (c.Kind == 3) = false := by simp; exact fun e => k35 (.inl e)
    have k5 : (c.Kind == 5) = false := by simp; exact fun e => k35 (.inr e)
    simp only [k3, k5, Bool.false_eq_true, if_false, lvar_any hc, Option.bind_some, h1]
    by_cases hu : vr c.Lit ∈ d.Univ
    · simp only [hu, decide_true, if_true]; exact mkl_eq h hs inK_neg kk
    · simp only [hu, decide_false, Bool.false_eq_true, if_false]; exact mkl_eq h hs hc kk
theorem made_szs {d : S_api_Dqbf} (hs : Sm d) (c : S_api_Change) : Szs (toD (madeV d c)) := by
  have hz := hs.szs
  unfold madeV
  split
  · exact ⟨hz.u, hz.e, hz.on, Nat.le_trans (by simp only [toD]; exact List.length_eraseIdx_le _ _) hz.c, fun c hc => hz.cs c (List.mem_of_mem_eraseIdx hc)⟩
  · split
    · refine ⟨hz.u, hz.e, hz.on, by simp only [toD, List.length_set]; exact hz.c, fun b hb => ?_⟩
      rcases List.mem_or_eq_of_mem_set hb with hb | rfl
      · exact hz.cs b hb
      · refine Nat.le_trans (wo_len _ _) ?_
        rw [List.getD_eq_getElem?_getD]
        cases hg : d.Clauses[c.At.toNat]? with
        | none => simp
        | some x => exact hz.cs x (List.mem_of_getElem? hg)
    · refine ⟨Nat.le_trans (wo_len _ _) hz.u, ?_, fun e he => ?_, ?_, fun b hb => ?_⟩
      · simp only [toD, leaveV, depW, List.length_map]; exact Nat.le_trans (List.length_filter_le _ _) hz.e
      · simp only [toD, leaveV, depW, List.mem_map] at he
        obtain ⟨e0, he0, rfl⟩ := he
        exact Nat.le_trans (wo_len _ _) (hz.on e0 (List.mem_filter.1 he0).1)
      · simp only [toD, leaveV, clsW, List.length_map]; exact Nat.le_trans (List.length_filter_le _ _) hz.c
      · simp only [toD, leaveV, clsW, List.mem_map] at hb
        obtain ⟨b0, hb0, rfl⟩ := hb
        exact Nat.le_trans (wo_len _ _) (hz.cs b0 (List.mem_filter.1 hb0).1)
theorem pmake_eq {d : S_api_Dqbf} (hs : Sm d) {c : S_api_Change} (hc : InK .i64 c.Lit) : F_clean_Make d c = some (makeV d c) := by
  rw [make_unfold, mayp_eq hs, Option.bind_some]
  unfold makeV
  by_cases hM : MayD d = true
  case neg => simp [Bool.eq_false_iff.2 hM, emD]
  have h := may_of hM
  have htot := hs.tot
  simp only [hM, Bool.not_true, Bool.false_eq_true, if_false, if_true]
  rw [rangeF_fold (fun m x => mset m x true), rangeF_fold (fun m (e : S_api_Dep) => mset m e.Var e.On)]
  refine times_out _ _ d.Clauses (by omega) (fun m hm => ?_)
  have h1 : ∀ v, (mget (d.Univ.foldl (fun m x => mset m x true) ([] : List (Int × Bool))) v).getD false = decide (v ∈ d.Univ) := fun v => by
    rw [mget_fold]; by_cases hx : v ∈ d.Univ <;> simp [hx, mget]
  have h2 := fun v => on_map h v
  have h2' : ∀ v, (mget (d.Exist.foldl (fun m e => mset m e.Var e.On) ([] : List (Int × List Int))) v).isSome = decide (v ∈ varsD d) := fun v => by
    rw [mget_foldV]; simp [mget, varsD]
  rw [jn_eq, pallow_eq h hs hc _ _ _ _ h1 h2 h2' hm]
  cases ha : allowB d c
  · simp [emD]
  · simp only [Bool.not_true, Bool.false_eq_true, if_false, if_true, jn_eq]
    rw [mkm_eq h hs hc _ _ h1 ha]
    show (F_clean_own (toD (madeV d c))).bind _ = _
    rw [own_eq (made_szs hs c), Option.bind_some]
theorem ints_self (a : List Int) : F_skolemref03_Ints a a = some true := by
  unfold F_skolemref03_Ints
  rw [if_neg (by simp)]
  refine rangeF_pre a (fun _ _ => True) (fun _ _ _ => some true) (fun _ _ => rfl) ?_ a [] () rfl trivial
  intro pre x xs s kk hf _ hk
  have hg : a[pre.length]? = some x := by rw [hf]; simp
  rw [getI_eq (x := x) (by omega) (by simpa using hg)]
  simp [hk () trivial]
theorem lists_self (a : List (List Int)) : F_skolemref03_Lists a a = some true := by
  unfold F_skolemref03_Lists
  rw [if_neg (by simp)]
  refine rangeF_pre a (fun _ _ => True) (fun _ _ _ => some true) (fun _ _ => rfl) ?_ a [] () rfl trivial
  intro pre x xs s kk hf _ hk
  have hg : a[pre.length]? = some x := by rw [hf]; simp
  rw [getI_eq (x := x) (by omega) (by simpa using hg), ints_self]
  simp [hk () trivial]
theorem same_self (a : S_api_Dqbf) : F_skolemref03_SameDqbf a a = some true := by
  unfold F_skolemref03_SameDqbf
  simp only [jn_eq, ints_self, lists_self, Option.bind_some, Bool.not_true, Bool.false_eq_true, if_false, bne_self_eq_false]
  refine rangeF_pre a.Exist (fun _ _ => True) (fun _ _ _ => some true) (fun _ _ => rfl) ?_ a.Exist [] () rfl trivial
  intro pre x xs s kk hf _ hk
  have hg : a.Exist[pre.length]? = some x := by rw [hf]; simp
  rw [getI_eq (x := x) (by omega) (by simpa using hg), getI_eq (x := x) (by omega) (by simpa using hg), ints_self]
  simp [hk () trivial]
end Go.Sk.X
namespace Go.Sk.X
open Go Go.Sk
theorem may_iff {d : S_api_Dqbf} : MayD d = true ↔ May d ∧ d.Clauses.length ≤ 20000 ∧ tot d.Clauses ≤ 200000 := by
  constructor
  · intro h
    refine ⟨may_of h, ?_⟩
    simp only [MayD, Bool.and_eq_true, decide_eq_true_eq] at h
    exact ⟨h.2.2.2.2.1, h.2.2.2.2.2.2⟩
  · rintro ⟨h, h1, h2⟩
    simp only [MayD, Bool.and_eq_true, List.all_eq_true, decide_eq_true_eq, Bool.not_eq_true', decide_eq_false_iff_not, depB, List.mem_append]
    exact ⟨fun e he => ⟨h.dj e he, h.on e he⟩, h.ru, h.rv, h.len, h1, fun c hc => ⟨h.nrm c hc, h.wi c hc⟩, h2⟩
theorem rs_mono {c c' : Int} (h : c' ≤ c) : ∀ {l : List Int}, rsB c l = true → rsB c' l = true
  | [], _ => rfl
  | x :: xs, h' => by
    rw [rsB_cons] at h' ⊢
    exact ⟨by omega, h'.2.1, h'.2.2⟩
theorem rs_filter (p : Int → Bool) : ∀ {l : List Int} {c : Int}, rsB c l = true → rsB c (l.filter p) = true
  | [], _, h => rfl
  | x :: xs, c, h => by
    rw [rsB_cons] at h
    simp only [List.filter_cons]
    split
    · rw [rsB_cons]; exact ⟨h.1, h.2.1, rs_filter p h.2.2⟩
    · exact rs_mono (by omega) (rs_filter p h.2.2)
theorem tot_sub {a b : List (List Int)} (h : a.Sublist b) : tot a ≤ tot b := by
  induction h with
  | slnil => exact Nat.le_refl _
  | cons x _ ih => rw [tot_cons]; omega
  | cons_cons x _ ih => rw [tot_cons, tot_cons]; omega
theorem tot_map {f : List Int → List Int} (hf : ∀ c, (f c).length ≤ c.length) : ∀ (l : List (List Int)), tot (l.map f) ≤ tot l
  | [] => Nat.le_refl _
  | c :: l => by
    rw [List.map_cons, tot_cons, tot_cons]
    have := hf c
    have := tot_map hf l
    omega
theorem tot_set {c' : List Int} : ∀ {l : List (List Int)} {i : Nat} {c : List Int}, l[i]? = some c → tot (l.set i c') + c.length = tot l + c'.length
  | [], i, c, h => by simp at h
  | x :: l, 0, c, h => by
    have : x = c := by simpa using h
    subst this
    rw [List.set_cons_zero, tot_cons, tot_cons]; omega
  | x :: l, i + 1, c, h => by
    have := tot_set (c' := c') (l := l) (i := i) (c := c) (by simpa using h)
    rw [List.set_cons_succ, tot_cons, tot_cons]; omega
theorem mem_wo {v x : Int} {l : List Int} : x ∈ wo v l ↔ x ∈ l ∧ av x ≠ v := by simp [wo]
theorem wo_lt {v x : Int} {l : List Int} (h : x ∈ l) (hv : av x = v) : (wo v l).length < l.length := by
  unfold wo
  rw [List.length_filter_lt_length_iff_exists]
  exact ⟨x, h, by simp [hv]⟩
theorem av_pos {x : Int} (h : 0 < x) : av x = x := by unfold av; rw [if_neg (by omega)]
def mu (d : S_api_Dqbf) : Nat := d.Univ.length + d.Exist.length + (d.Clauses.length + tot d.Clauses)
theorem dep_vars (v : Int) (es : List S_api_Dep) : (depW v es).map (·.Var) = (es.map (·.Var)).filter fun x => decide (x ≠ v) := by
  unfold depW
  induction es with
  | nil => rfl
  | cons e es ih =>
    simp only [List.filter_cons, List.map_cons]
    by_cases h : e.Var = v <;> simp [h] at ih ⊢ <;> exact ih
theorem dep_mem {v : Int} {es : List S_api_Dep} {e : S_api_Dep} (h : e ∈ depW v es) : ∃ e0 ∈ es, e0.Var ≠ v ∧ e = S_api_Dep.mk e0.Var (wo v e0.On) := by
  unfold depW at h
  obtain ⟨e0, h0, rfl⟩ := List.mem_map.1 h
  rw [List.mem_filter] at h0
  exact ⟨e0, h0.1, by simpa using h0.2, rfl⟩
theorem may_leave {d : S_api_Dqbf} (h : MayD d = true) (lit : Int) : MayD (toD (leaveV d lit)) = true := by
  obtain ⟨hm, h1, h2⟩ := may_iff.1 h
  have hl : d.Univ.length + d.Exist.length ≤ 1024 := hm.len
  refine may_iff.2 ⟨⟨fun e he => ?_, fun e he => ?_, rs_filter _ hm.ru, ?_, ?_, fun c hc => ?_, fun c hc x hx => ?_⟩, ?_, ?_⟩
  · obtain ⟨e0, h0, hv, rfl⟩ := dep_mem he
    exact fun hh => hm.dj e0 h0 (mem_wo.1 hh).1
  · obtain ⟨e0, h0, hv, rfl⟩ := dep_mem he
    exact ⟨rs_filter _ (hm.on e0 h0).1, fun x hx => mem_wo.2 ⟨(hm.on e0 h0).2 x (mem_wo.1 hx).1, (mem_wo.1 hx).2⟩⟩
  · show rsB 0 ((depW _ d.Exist).map (·.Var)) = true
    rw [dep_vars]; exact rs_filter _ hm.rv
  · have a := wo_len (vr lit) d.Univ
    have b : (depW (vr lit) d.Exist).length ≤ d.Exist.length := by unfold depW; rw [List.length_map]; exact List.length_filter_le _ _
    show (wo (vr lit) d.Univ).length + (depW (vr lit) d.Exist).length ≤ 1024
    omega
  · obtain ⟨c0, h0, rfl⟩ := List.mem_map.1 hc
    exact nrm_filter _ (hm.nrm c0 (List.mem_filter.1 h0).1)
  · obtain ⟨c0, h0, rfl⟩ := List.mem_map.1 hc
    rw [mem_wo] at hx
    rcases hm.wi c0 (List.mem_filter.1 h0).1 x hx.1 with hu | hv
    · exact .inl (mem_wo.2 ⟨hu, by rw [av_pos (rsB_mem hm.ru _ hu).1]; exact hx.2⟩)
    · refine .inr ?_
      show av x ∈ (depW _ d.Exist).map (·.Var)
      rw [dep_vars]
      exact List.mem_filter.2 ⟨hv, by simpa using hx.2⟩
  · show (clsW lit (vr lit) d.Clauses).length ≤ 20000
    unfold clsW; rw [List.length_map]; exact Nat.le_trans (List.length_filter_le _ _) h1
  · show tot (clsW lit (vr lit) d.Clauses) ≤ 200000
    exact Nat.le_trans (tot_map (wo_len _) _) (Nat.le_trans (tot_sub List.filter_sublist) h2)
theorem mu_leave {d : S_api_Dqbf} (h : MayD d = true) {lit : Int} (hv : vr lit ∈ d.Univ ∨ vr lit ∈ varsD d) : mu (toD (leaveV d lit)) < mu d := by
  obtain ⟨hm, h1, h2⟩ := may_iff.1 h
  have a := wo_len (vr lit) d.Univ
  have b : (depW (vr lit) d.Exist).length ≤ d.Exist.length := by unfold depW; rw [List.length_map]; exact List.length_filter_le _ _
  have c : (clsW lit (vr lit) d.Clauses).length ≤ d.Clauses.length := by unfold clsW; rw [List.length_map]; exact List.length_filter_le _ _
  have e : tot (clsW lit (vr lit) d.Clauses) ≤ tot d.Clauses := Nat.le_trans (tot_map (wo_len _) _) (tot_sub List.filter_sublist)
  show (wo (vr lit) d.Univ).length + (depW (vr lit) d.Exist).length + ((clsW lit (vr lit) d.Clauses).length + tot (clsW lit (vr lit) d.Clauses)) < _
  unfold mu
  rcases hv with hv | hv
  · have := wo_lt hv (av_pos (rsB_mem hm.ru _ hv).1)
    omega
  · have : (depW (vr lit) d.Exist).length < d.Exist.length := by
      unfold depW
      rw [List.length_map, List.length_filter_lt_length_iff_exists]
      obtain ⟨e0, h0, h3⟩ := List.mem_map.1 hv
      exact ⟨e0, h0, by simp [h3]⟩
    omega
theorem may_set {d : S_api_Dqbf} (h : MayD d = true) {i : Nat} {b : List Int} (hb : d.Clauses[i]? = some b) (v : Int) : MayD (S_api_Dqbf.mk d.Univ d.Exist (d.Clauses.set i (wo v b))) = true := by
  obtain ⟨hm, h1, h2⟩ := may_iff.1 h
  have hmem := List.mem_of_getElem? hb
  refine may_iff.2 ⟨⟨hm.dj, hm.on, hm.ru, hm.rv, hm.len, fun c hc => ?_, fun c hc x hx => ?_⟩, by simp only [List.length_set]; exact h1, ?_⟩
  · rcases List.mem_or_eq_of_mem_set hc with hc | rfl
    · exact hm.nrm c hc
    · exact nrm_filter _ (hm.nrm b hmem)
  · rcases List.mem_or_eq_of_mem_set hc with hc | rfl
    · exact hm.wi c hc x hx
    · exact hm.wi b hmem x (mem_wo.1 hx).1
  · have := tot_set (c' := wo v b) hb
    have := wo_len v b
    show tot (d.Clauses.set i (wo v b)) ≤ _
    omega
theorem may_erase {d : S_api_Dqbf} (h : MayD d = true) (i : Nat) : MayD (S_api_Dqbf.mk d.Univ d.Exist (d.Clauses.eraseIdx i)) = true := by
  obtain ⟨hm, h1, h2⟩ := may_iff.1 h
  exact may_iff.2 ⟨⟨hm.dj, hm.on, hm.ru, hm.rv, hm.len, fun c hc => hm.nrm c (List.mem_of_mem_eraseIdx hc), fun c hc => hm.wi c (List.mem_of_mem_eraseIdx hc)⟩,
    Nat.le_trans (List.length_eraseIdx_le _ _) h1, Nat.le_trans (tot_sub (List.eraseIdx_sublist _ _)) h2⟩
inductive Ch (d : S_api_Dqbf) : S_api_Change → Prop
  | unit (l i : Int) (h : clO d i = some [l]) (hv : vr l ∈ varsD d) : Ch d (S_api_Change.mk 1 l 0 i 0)
  | reduce (l i : Int) (b : List Int) (h : clO d i = some b) (hl : l ∈ b) (hr : redB d b l = true) : Ch d (S_api_Change.mk 3 l 0 i 0)
  | pure (l : Int) (h0 : vr l > 0) (hn : nowB d (IntKind.wrap .i64 (0 - l)) = true) (hv : vr l ∈ varsD d ∨ vr l ∈ d.Univ) : Ch d (S_api_Change.mk 2 l 0 0 0)
  | drop (i j : Int) (a b : List Int) (h : clO d i = some a) (h2 : clO d j = some b) (hij : i ≠ j) (hs : subB b a = true) : Ch d (S_api_Change.mk 4 0 0 i j)
  | strike (l i j : Int) (a b : List Int) (hl : l ≠ 0) (h : clO d i = some a) (h2 : clO d j = some b) (hs : strikeV b a = l) : Ch d (S_api_Change.mk 5 l 0 i j)
theorem ch_iff {d : S_api_Dqbf} {c : S_api_Change} : allowB d c = true ↔ Ch d c := by
  constructor
  · intro h
    obtain ⟨k, l, t, i, j⟩ := c
    unfold allowB at h
    simp only [Bool.and_eq_true, decide_eq_true_eq] at h
    obtain ⟨rfl, h⟩ := h
    by_cases k1 : k = 1
    · subst k1
      rw [if_pos rfl] at h
      simp only [Bool.and_eq_true, decide_eq_true_eq] at h
      obtain ⟨rfl, h⟩ := h
      cases hh : clO d i with
      | none => rw [hh] at h; simp at h
      | some b =>
        rw [hh] at h
        simp only [Bool.and_eq_true, decide_eq_true_eq] at h
        exact .unit l i (by rw [hh, h.1]) h.2
    rw [if_neg k1] at h
    by_cases k3 : k = 3
    · subst k3
      rw [if_pos rfl] at h
      simp only [Bool.and_eq_true, decide_eq_true_eq] at h
      obtain ⟨rfl, h⟩ := h
      cases hh : clO d i with
      | none => rw [hh] at h; simp at h
      | some b =>
        rw [hh] at h
        simp only [Bool.and_eq_true, decide_eq_true_eq] at h
        exact .reduce l i b hh h.1 h.2
    rw [if_neg k3] at h
    by_cases k2 : k = 2
    · subst k2
      rw [if_pos rfl] at h
      simp only [Bool.and_eq_true, Bool.or_eq_true, decide_eq_true_eq] at h
      obtain ⟨⟨⟨⟨rfl, rfl⟩, h1⟩, h2⟩, h3⟩ := h
      exact .pure l h1 h2 h3
    rw [if_neg k2] at h
    by_cases k4 : k = 4
    · subst k4
      rw [if_pos rfl] at h
      simp only [Bool.and_eq_true, decide_eq_true_eq] at h
      obtain ⟨rfl, h⟩ := h
      cases hh : clO d i with
      | none => rw [hh] at h; simp at h
      | some a =>
        cases hh2 : clO d j with
        | none => rw [hh, hh2] at h; simp at h
        | some b =>
          rw [hh, hh2] at h
          simp only [Bool.and_eq_true, decide_eq_true_eq] at h
          exact .drop i j a b hh hh2 h.1 h.2
    rw [if_neg k4] at h
    by_cases k5 : k = 5
    · subst k5
      rw [if_pos rfl] at h
      simp only [Bool.and_eq_true, decide_eq_true_eq] at h
      obtain ⟨hz, h⟩ := h
      cases hh : clO d i with
      | none => rw [hh] at h; simp at h
      | some a =>
        cases hh2 : clO d j with
        | none => rw [hh, hh2] at h; simp at h
        | some b =>
          rw [hh, hh2] at h
          exact .strike l i j a b hz hh hh2 (by simpa using h)
    rw [if_neg k5] at h
    simp at h
  · intro h
    cases h with
    | unit l i h hv => simp [allowB, h, hv]
    | reduce l i b h hl hr => simp [allowB, h, hl, hr]
    | pure l h0 hn hv =>
      simp only [allowB]
      rw [if_neg (by decide), if_neg (by decide), if_pos trivial]
      simp only [hn, h0, decide_true, Bool.and_true, Bool.true_and]
      rcases hv with hv | hv <;> simp [hv]
    | drop i j a b h h2 hij hs => simp [allowB, h, h2, hij, hs]
    | strike l i j a b hl h h2 hs => simp [allowB, h, h2, hl, hs]
theorem made_set {d : S_api_Dqbf} {c : S_api_Change} {b : List Int} (hb : clO d c.At = some b) (hk : c.Kind = 3 ∨ c.Kind = 5) : toD (madeV d c) = S_api_Dqbf.mk d.Univ d.Exist (d.Clauses.set c.At.toNat (wo (vr c.Lit) b)) := by
  unfold madeV
  rw [if_neg (by rcases hk with k | k <;> rw [k] <;> decide), if_pos hk, List.getD_eq_getElem?_getD, (clO_some hb).2.2]; rfl
theorem made_leave {d : S_api_Dqbf} {c : S_api_Change} (hk : c.Kind = 1 ∨ c.Kind = 2) : toD (madeV d c) = toD (leaveV d (if vr c.Lit ∈ d.Univ then IntKind.wrap .i64 (0 - c.Lit) else c.Lit)) := by
  unfold madeV
  rw [if_neg (by rcases hk with k | k <;> rw [k] <;> decide), if_neg (by rcases hk with k | k <;> rw [k] <;> decide)]
theorem vr_sel {d : S_api_Dqbf} {l : Int} (hc : InK .i64 l) : vr (if vr l ∈ d.Univ then IntKind.wrap .i64 (0 - l) else l) = vr l := by
  split
  · exact vr_neg hc
  · rfl
theorem made_step {d : S_api_Dqbf} (h : MayD d = true) {c : S_api_Change} (hc : InK .i64 c.Lit) (ha : Ch d c) : MayD (toD (madeV d c)) = true ∧ mu (toD (madeV d c)) < mu d := by
  obtain ⟨hm, h1, h2⟩ := may_iff.1 h
  have hset : ∀ {b : List Int}, clO d c.At = some b → c.Kind = 3 ∨ c.Kind = 5 → c.Lit ∈ b → MayD (toD (madeV d c)) = true ∧ mu (toD (madeV d c)) < mu d := fun {b} hb hk hl => by
    rw [made_set hb hk]
    refine ⟨may_set h (clO_some hb).2.2 _, ?_⟩
    have hx := nrm_lit (hm.nrm b (clO_mem hb)) hl
    have e1 := tot_set (c' := wo (vr c.Lit) b) (clO_some hb).2.2
    have e2 := wo_lt hl (vr_in hx.2.1 hx.2.2).symm
    unfold mu
    simp only [List.length_set]
    omega
  have hlv : c.Kind = 1 ∨ c.Kind = 2 → (vr c.Lit ∈ d.Univ ∨ vr c.Lit ∈ varsD d) → MayD (toD (madeV d c)) = true ∧ mu (toD (madeV d c)) < mu d := fun hk hv => by
    rw [made_leave hk]
    exact ⟨may_leave h _, mu_leave h (by rw [vr_sel hc]; exact hv)⟩
  cases ha with
  | unit l i h hv => exact hlv (.inl rfl) (.inr hv)
  | reduce l i b h hl hr => exact hset h (.inl rfl) hl
  | pure l h0 hn hv => exact hlv (.inr rfl) (by rcases hv with hv | hv; exact .inr hv; exact .inl hv)
  | drop i j a b hi h2 hij hs =>
    refine ⟨may_erase h _, ?_⟩
    obtain ⟨g0, g1, g2⟩ := clO_some hi
    have hlt : i.toNat < d.Clauses.length := by omega
    have := List.length_eraseIdx_of_lt hlt
    have := tot_sub (List.eraseIdx_sublist d.Clauses i.toNat)
    show d.Univ.length + d.Exist.length + ((d.Clauses.eraseIdx i.toNat).length + tot (d.Clauses.eraseIdx i.toNat)) < _
    unfold mu
    omega
  | strike l i j a b hl hi h2 hs => exact hset hi (.inr rfl) (by rw [← hs]; exact strike_mem (by rw [hs]; exact hl))
end Go.Sk.X
namespace Go.Sk.X
open Go Go.Sk
theorem firstI_get {α β : Type} {g : Nat → α → Option β} {c : β} : ∀ {xs : List α} {j : Nat}, firstI g j xs = some c → ∃ i x, xs[i]? = some x ∧ g (j + i) x = some c
  | [], _, h => by simp [firstI] at h
  | x :: xs, j, h => by
    unfold firstI at h
    cases hg : g j x with
    | some b =>
      rw [hg] at h
      exact ⟨0, x, rfl, by rw [Nat.add_zero, hg]; exact h⟩
    | none =>
      rw [hg] at h
      obtain ⟨i, y, h1, h2⟩ := firstI_get (xs := xs) (j := j + 1) h
      exact ⟨i + 1, y, by simpa using h1, by rw [← h2]; congr 1; omega⟩
theorem clO_of {d : S_api_Dqbf} {i : Nat} {c : List Int} (h : d.Clauses[i]? = some c) : clO d (i : Int) = some c := by
  have hl : i < d.Clauses.length := (List.getElem?_eq_some_iff.1 h).1
  unfold clO
  rw [if_pos ⟨by omega, by omega⟩]
  simpa using h
theorem inK_lit {x : Int} (h0 : -65536 ≤ x) (h1 : x ≤ 65536) : InK .i64 x := inK64.2 ⟨by omega, by omega⟩
theorem selO_some {ks : List Int} {k : Int} {o : Option S_api_Change} {c : S_api_Change} (h : selO ks k o = some c) : o = some c := by
  unfold selO at h
  split at h
  · exact h
  · cases h
def Okc (d : S_api_Dqbf) (c : S_api_Change) : Prop := Ch d c ∧ InK .i64 c.Lit ∧ c.To = 0
theorem all_ch {d : S_api_Dqbf} (h : May d) {ks : List Int} {c : S_api_Change} (ha : allO d ks = some c) : Okc d c := by
  unfold allO at ha
  rcases Option.or_eq_some_iff.1 ha with hh | ⟨-, ha⟩
  · obtain ⟨i, b, hb, hc⟩ := firstI_get (selO_some hh)
    rw [Nat.zero_add] at hc
    match b, hb, hc with
    | [y], hb, hc =>
      have hy := nrm_lit (h.nrm _ (List.mem_of_getElem? hb)) (x := y) (by simp)
      simp only at hc
      split at hc
      · rename_i hv
        injection hc with hc
        subst hc
        exact ⟨.unit y i (clO_of hb) (by rw [vr_in hy.2.1 hy.2.2]; exact hv), inK_lit hy.2.1 hy.2.2, rfl⟩
      · cases hc
  rcases Option.or_eq_some_iff.1 ha with hh | ⟨-, ha⟩
  · obtain ⟨i, b, hb, hc⟩ := firstI_get (selO_some hh)
    obtain ⟨j, x, hx, hc⟩ := firstI_get hc
    rw [Nat.zero_add] at hc
    have hxm := List.mem_of_getElem? hx
    have hy := nrm_lit (h.nrm _ (List.mem_of_getElem? hb)) hxm
    split at hc
    · rename_i hv
      injection hc with hc
      subst hc
      exact ⟨.reduce x i b (clO_of hb) hxm hv, inK_lit hy.2.1 hy.2.2, rfl⟩
    · cases hc
  rcases Option.or_eq_some_iff.1 ha with hh | ⟨-, ha⟩
  · obtain ⟨i, v, hv, hc⟩ := firstI_get (selO_some hh)
    obtain ⟨j, x, hx, hc⟩ := firstI_get hc
    have hvm : v ∈ d.Univ ++ varsD d := (List.mergeSort_perm _ _).mem_iff.1 (List.mem_of_getElem? hv)
    have hvr : 0 < v ∧ v ≤ 65536 := by
      rcases List.mem_append.1 hvm with hm | hm
      · exact rsB_mem h.ru v hm
      · exact rsB_mem h.rv v hm
    have hxv : x = v ∨ x = -v := by
      have := List.mem_of_getElem? hx
      simpa using this
    have hxr : vr x = v := by
      rcases hxv with rfl | rfl
      · rw [vr_in (by omega) (by omega), av_pos hvr.1]
      · rw [vr_in (by omega) (by omega), av_neg, av_pos hvr.1]
    have hw : IntKind.wrap .i64 (0 - x) = -x := by rw [wrap_id (by omega) (by omega)]; omega
    split at hc
    · rename_i hn
      injection hc with hc
      subst hc
      refine ⟨.pure x (by rw [hxr]; exact hvr.1) (by rw [hw]; exact hn) ?_, inK_lit (x := x) (by omega) (by omega), rfl⟩
      rw [hxr]
      rcases List.mem_append.1 hvm with hm | hm
      · exact .inr hm
      · exact .inl hm
    · cases hc
  rcases Option.or_eq_some_iff.1 ha with hh | ⟨-, ha⟩
  · obtain ⟨i, a, hi, hc⟩ := firstI_get (selO_some hh)
    obtain ⟨j, b, hj, hc⟩ := firstI_get hc
    rw [Nat.zero_add, Nat.zero_add] at hc
    split at hc
    · rename_i hv
      injection hc with hc
      subst hc
      exact ⟨.drop i j a b (clO_of hi) (clO_of hj) (by omega) hv.2, inK_lit (x := 0) (by decide) (by decide), rfl⟩
    · cases hc
  · obtain ⟨i, a, hi, hc⟩ := firstI_get (selO_some ha)
    obtain ⟨j, b, hj, hc⟩ := firstI_get hc
    rw [Nat.zero_add, Nat.zero_add] at hc
    split at hc
    · rename_i hv
      injection hc with hc
      subst hc
      have hy := nrm_lit (h.nrm _ (List.mem_of_getElem? hi)) (strike_mem hv)
      exact ⟨.strike _ i j a b hv (clO_of hi) (clO_of hj) rfl, inK_lit hy.2.1 hy.2.2, rfl⟩
    · cases hc
theorem sum_le {l : List S_api_Dep} (h : ∀ e ∈ l, e.On.length ≤ 1024) : (l.map fun e => e.On.length).sum ≤ 1024 * l.length := by
  induction l with
  | nil => simp
  | cons e l ih =>
    have h1 := h e (by simp)
    have h2 := ih (fun x hx => h x (by simp [hx]))
    simp only [List.map_cons, List.sum_cons, List.length_cons]
    omega
theorem sm_may {d : S_api_Dqbf} (h : MayD d = true) : Sm d := by
  obtain ⟨hm, h1, h2⟩ := may_iff.1 h
  have hl := hm.len
  have ho : ∀ e ∈ d.Exist, e.On.length ≤ 1024 := fun e he => by
    have := nodup_len (rsB_nodup (hm.on e he).1) (hm.on e he).2
    omega
  have := sum_le ho
  exact ⟨by omega, by omega, by omega, by omega, by omega⟩
theorem mu_le {d : S_api_Dqbf} (h : MayD d = true) : mu d ≤ 300000 := by
  obtain ⟨hm, h1, h2⟩ := may_iff.1 h
  have hl := hm.len
  unfold mu
  omega
inductive Run (ks : List Int) (d : S_api_Dqbf) : S_api_Dqbf → List S_api_Change → Prop
  | nil : Run ks d d []
  | step {a : S_api_Dqbf} {l : List S_api_Change} {c : S_api_Change} : Run ks d a l → allO a ks = some c → Run ks d (toD (madeV a c)) (l ++ [c])
theorem times_ex {R : Type} {Post : R → Prop} {K : List (Int × Int) → Option R} (w : Option R) {cs : List (List Int)} (hl : tot cs ≤ 4194304) (hK : ∀ m, timesM cs m → K m = w) (hw : Has1 Post w) :
    Has1 Post (rangeF (fun (j146 : Nat) (x147 : (List Int)) (s143 : (List (Int × Int))) k145 => (rangeF (fun (j161 : Nat) (x162 : Int) (s158 : (List (Int × Int))) k160 => (k160 (mset s158 x162 (IntKind.wrap .i64 (((mget s158 x162).getD (0 : Int)) + (1 : Int)))))) 0 x147 s143 (fun (s158 : (List (Int × Int))) => (k145 s158)))) 0 cs ([] : List (Int × Int)) K) := by
  rw [times_out K w cs hl hK]; exact hw
theorem clean_unfold (a0 : S_api_Dqbf) (a1 : List Int) : F_clean_Clean a0 a1 =
  ((F_prefix_MayDqbf a0).bind (fun y101 => (if (!y101) = true then (some ((S_api_Dqbf.mk ([] : List Int) ([] : List S_api_Dep) ([] : List (List Int))), ([] : List S_api_Change), (2 : Int))) else (whileF 1000000000000 (fun k105 (s103 : ((List Int) × (List S_api_Dep) × (List (List Int)) × (List S_api_Change))) => (rangeF (fun (j154458 : Nat) (x154459 : Int) (s154455 : (List (Int × Bool))) k154457 => (k154457 (mset s154455 x154459 true))) 0 s103.1 ([] : List (Int × Bool)) (fun (s154455 : (List (Int × Bool))) => (rangeF (fun (j154463 : Nat) (x154464 : S_api_Dep) (s154460 : (List (Int × (List Int)))) k154462 => (k154462 (mset s154460 x154464.Var x154464.On))) 0 s103.2.1 ([] : List (Int × (List Int))) (fun (s154460 : (List (Int × (List Int)))) => (rangeF (fun (j154468 : Nat) (x154469 : (List Int)) (s154465 : (List (Int × Int))) k154467 => (rangeF (fun (j154483 : Nat) (x154484 : Int) (s154480 : (List (Int × Int))) k154482 => (k154482 (mset s154480 x154484 (IntKind.wrap .i64 (((mget s154480 x154484).getD (0 : Int)) + (1 : Int)))))) 0 x154469 s154465 (fun (s154480 : (List (Int × Int))) => (k154467 s154480)))) 0 s103.2.2.1 ([] : List (Int × Int)) (fun (s154465 : (List (Int × Int))) => (jn (fun (s179405 : (Int × Int × Int × Int × Bool)) => (if (!s179405.2.2.2.2) = true then ((F_clean_own (S_api_Dqbf.mk s103.1 s103.2.1 s103.2.2.1)).bind (fun y179409 => (some (y179409, s103.2.2.2, (0 : Int))))) else (Option.bind (MkM ⟨s103.1, s103.2.1, s103.2.2.1⟩ ⟨s179405.1, s179405.2.1, (0 : Int), s179405.2.2.1, s179405.2.2.2.1⟩ s154455 some) (fun (y180176 : ((List Int) × (List S_api_Dep) × (List (List Int)))) => (capN (s103.2.2.2.length + [(S_api_Change.mk s179405.1 s179405.2.1 (0 : Int) s179405.2.2.1 s179405.2.2.2.1)].length) (k105 (y180176.1, y180176.2.1, y180176.2.2, (s103.2.2.2 ++ [(S_api_Change.mk s179405.1 s179405.2.1 (0 : Int) s179405.2.2.1 s179405.2.2.2.1)])))))))) (fun k179407 => (jn (fun (s181015 : Unit) => (jn (fun (s192154 : Unit) => (jn (fun (s192249 : Unit) => (jn (fun (s192830 : Unit) => (jn (fun (s193411 : Unit) => (k179407 ((0 : Int), (0 : Int), (0 : Int), (0 : Int), false))) (fun k193413 => (St5 ⟨s103.1, s103.2.1, s103.2.2.1⟩ a1 s154455 s154460 s154465 k179407 k193413)))) (fun k192832 => (St4 ⟨s103.1, s103.2.1, s103.2.2.1⟩ a1 s154455 s154460 s154465 k179407 k192832)))) (fun k192251 => (St2 ⟨s103.1, s103.2.1, s103.2.2.1⟩ a1 s154455 s154460 s154465 k179407 k192251)))) (fun k192156 => (St3 ⟨s103.1, s103.2.1, s103.2.2.1⟩ a1 s154455 s154460 s154465 k179407 k192156)))) (fun k181017 => (St1 ⟨s103.1, s103.2.1, s103.2.2.1⟩ a1 s154455 s154460 s154465 k179407 k181017)))))))))))) (a0.Univ, a0.Exist, a0.Clauses, ([] : List S_api_Change)))))) := rfl
theorem clean_ex {d : S_api_Dqbf} (hM : MayD d = true) (ks : List Int) : Has1 (fun r => Run ks d r.1 r.2.1 ∧ r.2.2 = 0 ∧ MayD r.1 = true ∧ allO r.1 ks = none) (F_clean_Clean d ks) := by
  have hs := sm_may hM
  have hmu := mu_le hM
  rw [clean_unfold, mayp_eq hs, Option.bind_some]
  simp only [hM, Bool.not_true, Bool.false_eq_true, if_false]
  refine whileF_ex (fun s => mu ⟨s.1, s.2.1, s.2.2.1⟩) (fun s => Run ks d ⟨s.1, s.2.1, s.2.2.1⟩ s.2.2.2 ∧ MayD ⟨s.1, s.2.1, s.2.2.1⟩ = true ∧ s.2.2.2.length + mu ⟨s.1, s.2.1, s.2.2.1⟩ ≤ mu d) ?_ 1000000000000 (d.Univ, d.Exist, d.Clauses, []) ⟨.nil, hM, by simp⟩ (by show mu d < _; omega)
  intro s k hI hk
  obtain ⟨u, e, c, l⟩ := s
  obtain ⟨D, rfl, rfl, rfl⟩ : ∃ D : S_api_Dqbf, u = D.Univ ∧ e = D.Exist ∧ c = D.Clauses := ⟨⟨u, e, c⟩, rfl, rfl, rfl⟩
  obtain ⟨hr, hm, hl⟩ := hI
  simp only at hr hm hl hk ⊢
  replace hm : MayD D = true := hm
  replace hr : Run ks d D l := hr
  replace hl : l.length + mu D ≤ mu d := hl
  have h := may_of hm
  have hsD := sm_may hm
  have htot := hsD.tot
  rw [rangeF_fold (fun m x => mset m x true), rangeF_fold (fun m (e : S_api_Dep) => mset m e.Var e.On)]
  have h1 : ∀ v, (mget (D.Univ.foldl (fun m x => mset m x true) ([] : List (Int × Bool))) v).getD false = decide (v ∈ D.Univ) := fun v => by
    rw [mget_fold]; by_cases hx : v ∈ D.Univ <;> simp [hx, mget]
  have h2 := fun v => on_map h v
  have h2' : ∀ v, (mget (D.Exist.foldl (fun m e => mset m e.Var e.On) ([] : List (Int × List Int))) v).isSome = decide (v ∈ varsD D) := fun v => by
    rw [mget_foldV]; simp [mget, varsD]
  refine times_ex _ (by omega) (fun m hmm => by
    simp only [jn_eq]
    exact stages h hsD ks _ _ _ _ _ h1 h2 h2' hmm) ?_
  cases ha : allO D ks with
  | none =>
    simp only [orE, Bool.not_false, if_true]
    rw [own_eq hsD.szs]
    exact ⟨_, rfl, hr, rfl, hm, ha⟩
  | some c =>
    obtain ⟨hc, hk1, ht⟩ := all_ch h ha
    have hst := made_step hm hk1 hc
    obtain ⟨ck, cl, ct, ca, cb⟩ := c
    simp only at ht
    subst ht
    simp only [orE, hit, Bool.not_true, Bool.false_eq_true, if_false]
    rw [mkm_eq h hsD hk1 _ _ h1 (ch_iff.2 hc), Option.bind_some, capN_eq (by simp; omega)]
    exact hk _ ⟨.step hr ha, hst.1, by
      have := hst.2
      replace this : mu (toD (madeV D _)) < mu D := this
      show (l ++ [_]).length + mu (toD (madeV D _)) ≤ mu d
      simp only [List.length_append, List.length_singleton]
      omega⟩ hst.2
theorem clean_no {d : S_api_Dqbf} (hs : Sm d) (hM : MayD d = false) (ks : List Int) : F_clean_Clean d ks = some (emD, [], 2) := by
  rw [clean_unfold, mayp_eq hs, Option.bind_some, hM]; rfl
end Go.Sk.X
namespace Go.Sk.X
open Go Go.Sk
theorem large_ok2 {d : S_api_Dqbf} : ∃ b, F_skolemlaw13_large d = some b := by
  unfold F_skolemlaw13_large
  rw [rangeF_fold (fun s (x : List Int) => IntKind.wrap .i64 (s + ((x.length : Nat) : Int))), rangeF_fold (fun s (x : S_api_Dep) => IntKind.wrap .i64 (s + (IntKind.wrap .i64 ((1 : Int) + ((x.On.length : Nat) : Int)))))]
  split
  · exact ⟨_, rfl⟩
  · exact ⟨_, rfl⟩
theorem awake_eq2 : F_skolemlaw13_awake = some true := by decide +kernel
end Go.Sk.X
namespace Go.Sk.X
open Go Go.Sk
theorem next_unfold (a0 : S_api_Dqbf) (a1 : List Int) : F_clean_Next a0 a1 =
  ((F_prefix_MayDqbf a0).bind (fun y101 => (if (!y101) = true then (some ((S_api_Change.mk (0 : Int) (0 : Int) (0 : Int) (0 : Int) (0 : Int)), false)) else (rangeF (fun (j136 : Nat) (x137 : Int) (s133 : (List (Int × Bool))) k135 => (k135 (mset s133 x137 true))) 0 a0.Univ ([] : List (Int × Bool)) (fun (s133 : (List (Int × Bool))) => (rangeF (fun (j141 : Nat) (x142 : S_api_Dep) (s138 : (List (Int × (List Int)))) k140 => (k140 (mset s138 x142.Var x142.On))) 0 a0.Exist ([] : List (Int × (List Int))) (fun (s138 : (List (Int × (List Int)))) => (rangeF (fun (j146 : Nat) (x147 : (List Int)) (s143 : (List (Int × Int))) k145 => (rangeF (fun (j161 : Nat) (x162 : Int) (s158 : (List (Int × Int))) k160 => (k160 (mset s158 x162 (IntKind.wrap .i64 (((mget s158 x162).getD (0 : Int)) + (1 : Int)))))) 0 x147 s143 (fun (s158 : (List (Int × Int))) => (k145 s158)))) 0 a0.Clauses ([] : List (Int × Int)) (fun (s143 : (List (Int × Int))) =>
    (jn (fun (s : (Int × Int × Int × Int × Bool)) => (some ((S_api_Change.mk s.1 s.2.1 (0 : Int) s.2.2.1 s.2.2.2.1), s.2.2.2.2))) (fun ke => St1 a0 a1 s133 s138 s143 ke (fun _ => St3 a0 a1 s133 s138 s143 ke (fun _ => St2 a0 a1 s133 s138 s143 ke (fun _ => St4 a0 a1 s133 s138 s143 ke (fun _ => St5 a0 a1 s133 s138 s143 ke (fun _ => ke ((0 : Int), (0 : Int), (0 : Int), (0 : Int), false))))))))))))))))) := rfl
theorem pnext_eq {d : S_api_Dqbf} (hs : Sm d) (ks : List Int) : F_clean_Next d ks = some (nextV d ks) := by
  rw [next_unfold, mayp_eq hs, Option.bind_some]
  unfold nextV
  by_cases hM : MayD d = true
  case neg => simp [Bool.eq_false_iff.2 hM, noC]
  have h := may_of hM
  have htot := hs.tot
  simp only [hM, Bool.not_true, Bool.false_eq_true, if_false, if_true]
  rw [rangeF_fold (fun m x => mset m x true), rangeF_fold (fun m (e : S_api_Dep) => mset m e.Var e.On)]
  refine times_out _ _ d.Clauses (by omega) (fun m hm => ?_)
  have h1 : ∀ v, (mget (d.Univ.foldl (fun m x => mset m x true) ([] : List (Int × Bool))) v).getD false = decide (v ∈ d.Univ) := fun v => by
    rw [mget_fold]; by_cases hx : v ∈ d.Univ <;> simp [hx, mget]
  have h2 := fun v => on_map h v
  have h2' : ∀ v, (mget (d.Exist.foldl (fun m e => mset m e.Var e.On) ([] : List (Int × List Int))) v).isSome = decide (v ∈ varsD d) := fun v => by
    rw [mget_foldV]; simp [mget, varsD]
  rw [jn_eq]
  refine (stages h hs ks _ _ _ _ _ h1 h2 h2' hm).trans ?_
  cases ha : allO d ks with
  | none => rfl
  | some c =>
    have := toZ_all d ks c ha
    obtain ⟨k, l, t, a, b⟩ := c
    simp only at this
    subst this
    rfl
theorem run_may {ks : List Int} {d a : S_api_Dqbf} {l : List S_api_Change} (h : Run ks d a l) (hM : MayD d = true) : MayD a = true := by
  induction h with
  | nil => exact hM
  | step hr ha ih =>
    obtain ⟨hc, hk, ht⟩ := all_ch (may_of ih) ha
    exact (made_step ih hk hc).1
theorem run_det {ks : List Int} {d a : S_api_Dqbf} {l : List S_api_Change} (h : Run ks d a l) : ∀ {b : S_api_Dqbf}, Run ks d b l → a = b := by
  induction h with
  | nil =>
    intro b hb
    generalize hl : ([] : List S_api_Change) = l2 at hb
    cases hb with
    | nil => rfl
    | step => simp at hl
  | @step a l c hr ha ih =>
    intro b hb
    generalize hl : l ++ [c] = l2 at hb
    cases hb with
    | nil => simp at hl
    | step hr2 ha2 =>
      obtain ⟨rfl, h2⟩ := List.append_inj' hl rfl
      injection h2 with h2
      subst h2
      rw [ih hr2]
theorem run_split {ks : List Int} {d a : S_api_Dqbf} {l : List S_api_Change} (h : Run ks d a l) : ∀ {pre xs : List S_api_Change} {x : S_api_Change}, l = pre ++ x :: xs → ∃ s, Run ks d s pre ∧ allO s ks = some x := by
  induction h with
  | nil => intro pre xs x hl; simp at hl
  | @step a l c hr ha ih =>
    intro pre xs x hl
    rcases List.eq_nil_or_concat xs with rfl | ⟨ys, y, rfl⟩
    · obtain ⟨rfl, h2⟩ := List.append_inj' hl rfl
      injection h2 with h2
      subst h2
      exact ⟨a, hr, ha⟩
    · have : l ++ [c] = (pre ++ x :: ys) ++ [y] := by rw [hl]; simp
      obtain ⟨h1, -⟩ := List.append_inj' this rfl
      exact ih h1
theorem run_none {ks : List Int} {d a : S_api_Dqbf} {l : List S_api_Change} (h : Run ks d a l) (hn : allO d ks = none) : a = d ∧ l = [] := by
  induction h with
  | nil => exact ⟨rfl, rfl⟩
  | step hr ha ih =>
    obtain ⟨rfl, rfl⟩ := ih
    rw [hn] at ha
    cases ha
theorem cleanSteps_eq {d : S_api_Dqbf} (hs : Sm d) (ks : List Int) : F_skolemlaw13_CleanSteps d ks = some true := by
  unfold F_skolemlaw13_CleanSteps
  obtain ⟨b, hb⟩ := large_ok2 (d := d)
  simp only [jn_eq, hb, Option.bind_some]
  have main : ((F_clean_Clean d ks).bind (fun y117 => ((F_skolemref03_MayDqbf d).bind (fun y118 => (if (!y118) = true then (if (y117.2.2 == (2 : Int)) = true then (if (((y117.2.1.length : Nat) : Int) == (0 : Int)) = true then ((F_skolemlaw13_awake).bind (fun y125 => (some y125))) else (some false)) else (some false)) else (rangeF (fun (j129 : Nat) (x130 : S_api_Change) (s126 : ((List Int) × (List S_api_Dep) × (List (List Int)))) k128 => ((F_clean_Next (S_api_Dqbf.mk s126.1 s126.2.1 s126.2.2) ks).bind (fun y206 => (jn (fun (s214 : Bool) => (if s214 = true then (some false) else ((F_clean_Make (S_api_Dqbf.mk s126.1 s126.2.1 s126.2.2) x130).bind (fun y218 => (if (y218.2 != (0 : Int)) = true then (some false) else (k128 (y218.1.Univ, y218.1.Exist, y218.1.Clauses))))))) (fun k216 => (if (!y206.2) = true then (k216 true) else (k216 (!((y206.1.Kind == x130.Kind) && ((y206.1.Lit == x130.Lit) && ((y206.1.To == x130.To) && ((y206.1.At == x130.At) && ((y206.1.By == x130.By) && true))))))))))))) 0 y117.2.1 (d.Univ, d.Exist, d.Clauses) (fun (s126 : ((List Int) × (List S_api_Dep) × (List (List Int)))) => ((F_clean_Next (S_api_Dqbf.mk s126.1 s126.2.1 s126.2.2) ks).bind (fun y221 => ((F_clean_Clean y117.1 ks).bind (fun y222 => (if (y117.2.2 == (0 : Int)) = true then (if (y222.2.2 == (0 : Int)) = true then (if (!y221.2) = true then ((F_skolemref03_SameDqbf y117.1 (S_api_Dqbf.mk s126.1 s126.2.1 s126.2.2)).bind (fun y235 => (if y235 = true then ((F_skolemref03_SameDqbf y117.1 y222.1).bind (fun y237 => (if y237 = true then (if (((y222.2.1.length : Nat) : Int) == (0 : Int)) = true then ((F_skolemlaw13_awake).bind (fun y240 => (some y240))) else (some false)) else (some false)))) else (some false)))) else (some false)) else (some false)) else (some false))))))))))))) = some true := by
    cases hM : MayD d
    case false =>
      rw [clean_no hs hM, may3_eq hs, hM]
      simp only [Option.bind_some, awake_eq2]
      rfl
    obtain ⟨⟨a, l, e⟩, hr, hrun, h0, hm, ha⟩ := clean_ex hM ks
    simp only at hrun h0 hm ha
    subst h0
    rw [hr, Option.bind_some, may3_eq hs, hM, Option.bind_some]
    simp only [Bool.not_true, Bool.false_eq_true, if_false]
    refine rangeF_pre l (fun pre s => Run ks d ⟨s.1, s.2.1, s.2.2⟩ pre) (fun _ _ _ => some true) ?_ ?_ l [] _ rfl .nil
    · rintro ⟨u, ex, cl⟩ hI
      simp only at hI ⊢
      have he := run_det hI hrun
      have hsa := sm_may hm
      obtain ⟨⟨a2, l2, e2⟩, hr2, hrun2, h02, -, -⟩ := clean_ex hm ks
      simp only at hrun2 h02
      subst h02
      obtain ⟨rfl, rfl⟩ := run_none hrun2 ha
      rw [he, pnext_eq hsa, Option.bind_some, hr2, Option.bind_some]
      unfold nextV
      rw [hm, if_pos rfl, ha]
      simp only [noC, same_self, Option.bind_some, awake_eq2]
      rfl
    · rintro pre x xs ⟨u, ex, cl⟩ kk hf hI hk
      simp only at hI ⊢
      obtain ⟨s0, h1, h2⟩ := run_split hrun hf
      have he := run_det hI h1
      have hm0 := run_may h1 hM
      obtain ⟨hc, hk1, ht⟩ := all_ch (may_of hm0) h2
      rw [he, pnext_eq (sm_may hm0), Option.bind_some]
      unfold nextV
      rw [hm0, if_pos rfl, h2]
      have hmk : F_clean_Make s0 x = some (toD (madeV s0 x), 0) := by
        rw [pmake_eq (sm_may hm0) hk1]
        unfold makeV
        rw [if_pos hm0, if_pos (ch_iff.2 hc)]
      have hne : ((0 : Int) != 0) = false := rfl
      simp only [jn_eq, beq_self_eq_true, Bool.and_true, Bool.not_true, Bool.false_eq_true, if_false, hmk, Option.bind_some, hne]
      exact hk _ (.step h1 h2)
  cases b
  case true => simp only [if_true, awake_eq2, Option.bind_some]
  simp only [Bool.false_eq_true, if_false]
  by_cases h20 : ((ks.length : Nat) : Int) > 20
  · simp only [h20, decide_true, if_true, awake_eq2, Option.bind_some]
  · simp only [h20, decide_false, Bool.false_eq_true, if_false]
    exact main
end Go.Sk.X