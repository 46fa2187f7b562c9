/- The plain law of TruthWins: about numbers and lists alone. It has no conditions. -/
import Derived.Test.YtppmnjikhealeaaGreatXTruthWinsF
set_option linter.unusedVariables false
set_option linter.unusedSimpArgs false
namespace Go.Sk
open Go
theorem jn_eq {S R : Type} (f : S → Option R) (g : (S → Option R) → Option R) : jn f g = g f := rfl
theorem rangeF_nil {α S R : Type} (f : Nat → α → S → (S → Option R) → Option R) (i : Nat) (s : S) (k : S → Option R) : rangeF f i [] s k = k s := rfl
theorem rangeF_cons {α S R : Type} (f : Nat → α → S → (S → Option R) → Option R) (i : Nat) (x : α) (xs : List α) (s : S) (k : S → Option R) : rangeF f i (x :: xs) s k = f i x s (fun s' => rangeF f (i + 1) xs s' k) := rfl
theorem upF_zero {S R : Type} (f : Int → S → (S → Option R) → Option R) (i : Int) (s : S) (k : S → Option R) : upF f 0 i s k = k s := rfl
theorem upF_succ {S R : Type} (f : Int → S → (S → Option R) → Option R) (n : Nat) (i : Int) (s : S) (k : S → Option R) : upF f (n + 1) i s k = f i s (fun s' => upF f n (i + 1) s' k) := rfl
theorem whileF_succ {S R : Type} (n : Nat) (b : (S → Option R) → S → Option R) (s : S) : whileF (n + 1) b s = b (whileF n b) s := rfl
theorem whileF_by {S R : Type} {b : (S → Option R) → S → Option R} (μ : S → Nat) (I : S → Prop) (g : S → Option R)
    (step : ∀ s k, I s → (∀ s', I s' → μ s' < μ s → k s' = g s') → b k s = g s) : ∀ n s, I s → μ s < n → whileF n b s = g s
  | 0, s, _, h => absurd h (Nat.not_lt_zero _)
  | n + 1, s, hI, h => by
    rw [whileF_succ]
    exact step s _ hI (fun s' h1 h2 => whileF_by μ I g step n s' h1 (by omega))
theorem rangeF_eq {α S R : Type} {f : Nat → α → S → (S → Option R) → Option R} {k : S → Option R} (g : Nat → List α → S → Option R) (h0 : ∀ j s, g j [] s = k s)
    (h1 : ∀ j x xs s kk, (∀ s', kk s' = g (j + 1) xs s') → f j x s kk = g j (x :: xs) s) : ∀ xs j s, rangeF f j xs s k = g j xs s
  | [], j, s => (h0 j s).symm
  | x :: xs, j, s => h1 j x xs s _ (fun s' => rangeF_eq g h0 h1 xs (j + 1) s')
theorem rangeF_pre {α S R : Type} {f : Nat → α → S → (S → Option R) → Option R} {k : S → Option R} (full : List α) (I : List α → S → Prop) (g : List α → List α → S → Option R) (h0 : ∀ s, I full s → k s = g full [] s)
    (h1 : ∀ pre x xs s kk, full = pre ++ x :: xs → I pre s → (∀ s', I (pre ++ [x]) s' → kk s' = g (pre ++ [x]) xs s') → f pre.length x s kk = g pre (x :: xs) s) : ∀ xs pre s, full = pre ++ xs → I pre s → rangeF f pre.length xs s k = g pre xs s
  | [], pre, s, hf, hI => by
    rw [List.append_nil] at hf; subst hf
    exact h0 s hI
  | x :: xs, pre, s, hf, hI => by
    refine h1 pre x xs s _ hf hI (fun s' hs' => ?_)
    have := rangeF_pre full I g h0 h1 xs (pre ++ [x]) s' (by simp [hf]) hs'
    rw [List.length_append] at this
    exact this
theorem wrap_id {n : Int} (h0 : -9223372036854775808 ≤ n) (h1 : n ≤ 9223372036854775807) : IntKind.wrap .i64 n = n := by
  simp only [IntKind.wrap, IntKind.bits, IntKind.signed]
  simp only [Bool.true_and]
  split <;> rename_i h <;> simp only [ge_iff_le, decide_eq_true_eq] at h <;> omega
def av (x : Int) : Int := if x < 0 then -x else x
def nrmB (last : Int) : List Int → Bool
  | [] => true
  | x :: xs => decide (-65536 ≤ x) && decide (x ≤ 65536) && decide (last < av x) && nrmB (av x) xs
theorem av_nonneg (x : Int) : 0 ≤ av x := by unfold av; split <;> omega
theorem av_neg (x : Int) : av (-x) = av x := by unfold av; split <;> split <;> omega
theorem nrm_cons {c x : Int} {xs : List Int} : nrmB c (x :: xs) = true ↔ -65536 ≤ x ∧ x ≤ 65536 ∧ c < av x ∧ nrmB (av x) xs = true := by
  simp [nrmB, and_assoc]
theorem nrm_mem : ∀ {c : Int} {l : List Int}, nrmB c l = true → ∀ x ∈ l, c < av x ∧ -65536 ≤ x ∧ x ≤ 65536
  | c, [], _, x, h => by simp at h
  | c, y :: ys, h, x, hx => by
    rw [nrm_cons] at h
    rcases List.mem_cons.1 hx with rfl | hx
    · exact ⟨h.2.2.1, h.1, h.2.1⟩
    · have := nrm_mem h.2.2.2 x hx
      exact ⟨by omega, this.2⟩
end Go.Sk
namespace Go.Sk
open Go
def Has1 {R : Type} (Post : R → Prop) (x : Option R) : Prop := ∃ r, x = some r ∧ Post r
theorem rangeF_ex {α S R : Type} {Post : R → Prop} {f : Nat → α → S → (S → Option R) → Option R} {k : S → Option R} (full : List α) (I : List α → S → Prop) (h0 : ∀ s, I full s → Has1 Post (k s))
    (h1 : ∀ pre x xs s kk, full = pre ++ x :: xs → I pre s → (∀ s', I (pre ++ [x]) s' → Has1 Post (kk s')) → Has1 Post (f pre.length x s kk)) : ∀ xs pre s, full = pre ++ xs → I pre s → Has1 Post (rangeF f pre.length xs s k)
  | [], pre, s, hf, hI => by
    rw [List.append_nil] at hf; subst hf
    exact h0 s hI
  | x :: xs, pre, s, hf, hI => by
    refine h1 pre x xs s _ hf hI (fun s' hs' => ?_)
    have := rangeF_ex full I h0 h1 xs (pre ++ [x]) s' (by simp [hf]) hs'
    rw [List.length_append] at this
    exact this
theorem whileF_ex {S R : Type} {Post : R → Prop} {b : (S → Option R) → S → Option R} (μ : S → Nat) (I : S → Prop)
    (step : ∀ s k, I s → (∀ s', I s' → μ s' < μ s → Has1 Post (k s')) → Has1 Post (b k s)) : ∀ n s, I s → μ s < n → Has1 Post (whileF n b s)
  | 0, s, _, h => absurd h (Nat.not_lt_zero _)
  | n + 1, s, hI, h => by
    rw [whileF_succ]
    exact step s _ hI (fun s' h1 h2 => whileF_ex μ I step n s' h1 (by omega))
theorem rangeF_fold {α S R : Type} (g : S → α → S) (k : S → Option R) : ∀ (xs : List α) (j : Nat) (s : S), rangeF (fun _ x s k => k (g s x)) j xs s k = k (xs.foldl g s)
  | [], _, _ => rfl
  | x :: xs, j, s => by rw [rangeF_cons]; exact rangeF_fold g k xs (j + 1) (g s x)
def rsB (c : Int) : List Int → Bool
  | [] => true
  | x :: xs => decide (c < x) && (decide (x ≤ 65536) && rsB x xs)
theorem rsB_cons {c x : Int} {xs : List Int} : rsB c (x :: xs) = true ↔ c < x ∧ x ≤ 65536 ∧ rsB x xs = true := by simp [rsB]
theorem rsB_mem : ∀ {l : List Int} {c : Int}, rsB c l = true → ∀ x ∈ l, c < x ∧ x ≤ 65536
  | [], _, _, x, hx => by simp at hx
  | y :: l, c, h, x, hx => by
    obtain ⟨h1, h2, h3⟩ := rsB_cons.1 h
    rcases List.mem_cons.1 hx with rfl | hx
    · exact ⟨h1, h2⟩
    · have := rsB_mem h3 x hx
      exact ⟨by omega, this.2⟩
theorem rsB_nodup : ∀ {l : List Int} {c : Int}, rsB c l = true → l.Nodup
  | [], _, _ => List.nodup_nil
  | y :: l, c, h => by
    obtain ⟨h1, h2, h3⟩ := rsB_cons.1 h
    exact List.nodup_cons.2 ⟨fun hm => by have := (rsB_mem h3 y hm).1; omega, rsB_nodup h3⟩
def lastD (l : List Int) : Int := (l.getLast?).getD 0
theorem lastD_app (l : List Int) (x : Int) : lastD (l ++ [x]) = x := by simp [lastD]
theorem lastD_get {l : List Int} (h : 0 < l.length) : l[l.length - 1]? = some (lastD l) := by
  unfold lastD
  rw [List.getLast?_eq_getElem?]
  have : l.length - 1 < l.length := by omega
  rw [List.getElem?_eq_getElem this]; rfl
theorem mget_fold {β : Type} (v : β) : ∀ (xs : List Int) (m : List (Int × β)) (k : Int), mget (xs.foldl (fun m x => mset m x v) m) k = if k ∈ xs then some v else mget m k
  | [], m, k => by simp
  | x :: xs, m, k => by
    rw [List.foldl_cons, mget_fold v xs, mget_mset]
    by_cases h1 : k ∈ xs
    · simp [h1]
    · by_cases h2 : k = x <;> simp [h1, h2]
end Go.Sk
namespace Go.Sk.X
open Go Go.Sk
theorem rises_eq (a : List Int) (hl : a.length ≤ 4194304) : F_prefix_rises a = some (rsB 0 a) := by
  refine rangeF_pre a (fun pre _ => 0 ≤ lastD pre) (fun pre xs _ => some (rsB (lastD pre) xs)) (fun _ _ => rfl) ?_ a [] () rfl (by decide)
  intro pre x xs s kk hf hI hk
  have hlen : pre.length < a.length := by rw [hf]; simp
  simp only [jn_eq, rsB]
  by_cases h1 : x < 1
  · have : ¬ lastD pre < x := by omega
    simp [h1, this]
  by_cases h2 : x > 65536
  · have : ¬ x ≤ 65536 := by omega
    simp [h1, h2, this]
  have hk' := hk () (by rw [lastD_app]; omega)
  rw [lastD_app] at hk'
  have h3 : x ≤ 65536 := by omega
  by_cases hp : 0 < pre.length
  · have e : IntKind.wrap .i64 (((pre.length : Nat) : Int) - 1) = ((pre.length - 1 : Nat) : Int) := by rw [wrap_id (by omega) (by omega)]; omega
    have hg : a[pre.length - 1]? = some (lastD pre) := by
      rw [hf, List.getElem?_append_left (by omega)]
      exact lastD_get hp
    have hp' : ((pre.length : Nat) : Int) > 0 := by omega
    simp only [h1, h2, hp', e, getI_nat, hg, decide_false, decide_true, if_true, if_false, Bool.false_eq_true]
    by_cases h4 : lastD pre ≥ x
    · have : ¬ lastD pre < x := by omega
      simp [h4, this]
    · have : lastD pre < x := by omega
      simp [h4, this, h3, hk']
  · have : pre = [] := List.eq_nil_of_length_eq_zero (by omega)
    subst this
    have h4 : lastD ([] : List Int) < x := by show (0 : Int) < x; omega
    simp [h1, h2, h3, h4, hk']
theorem rises3_eq (a : List Int) (hl : a.length ≤ 4194304) : F_skolemref03_Rises a = some (rsB 0 a) := rises_eq a hl
theorem abs3_eq {x : Int} (h0 : -9223372036854775807 ≤ x) (h1 : x ≤ 9223372036854775807) : F_skolemref03_Abs x = some (av x) := by
  unfold F_skolemref03_Abs av
  by_cases h : x < 0
  · have e : IntKind.wrap .i64 (0 - x) = -x := by rw [wrap_id (by omega) (by omega)]; omega
    simp only [h, decide_true, if_true, e]
  · simp [h]
theorem absp_eq {x : Int} (h0 : -9223372036854775807 ≤ x) (h1 : x ≤ 9223372036854775807) : F_prefix_abs x = some (av x) := by
  unfold F_prefix_abs av imx
  have e : IntKind.wrap .i64 (0 - x) = -x := by rw [wrap_id (by omega) (by omega)]; omega
  rw [e]
  by_cases h : x < 0
  · rw [if_pos (by omega), if_pos h]
  · rw [if_neg (by omega), if_neg h]
theorem normal_eq (a : List Int) (hl : a.length ≤ 4194304) : F_skolemref03_Normal a = some (nrmB 0 a) := by
  refine rangeF_pre a (fun pre _ => pre = [] ∨ (-65536 ≤ lastD pre ∧ lastD pre ≤ 65536)) (fun pre xs _ => some (nrmB (if pre = [] then 0 else av (lastD pre)) xs)) (fun _ _ => rfl) ?_ a [] () rfl (.inl rfl)
  intro pre x xs s kk hf hI hk
  have hlen : pre.length < a.length := by rw [hf]; simp
  simp only [jn_eq, nrmB]
  have av0 := av_nonneg (lastD pre)
  by_cases h0 : x = 0
  · subst h0
    have : av 0 = 0 := rfl
    have h5 : ¬ (if pre = [] then 0 else av (lastD pre)) < av 0 := by rw [this]; split <;> omega
    simp [h5]
  have h0' : (x == 0) = false := by simp [h0]
  by_cases h1 : x < -65536
  · have : ¬ -65536 ≤ x := by omega
    simp [h0', h1, this]
  by_cases h2 : x > 65536
  · have : ¬ x ≤ 65536 := by omega
    simp [h0', h1, h2, this]
  have hk' := hk () (.inr (by rw [lastD_app]; omega))
  rw [lastD_app] at hk'
  simp only [List.append_eq_nil_iff, List.cons_ne_self, and_false, if_false, reduceCtorEq] at hk'
  have h3 : x ≤ 65536 := by omega
  have h3' : -65536 ≤ x := by omega
  by_cases hp : 0 < pre.length
  · have e : IntKind.wrap .i64 (((pre.length : Nat) : Int) - 1) = ((pre.length - 1 : Nat) : Int) := by rw [wrap_id (by omega) (by omega)]; omega
    have hg : a[pre.length - 1]? = some (lastD pre) := by
      rw [hf, List.getElem?_append_left (by omega)]
      exact lastD_get hp
    have hp' : ((pre.length : Nat) : Int) > 0 := by omega
    have hne : pre ≠ [] := by intro e; subst e; simp at hp
    rcases hI with rfl | ⟨i1, i2⟩
    · exact absurd rfl hne
    simp only [h0', h1, h2, hp', e, getI_nat, hg, abs3_eq (x := x) (by omega) (by omega), abs3_eq (x := lastD pre) (by omega) (by omega), Option.bind_some, decide_false, decide_true, if_true, if_false, Bool.false_eq_true, hne]
    by_cases h4 : av (lastD pre) ≥ av x
    · have : ¬ av (lastD pre) < av x := by omega
      simp [h4, this]
    · have : av (lastD pre) < av x := by omega
      simp [h4, this, h3, h3', hk']
  · have : pre = [] := List.eq_nil_of_length_eq_zero (by omega)
    subst this
    have h4 : 0 < av x := by unfold av; split <;> omega
    simp [h0', h1, h2, h3, h3', h4, hk']
theorem has_eq (l : List Int) (v : Int) : F_skolemref03_Has l v = some (decide (v ∈ l)) := by
  refine rangeF_eq (fun _ xs _ => some (decide (v ∈ xs))) (fun _ _ => by simp) ?_ l 0 ()
  intro j x xs s kk hk
  by_cases h : x = v
  · subst h; simp
  · have : ¬ v = x := fun e => h e.symm
    simp [h, hk, this]
theorem part_eq (l u : List Int) : F_skolemref03_Part l u = some (l.all fun x => decide (x ∈ u)) := by
  refine rangeF_eq (fun _ xs _ => some (xs.all fun x => decide (x ∈ u))) (fun _ _ => rfl) ?_ l 0 ()
  intro j x xs s kk hk
  simp only [has_eq, Option.bind_some]
  by_cases h : x ∈ u <;> simp [h, hk]
def singB (pre : List Int) : List Int → Bool
  | [] => true
  | x :: xs => decide (1 ≤ x) && (decide (x ≤ 65536) && (!decide (x ∈ pre) && singB (pre ++ [x]) xs))
theorem single_eq (a : List Int) : F_skolemref03_single a = some (singB [] a) := by
  refine rangeF_pre a (fun pre _ => True) (fun pre xs _ => some (singB pre xs)) (fun _ _ => rfl) ?_ a [] () rfl trivial
  intro pre x xs s kk hf hI hk
  have hlen : pre.length < a.length := by rw [hf]; simp
  have hk' := hk () trivial
  simp only [jn_eq, singB]
  by_cases h1 : x < 1
  · have : ¬ 1 ≤ x := by omega
    simp [h1, this]
  by_cases h2 : x > 65536
  · have : ¬ x ≤ 65536 := by omega
    simp [h1, h2, this]
  have h3 : x ≤ 65536 := by omega
  have h4 : 1 ≤ x := by omega
  have ht : a.take (((pre.length : Nat) : Int)).toNat = pre := by rw [hf]; simp
  have ho : 0 ≤ ((pre.length : Nat) : Int) ∧ ((pre.length : Nat) : Int).toNat ≤ a.length := ⟨by omega, by omega⟩
  rw [okI_eq ho, ht, has_eq]
  by_cases h5 : x ∈ pre <;> simp [h1, h2, h3, h4, h5, hk']
theorem sing_iff : ∀ (l pre : List Int), singB pre l = true ↔ (∀ x ∈ l, 1 ≤ x ∧ x ≤ 65536) ∧ l.Nodup ∧ ∀ x ∈ l, x ∉ pre
  | [], pre => by simp [singB]
  | y :: l, pre => by
    simp only [singB, Bool.and_eq_true, decide_eq_true_eq, Bool.not_eq_true', decide_eq_false_iff_not, sing_iff l (pre ++ [y]), List.mem_append, List.mem_singleton, not_or, List.mem_cons, List.not_mem_nil, or_false, forall_eq_or_imp, List.nodup_cons]
    constructor
    · rintro ⟨a, b, c, d, e, f⟩
      exact ⟨⟨⟨a, b⟩, d⟩, ⟨fun hm => (f y hm).2 rfl, e⟩, c, fun x hx => (f x hx).1⟩
    · rintro ⟨⟨⟨a, b⟩, d⟩, ⟨f, e⟩, c, g⟩
      exact ⟨a, b, c, d, e, fun x hx => ⟨g x hx, fun e => f (e ▸ hx)⟩⟩
def varsD (d : S_api_Dqbf) : List Int := d.Exist.map (·.Var)
theorem all_eq (d : S_api_Dqbf) (h : d.Univ.length + d.Exist.length ≤ 8388608) : F_skolemref03_All d = some (d.Univ ++ varsD d) := by
  unfold F_skolemref03_All
  rw [capN_eq (by simp; omega)]
  refine rangeF_pre d.Exist (fun pre s => s.length = d.Univ.length + pre.length) (fun _ xs s => some (s ++ xs.map (·.Var))) (fun s _ => by simp) ?_ d.Exist [] ([] ++ d.Univ) rfl (by simp)
  intro pre x xs s kk hf hI hk
  have hlen : pre.length < d.Exist.length := by rw [hf]; simp
  rw [capN_eq (by simp; omega), hk _ (by simp [hI]; omega)]
  simp
def tot (cs : List (List Int)) : Nat := (cs.map List.length).sum
theorem tot_app (a b : List (List Int)) : tot (a ++ b) = tot a + tot b := by simp [tot]
theorem tot_cons (a : List Int) (b : List (List Int)) : tot (a :: b) = a.length + tot b := by simp [tot]
theorem tot_mem {cs : List (List Int)} {c : List Int} (h : c ∈ cs) : c.length ≤ tot cs := by
  obtain ⟨a, b, rfl⟩ := List.append_of_mem h
  rw [tot_app, tot_cons]; omega
theorem cnf_eq (cs : List (List Int)) (h : tot cs ≤ 4194304) : F_skolemref03_Cnf cs = some (cs.all (nrmB 0) && (decide (cs.length ≤ 20000) && decide (tot cs ≤ 200000))) := by
  refine rangeF_pre cs (fun pre s => s = (tot pre : Int)) (fun pre xs s => some (xs.all (nrmB 0) && (decide (cs.length ≤ 20000) && decide (tot cs ≤ 200000)))) ?_ ?_ cs [] 0 rfl rfl
  · rintro s rfl
    by_cases h1 : cs.length ≤ 20000
    · have : ((cs.length : Nat) : Int) ≤ 20000 := by omega
      by_cases h2 : tot cs ≤ 200000
      · have h3 : (tot cs : Int) ≤ 200000 := by omega
        simp [this, h1, h2, h3]
      · have h3 : ¬ (tot cs : Int) ≤ 200000 := by omega
        simp [this, h1, h2, h3]
    · have : ¬ ((cs.length : Nat) : Int) ≤ 20000 := by omega
      simp [this, h1]
  · intro pre x xs s kk hf hI hk
    have ht : tot pre + x.length ≤ tot cs := by rw [hf, tot_app, tot_cons]; omega
    rw [normal_eq x (by omega), Option.bind_some]
    have hk' := hk (IntKind.wrap .i64 (s + ((x.length : Nat) : Int))) (by rw [hI, wrap_id (by omega) (by omega), tot_app]; simp [tot])
    by_cases hx : nrmB 0 x = true
    · simp [hx, hk']
    · simp [hx]
theorem within_in (u : List Int) (kk : Unit → Option Bool) (c : List Int) (hr : ∀ x ∈ c, -65536 ≤ x ∧ x ≤ 65536) (hl : c.length ≤ 4194304) (R : Option Bool) (hk : kk () = R) :
    whileF 1000000000000 (fun k130 (s128 : Int) => (if (decide (s128 < ((c.length : Nat) : Int))) = true then (getI c s128 (fun x146 => ((F_skolemref03_Abs x146).bind (fun y147 => ((F_skolemref03_Has u y147).bind (fun y148 => (if (!y148) = true then (some false) else (k130 (IntKind.wrap .i64 (s128 + (1 : Int))))))))))) else (kk ()))) (0 : Int)
      = if (c.all fun x => decide (av x ∈ u)) = true then R else some false := by
  have := whileF_by (b := (fun k130 (s128 : Int) => (if (decide (s128 < ((c.length : Nat) : Int))) = true then (getI c s128 (fun x146 => ((F_skolemref03_Abs x146).bind (fun y147 => ((F_skolemref03_Has u y147).bind (fun y148 => (if (!y148) = true then (some false) else (k130 (IntKind.wrap .i64 (s128 + (1 : Int))))))))))) else (kk ())))) (fun s : Int => c.length - s.toNat) (fun s => 0 ≤ s ∧ s ≤ c.length) (fun s => if ((c.drop s.toNat).all fun x => decide (av x ∈ u)) = true then R else some false) ?_ 1000000000000 0 (by simp) (by simp; omega)
  · simpa using this
  · intro s k ⟨h0, h1⟩ hs
    by_cases h2 : s < ((c.length : Nat) : Int)
    · obtain ⟨n, rfl⟩ : ∃ n : Nat, s = n := ⟨s.toNat, by omega⟩
      have hn : n < c.length := by omega
      have hd : c.drop n = c[n] :: c.drop (n + 1) := by rw [List.drop_eq_getElem_cons hn]
      have hm := hr c[n] (List.getElem_mem hn)
      have hw : IntKind.wrap .i64 (((n : Nat) : Int) + 1) = ((n + 1 : Nat) : Int) := by rw [wrap_id (by omega) (by omega)]; omega
      have hs' := hs ((n + 1 : Nat) : Int) ⟨by omega, by omega⟩ (by simp; omega)
      simp only [h2, decide_true, if_true, getI_nat, List.getElem?_eq_getElem hn, abs3_eq (x := c[n]) (by omega) (by omega), has_eq, Option.bind_some, hw, hs', Int.toNat_natCast, hd, List.all_cons]
      by_cases h3 : av c[n] ∈ u <;> simp [h3]
    · have : s.toNat = c.length := by omega
      simp [h2, this, hk]
theorem within_eq (cs : List (List Int)) (u : List Int) (hr : ∀ c ∈ cs, nrmB 0 c = true) (hl : tot cs ≤ 4194304) : F_skolemref03_within cs u = some (cs.all fun c => c.all fun x => decide (av x ∈ u)) := by
  refine rangeF_pre cs (fun pre _ => True) (fun _ xs _ => some (xs.all fun c => c.all fun x => decide (av x ∈ u))) (fun _ _ => rfl) ?_ cs [] () rfl trivial
  intro pre x xs s kk hf hI hk
  have hx : x ∈ cs := by rw [hf]; simp
  rw [within_in u kk x (fun y hy => (nrm_mem (hr x hx) y hy).2) (Nat.le_trans (tot_mem hx) hl) _ (hk () trivial)]
  by_cases h : (x.all fun x => decide (av x ∈ u)) = true
  · rw [if_pos h]; simp only [List.all_cons, h, Bool.true_and]
  · rw [if_neg h]; simp only [List.all_cons, Bool.eq_false_iff.2 h, Bool.false_and]
end Go.Sk.X
namespace Go.Sk.X
open Go Go.Sk
structure Sm (d : S_api_Dqbf) : Prop where
  univ : d.Univ.length ≤ 2097152
  exist : d.Exist.length ≤ 2097152
  cls : d.Clauses.length ≤ 2097152
  tot : tot d.Clauses ≤ 2097152
  on : (d.Exist.map fun e => e.On.length).sum ≤ 2097152
theorem Sm.onE {d : S_api_Dqbf} (h : Sm d) {e : S_api_Dep} (he : e ∈ d.Exist) : e.On.length ≤ 2097152 := by
  have := h.on
  obtain ⟨a, b, hh⟩ := List.append_of_mem he
  rw [hh] at this
  simp at this
  omega
def depB (u : List Int) (e : S_api_Dep) : Bool := rsB 0 e.On && e.On.all fun x => decide (x ∈ u)
def MayD (d : S_api_Dqbf) : Bool :=
  (d.Exist.all fun e => !decide (e.Var ∈ d.Univ) && depB d.Univ e) && (rsB 0 d.Univ && (rsB 0 (varsD d) && (decide (d.Univ.length + d.Exist.length ≤ 1024) &&
    (decide (d.Clauses.length ≤ 20000) && ((d.Clauses.all fun c => nrmB 0 c && c.all fun x => decide (av x ∈ d.Univ ++ varsD d)) && decide (tot d.Clauses ≤ 200000))))))
theorem may3_eq {d : S_api_Dqbf} (h : Sm d) : F_skolemref03_MayDqbf d = some (MayD d) := by
  unfold F_skolemref03_MayDqbf
  have hv : (varsD d).length = d.Exist.length := by simp [varsD]
  have hA : (d.Univ ++ varsD d).length = d.Univ.length + d.Exist.length := by simp [hv]
  have h1 := h.univ
  have h2 := h.exist
  rw [all_eq d (by omega), Option.bind_some]
  simp only [jn_eq]
  by_cases hlen : d.Univ.length + d.Exist.length ≤ 1024
  case neg =>
    have : (((d.Univ ++ varsD d).length : Nat) : Int) > 1024 := by omega
    simp only [this, decide_true, if_true, MayD, hlen, decide_false, Bool.false_and, Bool.and_false]
  have hlen' : ¬ (((d.Univ ++ varsD d).length : Nat) : Int) > 1024 := by omega
  simp only [hlen', decide_false, Bool.false_eq_true, if_false, single_eq, Option.bind_some, rises3_eq d.Univ (by omega)]
  by_cases hU : rsB 0 d.Univ = true
  case neg =>
    have hU' := Bool.eq_false_iff.2 hU
    by_cases hs : singB [] (d.Univ ++ varsD d) = true <;> simp [hs, hU', MayD]
  have ho : 0 ≤ ((d.Univ.length : Nat) : Int) ∧ (((d.Univ.length : Nat) : Int)).toNat ≤ (d.Univ ++ varsD d).length := ⟨by omega, by omega⟩
  have hd : (d.Univ ++ varsD d).drop (((d.Univ.length : Nat) : Int)).toNat = varsD d := by simp
  rw [okI_eq ho, hd, rises3_eq (varsD d) (by omega)]
  simp only [Option.bind_some]
  by_cases hV : rsB 0 (varsD d) = true
  case neg =>
    have hV' := Bool.eq_false_iff.2 hV
    by_cases hs : singB [] (d.Univ ++ varsD d) = true <;> simp [hs, hU, hV', MayD]
  -- one of each, since both rise
  have hs : singB [] (d.Univ ++ varsD d) = true ↔ ∀ e ∈ d.Exist, e.Var ∉ d.Univ := by
    rw [sing_iff]
    constructor
    · rintro ⟨_, a, _⟩ e he hm
      exact (List.nodup_append.1 a).2.2 _ hm _ (List.mem_map.2 ⟨e, he, rfl⟩) rfl
    · intro hx
      refine ⟨fun x hm => ?_, List.nodup_append.2 ⟨rsB_nodup hU, rsB_nodup hV, ?_⟩, by simp⟩
      · rcases List.mem_append.1 hm with hm | hm
        · have := rsB_mem hU x hm; omega
        · have := rsB_mem hV x hm; omega
      · rintro x hm y hy rfl
        obtain ⟨e, he, rfl⟩ := List.mem_map.1 hy
        exact hx e he hm
  by_cases hS : singB [] (d.Univ ++ varsD d) = true
  case neg =>
    have hS' := Bool.eq_false_iff.2 hS
    have : ∃ e ∈ d.Exist, e.Var ∈ d.Univ := by
      refine Classical.byContradiction fun hc => hS (hs.2 fun e he hm => hc ⟨e, he, hm⟩)
    obtain ⟨e, he, hm⟩ := this
    have hall : (d.Exist.all fun e => !decide (e.Var ∈ d.Univ) && depB d.Univ e) = false := by
      rw [List.all_eq_false]
      exact ⟨e, he, by simp [hm]⟩
    simp [hS', MayD, hall]
  have hS2 := hs.1 hS
  have hall : (d.Exist.all fun e => !decide (e.Var ∈ d.Univ) && depB d.Univ e) = d.Exist.all (depB d.Univ) := by
    rw [Bool.eq_iff_iff]
    simp only [List.all_eq_true, Bool.and_eq_true, Bool.not_eq_true', decide_eq_false_iff_not]
    exact ⟨fun q e he => (q e he).2, fun q e he => ⟨hS2 e he, q e he⟩⟩
  rw [cnf_eq d.Clauses (Nat.le_trans h.tot (by decide))]
  simp only [hS, hU, hV, Bool.not_true, Bool.false_eq_true, if_false, Option.bind_some]
  -- the deps
  have hdeps : (rangeF (fun (j146 : Nat) (x147 : S_api_Dep) (s143 : Unit) k145 => (((F_skolemref03_Rises x147.On).bind (fun y185 => (if (!y185) = true then (if True then (some false) else (k145 ())) else ((F_skolemref03_Part x147.On d.Univ).bind (fun y187 => (if (!y187) = true then (some false) else (k145 ()))))))))) 0 d.Exist () (fun (s143 : Unit) => (some true))) = some (d.Exist.all (depB d.Univ)) := by
    refine rangeF_pre d.Exist (fun pre _ => True) (fun _ xs _ => some (xs.all (depB d.Univ))) (fun _ _ => rfl) ?_ d.Exist [] () rfl trivial
    intro pre x xs s kk hf hI hk
    have hx : x ∈ d.Exist := by rw [hf]; simp
    rw [rises3_eq x.On (Nat.le_trans (h.onE hx) (by decide)), Option.bind_some, part_eq, Option.bind_some, hk () trivial, List.all_cons, depB]
    by_cases a : rsB 0 x.On = true
    · by_cases b : (x.On.all fun x => decide (x ∈ d.Univ)) = true
      · rw [a, b]; simp
      · rw [a, Bool.eq_false_iff.2 b]; simp
    · rw [Bool.eq_false_iff.2 a]; simp
  rw [hdeps]
  unfold MayD
  rw [hall, hU, hV]
  by_cases hN : d.Clauses.all (nrmB 0) = true
  case neg =>
    have hN' := Bool.eq_false_iff.2 hN
    have : (d.Clauses.all fun c => nrmB 0 c && c.all fun x => decide (av x ∈ d.Univ ++ varsD d)) = false := by
      rw [List.all_eq_false] at hN' ⊢
      obtain ⟨c, hc, hn⟩ := hN'
      exact ⟨c, hc, by simp [Bool.eq_false_iff.2 hn]⟩
    simp only [hN', this, Bool.false_and, Bool.and_false, Bool.not_false, if_true]
  have hN2 := List.all_eq_true.1 hN
  rw [within_eq d.Clauses _ hN2 (Nat.le_trans h.tot (by decide)), Option.bind_some]
  have hW : (d.Clauses.all fun c => nrmB 0 c && c.all fun x => decide (av x ∈ d.Univ ++ varsD d)) = d.Clauses.all fun c => c.all fun x => decide (av x ∈ d.Univ ++ varsD d) := by
    rw [Bool.eq_iff_iff]
    simp only [List.all_eq_true, Bool.and_eq_true]
    exact ⟨fun q e he => (q e he).2, fun q e he => ⟨hN2 e he, q e he⟩⟩
  rw [hW, hN]
  generalize (d.Clauses.all fun c => c.all fun x => decide (av x ∈ d.Univ ++ varsD d)) = w
  generalize d.Exist.all (depB d.Univ) = e
  by_cases a : d.Clauses.length ≤ 20000 <;> by_cases b : tot d.Clauses ≤ 200000 <;> cases w <;> cases e <;> simp [a, b, hlen]
theorem fold2 (xs : List Int) : ∀ (m m' : List (Int × Bool)), xs.foldl (fun (s : List (Int × Bool) × List (Int × Bool)) x => (mset s.1 x true, mset s.2 x true)) (m, m') = (xs.foldl (fun m x => mset m x true) m, xs.foldl (fun m x => mset m x true) m') := by
  induction xs with
  | nil => intro m m'; rfl
  | cons x xs ih => intro m m'; rw [List.foldl_cons, List.foldl_cons, List.foldl_cons, ih]
theorem findF_eq (m : Int → Bool) (kk : Int → Option Bool) (l : List Int) (R : Option Bool) (hb : ∀ j : Nat, kk (j : Int) = some false) (hk : kk (-1) = R) :
    rangeF (fun (j1617 : Nat) (x1618 : Int) (s1614 : Unit) k1616 => (if (!(m x1618)) = true then (kk ((j1617 : Nat) : Int)) else (k1616 ()))) 0 l () (fun (s1614 : Unit) => kk (-1 : Int)) = if (l.all m) = true then R else some false := by
  refine rangeF_eq (fun _ xs _ => if (xs.all m) = true then R else some false) (fun _ _ => hk.symm) ?_ l 0 ()
  intro j x xs s k2 h2
  by_cases h : m x = true
  · simp [h, h2]
  · simp [Bool.eq_false_iff.2 h, hb]
theorem lits_in (m : Int → Bool) (kk : Int → Option Bool) (l : List Int) (R : Option Bool) (hk : ∀ s, kk s = R) :
    rangeF (fun (j3902 : Nat) (x3903 : Int) (s3899 : Int) k3901 => (jn (fun (s4091 : Bool) => (if s4091 = true then (some false) else ((F_prefix_abs x3903).bind (fun y4095 => (k3901 y4095))))) (fun k4093 => (if (x3903 == (0 : Int)) = true then (k4093 true) else (if (decide (x3903 < (-65536 : Int))) = true then (k4093 true) else (if (decide (x3903 > (65536 : Int))) = true then (k4093 true) else ((F_prefix_abs x3903).bind (fun y4099 => (if (decide (y4099 ≤ s3899)) = true then (k4093 true) else ((F_prefix_abs x3903).bind (fun y4101 => (k4093 (!(m y4101)))))))))))))) 0 l (0 : Int) kk
      = if (nrmB 0 l && l.all fun x => m (av x)) = true then R else some false := by
  refine rangeF_pre l (fun _ s => 0 ≤ s) (fun _ xs s => if (nrmB s xs && xs.all fun x => m (av x)) = true then R else some false) (fun s _ => by simp [nrmB, hk]) ?_ l [] 0 rfl (by decide)
  intro pre x xs s k2 hf hI h2
  simp only [jn_eq]
  by_cases h0 : x = 0
  · subst h0
    have h5 : ¬ s < av 0 := by show ¬ s < 0; omega
    simp [h5, nrmB]
  have h0' : (x == 0) = false := by simp [h0]
  by_cases h1 : x < -65536
  · have : ¬ -65536 ≤ x := by omega
    simp [h0', h1, this, nrmB]
  by_cases h3 : x > 65536
  · have : ¬ x ≤ 65536 := by omega
    simp [h0', h1, h3, this, nrmB]
  have e1 : -65536 ≤ x := by omega
  have e2 : x ≤ 65536 := by omega
  rw [absp_eq (x := x) (by omega) (by omega)]
  simp only [h0', h1, h3, decide_false, Bool.false_eq_true, if_false, Option.bind_some, nrmB, e1, e2, decide_true, Bool.true_and, List.all_cons]
  by_cases h4 : av x ≤ s
  · have : ¬ s < av x := by omega
    simp [h4, this]
  · have h5 : s < av x := by omega
    rw [h2 (av x) (av_nonneg x)]
    cases h6 : m (av x) <;> simp [h4, h5, h6]
theorem mayp_eq {d : S_api_Dqbf} (h : Sm d) : F_prefix_MayDqbf d = some (MayD d) := by
  unfold F_prefix_MayDqbf
  rw [rangeF_fold (fun (s : List (Int × Bool) × List (Int × Bool)) x => (mset s.1 x true, mset s.2 x true)), fold2]
  have h1 := h.univ
  have h2 := h.exist
  have h3 := h.tot
  have hmu : ∀ x, ((mget (d.Univ.foldl (fun m x => mset m x true) []) x).getD false) = decide (x ∈ d.Univ) := by
    intro x; rw [mget_fold]; by_cases hx : x ∈ d.Univ <;> simp [hx, mget]
  generalize hM : d.Univ.foldl (fun m x => mset m x true) ([] : List (Int × Bool)) = M at hmu ⊢
  simp only [hmu, jn_eq]
  refine (rangeF_pre d.Exist (fun pre s => s = pre.map (·.Var)) (fun _ xs _ => some ((xs.all fun e => !decide (e.Var ∈ d.Univ) && depB d.Univ e) && (rsB 0 d.Univ && (rsB 0 (varsD d) && (decide (d.Univ.length + d.Exist.length ≤ 1024) &&
    (decide (d.Clauses.length ≤ 20000) && ((d.Clauses.all fun c => nrmB 0 c && c.all fun x => decide (av x ∈ d.Univ ++ varsD d)) && decide (tot d.Clauses ≤ 200000)))))))) ?_ ?_ d.Exist [] [] rfl rfl)
  · rintro s rfl
    have hv : (d.Exist.map (·.Var)).length = d.Exist.length := by simp
    rw [rangeF_fold (fun m x => mset m x true)]
    have hma : ∀ x, (mget ((d.Exist.map (·.Var)).foldl (fun m x => mset m x true) M) x).isSome = decide (x ∈ d.Univ ++ varsD d) := by
      intro x
      rw [mget_fold, ← hM, mget_fold]
      by_cases a : x ∈ d.Exist.map (·.Var)
      · rw [if_pos a]; simp [varsD]; exact .inr (by simpa using a)
      · rw [if_neg a]
        by_cases b : x ∈ d.Univ
        · rw [if_pos b]; simp [b]
        · rw [if_neg b]
          have : x ∉ d.Univ ++ varsD d := by simp only [List.mem_append, not_or]; exact ⟨b, a⟩
          simp [mget, this]
    simp only [hma, rises_eq d.Univ (by omega), Option.bind_some, List.all_nil, Bool.true_and]
    by_cases hU : rsB 0 d.Univ = true
    case neg => simp [Bool.eq_false_iff.2 hU]
    rw [rises_eq _ (by rw [hv]; omega), Option.bind_some]
    by_cases hV : rsB 0 (varsD d) = true
    case neg =>
      have : rsB 0 (d.Exist.map (·.Var)) = false := Bool.eq_false_iff.2 hV
      simp [hU, this, Bool.eq_false_iff.2 hV]
    have hV' : rsB 0 (d.Exist.map (·.Var)) = true := hV
    rw [hv, wrap_id (by omega) (by omega)]
    by_cases hl : d.Univ.length + d.Exist.length ≤ 1024
    case neg =>
      have : ¬ ((d.Univ.length : Int) + (d.Exist.length : Int) ≤ 1024) := by omega
      simp [hU, hV', hl, this]
    have hl' : ((d.Univ.length : Int) + (d.Exist.length : Int) ≤ 1024) := by omega
    simp only [hU, hV, hV', hl, hl', decide_true, if_true, Bool.true_and]
    by_cases hc : d.Clauses.length ≤ 20000
    case neg =>
      have : ((d.Clauses.length : Nat) : Int) > 20000 := by omega
      simp [hc, this]
    have hc' : ¬ ((d.Clauses.length : Nat) : Int) > 20000 := by omega
    simp only [hc, hc', decide_true, decide_false, Bool.false_eq_true, if_false, Bool.true_and]
    have key := rangeF_pre (f := (fun (j3491 : Nat) (x3492 : (List Int)) (s3488 : Int) (k3490 : Int → Option Bool) => (rangeF (fun (j3902 : Nat) (x3903 : Int) (s3899 : Int) k3901 => (jn (fun (s4091 : Bool) => (if s4091 = true then (some false) else ((F_prefix_abs x3903).bind (fun y4095 => (k3901 y4095))))) (fun k4093 => (if (x3903 == (0 : Int)) = true then (k4093 true) else (if (decide (x3903 < (-65536 : Int))) = true then (k4093 true) else (if (decide (x3903 > (65536 : Int))) = true then (k4093 true) else ((F_prefix_abs x3903).bind (fun y4099 => (if (decide (y4099 ≤ s3899)) = true then (k4093 true) else ((F_prefix_abs x3903).bind (fun y4101 => (k4093 (!(decide (y4101 ∈ d.Univ ++ varsD d))))))))))))))) 0 x3492 (0 : Int) (fun (s3899 : Int) => (k3490 (IntKind.wrap .i64 (s3488 + ((x3492.length : Nat) : Int)))))))) (k := fun s3488 => some (decide (s3488 ≤ (200000 : Int))))
      d.Clauses (fun pre s => s = (tot pre : Int)) (fun _ xs _ => some ((xs.all fun c => nrmB 0 c && c.all fun x => decide (av x ∈ d.Univ ++ varsD d)) && decide (tot d.Clauses ≤ 200000))) ?_ ?_ d.Clauses [] 0 rfl rfl
    · simp only [jn_eq, if_true, List.length_nil] at key
      rw [key]; simp
    · rintro s rfl
      by_cases ht : tot d.Clauses ≤ 200000
      · have h3 : (tot d.Clauses : Int) ≤ 200000 := by omega
        simp [ht, h3]
      · have h3 : ¬ (tot d.Clauses : Int) ≤ 200000 := by omega
        simp [ht, h3]
    · intro pre x xs s kk hf hI hk
      have ht : tot pre + x.length ≤ tot d.Clauses := by rw [hf, tot_app, tot_cons]; omega
      have hk' := hk (IntKind.wrap .i64 (s + ((x.length : Nat) : Int))) (by rw [hI, wrap_id (by omega) (by omega), tot_app]; simp [tot])
      rw [lits_in (fun y => decide (y ∈ d.Univ ++ varsD d)) _ x _ (fun _ => hk'), List.all_cons]
      by_cases hx : (nrmB 0 x && x.all fun x => decide (av x ∈ d.Univ ++ varsD d)) = true
      · rw [if_pos hx, hx, Bool.true_and]
      · rw [if_neg hx, Bool.eq_false_iff.2 hx, Bool.false_and, Bool.false_and]
  · intro pre x xs s kk hf hI hk
    have hx : x ∈ d.Exist := by rw [hf]; simp
    have hlen : pre.length < d.Exist.length := by rw [hf]; simp
    have hk' := hk (s ++ [x.Var]) (by rw [hI]; simp)
    rw [List.all_cons]
    by_cases hu : x.Var ∈ d.Univ
    · simp [hu]
    rw [rises_eq x.On (Nat.le_trans (h.onE hx) (by decide)), Option.bind_some, depB]
    by_cases a : rsB 0 x.On = true
    case neg => simp [hu, Bool.eq_false_iff.2 a]
    simp only [hu, a, decide_false, Bool.false_eq_true, if_false, Bool.not_true]
    have hA : ∀ j : Nat, (if (decide (((j : Nat) : Int) ≥ (0 : Int))) = true then (some false) else (capN (s.length + [x.Var].length) (kk (s ++ [x.Var])))) = some false := fun j => by
      have : ((j : Nat) : Int) ≥ 0 := by omega
      simp [this]
    have hB : (if (decide ((-1 : Int) ≥ (0 : Int))) = true then (some false) else (capN (s.length + [x.Var].length) (kk (s ++ [x.Var])))) = kk (s ++ [x.Var]) := by
      rw [capN_eq (by rw [hI]; simp; omega)]; simp
    rw [findF_eq (fun y => decide (y ∈ d.Univ)) (fun s1611 => (if (decide (s1611 ≥ (0 : Int))) = true then (some false) else (capN (s.length + [x.Var].length) (kk (s ++ [x.Var]))))) x.On (kk (s ++ [x.Var])) hA hB]
    rw [hk']
    by_cases b : (x.On.all fun y => decide (y ∈ d.Univ)) = true
    · rw [if_pos b, b]; simp
    · rw [if_neg b, Bool.eq_false_iff.2 b]; simp
end Go.Sk.X
namespace Go.Sk.X
open Go Go.Sk
structure May (d : S_api_Dqbf) : Prop where
  dj : ∀ e ∈ d.Exist, e.Var ∉ d.Univ
  on : ∀ e ∈ d.Exist, rsB 0 e.On = true ∧ ∀ x ∈ e.On, x ∈ d.Univ
  ru : rsB 0 d.Univ = true
  rv : rsB 0 (varsD d) = true
  len : d.Univ.length + d.Exist.length ≤ 1024
  nrm : ∀ c ∈ d.Clauses, nrmB 0 c = true
  wi : ∀ c ∈ d.Clauses, ∀ x ∈ c, av x ∈ d.Univ ∨ av x ∈ varsD d
theorem may_of {d : S_api_Dqbf} (h : MayD d = true) : May d := by
  simp only [MayD, Bool.and_eq_true, List.all_eq_true, decide_eq_true_eq, Bool.not_eq_true', decide_eq_false_iff_not, depB, List.mem_append] at h
  obtain ⟨h1, h2, h3, h4, h5, h6, h7⟩ := h
  exact ⟨fun e he => (h1 e he).1, fun e he => (h1 e he).2, h2, h3, h4, fun c hc => (h6 c hc).1, fun c hc => (h6 c hc).2⟩
theorem May.sep {d : S_api_Dqbf} (h : May d) {x : Int} (h1 : x ∈ d.Univ) : x ∉ varsD d := fun hm => by
  obtain ⟨e, he, rfl⟩ := List.mem_map.1 hm
  exact h.dj e he h1
theorem wrapu (n : Int) : IntKind.wrap .u64 n = n % 18446744073709551616 := by
  simp only [IntKind.wrap, IntKind.bits, IntKind.signed]
  simp
end Go.Sk.X
namespace Go.Sk.X
open Go Go.Sk
theorem nrm_lit {c : List Int} (h : nrmB 0 c = true) {x : Int} (hx : x ∈ c) : x ≠ 0 ∧ -65536 ≤ x ∧ x ≤ 65536 := by
  obtain ⟨h1, h2⟩ := nrm_mem h x hx
  exact ⟨fun e => by subst e; simp [av] at h1, h2⟩
end Go.Sk.X
namespace Go.Sk.X
open Go Go.Sk
theorem av_pos {x : Int} (h : 0 < x) : av x = x := by unfold av; rw [if_neg (by omega)]
end Go.Sk.X
namespace Go.Sk.X
open Go Go.Sk
theorem nodup_len : ∀ {l m : List Int}, l.Nodup → (∀ x ∈ l, x ∈ m) → l.length ≤ m.length
  | [], m, _, _ => Nat.zero_le _
  | x :: l, m, h, hm => by
    rw [List.nodup_cons] at h
    obtain ⟨a, b, rfl⟩ := List.append_of_mem (hm x (by simp))
    have := nodup_len (l := l) (m := a ++ b) h.2 (fun y hy => by
      have := hm y (by simp [hy])
      simp only [List.mem_append, List.mem_cons] at this ⊢
      rcases this with h1 | h1 | h1
      · exact .inl h1
      · subst h1; exact absurd hy h.1
      · exact .inr h1)
    simp only [List.length_append, List.length_cons] at this ⊢
    omega
end Go.Sk.X
namespace Go.Sk.X
open Go Go.Sk
def satB (cs : List (List Int)) (a : List Int) : Bool := cs.all fun c => c.any fun x => decide (x ∈ a)
theorem satLoop (a c : List Int) (hl : c.length ≤ 4194304) (R : Option Bool) (kk : Unit → Option Bool) (hk : kk () = R) :
    whileF 1000000000000 (fun k142 (s140 : (Bool × Int)) => (if (decide (s140.2 < ((c.length : Nat) : Int))) = true then (jn (fun (s167 : Bool) => (k142 (s167, (IntKind.wrap .i64 (s140.2 + (1 : Int)))))) (fun k169 => (if s140.1 = true then (k169 true) else (getI c s140.2 (fun x171 => ((F_skolemref03_Has a x171).bind (fun y172 => (k169 y172)))))))) else (if (!s140.1) = true then (some false) else (kk ())))) (false, (0 : Int))
      = if (c.any fun x => decide (x ∈ a)) = true then R else some false := by
  have := whileF_by (b := (fun k142 (s140 : (Bool × Int)) => (if (decide (s140.2 < ((c.length : Nat) : Int))) = true then (jn (fun (s167 : Bool) => (k142 (s167, (IntKind.wrap .i64 (s140.2 + (1 : Int)))))) (fun k169 => (if s140.1 = true then (k169 true) else (getI c s140.2 (fun x171 => ((F_skolemref03_Has a x171).bind (fun y172 => (k169 y172)))))))) else (if (!s140.1) = true then (some false) else (kk ()))))) (fun s : Bool × Int => c.length - s.2.toNat) (fun s => 0 ≤ s.2 ∧ s.2 ≤ c.length) (fun s => if (s.1 || (c.drop s.2.toNat).any fun x => decide (x ∈ a)) = true then R else some false) ?_ 1000000000000 (false, 0) (by simp) (by simp; omega)
  · simpa using this
  · rintro ⟨f, i⟩ k ⟨h0, h1⟩ hs
    simp only [jn_eq] at h0 h1 hs ⊢
    by_cases h2 : i < ((c.length : Nat) : Int)
    · obtain ⟨n, rfl⟩ : ∃ n : Nat, i = n := ⟨i.toNat, by omega⟩
      have hlt : n < c.length := by omega
      have hd : c.drop n = c[n] :: c.drop (n + 1) := by rw [List.drop_eq_getElem_cons hlt]
      have hw : IntKind.wrap .i64 (((n : Nat) : Int) + 1) = ((n + 1 : Nat) : Int) := by rw [wrap_id (by omega) (by omega)]; omega
      have hs' := fun b => hs (b, ((n + 1 : Nat) : Int)) ⟨by show (0 : Int) ≤ ((n + 1 : Nat) : Int); omega, by show ((n + 1 : Nat) : Int) ≤ (c.length : Int); omega⟩ (by simp; omega)
      cases f
      · simp only [h2, decide_true, if_true, Bool.false_eq_true, if_false, getI_nat, List.getElem?_eq_getElem hlt, has_eq, Option.bind_some, hw, hs', Int.toNat_natCast, hd, List.any_cons, Bool.false_or]
      · simp only [h2, decide_true, if_true, hw, hs', Bool.true_or]
    · have : i.toNat = c.length := by omega
      cases f <;> simp [h2, this, hk]
theorem sat_eq (cs : List (List Int)) (a : List Int) (h : tot cs ≤ 2097152) : F_skolemref04_Satisfied cs a = some (satB cs a) := by
  refine rangeF_pre cs (fun _ _ => True) (fun _ xs _ => some (satB xs a)) (fun _ _ => rfl) ?_ cs [] () rfl trivial
  intro pre x xs s kk hf hI hk
  have hx : x ∈ cs := by rw [hf]; simp
  rw [satLoop a x (Nat.le_trans (tot_mem hx) (Nat.le_trans h (by decide))) _ kk (hk () trivial)]
  by_cases hs : (x.any fun y => decide (y ∈ a)) = true
  · rw [if_pos hs]; simp only [satB, List.all_cons, hs, Bool.true_and]
  · rw [if_neg hs]; simp only [satB, List.all_cons, Bool.eq_false_iff.2 hs, Bool.false_and]
end Go.Sk.X
namespace Go.Sk.X
open Go Go.Sk
def flat (p : List S_api_Block) : List Int := p.flatMap (·.Vars)
def turnsP (p : List S_api_Block) : List S_truth_turn := p.flatMap fun b => b.Vars.map fun v => ⟨v, b.Exists⟩
theorem flat_app (a b : List S_api_Block) : flat (a ++ b) = flat a ++ flat b := by simp [flat]
theorem flat_one (a : S_api_Block) : flat [a] = a.Vars := by simp [flat]
theorem turns_v (p : List S_api_Block) : (turnsP p).map (·.v) = flat p := by
  induction p with
  | nil => rfl
  | cons b p ih =>
    simp only [turnsP, flat, List.flatMap_cons, List.map_append, List.map_map] at *
    rw [ih]; congr 1
    exact List.map_id _
theorem rangeF_app {α S R : Type} (g : α → S → (S → Option R) → Option R) (k : S → Option R) : ∀ (xs ys : List α) (i j : Nat) (s : S),
    rangeF (fun _ x s k => g x s k) i (xs ++ ys) s k = rangeF (fun _ x s k => g x s k) i xs s (fun s' => rangeF (fun _ x s k => g x s k) j ys s' k)
  | [], ys, i, j, s => by
    rw [List.nil_append, rangeF_nil]
    induction ys generalizing i j s with
    | nil => rfl
    | cons y ys ih => rw [rangeF_cons, rangeF_cons]; congr 1; funext s'; exact ih (i + 1) (j + 1) s'
  | x :: xs, ys, i, j, s => by
    rw [List.cons_append, rangeF_cons, rangeF_cons]; congr 1; funext s'; exact rangeF_app g k xs ys (i + 1) j s'
theorem rangeF_flat {α β S R : Type} (h : α → List β) (g : β → S → (S → Option R) → Option R) (k : S → Option R) : ∀ (xs : List α) (i j : Nat) (s : S),
    rangeF (fun _ x s k => rangeF (fun _ y s k => g y s k) 0 (h x) s (fun s => k s)) i xs s k = rangeF (fun _ y s k => g y s k) j (xs.flatMap h) s k
  | [], i, j, s => rfl
  | x :: xs, i, j, s => by
    rw [rangeF_cons, List.flatMap_cons, rangeF_app g k _ _ j 0]
    have e : (fun s => rangeF (fun _ x s k => rangeF (fun _ y s k => g y s k) 0 (h x) s (fun s => k s)) (i + 1) xs s k) = fun s => rangeF (fun _ y s k => g y s k) 0 (xs.flatMap h) s k := by
      funext s'; exact rangeF_flat h g k xs (i + 1) 0 s'
    rw [e]
    have := rangeF_app g (fun s => rangeF (fun _ y s k => g y s k) 0 (xs.flatMap h) s k) [] (h x) j 0 s
    rw [List.nil_append, rangeF_nil] at this
    exact this.symm
theorem rangeF_map {α β S R : Type} (f : α → β) (g : β → S → (S → Option R) → Option R) (k : S → Option R) : ∀ (xs : List α) (i : Nat) (s : S),
    rangeF (fun _ x s k => g (f x) s k) i xs s k = rangeF (fun _ y s k => g y s k) i (xs.map f) s k
  | [], i, s => rfl
  | x :: xs, i, s => by rw [rangeF_cons, List.map_cons, rangeF_cons]; congr 1; funext s'; exact rangeF_map f g k xs (i + 1) s'
theorem sumFold {α : Type} (f : α → Nat) (M : Nat) (hM : M = 140737488351232) : ∀ (ls : List α) (s : Nat), (∀ l ∈ ls, f l ≤ M) → s + ls.length * M ≤ 9223372036854775807 →
    ls.foldl (fun s (x : α) => IntKind.wrap .i64 (s + ((f x : Nat) : Int))) (s : Int) = ((s + (ls.map f).sum : Nat) : Int)
  | [], s, _, _ => by rw [List.foldl_nil, List.map_nil, List.sum_nil, Nat.add_zero]
  | l :: ls, s, h, hb => by
    have hl := h l (by simp)
    rw [List.length_cons, Nat.add_mul, Nat.one_mul] at hb
    have e : IntKind.wrap .i64 ((s : Int) + ((f l : Nat) : Int)) = ((s + f l : Nat) : Int) := by rw [wrap_id (by omega) (by omega)]; omega
    rw [List.foldl_cons, e, sumFold f M hM ls (s + f l) (fun x hx => h x (by simp [hx])) (by omega), List.map_cons, List.sum_cons, Nat.add_assoc]
structure Sq (q : S_api_Qbf) : Prop where
  bl : q.Prefix.length ≤ 60
  vs : (flat q.Prefix).length ≤ 100
  cl : q.Clauses.length ≤ 60
  tot : tot q.Clauses ≤ 300
theorem flat_len (p : List S_api_Block) : (flat p).length = (p.map fun b => b.Vars.length).sum := by
  induction p with
  | nil => rfl
  | cons b p ih => simp only [flat, List.flatMap_cons, List.length_append, List.map_cons, List.sum_cons] at *; omega
theorem great_eq {q : S_api_Qbf} (hz : Z_S_api_Qbf q) : ∃ b, F_skolemlaw04_great q = some b ∧ (b = false → Sq q) := by
  unfold F_skolemlaw04_great F_skolemlaw04_wide
  by_cases h1 : ((q.Prefix.length : Nat) : Int) > 60
  · exact ⟨true, by simp only [h1, decide_true, if_true], by simp⟩
  have hs1 := sumFold (fun b : S_api_Block => b.Vars.length) 140737488351232 rfl q.Prefix 0 (fun b hb => (hz.1.2 b hb).2.1) (by omega)
  rw [rangeF_fold (fun s (x : S_api_Block) => IntKind.wrap .i64 (s + ((x.Vars.length : Nat) : Int)))]
  rw [show ((0 : Nat) : Int) = 0 from rfl] at hs1
  rw [hs1, Nat.zero_add, ← flat_len]
  simp only [h1, decide_false, Bool.false_eq_true, if_false, jn_eq]
  by_cases h2 : ((q.Clauses.length : Nat) : Int) > 60
  · exact ⟨true, by simp [h2], by simp⟩
  by_cases h3 : (((flat q.Prefix).length : Nat) : Int) > 100
  · exact ⟨true, by simp [h2, h3], by simp⟩
  have hs2 := sumFold (fun b : List Int => b.length) 140737488351232 rfl q.Clauses 0 (fun b hb => (hz.2.2 b hb).1) (by omega)
  rw [rangeF_fold (fun s (x : List Int) => IntKind.wrap .i64 (s + ((x.length : Nat) : Int)))]
  rw [show ((0 : Nat) : Int) = 0 from rfl] at hs2
  rw [hs2, Nat.zero_add]
  simp only [h2, h3, decide_false, Bool.false_eq_true, if_false, Option.bind_some]
  by_cases h4 : (((q.Clauses.map fun b => b.length).sum : Nat) : Int) > 300
  · exact ⟨true, by simp [h4], by simp⟩
  · refine ⟨_, by simp only [h4, decide_false, Bool.false_eq_true, if_false]; exact (apply_ite some _ _ _).symm, fun _ => ⟨by omega, by omega, by omega, ?_⟩⟩
    unfold Go.Sk.X.tot
    have : (q.Clauses.map List.length).sum = (q.Clauses.map fun b => b.length).sum := rfl
    omega
def altB : Option Bool → List S_api_Block → Bool
  | _, [] => true
  | o, b :: bs => !b.Vars.isEmpty && (!decide (o = some b.Exists) && altB (some b.Exists) bs)
theorem alt_loop (full : List S_api_Block) (hl : full.length ≤ 60) (K : Unit → Option Bool) :
    (rangeF (fun (j104 : Nat) (x105 : S_api_Block) (s101 : Unit) k103 => (jn (fun (s139 : Bool) => (if s139 = true then (some false) else (k103 ()))) (fun k141 => (if (((x105.Vars.length : Nat) : Int) == (0 : Int)) = true then (k141 true) else (if (decide (((j104 : Nat) : Int) > (0 : Int))) = true then (getI full (IntKind.wrap .i64 (((j104 : Nat) : Int) - (1 : Int))) (fun x145 => (k141 (x145.Exists == x105.Exists)))) else (k141 false)))))) 0 full () K)
      = if altB none full = true then K () else some false := by
  refine rangeF_pre full (fun _ _ => True) (fun pre xs _ => if altB (pre.getLast?.map (·.Exists)) xs = true then K () else some false) (fun s _ => by simp [altB]) ?_ full [] () rfl trivial
  intro pre x xs s kk hf hI hk
  have hlen : pre.length < full.length := by rw [hf]; simp
  have hk' := hk () trivial
  simp only [jn_eq, altB]
  rw [List.getLast?_append, List.getLast?_singleton] at hk'
  simp only [Option.some_or, Option.map_some] at hk'
  by_cases h0 : x.Vars = []
  · simp [h0]
  have h0' : (((x.Vars.length : Nat) : Int) == (0 : Int)) = false := by
    have : x.Vars.length ≠ 0 := fun e => h0 (List.eq_nil_of_length_eq_zero e)
    simp; exact h0
  have h0'' : x.Vars.isEmpty = false := by simpa using h0
  by_cases hp : 0 < pre.length
  · have e : IntKind.wrap .i64 (((pre.length : Nat) : Int) - 1) = ((pre.length - 1 : Nat) : Int) := by rw [wrap_id (by omega) (by omega)]; omega
    obtain ⟨y, hy⟩ : ∃ y, pre.getLast? = some y := by
      cases hh : pre.getLast? with
      | none => rw [List.getLast?_eq_none_iff] at hh; subst hh; simp at hp
      | some y => exact ⟨y, rfl⟩
    have hg : full[pre.length - 1]? = some y := by
      rw [hf, List.getElem?_append_left (by omega), ← List.getLast?_eq_getElem?, hy]
    have hp' : ((pre.length : Nat) : Int) > 0 := by omega
    simp only [h0', h0'', hp', e, getI_nat, hg, hy, hk', decide_true, if_true, Bool.false_eq_true, if_false, Option.map_some, Bool.not_false, Bool.true_and]
    by_cases he : y.Exists = x.Exists
    · simp [he]
    · have e1 : (y.Exists == x.Exists) = false := by simpa using he
      have e2 : ¬ (some y.Exists = some x.Exists) := fun h => he (Option.some.inj h)
      by_cases hA : altB (some x.Exists) xs = true <;> simp [e1, e2, hA]
  · have : pre = [] := List.eq_nil_of_length_eq_zero (by omega)
    subst this
    by_cases hA : altB (some x.Exists) xs = true <;> simp [h0', h0'', hk', h0, hA]
theorem count_eq (p : List S_api_Block) : F_prefix_count p = some (if singB [] (flat p) = true then (((flat p).length : Int), true) else (0, false)) := by
  unfold F_prefix_count
  have := rangeF_flat (fun b : S_api_Block => b.Vars) (fun (x2062 : Int) (s2058 : List (Int × Bool)) (k2060 : List (Int × Bool) → Option (Int × Bool)) => (jn (fun (s2441 : Bool) => (if s2441 = true then (some ((0 : Int), false)) else (k2060 (mset s2058 x2062 true)))) (fun k2443 => (if (decide (x2062 < (1 : Int))) = true then (k2443 true) else (if (decide (x2062 > (65536 : Int))) = true then (k2443 true) else (k2443 ((mget s2058 x2062).getD false))))))) (fun (s1275 : (List (Int × Bool))) => (some (((s1275.length : Nat) : Int), true))) p 0 0 []
  refine this.trans ?_
  change rangeF _ 0 (flat p) [] _ = _
  refine rangeF_pre (flat p) (fun pre s => s = pre.foldl (fun m x => mset m x true) []) (fun pre xs s => some (if singB pre xs = true then ((((pre.foldl (fun m x => mset m x true) ([] : List (Int × Bool))).length + xs.length : Nat) : Int), true) else ((0 : Int), false))) ?_ ?_ (flat p) [] [] rfl rfl |>.trans ?_
  · rintro s rfl; simp [singB]
  · intro pre x xs s kk hf hI hk
    subst hI
    have hk' := hk (mset (pre.foldl (fun m x => mset m x true) []) x true) (by simp)
    have hg : ((mget (pre.foldl (fun m x => mset m x true) ([] : List (Int × Bool))) x).getD false) = decide (x ∈ pre) := by
      rw [mget_fold]; by_cases hx : x ∈ pre <;> simp [hx, mget]
    simp only [jn_eq, singB, hg]
    by_cases h1 : x < 1
    · have : ¬ 1 ≤ x := by omega
      simp [h1, this]
    by_cases h2 : x > 65536
    · have : ¬ x ≤ 65536 := by omega
      simp [h1, h2, this]
    have h3 : x ≤ 65536 := by omega
    have h4 : 1 ≤ x := by omega
    by_cases h5 : x ∈ pre
    · simp [h1, h2, h3, h4, h5]
    · simp only [h1, h2, h3, h4, h5, decide_false, decide_true, Bool.false_eq_true, if_false, Bool.not_false, Bool.true_and, hk']
      by_cases h6 : singB (pre ++ [x]) xs = true
      · simp only [h6, if_true]
        have hs := (sing_iff xs (pre ++ [x])).1 h6
        have e : ∀ l : List Int, (l.foldl (fun m x => mset m x true) ([] : List (Int × Bool))).length + 0 = (l.foldl (fun m x => mset m x true) ([] : List (Int × Bool))).length := fun _ => rfl
        congr 3
        rw [List.foldl_append, List.length_cons]
        have hset : ∀ (m : List (Int × Bool)), (mget m x).isSome = false → (mset m x true).length = m.length + 1 := by
          intro m
          induction m with
          | nil => intro _; rfl
          | cons p m ih =>
            obtain ⟨a, b⟩ := p
            intro hh
            simp only [mget] at hh
            by_cases e : (x == a) = true
            · rw [if_pos e] at hh; simp at hh
            · rw [if_neg e] at hh
              simp only [mset]
              rw [if_neg e, List.length_cons, ih hh, List.length_cons]
        have := hset (pre.foldl (fun m x => mset m x true) []) (by rw [mget_fold, if_neg h5]; rfl)
        simp only [List.foldl_cons, List.foldl_nil, this]
        omega
      · simp [Bool.eq_false_iff.2 h6]
  · simp
end Go.Sk.X
namespace Go.Sk.X
open Go Go.Sk
def MayQ (q : S_api_Qbf) : Bool :=
  altB none q.Prefix && (singB [] (flat q.Prefix) && ((q.Clauses.all (nrmB 0)) && (q.Clauses.all fun c => c.all fun x => decide (av x ∈ flat q.Prefix))))
theorem flat_eq (p : List S_api_Block) (h : (flat p).length ≤ 100) : F_skolemref03_Flat p = some (flat p) := by
  unfold F_skolemref03_Flat
  refine rangeF_pre p (fun pre s => s = flat pre) (fun _ _ _ => some (flat p)) (fun s hs => by rw [hs]) ?_ p [] [] rfl rfl
  intro pre x xs s kk hf hI hk
  have hl : (flat pre).length + x.Vars.length ≤ (flat p).length := by rw [hf, flat_app]; simp [flat]
  subst hI
  rw [capN_eq (by omega), hk _ (by rw [flat_app, flat_one])]
theorem rmay_eq {q : S_api_Qbf} (h : Sq q) : F_skolemref03_MayQbf q = some (MayQ q) := by
  have h1 := h.bl
  have h2 := h.vs
  have h3 := h.tot
  have h4 := h.cl
  unfold F_skolemref03_MayQbf F_skolemref03_May
  rw [alt_loop q.Prefix h1]
  by_cases hA : altB none q.Prefix = true
  case neg => simp [hA, MayQ, Bool.eq_false_iff.2 hA]
  have hl : (((flat q.Prefix).length : Nat) : Int) ≤ 1024 := by omega
  simp only [hA, if_true, flat_eq q.Prefix h2, Option.bind_some, hl, decide_true, single_eq, MayQ, Bool.true_and]
  by_cases hS : singB [] (flat q.Prefix) = true
  case neg => simp [Bool.eq_false_iff.2 hS]
  have c1 : q.Clauses.length ≤ 20000 := by omega
  have c2 : Go.Sk.X.tot q.Clauses ≤ 200000 := by omega
  simp only [hS, if_true, cnf_eq q.Clauses (by omega), Option.bind_some, c1, c2, decide_true, Bool.and_true, Bool.true_and]
  by_cases hN : q.Clauses.all (nrmB 0) = true
  case neg => simp [Bool.eq_false_iff.2 hN]
  rw [hN]
  simp only [if_true, Bool.true_and]
  rw [within_eq q.Clauses _ (List.all_eq_true.1 hN) (by omega)]
  rfl
theorem pmay_eq {q : S_api_Qbf} (h : Sq q) : F_prefix_MayQbf q = some (MayQ q) := by
  have h1 := h.bl
  have h2 := h.vs
  have h3 := h.tot
  have h4 := h.cl
  unfold F_prefix_MayQbf F_prefix_May
  rw [alt_loop q.Prefix h1]
  by_cases hA : altB none q.Prefix = true
  case neg => simp [hA, MayQ, Bool.eq_false_iff.2 hA]
  rw [if_pos hA, count_eq, Option.bind_some]
  by_cases hS : singB [] (flat q.Prefix) = true
  case neg => simp [hA, MayQ, Bool.eq_false_iff.2 hS]
  have hl : (((flat q.Prefix).length : Nat) : Int) ≤ 1024 := by omega
  simp only [hS, if_true, hl, decide_true, Option.bind_some]
  -- where the variables stand
  have hpl := rangeF_ex (Post := fun Y : List (Int × S_prefix_place) => ∀ v, (mget Y v).isSome = decide (v ∈ flat q.Prefix)) (f := (fun (j2750 : Nat) (x2751 : S_api_Block) (s2747 : (List (Int × S_prefix_place))) k2749 => (rangeF (fun (j2885 : Nat) (x2886 : Int) (s2882 : (List (Int × S_prefix_place))) k2884 => (jn (fun (s2943 : (List (Int × S_prefix_place))) => (k2884 s2943)) (fun k2945 => (if (!(mget s2882 x2886).isSome) = true then (k2945 (mset s2882 x2886 (S_prefix_place.mk ((j2750 : Nat) : Int) x2751.Exists))) else (k2945 s2882))))) 0 x2751.Vars s2747 (fun (s2882 : (List (Int × S_prefix_place))) => (k2749 s2882))))) (k := (fun (s2747 : (List (Int × S_prefix_place))) => (some s2747)))
    q.Prefix (fun pre s => ∀ v, (mget s v).isSome = decide (v ∈ flat pre)) (fun s hs => ⟨s, rfl, hs⟩) ?_ q.Prefix [] [] rfl (by intro v; rfl)
  · obtain ⟨Y, hY, hm⟩ := hpl
    rw [List.length_nil] at hY
    rw [hY]
    have c1 : ¬ ((q.Clauses.length : Nat) : Int) > 20000 := by omega
    simp only [Option.bind_some, c1, decide_false, Bool.false_eq_true, if_false, hm]
    have key := rangeF_pre (f := (fun (j3491 : Nat) (x3492 : (List Int)) (s3488 : Int) (k3490 : Int → Option Bool) => (rangeF (fun (j3902 : Nat) (x3903 : Int) (s3899 : Int) k3901 => (jn (fun (s4091 : Bool) => (if s4091 = true then (some false) else ((F_prefix_abs x3903).bind (fun y4095 => (k3901 y4095))))) (fun k4093 => (if (x3903 == (0 : Int)) = true then (k4093 true) else (if (decide (x3903 < (-65536 : Int))) = true then (k4093 true) else (if (decide (x3903 > (65536 : Int))) = true then (k4093 true) else ((F_prefix_abs x3903).bind (fun y4099 => (if (decide (y4099 ≤ s3899)) = true then (k4093 true) else ((F_prefix_abs x3903).bind (fun y4101 => (k4093 (!(decide (y4101 ∈ flat q.Prefix))))))))))))))) 0 x3492 (0 : Int) (fun (s3899 : Int) => (k3490 (IntKind.wrap .i64 (s3488 + ((x3492.length : Nat) : Int)))))))) (k := fun s3488 => some (decide (s3488 ≤ (200000 : Int))))
      q.Clauses (fun pre s => s = (tot pre : Int)) (fun _ xs _ => some (xs.all fun c => nrmB 0 c && c.all fun x => decide (av x ∈ flat q.Prefix))) ?_ ?_ q.Clauses [] 0 rfl rfl
    · rw [List.length_nil] at key
      rw [key]
      simp only [Option.bind_some, MayQ, hA, hS, Bool.true_and]
      congr 1
      rw [Bool.eq_iff_iff]
      simp only [List.all_eq_true, Bool.and_eq_true]
      exact ⟨fun q => ⟨fun c hc => (q c hc).1, fun c hc => (q c hc).2⟩, fun q c hc => ⟨q.1 c hc, q.2 c hc⟩⟩
    · rintro s rfl
      have c2 : (tot q.Clauses : Int) ≤ 200000 := by omega
      simp [c2]
    · intro pre x xs s kk hf hI hk
      have ht : tot pre + x.length ≤ tot q.Clauses := by rw [hf, tot_app, tot_cons]; omega
      have hk' := hk (IntKind.wrap .i64 (s + ((x.length : Nat) : Int))) (by rw [hI, wrap_id (by omega) (by omega), tot_app]; simp [tot])
      rw [lits_in (fun y => decide (y ∈ flat q.Prefix)) _ x _ (fun _ => hk'), List.all_cons]
      by_cases hx : (nrmB 0 x && x.all fun x => decide (av x ∈ flat q.Prefix)) = true
      · rw [if_pos hx, hx, Bool.true_and]
      · rw [if_neg hx, Bool.eq_false_iff.2 hx, Bool.false_and]
  · intro pre x xs s kk hf hI hk
    refine rangeF_ex x.Vars (fun p2 s => ∀ v, (mget s v).isSome = decide (v ∈ flat pre ++ p2)) (fun s hs => ?_) ?_ x.Vars [] s rfl (by simpa using hI)
    · exact hk s (fun v => by rw [hs v, flat_app, flat_one])
    · intro p2 y ys s k2 hf2 hI2 hk2
      simp only [jn_eq]
      by_cases hy : (mget s y).isSome = true
      · rw [hy, Bool.not_true, if_neg (by decide)]
        refine hk2 s (fun v => ?_)
        rw [hI2 v]
        have hy' := hI2 y
        rw [hy] at hy'
        have hm : y ∈ flat pre ++ p2 := by simpa using hy'.symm
        rw [Bool.eq_iff_iff]
        simp only [decide_eq_true_eq, List.mem_append, List.mem_singleton] at hm ⊢
        constructor
        · rintro (a | a)
          · exact .inl a
          · exact .inr (.inl a)
        · rintro (a | a | rfl)
          · exact .inl a
          · exact .inr a
          · exact hm
      · rw [Bool.eq_false_iff.2 hy, Bool.not_false, if_pos rfl]
        refine hk2 _ (fun v => ?_)
        rw [mget_mset]
        by_cases e : v = y
        · subst e; simp
        · rw [if_neg e, hI2 v]
          simp [e]
end Go.Sk.X
namespace Go.Sk.X
open Go Go.Sk
theorem turns_app (a b : List S_api_Block) : turnsP (a ++ b) = turnsP a ++ turnsP b := by simp [turnsP]
theorem turns_len (p : List S_api_Block) : (turnsP p).length = (flat p).length := by rw [← turns_v, List.length_map]
def exs (p : List S_api_Block) : List Bool := (turnsP p).map (·.f_exists)
theorem of_eq (q : S_api_Qbf) (h : (flat q.Prefix).length ≤ 100) : F_truth_of q = some ⟨turnsP q.Prefix, q.Clauses⟩ := by
  unfold F_truth_of
  refine rangeF_pre q.Prefix (fun pre s => s = turnsP pre) (fun _ _ _ => some (S_truth_game.mk (turnsP q.Prefix) q.Clauses)) (fun s hs => by rw [hs]) ?_ q.Prefix [] [] rfl rfl
  intro pre x xs s kk hf hI hk
  have hl : (flat pre).length + x.Vars.length ≤ (flat q.Prefix).length := by rw [hf, flat_app]; simp [flat]
  have ht := turns_len pre
  refine rangeF_pre x.Vars (fun p2 s => s = turnsP pre ++ p2.map fun v => ⟨v, x.Exists⟩) (fun _ _ _ => some (S_truth_game.mk (turnsP q.Prefix) q.Clauses)) (fun s hs => hk s ?_) ?_ x.Vars [] s rfl (by simpa using hI)
  · rw [hs, turns_app]; simp [turnsP]
  · intro p2 y ys s k2 hf2 hI2 hk2
    have hl2 : p2.length < x.Vars.length := by rw [hf2]; simp
    subst hI2
    rw [capN_eq (by simp only [List.length_append, List.length_map, List.length_cons, List.length_nil]; omega), hk2 _ (by simp)]
theorem order_in (x : S_api_Block) (hl : x.Vars.length ≤ 1000) (kk : (List Int × List Bool) → Option (List Int × List Bool)) (l : List Int) (e : List Bool) (h1 : l.length ≤ 1000) (h2 : e.length ≤ 1000) :
    whileF 1000000000000 (fun k170 (s168 : (Int × (List Int) × (List Bool))) => (if (decide (s168.1 < ((x.Vars.length : Nat) : Int))) = true then (getI x.Vars s168.1 (fun x184 => (capN (s168.2.1.length + [x184].length) (capN (s168.2.2.length + [x.Exists].length) (k170 ((IntKind.wrap .i64 (s168.1 + (1 : Int))), (s168.2.1 ++ [x184]), (s168.2.2 ++ [x.Exists]))))))) else (kk (s168.2.1, s168.2.2)))) ((0 : Int), l, e)
      = kk (l ++ x.Vars, e ++ x.Vars.map fun _ => x.Exists) := by
  have := whileF_by (b := (fun k170 (s168 : (Int × (List Int) × (List Bool))) => (if (decide (s168.1 < ((x.Vars.length : Nat) : Int))) = true then (getI x.Vars s168.1 (fun x184 => (capN (s168.2.1.length + [x184].length) (capN (s168.2.2.length + [x.Exists].length) (k170 ((IntKind.wrap .i64 (s168.1 + (1 : Int))), (s168.2.1 ++ [x184]), (s168.2.2 ++ [x.Exists]))))))) else (kk (s168.2.1, s168.2.2)))))
    (fun s => x.Vars.length - s.1.toNat) (fun s => 0 ≤ s.1 ∧ s.1 ≤ x.Vars.length ∧ s.2.1 = l ++ x.Vars.take s.1.toNat ∧ s.2.2 = e ++ (x.Vars.take s.1.toNat).map fun _ => x.Exists) (fun _ => kk (l ++ x.Vars, e ++ x.Vars.map fun _ => x.Exists)) ?_ 1000000000000 (0, l, e) (by simp) (by simp; omega)
  · exact this
  · rintro ⟨i, l2, e2⟩ k ⟨h3, h4, h5, h6⟩ hs
    simp only [] at h3 h4 h5 h6 hs ⊢
    subst h5; subst h6
    by_cases h7 : i < ((x.Vars.length : Nat) : Int)
    · obtain ⟨n, rfl⟩ : ∃ n : Nat, i = n := ⟨i.toNat, by omega⟩
      have hlt : n < x.Vars.length := by omega
      have hw : IntKind.wrap .i64 (((n : Nat) : Int) + 1) = ((n + 1 : Nat) : Int) := by rw [wrap_id (by omega) (by omega)]; omega
      simp only [h7, decide_true, if_true, getI_nat, List.getElem?_eq_getElem hlt, hw, Int.toNat_natCast]
      rw [capN_eq (by simp only [List.length_append, List.length_take, List.length_cons, List.length_nil]; omega), capN_eq (by simp only [List.length_append, List.length_map, List.length_take, List.length_cons, List.length_nil]; omega)]
      refine hs _ ⟨by simp only []; omega, by simp only []; omega, ?_, ?_⟩ (by simp only [Int.toNat_natCast]; omega)
      · simp only [Int.toNat_natCast]
        rw [List.append_assoc, List.take_succ_eq_append_getElem hlt]
      · simp only [Int.toNat_natCast]
        rw [List.append_assoc, List.take_succ_eq_append_getElem hlt, List.map_append]; rfl
    · have : i.toNat = x.Vars.length := by omega
      simp [h7, this]
theorem order_eq (p : List S_api_Block) (h : (flat p).length ≤ 100) : F_skolemref04_order p = some (flat p, exs p) := by
  unfold F_skolemref04_order
  refine rangeF_pre p (fun pre s => s = (flat pre, exs pre)) (fun _ _ _ => some (flat p, exs p)) (fun s hs => by rw [hs]) ?_ p [] ([], []) rfl rfl
  intro pre x xs s kk hf hI hk
  have hl : (flat pre).length + x.Vars.length ≤ (flat p).length := by rw [hf, flat_app]; simp [flat]
  have ht := turns_len pre
  subst hI
  rw [order_in x (by omega) kk _ _ (by simp only []; omega) (by simp only [exs, List.length_map]; omega)]
  refine hk _ ?_
  rw [flat_app, flat_one]
  simp only [exs, turns_app, List.map_append]
  simp [turnsP]
def upd (f : Int → Bool) (v : Int) (b : Bool) : Int → Bool := fun u => if u = v then b else f u
def litF (f : Int → Bool) (x : Int) : Bool := if x < 0 then !f (-x) else f x
def satF (cs : List (List Int)) (f : Int → Bool) : Bool := cs.all fun c => c.any (litF f)
theorem lits_found (m : List (Int × Bool)) (c : List Int) (hr : ∀ x ∈ c, -65536 ≤ x ∧ x ≤ 65536) {R : Type} (kk : Int → Option R) (A B : Option R) (hA : ∀ j : Nat, kk (j : Int) = A) (hB : kk (-1) = B) :
    (rangeF (fun (j881 : Nat) (x882 : Int) (s878 : Unit) k880 => (jn (fun (s922 : Bool) => (if s922 = true then (kk ((j881 : Nat) : Int)) else (k880 ()))) (fun k924 => (if (decide (x882 < (0 : Int))) = true then (k924 (!((mget m (IntKind.wrap .i64 (0 - x882))).getD false))) else (k924 ((mget m x882).getD false)))))) 0 c () (fun (s878 : Unit) => (kk (-1 : Int))))
      = if (c.any (litF fun v => (mget m v).getD false)) = true then A else B := by
  refine rangeF_pre c (fun _ _ => True) (fun _ xs _ => if (xs.any (litF fun v => (mget m v).getD false)) = true then A else B) (fun _ _ => by simp [hB]) ?_ c [] () rfl trivial
  intro pre x xs s k2 hf hI h2
  have hx := hr x (by rw [hf]; simp)
  have hw : IntKind.wrap .i64 (0 - x) = -x := by rw [wrap_id (by omega) (by omega)]; omega
  rw [List.any_cons]
  simp only [jn_eq, hw, h2 () trivial, hA, litF]
  by_cases h : x < 0
  · simp only [h, decide_true, if_true]
    cases ((mget m (-x)).getD false) <;> simp
  · simp only [h, decide_false, Bool.false_eq_true, if_false]
    cases ((mget m x).getD false) <;> simp
theorem prog_sat (m : List (Int × Bool)) (cs : List (List Int)) (hr : ∀ c ∈ cs, ∀ x ∈ c, -65536 ≤ x ∧ x ≤ 65536) {R : Type} (kk : Bool → Option R) :
    (rangeF (fun (j519 : Nat) (x520 : (List Int)) (s516 : Unit) k518 => (jn (fun (s874 : Int) => (if (!(decide (s874 ≥ (0 : Int)))) = true then (kk false) else (k518 ()))) (fun k876 => (rangeF (fun (j881 : Nat) (x882 : Int) (s878 : Unit) k880 => (jn (fun (s922 : Bool) => (if s922 = true then (k876 ((j881 : Nat) : Int)) else (k880 ()))) (fun k924 => (if (decide (x882 < (0 : Int))) = true then (k924 (!((mget m (IntKind.wrap .i64 (0 - x882))).getD false))) else (k924 ((mget m x882).getD false)))))) 0 x520 () (fun (s878 : Unit) => (k876 (-1 : Int))))))) 0 cs () (fun (s516 : Unit) => (kk true)))
      = kk (satF cs fun v => (mget m v).getD false) := by
  refine rangeF_pre cs (fun _ _ => True) (fun _ xs _ => kk (satF xs fun v => (mget m v).getD false)) (fun _ _ => rfl) ?_ cs [] () rfl trivial
  intro pre x xs s k2 hf hI h2
  have e := lits_found m x (hr x (by rw [hf]; simp)) (fun (s874 : Int) => (if (!(decide (s874 ≥ (0 : Int)))) = true then (kk false) else (k2 ()))) (k2 ()) (kk false) (fun j => by
    have : ((j : Nat) : Int) ≥ 0 := by omega
    simp [this]) (by simp)
  refine e.trans ?_
  rw [h2 () trivial]
  simp only [satF, List.all_cons]
  by_cases h : (x.any (litF fun v => (mget m v).getD false)) = true
  · rw [if_pos h, h, Bool.true_and]
  · rw [if_neg h, Bool.eq_false_iff.2 h, Bool.false_and]
end Go.Sk.X
namespace Go.Sk.X
open Go Go.Sk
structure Gd (q : S_api_Qbf) : Prop where
  one : ∀ v ∈ flat q.Prefix, 1 ≤ v ∧ v ≤ 65536
  nd : (flat q.Prefix).Nodup
  nrm : ∀ c ∈ q.Clauses, nrmB 0 c = true
  wi : ∀ c ∈ q.Clauses, ∀ x ∈ c, av x ∈ flat q.Prefix
theorem gd_of {q : S_api_Qbf} (h : MayQ q = true) : Gd q := by
  unfold MayQ at h
  simp only [Bool.and_eq_true] at h
  obtain ⟨_, h2, h3, h4⟩ := h
  obtain ⟨s1, s2, _⟩ := (sing_iff _ _).1 h2
  exact ⟨s1, s2, List.all_eq_true.1 h3, fun c hc x hx => by
    have := List.all_eq_true.1 (List.all_eq_true.1 h4 c hc) x hx
    simpa using this⟩
theorem Gd.lit {q : S_api_Qbf} (h : Gd q) {c : List Int} (hc : c ∈ q.Clauses) {x : Int} (hx : x ∈ c) : x ≠ 0 ∧ -65536 ≤ x ∧ x ≤ 65536 := by
  obtain ⟨h1, h2⟩ := nrm_mem (h.nrm c hc) x hx
  exact ⟨fun e => by subst e; simp [av] at h1, h2⟩
theorem nodup_inj {α β : Type} (f : α → β) : ∀ {l : List α}, (l.map f).Nodup → ∀ {x y : α}, x ∈ l → y ∈ l → f x = f y → x = y
  | [], _, x, y, hx, _, _ => by simp at hx
  | z :: l, h, x, y, hx, hy, e => by
    rw [List.map_cons, List.nodup_cons] at h
    rcases List.mem_cons.1 hx with rfl | hx' <;> rcases List.mem_cons.1 hy with rfl | hy'
    · rfl
    · exact absurd (e ▸ List.mem_map_of_mem hy') h.1
    · exact absurd (e ▸ List.mem_map_of_mem hx') h.1
    · exact nodup_inj f h.2 hx' hy' e
theorem head_eq : F_skolemlaw04_head = some true := by decide +kernel
end Go.Sk.X
namespace Go.Sk.X
open Go Go.Sk
def asg (d : S_api_Dqbf) (f : Int → (Int → Bool) → Bool) (σ : Int → Bool) (v : Int) : Bool := if v ∈ d.Univ then σ v else f v σ
def litT (a : Int → Bool) (x : Int) : Bool := if x < 0 then !(a (av x)) else a (av x)
def Dpd (d : S_api_Dqbf) (f : Int → (Int → Bool) → Bool) : Prop := ∀ e ∈ d.Exist, ∀ σ τ : Int → Bool, (∀ u ∈ e.On, σ u = τ u) → f e.Var σ = f e.Var τ
def Sat (d : S_api_Dqbf) (f : Int → (Int → Bool) → Bool) : Prop := ∀ σ, ∀ c ∈ d.Clauses, ∃ x ∈ c, litT (asg d f σ) x = true
def Sem (d : S_api_Dqbf) : Prop := ∃ f, Dpd d f ∧ Sat d f
end Go.Sk.X
namespace Go.Sk.X
open Go Go.Sk
def sz (es : List S_api_Dep) : Nat := (es.map fun e => 2 ^ e.On.length).sum
theorem sz_app (a b : List S_api_Dep) : sz (a ++ b) = sz a + sz b := by simp [sz]
theorem sz_cons (a : S_api_Dep) (b : List S_api_Dep) : sz (a :: b) = 2 ^ a.On.length + sz b := by simp [sz]
def ixF (σ : Int → Bool) : List Int → Nat
  | [] => 0
  | x :: xs => (if σ x = true then 1 else 0) + 2 * ixF σ xs
theorem ixF_lt (σ : Int → Bool) : ∀ l : List Int, ixF σ l < 2 ^ l.length
  | [] => by simp [ixF]
  | x :: l => by
    have := ixF_lt σ l
    have e : 2 ^ (l.length + 1) = 2 * 2 ^ l.length := by rw [Nat.pow_succ]; omega
    simp only [ixF, List.length_cons, e]
    split <;> omega
theorem ixF_snoc (σ : Int → Bool) : ∀ (l : List Int) (x : Int), ixF σ (l ++ [x]) = ixF σ l + if σ x = true then 2 ^ l.length else 0
  | [], x => by simp [ixF]
  | y :: l, x => by
    have e : 2 ^ (l.length + 1) = 2 * 2 ^ l.length := by rw [Nat.pow_succ]; omega
    simp only [List.cons_append, ixF, ixF_snoc σ l x, List.length_cons, e]
    by_cases h : σ x = true <;> simp [h] <;> omega
theorem fdiv_pow (m i : Nat) : Int.fdiv (m : Int) (2 ^ i) = ((m >>> i : Nat) : Int) := by
  rw [Nat.shiftRight_eq_div_pow, Int.fdiv_eq_ediv_of_nonneg _ (by have := Nat.two_pow_pos i; exact_mod_cast Nat.zero_le _)]
  rw [Int.natCast_ediv]
  rfl
theorem bit_and (m : Nat) (i : Nat) : ((BitVec.ofInt 64 ((m >>> i : Nat) : Int) &&& BitVec.ofInt 64 (1 : Int)).toNat) = if m.testBit i = true then 1 else 0 := by
  have h1 : BitVec.ofInt 64 (1 : Int) = BitVec.ofNat 64 1 := rfl
  rw [BitVec.ofInt_natCast, h1, BitVec.toNat_and, BitVec.toNat_ofNat, BitVec.toNat_ofNat]
  have : (1 % 2 ^ 64 : Nat) = 1 := rfl
  rw [this, Nat.and_one_is_mod, Nat.testBit_eq_decide_div_mod_eq, Nat.shiftRight_eq_div_pow]
  have : (m / 2 ^ i % 2 ^ 64) % 2 = m / 2 ^ i % 2 := by omega
  rw [this]
  by_cases h : m / 2 ^ i % 2 = 1
  · simp [h]
  · simp [h]; omega
def TOf (es : List S_api_Dep) (ts : List S_api_Table) : Prop := ts.map (fun t => (t.Var, t.On)) = es.map (fun e => (e.Var, e.On)) ∧ ∀ t ∈ ts, t.Bits.length = 2 ^ t.On.length
def bitT (t : S_api_Table) (σ : Int → Bool) : Bool := t.Bits.getD (ixF σ t.On) false
def fOf (ts : List S_api_Table) (v : Int) (σ : Int → Bool) : Bool := match ts.find? (fun t => decide (t.Var = v)) with | some t => bitT t σ | none => false
def pairL (vs : List (Int × Bool)) : List Int := vs.map fun q => if q.2 = true then q.1 else -q.1
def allP (d : S_api_Dqbf) (ts : List S_api_Table) (σ : Int → Bool) : List (Int × Bool) := d.Univ.map (fun u => (u, σ u)) ++ ts.map fun t => (t.Var, bitT t σ)
theorem pairL_mem {vs : List (Int × Bool)} {a : Int → Bool} (h : ∀ q ∈ vs, 0 < q.1 ∧ a q.1 = q.2) {x : Int} (hx : x ≠ 0) (hin : ∃ q ∈ vs, q.1 = av x) : x ∈ pairL vs ↔ litT a x = true := by
  constructor
  · intro hm
    obtain ⟨⟨v, b⟩, hq, rfl⟩ := List.mem_map.1 hm
    obtain ⟨h0, h1⟩ := h _ hq
    simp only at h0 h1 ⊢
    cases b
    · have : av (-v) = v := by rw [av_neg, av_pos h0]
      simp only [Bool.false_eq_true, if_false, litT, this, h1]
      rw [if_pos (by omega)]; rfl
    · simp only [if_true, litT, av_pos h0, h1]
      rw [if_neg (by omega)]
  · intro hm
    obtain ⟨⟨v, b⟩, hq, hv⟩ := hin
    obtain ⟨h0, h1⟩ := h _ hq
    simp only at h0 h1 hv
    refine List.mem_map.2 ⟨(v, b), hq, ?_⟩
    unfold litT at hm
    rw [← hv, h1] at hm
    by_cases hn : x < 0
    · rw [if_pos hn] at hm
      have hb : b = false := by simpa using hm
      subst hb
      simp only [Bool.false_eq_true, if_false, hv]
      unfold av; rw [if_pos hn]; omega
    · rw [if_neg hn] at hm
      subst hm
      simp only [if_true, hv]
      unfold av; rw [if_neg hn]
theorem find_tab {ts : List S_api_Table} (hn : (ts.map (·.Var)).Nodup) {t : S_api_Table} (h : t ∈ ts) : ts.find? (fun t2 => decide (t2.Var = t.Var)) = some t := by
  induction ts with
  | nil => simp at h
  | cons x xs ih =>
    rw [List.map_cons, List.nodup_cons] at hn
    rw [List.find?_cons]
    rcases List.mem_cons.1 h with rfl | h
    · simp
    · have : x.Var ≠ t.Var := fun e => hn.1 (e ▸ List.mem_map.2 ⟨t, h, rfl⟩)
      simp only [this, decide_false]
      exact ih hn.2 h
theorem TOf.vars {es : List S_api_Dep} {ts : List S_api_Table} (h : TOf es ts) : ts.map (·.Var) = es.map (·.Var) := by
  have := congrArg (List.map Prod.fst) h.1
  simpa [List.map_map, Function.comp_def] using this
theorem TOf.mem {es : List S_api_Dep} {ts : List S_api_Table} (h : TOf es ts) {t : S_api_Table} (ht : t ∈ ts) : ∃ e ∈ es, e.Var = t.Var ∧ e.On = t.On := by
  have : (t.Var, t.On) ∈ es.map fun e => (e.Var, e.On) := by rw [← h.1]; exact List.mem_map.2 ⟨t, ht, rfl⟩
  obtain ⟨e, he, h2⟩ := List.mem_map.1 this
  injection h2 with h2 h3
  exact ⟨e, he, h2, h3⟩
theorem TOf.has {es : List S_api_Dep} {ts : List S_api_Table} (h : TOf es ts) {e : S_api_Dep} (he : e ∈ es) : ∃ t ∈ ts, t.Var = e.Var ∧ t.On = e.On := by
  have : (e.Var, e.On) ∈ ts.map fun t => (t.Var, t.On) := by rw [h.1]; exact List.mem_map.2 ⟨e, he, rfl⟩
  obtain ⟨t, ht, h2⟩ := List.mem_map.1 this
  injection h2 with h2 h3
  exact ⟨t, ht, h2, h3⟩
structure Plain (d : S_api_Dqbf) : Prop where
  upos : ∀ u ∈ d.Univ, 0 < u
  vpos : ∀ v ∈ varsD d, 0 < v
  und : d.Univ.Nodup
  vnd : (varsD d).Nodup
  sep : ∀ {v}, v ∈ d.Univ → v ∉ varsD d
  wi : ∀ c ∈ d.Clauses, ∀ x ∈ c, x ≠ 0 ∧ (av x ∈ d.Univ ∨ av x ∈ varsD d)
  on : ∀ e ∈ d.Exist, e.On.Nodup ∧ ∀ u ∈ e.On, u ∈ d.Univ
theorem allP_asg {d : S_api_Dqbf} (hp : Plain d) {ts : List S_api_Table} (ht : TOf d.Exist ts) (σ : Int → Bool) : ∀ q ∈ allP d ts σ, 0 < q.1 ∧ asg d (fOf ts) σ q.1 = q.2 := by
  intro q hq
  have hvs : ts.map (·.Var) = varsD d := ht.vars
  rcases List.mem_append.1 hq with hq | hq
  · obtain ⟨u, hu, rfl⟩ := List.mem_map.1 hq
    exact ⟨hp.upos u hu, by unfold asg; rw [if_pos hu]⟩
  · obtain ⟨t, hm, rfl⟩ := List.mem_map.1 hq
    have hv : t.Var ∈ varsD d := by rw [← hvs]; exact List.mem_map.2 ⟨t, hm, rfl⟩
    refine ⟨hp.vpos _ hv, ?_⟩
    unfold asg fOf
    rw [if_neg (fun hu => hp.sep hu hv), find_tab (by rw [hvs]; exact hp.vnd) hm]
theorem sat_iff {d : S_api_Dqbf} (hp : Plain d) {ts : List S_api_Table} (ht : TOf d.Exist ts) (σ : Int → Bool) : satB d.Clauses (pairL (allP d ts σ)) = true ↔ ∀ c ∈ d.Clauses, ∃ x ∈ c, litT (asg d (fOf ts) σ) x = true := by
  unfold satB
  rw [List.all_eq_true]
  have hvs : ts.map (·.Var) = varsD d := ht.vars
  have key : ∀ c ∈ d.Clauses, ∀ x ∈ c, (x ∈ pairL (allP d ts σ) ↔ litT (asg d (fOf ts) σ) x = true) := fun c hc x hx => by
    obtain ⟨h0, h1⟩ := hp.wi c hc x hx
    refine pairL_mem (allP_asg hp ht σ) h0 ?_
    rcases h1 with h1 | h1
    · exact ⟨(av x, σ (av x)), List.mem_append.2 (.inl (List.mem_map.2 ⟨_, h1, rfl⟩)), rfl⟩
    · rw [← hvs] at h1
      obtain ⟨t, hm, h2⟩ := List.mem_map.1 h1
      exact ⟨(t.Var, bitT t σ), List.mem_append.2 (.inr (List.mem_map.2 ⟨t, hm, rfl⟩)), h2⟩
  constructor
  · intro h c hc
    have := h c hc
    rw [List.any_eq_true] at this
    obtain ⟨x, hx, hm⟩ := this
    exact ⟨x, hx, (key c hc x hx).1 (by simpa using hm)⟩
  · intro h c hc
    obtain ⟨x, hx, hm⟩ := h c hc
    rw [List.any_eq_true]
    exact ⟨x, hx, by simpa using (key c hc x hx).2 hm⟩
def ptL (σ : Int → Bool) (us : List Int) : List Int := us.map fun u => if σ u = true then u else -u
def pointN (m : Nat) : Nat → List Int → List Int
  | _, [] => []
  | j, x :: xs => (if m.testBit j = true then x else -x) :: pointN m (j + 1) xs
theorem pointN_eq (σ : Int → Bool) (us : List Int) (m : Nat) : ∀ (xs : List Int) (pre : List Int), us = pre ++ xs → (∀ i x, us[i]? = some x → σ x = m.testBit i) → pointN m pre.length xs = ptL σ xs
  | [], pre, _, _ => rfl
  | x :: xs, pre, hf, h => by
    have h1 : σ x = m.testBit pre.length := h _ _ (by rw [hf]; simp)
    have := pointN_eq σ us m xs (pre ++ [x]) (by simp [hf]) h
    rw [List.length_append, List.length_singleton] at this
    simp only [pointN, ptL, List.map_cons]
    rw [h1, this]; rfl
theorem allP_eq (d : S_api_Dqbf) (ts : List S_api_Table) (σ : Int → Bool) : pairL (allP d ts σ) = ptL σ d.Univ ++ ts.map fun t => if bitT t σ = true then t.Var else -t.Var := by
  simp [pairL, allP, ptL, Function.comp_def]
theorem on_pt {d : S_api_Dqbf} (hp : Plain d) (σ : Int → Bool) {u : Int} (hu : u ∈ d.Univ) : decide (u ∈ ptL σ d.Univ) = σ u := by
  have h0 := hp.upos u hu
  cases h : σ u
  · refine decide_eq_false (fun hm => ?_)
    obtain ⟨w, hw, he⟩ := List.mem_map.1 hm
    have := hp.upos w hw
    split at he
    · rename_i hh
      rw [he, h] at hh; cases hh
    · omega
  · exact decide_eq_true (List.mem_map.2 ⟨u, hu, by simp [h]⟩)
end Go.Sk.X
namespace Go.Sk.X
open Go Go.Sk
theorem wu0 (n : Int) : 0 ≤ IntKind.wrap .u64 n := by rw [wrapu]; omega
theorem pw_le {n m : Nat} (h : n ≤ m) : 2 ^ n ≤ 2 ^ m := Nat.pow_le_pow_right (by decide) h
theorem pw_eq (n : Nat) (h : n ≤ 62) : IntKind.wrap .i64 ((1 : Int) * 2 ^ (min (IntKind.wrap .u64 ((n : Nat) : Int)).toNat (IntKind.bits .i64))) = ((2 ^ n : Nat) : Int) := by
  have e1 : (IntKind.wrap .u64 ((n : Nat) : Int)).toNat = n := by rw [wrapu]; omega
  have e2 : IntKind.bits .i64 = 64 := rfl
  have e3 : min n 64 = n := by omega
  rw [e1, e2, e3]
  have : 2 ^ n ≤ 2 ^ 62 := pw_le h
  have h4 : (1 : Int) * (2 : Int) ^ n = ((2 ^ n : Nat) : Int) := by simp
  rw [h4]
  generalize 2 ^ n = m at this ⊢
  have h62 : (2 : Nat) ^ 62 = 4611686018427387904 := rfl
  exact wrap_id (by omega) (by omega)
theorem pw_eqT (n : Nat) (h : n ≤ 62) : IntKind.wrap .i64 ((1 : Int) * 2 ^ (min ((n : Nat) : Int).toNat (IntKind.bits .i64))) = ((2 ^ n : Nat) : Int) := by
  have := pw_eq n h
  rwa [show (IntKind.wrap .u64 ((n : Nat) : Int)).toNat = ((n : Nat) : Int).toNat by rw [wrapu]; omega] at this
theorem wi_ok (x : Int) : -9223372036854775808 ≤ (0 : Int) ∧ IntKind.wrap .i64 x ≤ 9223372036854775807 := by
  refine ⟨by decide, ?_⟩
  simp only [IntKind.wrap, IntKind.bits, IntKind.signed]
  simp only [Bool.true_and]
  split <;> rename_i h <;> simp only [ge_iff_le, decide_eq_true_eq] at h <;> omega
def pbit (n : Int) (i : Nat) : Bool := (IntKind.wrap .i64 ((BitVec.ofInt (IntKind.bits .i64) (Int.fdiv n (2 ^ (min (IntKind.wrap .u64 ((i : Nat) : Int)).toNat (IntKind.bits .i64)))) &&& BitVec.ofInt (IntKind.bits .i64) (1 : Int)).toNat : Int)) == (0 : Int)
theorem bit_val (m i : Nat) (hi : i ≤ 62) : IntKind.wrap .i64 ((BitVec.ofInt (IntKind.bits .i64) (Int.fdiv (m : Int) (2 ^ (min (IntKind.wrap .u64 ((i : Nat) : Int)).toNat (IntKind.bits .i64)))) &&& BitVec.ofInt (IntKind.bits .i64) (1 : Int)).toNat : Int) = if m.testBit i = true then 1 else 0 := by
  have e1 : (IntKind.wrap .u64 ((i : Nat) : Int)).toNat = i := by rw [wrapu]; omega
  have e2 : IntKind.bits .i64 = 64 := rfl
  have e3 : min i 64 = i := by omega
  rw [e1, e2, e3, fdiv_pow, bit_and]
  split <;> rfl
theorem pbit_eq (m i : Nat) (hi : i ≤ 62) : pbit (m : Int) i = !m.testBit i := by
  unfold pbit
  rw [bit_val m i hi]
  cases m.testBit i <;> rfl
theorem point_eq (u : List Int) (m : Nat) (hu : ∀ x ∈ u, 0 < x ∧ x ≤ 65536) (hl : u.length ≤ 62) : F_skolemref04_Point u m = some (pointN m 0 u) := by
  refine rangeF_pre u (fun pre s => s.length = pre.length) (fun pre xs s => some (s ++ pointN m pre.length xs)) (fun s _ => by simp [pointN]) ?_ u [] [] rfl rfl
  intro pre x xs s kk hf hI hk
  have hx := hu x (by rw [hf]; simp)
  have hlen : pre.length < u.length := by rw [hf]; simp
  have hw : IntKind.wrap .i64 (0 - x) = -x := by rw [wrap_id (by omega) (by omega)]; omega
  have hc : ∀ y : Int, s.length + [y].length ≤ 1099511627776 := fun y => by rw [hI]; simp; omega
  have hk' : ∀ y : Int, kk (s ++ [y]) = some (s ++ [y] ++ pointN m (pre.length + 1) xs) := fun y => by
    have := hk (s ++ [y]) (by simp [hI])
    simpa using this
  simp only [jn_eq]
  rw [okI_eq (wu0 _), pointN]
  show (if pbit m pre.length = true then _ else _) = _
  rw [pbit_eq m _ (by omega)]
  cases h : m.testBit pre.length
  · simp only [Bool.not_false, if_true, Bool.false_eq_true, if_false]
    rw [capN_eq (hc _), hw, hk']; simp
  · simp only [Bool.not_true, Bool.false_eq_true, if_false, if_true]
    rw [capN_eq (hc _), hk']; simp
theorem at_eq {t : S_api_Table} {p : List Int} (h : t.Bits.length = 2 ^ t.On.length) (hl : t.On.length ≤ 60) {σ : Int → Bool} (hσ : ∀ u ∈ t.On, decide (u ∈ p) = σ u) : F_skolemref04_At t p = some (bitT t σ) := by
  refine rangeF_pre t.On (fun pre s => s = (ixF σ pre : Int)) (fun _ _ _ => some (bitT t σ)) ?_ ?_ t.On [] 0 rfl rfl
  · rintro s rfl
    have hm : ixF σ t.On < t.Bits.length := by rw [h]; exact ixF_lt _ _
    show getI t.Bits ((ixF σ t.On : Nat) : Int) _ = _
    rw [getI_nat, List.getElem?_eq_getElem hm]
    simp [bitT, List.getD_eq_getElem?_getD, List.getElem?_eq_getElem hm]
  · rintro pre x xs s kk hf rfl hk
    have hlen : pre.length < t.On.length := by rw [hf]; simp
    have hx := hσ x (by rw [hf]; simp)
    have hp : 2 ^ pre.length ≤ 2 ^ 60 := pw_le (by omega)
    have hm := ixF_lt σ pre
    have h60 : (2 : Nat) ^ 60 = 1152921504606846976 := rfl
    have hk' := hk _ rfl
    rw [ixF_snoc] at hk'
    simp only [jn_eq]
    rw [has_eq, hx, Option.bind_some]
    cases hs : σ x
    · rw [hs] at hk'
      simpa using hk'
    · rw [hs] at hk'
      rw [if_pos rfl, okI_eq (wu0 _), pw_eq _ (by omega), wrap_id (by omega) (by omega)]
      rw [← hk']
      congr 1
theorem lit_eq (v : Int) (h0 : 0 < v) (h1 : v ≤ 65536) (b : Bool) : F_skolemref04_Lit v b = some (if b = true then v else -v) := by
  unfold F_skolemref04_Lit
  cases b
  · simp only [Bool.false_eq_true, if_false]; rw [wrap_id (by omega) (by omega)]; congr 1; omega
  · simp
structure Few (d : S_api_Dqbf) : Prop where
  on : ∀ e ∈ d.Exist, e.On.length ≤ 4
  univ : d.Univ.length ≤ 8
  bits : sz d.Exist ≤ 16
end Go.Sk.X
namespace Go.Sk.X
open Go Go.Sk
theorem plain_of {d : S_api_Dqbf} (hm : May d) : Plain d where
  upos u hu := (rsB_mem hm.ru u hu).1
  vpos v hv := (rsB_mem hm.rv v hv).1
  und := rsB_nodup hm.ru
  vnd := rsB_nodup hm.rv
  sep := hm.sep
  wi c hc x hx := ⟨(nrm_lit (hm.nrm c hc) hx).1, hm.wi c hc x hx⟩
  on e he := ⟨rsB_nodup (hm.on e he).1, (hm.on e he).2⟩
def sgM (us : List Int) (m : Nat) (u : Int) : Bool := m.testBit (us.idxOf u)
theorem sgM_pt {us : List Int} (hn : us.Nodup) (m : Nat) : pointN m 0 us = ptL (sgM us m) us := by
  refine pointN_eq _ us m us [] rfl (fun i x h => ?_)
  obtain ⟨hi, rfl⟩ := List.getElem?_eq_some_iff.1 h
  unfold sgM
  rw [hn.idxOf_getElem]
def winB (d : S_api_Dqbf) (ts : List S_api_Table) : Bool := (List.range' 0 (2 ^ d.Univ.length)).all fun m => satB d.Clauses (pairL (allP d ts (sgM d.Univ m)))
theorem upF_allN {R : Type} {f : Int → Unit → (Unit → Option R) → Option R} {k : Unit → Option R} {A : Option R} (p : Nat → Bool) (N : Nat)
    (h : ∀ m, m < N → ∀ kk, f (m : Int) () kk = if p m = true then kk () else A) : ∀ n j, j + n = N → upF f n (j : Int) () k = if ((List.range' j n).all p) = true then k () else A
  | 0, j, _ => by rw [upF_zero]; simp
  | n + 1, j, hj => by
    rw [upF_succ, h j (by omega), List.range'_succ, List.all_cons]
    have := upF_allN (k := k) p N h n (j + 1) (by omega)
    rw [show ((j : Int) + 1) = ((j + 1 : Nat) : Int) by omega, this]
    cases p j
    · simp
    · rw [Bool.true_and, if_pos rfl]
theorem win_step {d : S_api_Dqbf} (h : Sm d) (hm : May d) (hf : Few d) {ts : List S_api_Table} (ht : TOf d.Exist ts) (m : Nat) (kk : Unit → Option Bool) :
      (okI (0 ≤ (IntKind.wrap .u64 ((d.Univ.length : Nat) : Int))) ((F_skolemref04_Point d.Univ (m : Int)).bind (fun y128 => (capN (([] : List Int).length + y128.length) (rangeF (fun (j133 : Nat) (x134 : S_api_Table) (s130 : (List Int)) k132 => ((F_skolemref04_At x134 y128).bind (fun y141 => ((F_skolemref04_Lit x134.Var y141).bind (fun y142 => (capN (s130.length + [y142].length) (k132 (s130 ++ [y142])))))))) 0 ts (([] : List Int) ++ y128) (fun (s130 : (List Int)) => ((F_skolemref04_Satisfied d.Clauses s130).bind (fun y144 => (if (!y144) = true then (some false) else (kk ())))))))))) = if satB d.Clauses (pairL (allP d ts (sgM d.Univ m))) = true then kk () else some false := by
  have hp := plain_of hm
  have hu := hf.univ
  have hl := hm.len
  have hvs : ts.map (·.Var) = varsD d := ht.vars
  have hlen : ts.length = d.Exist.length := by have := congrArg List.length ht.1; simpa using this
  rw [okI_eq (wu0 _), point_eq d.Univ m (fun x hx => rsB_mem hm.ru x hx) (by omega), Option.bind_some, sgM_pt hp.und]
  have hpl : (ptL (sgM d.Univ m) d.Univ).length = d.Univ.length := by simp [ptL]
  rw [capN_eq (by simp; omega), List.nil_append]
  refine rangeF_pre ts (fun pre s => s = ptL (sgM d.Univ m) d.Univ ++ pre.map fun t => if bitT t (sgM d.Univ m) = true then t.Var else -t.Var) (fun _ _ _ => if satB d.Clauses (pairL (allP d ts (sgM d.Univ m))) = true then kk () else some false) ?_ ?_ ts [] _ rfl (by simp)
  · rintro s rfl
    rw [← allP_eq, sat_eq _ _ h.tot, Option.bind_some]
    cases satB d.Clauses (pairL (allP d ts (sgM d.Univ m))) <;> simp
  · rintro pre x xs s k2 hfu rfl hk
    have hx : x ∈ ts := by rw [hfu]; simp
    have hpre : pre.length < ts.length := by rw [hfu]; simp
    obtain ⟨e, he, h1, h2⟩ := ht.mem hx
    have hv : x.Var ∈ varsD d := by rw [← hvs]; exact List.mem_map.2 ⟨x, hx, rfl⟩
    have hv := rsB_mem hm.rv _ hv
    have ho := hf.on e he
    rw [at_eq (ht.2 x hx) (by rw [← h2]; omega) (σ := sgM d.Univ m) (fun u hu => on_pt hp _ ((hp.on e he).2 u (h2 ▸ hu))), Option.bind_some, lit_eq _ (by omega) (by omega), Option.bind_some,
      capN_eq (by simp [hpl]; omega)]
    exact hk _ (by simp)
theorem win_eq {d : S_api_Dqbf} (h : Sm d) (hm : May d) (hf : Few d) {ts : List S_api_Table} (ht : TOf d.Exist ts) : F_skolemref04_win d ts = some (winB d ts) := by
  unfold F_skolemref04_win
  have hu := hf.univ
  have hN : (((2 ^ d.Univ.length : Nat) : Int) - 0).toNat = 2 ^ d.Univ.length := by rw [Int.sub_zero, Int.toNat_natCast]
  rw [okI_eq (wi_ok _), pw_eq _ (by omega), hN]
  have := upF_allN (A := some false) (k := fun _ : Unit => okI (0 ≤ (IntKind.wrap .u64 ((d.Univ.length : Nat) : Int))) (some true)) (f := (fun (j104 : Int) (s101 : Unit) k103 => (okI (0 ≤ (IntKind.wrap .u64 ((d.Univ.length : Nat) : Int))) ((F_skolemref04_Point d.Univ j104).bind (fun y128 => (capN (([] : List Int).length + y128.length) (rangeF (fun (j133 : Nat) (x134 : S_api_Table) (s130 : (List Int)) k132 => ((F_skolemref04_At x134 y128).bind (fun y141 => ((F_skolemref04_Lit x134.Var y141).bind (fun y142 => (capN (s130.length + [y142].length) (k132 (s130 ++ [y142])))))))) 0 ts (([] : List Int) ++ y128) (fun (s130 : (List Int)) => ((F_skolemref04_Satisfied d.Clauses s130).bind (fun y144 => (if (!y144) = true then (some false) else (k103 ()))))))))))))
    (fun m => satB d.Clauses (pairL (allP d ts (sgM d.Univ m)))) (2 ^ d.Univ.length) (fun m _ kk => win_step h hm hf ht m kk) (2 ^ d.Univ.length) 0 (by omega)
  refine this.trans ?_
  rw [okI_eq (wu0 _)]
  unfold winB
  cases (List.range' 0 (2 ^ d.Univ.length)).all fun m => satB d.Clauses (pairL (allP d ts (sgM d.Univ m))) <;> simp
end Go.Sk.X
namespace Go.Sk.X
open Go Go.Sk
theorem sz_nil : sz [] = 0 := rfl
def fewB (d : S_api_Dqbf) : Bool := decide (d.Univ.length ≤ 8) && ((d.Exist.all fun e => decide (e.On.length ≤ 4)) && decide (sz d.Exist ≤ 16))
theorem few_of {d : S_api_Dqbf} (h : fewB d = true) : Few d := by
  simp only [fewB, Bool.and_eq_true, decide_eq_true_eq, List.all_eq_true] at h
  exact ⟨h.2.1, h.1, h.2.2⟩
theorem few_eq {d : S_api_Dqbf} (hl : d.Exist.length ≤ 1024) : F_truth_few d = some (if fewB d = true then 0 else 3) := by
  refine rangeF_pre d.Exist (fun pre s => s = (sz pre : Int) ∧ sz pre ≤ 16 * pre.length ∧ ∀ e ∈ pre, e.On.length ≤ 4) (fun _ _ _ => some (if fewB d = true then 0 else 3)) ?_ ?_ d.Exist [] 0 rfl ⟨rfl, by simp [sz], by simp⟩
  · rintro s ⟨rfl, _, ho⟩
    simp only [jn_eq]
    have hall : (d.Exist.all fun e => decide (e.On.length ≤ 4)) = true := by rw [List.all_eq_true]; exact fun e he => by simpa using ho e he
    unfold fewB
    rw [hall, Bool.true_and]
    by_cases h1 : ((d.Univ.length : Nat) : Int) > 8
    · have : ¬ d.Univ.length ≤ 8 := by omega
      simp [h1, this]
    · have h3 : d.Univ.length ≤ 8 := by omega
      by_cases h2 : (sz d.Exist : Int) > 16
      · have : ¬ sz d.Exist ≤ 16 := by omega
        simp [h1, h2, h3, this]
      · have : sz d.Exist ≤ 16 := by omega
        simp [h1, h2, h3, this]
  · rintro pre x xs s kk hf ⟨rfl, hs, ho⟩ hk
    have hlen : pre.length < d.Exist.length := by rw [hf]; simp
    by_cases h1 : ((x.On.length : Nat) : Int) > 4
    · have : fewB d = false := by
        unfold fewB
        have : (d.Exist.all fun e => decide (e.On.length ≤ 4)) = false := by
          rw [List.all_eq_false]; exact ⟨x, by rw [hf]; simp, by simp; omega⟩
        simp [this]
      simp [h1, this]
    have hp : 2 ^ x.On.length ≤ 2 ^ 4 := pw_le (by omega)
    have hq : (2 : Nat) ^ 4 = 16 := rfl
    have h0 : (0 : Int) ≤ ((x.On.length : Nat) : Int) := Int.natCast_nonneg _
    simp only [h1, decide_false, Bool.false_eq_true, if_false]
    rw [okI_eq h0, pw_eqT _ (by omega)]
    generalize hG : 2 ^ x.On.length = g at hp ⊢
    have hs0 : (0 : Int) ≤ (sz pre : Int) := Int.natCast_nonneg _
    refine hk _ ⟨?_, ?_, ?_⟩
    · rw [wrap_id (by omega) (by omega), sz_app, sz_cons, hG, sz_nil]; omega
    · rw [sz_app, sz_cons, hG, List.length_append, List.length_singleton, sz_nil]; omega
    · intro e he
      rcases List.mem_append.1 he with he | he
      · exact ho e he
      · rw [List.mem_singleton] at he; subst he; omega
def bitsOk (d : S_api_Dqbf) : Prop := (∀ e ∈ d.Exist, e.On.length ≤ 4) ∧ sz d.Exist ≤ 16
theorem sz_take {es : List S_api_Dep} (n : Nat) : sz (es.take n) ≤ sz es := by
  have : sz es = sz (es.take n) + sz (es.drop n) := by rw [← sz_app, List.take_append_drop]
  omega
theorem bits_ex {d : S_api_Dqbf} (hl : d.Exist.length ≤ 1024) : Has1 (fun n => n ≤ 16 ↔ bitsOk d) (F_skolemref04_bits d) := by
  refine whileF_ex (fun s : Int × Int => d.Exist.length - s.2.toNat) (fun s => 0 ≤ s.2 ∧ s.2 ≤ d.Exist.length ∧ ((s.1 ≤ 16 ∧ s.1 = (sz (d.Exist.take s.2.toNat) : Int) ∧ ∀ e ∈ d.Exist.take s.2.toNat, e.On.length ≤ 4) ∨ (16 < s.1 ∧ ¬ bitsOk d))) ?_ 1000000000000 (0, 0) ⟨by simp, by simp, .inl ⟨by simp, by simp [sz], by simp⟩⟩ (by simp; omega)
  rintro ⟨f, i⟩ k ⟨h0, h1, h2⟩ hs
  simp only [jn_eq] at h0 h1 h2 hs ⊢
  by_cases h3 : i < ((d.Exist.length : Nat) : Int)
  · rcases h2 with ⟨h16, hz, ho⟩ | ⟨h16, hn⟩
    · obtain ⟨n, rfl⟩ : ∃ n : Nat, i = n := ⟨i.toNat, by omega⟩
      have hlt : n < d.Exist.length := by omega
      have hw : IntKind.wrap .i64 (((n : Nat) : Int) + 1) = ((n + 1 : Nat) : Int) := by rw [wrap_id (by omega) (by omega)]; omega
      rw [Int.toNat_natCast] at hz ho
      have htk : d.Exist.take (n + 1) = d.Exist.take n ++ [d.Exist[n]] := by rw [List.take_add_one, List.getElem?_eq_getElem hlt]; rfl
      have hsz : sz (d.Exist.take (n + 1)) = sz (d.Exist.take n) + 2 ^ d.Exist[n].On.length := by rw [htk, sz_app, sz_cons, sz_nil]; omega
      have hle := sz_take (es := d.Exist) (n + 1)
      simp only [h3, h16, decide_true, if_true, getI_nat, List.getElem?_eq_getElem hlt]
      have hmn : imn ((d.Exist[n].On.length : Nat) : Int) 10 = ((min d.Exist[n].On.length 10 : Nat) : Int) := by unfold imn; split <;> omega
      rw [okI_eq (wu0 _), hmn, pw_eq _ (by omega), hw]
      by_cases h4 : d.Exist[n].On.length ≤ 4
      · have hp : 2 ^ d.Exist[n].On.length ≤ 2 ^ 4 := pw_le h4
        have hq : (2 : Nat) ^ 4 = 16 := rfl
        rw [show min d.Exist[n].On.length 10 = d.Exist[n].On.length by omega]
        generalize hG : 2 ^ d.Exist[n].On.length = g at hp hsz ⊢
        have hz0 : (0 : Int) ≤ (sz (d.Exist.take n) : Int) := Int.natCast_nonneg _
        rw [wrap_id (by omega) (by omega)]
        refine hs _ ⟨by show (0 : Int) ≤ ((n + 1 : Nat) : Int); omega, by show ((n + 1 : Nat) : Int) ≤ (d.Exist.length : Int); omega, ?_⟩ (by simp; omega)
        simp only [Int.toNat_natCast]
        by_cases h5 : f + (g : Int) ≤ 16
        · refine .inl ⟨h5, by omega, fun e he => ?_⟩
          rw [htk] at he
          rcases List.mem_append.1 he with he | he
          · exact ho e he
          · rw [List.mem_singleton] at he; rw [he]; exact h4
        · exact .inr ⟨by omega, fun hb => by have := hb.2; omega⟩
      · have hp : 2 ^ 5 ≤ 2 ^ min d.Exist[n].On.length 10 := pw_le (by omega)
        have hp2 : 2 ^ min d.Exist[n].On.length 10 ≤ 2 ^ 10 := pw_le (by omega)
        have hq : (2 : Nat) ^ 5 = 32 := rfl
        have hq2 : (2 : Nat) ^ 10 = 1024 := rfl
        generalize 2 ^ min d.Exist[n].On.length 10 = g at hp hp2 ⊢
        have hz0 : (0 : Int) ≤ (sz (d.Exist.take n) : Int) := Int.natCast_nonneg _
        rw [wrap_id (by omega) (by omega)]
        refine hs _ ⟨by show (0 : Int) ≤ ((n + 1 : Nat) : Int); omega, by show ((n + 1 : Nat) : Int) ≤ (d.Exist.length : Int); omega, .inr ⟨by show (16 : Int) < f + (g : Int); omega, fun hb => h4 (hb.1 _ (List.getElem_mem hlt))⟩⟩ (by simp; omega)
    · have : ¬ f ≤ 16 := by omega
      simp only [h3, this, decide_true, decide_false, if_true, Bool.false_eq_true, if_false]
      exact ⟨_, rfl, ⟨fun h => absurd h this, fun h => absurd h hn⟩⟩
  · simp only [h3, decide_false, Bool.false_eq_true, if_false]
    refine ⟨_, rfl, ?_⟩
    have : i.toNat = d.Exist.length := by omega
    rcases h2 with ⟨h16, hz, ho⟩ | ⟨h16, hn⟩
    · rw [this, List.take_length] at hz ho
      exact ⟨fun _ => ⟨ho, by omega⟩, fun _ => h16⟩
    · exact ⟨fun h => by omega, fun h => absurd h hn⟩
theorem check_few {d : S_api_Dqbf} (h : Sm d) (hM : MayD d = true) : F_skolemref04_check d = some (if fewB d = true then 0 else 3) := by
  unfold F_skolemref04_check
  have hm := may_of hM
  have hl := hm.len
  obtain ⟨n, hn, hb⟩ := bits_ex (d := d) (by omega)
  have hfw : fewB d = (decide (d.Univ.length ≤ 8) && decide (n ≤ 16)) := by
    unfold fewB
    congr 1
    rw [Bool.eq_iff_iff]
    simp only [Bool.and_eq_true, List.all_eq_true, decide_eq_true_eq]
    exact hb.symm
  simp only [may3_eq h, hM, Option.bind_some, jn_eq, Bool.not_true, Bool.false_eq_true, if_false, hn, hfw]
  by_cases h1 : d.Univ.length ≤ 8
  · have h2 : ¬ ((d.Univ.length : Nat) : Int) > 8 := by omega
    by_cases h3 : n ≤ 16
    · have h4 : ¬ n > 16 := by omega
      simp [h1, h2, h3, h4]
    · have h4 : n > 16 := by omega
      simp [h1, h2, h3, h4]
  · have h2 : ((d.Univ.length : Nat) : Int) > 8 := by omega
    simp [h1, h2]
theorem ints_eq (a b : List Int) : F_skolemref03_Ints a b = some (decide (a = b)) := by
  unfold F_skolemref03_Ints
  by_cases hl : a.length = b.length
  · have : (((a.length : Nat) : Int) != ((b.length : Nat) : Int)) = false := by simp [hl]
    rw [this, if_neg (by decide)]
    refine rangeF_pre a (fun pre _ => pre = b.take pre.length) (fun pre xs _ => some (decide (pre ++ xs = b))) ?_ ?_ a [] () rfl rfl
    · intro s hI
      rw [hl, List.take_length] at hI
      simp [hI]
    · intro pre x xs s kk hf hI hk
      have hlt : pre.length < b.length := by rw [← hl, hf]; simp
      rw [getI_nat, List.getElem?_eq_getElem hlt]
      simp only
      by_cases hx : x = b[pre.length]
      · have h2 : pre ++ [x] = b.take (pre ++ [x]).length := by
          rw [List.length_append, List.length_singleton, List.take_add_one, List.getElem?_eq_getElem hlt, ← hI, hx]; rfl
        have := hk () h2
        rw [if_neg (by simp [hx]), this]
        simp
      · rw [if_pos (by simpa using hx)]
        have : ¬ pre ++ x :: xs = b := fun e => hx (by
          have h3 : (pre ++ x :: xs)[pre.length]? = b[pre.length]? := by rw [e]
          simpa [List.getElem?_eq_getElem hlt] using h3)
        simp [this]
  · have : (((a.length : Nat) : Int) != ((b.length : Nat) : Int)) = true := by simp; omega
    rw [this, if_pos rfl]
    have : ¬ a = b := fun e => hl (by rw [e])
    simp [this]
theorem equal_eq (a b : List Int) : F_slices_Equal_int_int a b = some (decide (a = b)) := ints_eq a b
def likeB (t u : S_api_Table) : Bool := decide (t.Var = u.Var) && (decide (t.On = u.On) && decide (u.Bits.length = 2 ^ u.On.length))
def alikeB (a l : List S_api_Table) : Bool := decide (a.length = l.length) && (a.zip l).all fun p => likeB p.1 p.2
def LSm (l : List S_api_Table) : Prop := l.length ≤ 60 ∧ ∀ t ∈ l, t.Bits.length ≤ 5000 ∧ t.On.length ≤ 100
theorem zip_all {α β : Type} {p : α × β → Bool} {a : List α} {l : List β} {R : Type} {f : Nat → α → Unit → (Unit → Option R) → Option R} {k : Unit → Option R} {A B : Option R} (hl : a.length = l.length) (hk : k () = A)
    (h : ∀ (j : Nat) x y kk, a[j]? = some x → l[j]? = some y → f j x () kk = if p (x, y) = true then kk () else B) : rangeF f 0 a () k = if (a.zip l).all p = true then A else B := by
  refine rangeF_pre a (fun _ _ => True) (fun pre xs _ => if (xs.zip (l.drop pre.length)).all p = true then A else B) (fun s _ => by simp [hk]) ?_ a [] () rfl trivial
  intro pre x xs s kk hf _ hk2
  have hlt : pre.length < l.length := by rw [← hl, hf]; simp
  rw [h pre.length x l[pre.length] kk (by rw [hf]; simp) (List.getElem?_eq_getElem hlt), hk2 () trivial, List.drop_eq_getElem_cons hlt, List.zip_cons_cons, List.all_cons]
  rw [List.length_append, List.length_singleton]
  cases p (x, l[pre.length])
  · simp
  · rw [Bool.true_and, if_pos rfl]
theorem pow_big {n m : Nat} (h : m = 2 ^ n) (hm : m ≤ 5000) : n ≤ 12 := by
  refine Classical.byContradiction fun hh => ?_
  have : 2 ^ 13 ≤ 2 ^ n := pw_le (by omega)
  have hq : (2 : Nat) ^ 13 = 8192 := rfl
  omega
theorem palike_eq {a l : List S_api_Table} (hl : LSm l) : F_truth_alike a l = some (alikeB a l) := by
  unfold F_truth_alike alikeB
  by_cases hL : a.length = l.length
  · have : (((a.length : Nat) : Int) != ((l.length : Nat) : Int)) = false := by simp [hL]
    simp only [jn_eq, this, Bool.false_eq_true, if_false]
    refine (zip_all (p := fun p => likeB p.1 p.2) (A := some true) (B := some false) hL rfl (fun j x y kk hx hy => ?_)).trans ?_
    · have hm := (hl.2 y (List.mem_of_getElem? hy))
      rw [getI_nat, hy]
      simp only [equal_eq, Option.bind_some, likeB]
      by_cases h1 : x.Var = y.Var
      · by_cases h2 : x.On = y.On
        · by_cases h3 : ((y.On.length : Nat) : Int) < 60
          · have h4 : (0 : Int) ≤ ((y.On.length : Nat) : Int) := Int.natCast_nonneg _
            simp only [h1, h2, h3, beq_self_eq_true, decide_true, if_true, Bool.true_and]
            rw [okI_eq h4, pw_eqT _ (by omega)]
            have : (((y.Bits.length : Nat) : Int) == ((2 ^ y.On.length : Nat) : Int)) = decide (y.Bits.length = 2 ^ y.On.length) := by
              rw [Bool.eq_iff_iff]; simp only [beq_iff_eq, decide_eq_true_eq]; omega
            rw [this]
            by_cases h5 : y.Bits.length = 2 ^ y.On.length <;> simp [h5]
          · have : ¬ y.Bits.length = 2 ^ y.On.length := fun e => by have := pow_big e hm.1; omega
            simp [h1, h2, h3, this]
        · simp [h1, h2]
      · simp [h1]
    · simp only [hL, decide_true, Bool.true_and]
      cases (a.zip l).all fun p => likeB p.1 p.2 <;> simp
  · have : (((a.length : Nat) : Int) != ((l.length : Nat) : Int)) = true := by simp; omega
    simp [jn_eq, this, hL]
theorem ralike_eq {a l : List S_api_Table} (hl : LSm l) : F_skolemref04_alike a l = some (alikeB a l) := by
  unfold F_skolemref04_alike alikeB
  by_cases hL : a.length = l.length
  · have : (((a.length : Nat) : Int) != ((l.length : Nat) : Int)) = false := by simp [hL]
    simp only [this, Bool.false_eq_true, if_false]
    refine (zip_all (p := fun p => likeB p.1 p.2) (A := some true) (B := some false) hL rfl (fun j x y kk hx hy => ?_)).trans ?_
    · have hm := (hl.2 y (List.mem_of_getElem? hy))
      simp only [jn_eq, getI_nat, hy, ints_eq, Option.bind_some, likeB]
      by_cases h1 : x.Var = y.Var
      · by_cases h2 : x.On = y.On
        · by_cases h3 : ((y.On.length : Nat) : Int) > 40
          · have : ¬ y.Bits.length = 2 ^ y.On.length := fun e => by have := pow_big e hm.1; omega
            simp [h1, h2, h3, this]
          · simp only [h1, h2, h3, bne_self_eq_false, Bool.false_eq_true, decide_true, decide_false, if_false, Bool.true_and, Bool.not_true]
            rw [okI_eq (wu0 _), pw_eq _ (by omega)]
            have : (((y.Bits.length : Nat) : Int) != ((2 ^ y.On.length : Nat) : Int)) = !decide (y.Bits.length = 2 ^ y.On.length) := by
              rw [Bool.eq_iff_iff]; simp only [bne_iff_ne, Bool.not_eq_true', decide_eq_false_iff_not]; omega
            rw [this]
            by_cases h5 : y.Bits.length = 2 ^ y.On.length <;> simp [h5]
        · simp [h1, h2]
      · simp [h1]
    · simp only [hL, decide_true, Bool.true_and]
      cases (a.zip l).all fun p => likeB p.1 p.2 <;> simp
  · have : (((a.length : Nat) : Int) != ((l.length : Nat) : Int)) = true := by simp; omega
    simp [this, hL]
end Go.Sk.X
namespace Go.Sk.X
open Go Go.Sk
theorem bit_valT (m i : Nat) (hi : i ≤ 62) : IntKind.wrap .i64 ((BitVec.ofInt (IntKind.bits .i64) (Int.fdiv (m : Int) (2 ^ (min ((i : Nat) : Int).toNat (IntKind.bits .i64)))) &&& BitVec.ofInt (IntKind.bits .i64) (1 : Int)).toNat : Int) = if m.testBit i = true then 1 else 0 := by
  have := bit_val m i hi
  rwa [show (IntKind.wrap .u64 ((i : Nat) : Int)).toNat = ((i : Nat) : Int).toNat by rw [wrapu]; omega] at this
theorem or_val {s j : Nat} (hs : s < 2 ^ j) (hj : j ≤ 60) : IntKind.wrap .i64 ((BitVec.ofInt (IntKind.bits .i64) (s : Int) ||| BitVec.ofInt (IntKind.bits .i64) ((2 ^ j : Nat) : Int)).toNat : Int) = ((s + 2 ^ j : Nat) : Int) := by
  have e2 : IntKind.bits .i64 = 64 := rfl
  have hp : 2 ^ j ≤ 2 ^ 60 := pw_le hj
  have h60 : (2 : Nat) ^ 60 = 1152921504606846976 := rfl
  have h64 : (2 : Nat) ^ 64 = 18446744073709551616 := rfl
  rw [e2, BitVec.ofInt_natCast, BitVec.ofInt_natCast, BitVec.toNat_or, BitVec.toNat_ofNat, BitVec.toNat_ofNat, Nat.mod_eq_of_lt (by omega), Nat.mod_eq_of_lt (by omega)]
  have h1 := Nat.two_pow_add_eq_or_of_lt hs 1
  rw [Nat.mul_one] at h1
  have h2 : s ||| 2 ^ j = s + 2 ^ j := by rw [Nat.or_comm, ← h1, Nat.add_comm]
  rw [h2, wrap_id (by omega) (by omega)]
theorem points_map {us : List Int} (hn : us.Nodup) (hl : us.length ≤ 62) (m : Nat) {R : Type} (K : List (Int × Bool) → Option R) (w : Option R) (hK : ∀ mp, (∀ v, (mget mp v).getD false = (decide (v ∈ us) && sgM us m v)) → K mp = w) :
    (rangeF (fun (j28062 : Nat) (x28063 : Int) (s28059 : (List (Int × Bool))) k28061 => (okI (0 ≤ ((j28062 : Nat) : Int)) (k28061 (mset s28059 x28063 ((IntKind.wrap .i64 ((BitVec.ofInt (IntKind.bits .i64) (Int.fdiv (m : Int) (2 ^ (min ((j28062 : Nat) : Int).toNat (IntKind.bits .i64)))) &&& BitVec.ofInt (IntKind.bits .i64) (1 : Int)).toNat : Int)) == (1 : Int)))))) 0 us ([] : List (Int × Bool)) K) = w := by
  refine rangeF_pre us (fun pre s => ∀ v, (mget s v).getD false = (decide (v ∈ pre) && sgM us m v)) (fun _ _ _ => w) (fun s hI => hK s hI) ?_ us [] [] rfl (by intro v; simp [mget])
  intro pre x xs s kk hf hI hk
  have hlt : pre.length < us.length := by rw [hf]; simp
  have hx : us[pre.length]? = some x := by rw [hf]; simp
  have hix : us.idxOf x = pre.length := by
    obtain ⟨hi, he⟩ := List.getElem?_eq_some_iff.1 hx
    rw [← he, hn.idxOf_getElem]
  rw [okI_eq (Int.natCast_nonneg _), bit_valT m _ (by omega)]
  refine hk _ (fun v => ?_)
  rw [mget_mset]
  by_cases hv : v = x
  · subst hv
    rw [if_pos rfl]
    have : sgM us m v = m.testBit pre.length := by unfold sgM; rw [hix]
    rw [this]
    cases m.testBit pre.length <;> simp
  · rw [if_neg hv, hI v]
    simp [hv]
theorem fOf_snoc_self {pre : List S_api_Table} {t : S_api_Table} (h : t.Var ∉ pre.map (·.Var)) (σ : Int → Bool) : fOf (pre ++ [t]) t.Var σ = bitT t σ := by
  unfold fOf
  rw [List.find?_append]
  have : pre.find? (fun u => decide (u.Var = t.Var)) = none := by
    rw [List.find?_eq_none]
    intro u hu
    have : u.Var ≠ t.Var := fun e => h (e ▸ List.mem_map.2 ⟨u, hu, rfl⟩)
    simpa using this
  rw [this]
  simp
theorem fOf_snoc_ne {pre : List S_api_Table} {t : S_api_Table} {v : Int} (h : v ≠ t.Var) (σ : Int → Bool) : fOf (pre ++ [t]) v σ = fOf pre v σ := by
  unfold fOf
  rw [List.find?_append]
  cases hp : pre.find? (fun u => decide (u.Var = v)) with
  | some u => rfl
  | none =>
    have : ¬ t.Var = v := fun e => h e.symm
    simp [this]
theorem tabs_map {us : List Int} {l : List S_api_Table} {σ : Int → Bool} (hnd : (l.map (·.Var)).Nodup) (hsep : ∀ t ∈ l, t.Var ∉ us) (hon : ∀ t ∈ l, (∀ u ∈ t.On, u ∈ us) ∧ t.On.length ≤ 60 ∧ t.Bits.length = 2 ^ t.On.length)
    (mp : List (Int × Bool)) (hmp : ∀ v, (mget mp v).getD false = (decide (v ∈ us) && σ v)) {R : Type} (K : List (Int × Bool) → Option R) (w : Option R) (hK : ∀ mp, (∀ v, (mget mp v).getD false = if v ∈ us then σ v else fOf l v σ) → K mp = w) :
    (rangeF (fun (j31058 : Nat) (x31059 : S_api_Table) (s31055 : (List (Int × Bool))) k31057 => (Option.bind (rangeF (fun (j31201 : Nat) (x31202 : Int) (s31198 : Int) k31200 => (jn (fun (s31219 : Int) => (k31200 s31219)) (fun k31221 => (if ((mget s31055 x31202).getD false) = true then (okI (0 ≤ ((j31201 : Nat) : Int)) (k31221 (IntKind.wrap .i64 ((BitVec.ofInt (IntKind.bits .i64) s31198 ||| BitVec.ofInt (IntKind.bits .i64) (IntKind.wrap .i64 ((1 : Int) * 2 ^ (min ((j31201 : Nat) : Int).toNat (IntKind.bits .i64))))).toNat : Int)))) else (k31221 s31198))))) 0 x31059.On (0 : Int) (fun (s31198 : Int) => (getI x31059.Bits s31198 (fun x31224 => (some x31224))))) (fun (y31197 : Bool) => (k31057 (mset s31055 x31059.Var y31197))))) 0 l mp K) = w := by
  refine rangeF_pre l (fun pre s => ∀ v, (mget s v).getD false = if v ∈ us then σ v else fOf pre v σ) (fun _ _ _ => w) (fun s hI => hK s hI) ?_ l [] mp rfl (by
    intro v; rw [hmp v]; by_cases hv : v ∈ us <;> simp [hv, fOf])
  intro pre t xs s kk hf hI hk
  have ht : t ∈ l := by rw [hf]; simp
  obtain ⟨ho, hl, hb⟩ := hon t ht
  have hpre : t.Var ∉ pre.map (·.Var) := fun hm => by
    rw [hf, List.map_append, List.map_cons] at hnd
    exact (List.nodup_append.1 hnd).2.2 _ hm _ (by simp) rfl
  have hat : (rangeF (fun (j31201 : Nat) (x31202 : Int) (s31198 : Int) k31200 => (jn (fun (s31219 : Int) => (k31200 s31219)) (fun k31221 => (if ((mget s x31202).getD false) = true then (okI (0 ≤ ((j31201 : Nat) : Int)) (k31221 (IntKind.wrap .i64 ((BitVec.ofInt (IntKind.bits .i64) s31198 ||| BitVec.ofInt (IntKind.bits .i64) (IntKind.wrap .i64 ((1 : Int) * 2 ^ (min ((j31201 : Nat) : Int).toNat (IntKind.bits .i64))))).toNat : Int)))) else (k31221 s31198))))) 0 t.On (0 : Int) (fun (s31198 : Int) => (getI t.Bits s31198 (fun x31224 => (some x31224))))) = some (bitT t σ) := by
    refine rangeF_pre t.On (fun p q => q = (ixF σ p : Int)) (fun _ _ _ => some (bitT t σ)) ?_ ?_ t.On [] 0 rfl rfl
    · rintro q rfl
      have hm : ixF σ t.On < t.Bits.length := by rw [hb]; exact ixF_lt _ _
      rw [getI_nat, List.getElem?_eq_getElem hm]
      simp [bitT, List.getD_eq_getElem?_getD, List.getElem?_eq_getElem hm]
    · rintro p x ys q k2 hf2 rfl hk2
      have hlen : p.length < t.On.length := by rw [hf2]; simp
      have hx := ho x (by rw [hf2]; simp)
      have hm := ixF_lt σ p
      have hk' := hk2 _ rfl
      rw [ixF_snoc] at hk'
      simp only [jn_eq]
      rw [hI x, if_pos hx]
      cases hs : σ x
      · rw [hs] at hk'
        simpa using hk'
      · rw [hs] at hk'
        rw [if_pos rfl, okI_eq (Int.natCast_nonneg _), pw_eqT _ (by omega), or_val hm (by omega)]
        exact hk'
  rw [hat, Option.bind_some]
  refine hk _ (fun v => ?_)
  rw [mget_mset]
  by_cases hv : v = t.Var
  · subst hv
    rw [if_pos rfl, if_neg (hsep t ht), fOf_snoc_self hpre]; rfl
  · rw [if_neg hv, hI v, fOf_snoc_ne hv]
theorem satF_iff {d : S_api_Dqbf} (hp : Plain d) {ts : List S_api_Table} (ht : TOf d.Exist ts) {σ : Int → Bool} {g : Int → Bool} (hg : ∀ v, g v = asg d (fOf ts) σ v) : satF d.Clauses g = satB d.Clauses (pairL (allP d ts σ)) := by
  rw [Bool.eq_iff_iff, sat_iff hp ht]
  unfold satF
  simp only [List.all_eq_true, List.any_eq_true]
  have : ∀ x, litF g x = litT (asg d (fOf ts) σ) x := fun x => by
    unfold litF litT av
    by_cases hx : x < 0
    · simp only [if_pos hx, hg]
    · simp only [if_neg hx, hg]
  simp only [this]
theorem prog_pt {d : S_api_Dqbf} (hp : Plain d) {ts : List S_api_Table} (ht : TOf d.Exist ts) (hl : d.Univ.length ≤ 60) (hr : ∀ c ∈ d.Clauses, ∀ x ∈ c, -65536 ≤ x ∧ x ≤ 65536) (m : Nat) {R : Type} (kk : Bool → Option R) :
    (rangeF (fun (j28062 : Nat) (x28063 : Int) (s28059 : (List (Int × Bool))) k28061 => (okI (0 ≤ ((j28062 : Nat) : Int)) (k28061 (mset s28059 x28063 ((IntKind.wrap .i64 ((BitVec.ofInt (IntKind.bits .i64) (Int.fdiv (m : Int) (2 ^ (min ((j28062 : Nat) : Int).toNat (IntKind.bits .i64)))) &&& BitVec.ofInt (IntKind.bits .i64) (1 : Int)).toNat : Int)) == (1 : Int)))))) 0 d.Univ ([] : List (Int × Bool)) (fun (s28059 : (List (Int × Bool))) => (rangeF (fun (j31058 : Nat) (x31059 : S_api_Table) (s31055 : (List (Int × Bool))) k31057 => (Option.bind (rangeF (fun (j31201 : Nat) (x31202 : Int) (s31198 : Int) k31200 => (jn (fun (s31219 : Int) => (k31200 s31219)) (fun k31221 => (if ((mget s31055 x31202).getD false) = true then (okI (0 ≤ ((j31201 : Nat) : Int)) (k31221 (IntKind.wrap .i64 ((BitVec.ofInt (IntKind.bits .i64) s31198 ||| BitVec.ofInt (IntKind.bits .i64) (IntKind.wrap .i64 ((1 : Int) * 2 ^ (min ((j31201 : Nat) : Int).toNat (IntKind.bits .i64))))).toNat : Int)))) else (k31221 s31198))))) 0 x31059.On (0 : Int) (fun (s31198 : Int) => (getI x31059.Bits s31198 (fun x31224 => (some x31224))))) (fun (y31197 : Bool) => (k31057 (mset s31055 x31059.Var y31197))))) 0 ts s28059 (fun (s31055 : (List (Int × Bool))) =>
      (rangeF (fun (j31643 : Nat) (x31644 : (List Int)) (s31640 : Unit) k31642 => (jn (fun (s31998 : Int) => (if (!(decide (s31998 ≥ (0 : Int)))) = true then (kk false) else (k31642 ()))) (fun k32000 => (rangeF (fun (j32005 : Nat) (x32006 : Int) (s32002 : Unit) k32004 => (jn (fun (s32046 : Bool) => (if s32046 = true then (k32000 ((j32005 : Nat) : Int)) else (k32004 ()))) (fun k32048 => (if (decide (x32006 < (0 : Int))) = true then (k32048 (!((mget s31055 (IntKind.wrap .i64 (0 - x32006))).getD false))) else (k32048 ((mget s31055 x32006).getD false)))))) 0 x31644 () (fun (s32002 : Unit) => (k32000 (-1 : Int))))))) 0 d.Clauses () (fun (s31640 : Unit) => (kk true)))))))
      = kk (satB d.Clauses (pairL (allP d ts (sgM d.Univ m)))) := by
  have hvs : ts.map (·.Var) = varsD d := ht.vars
  refine points_map hp.und (by omega) m _ _ (fun mp hmp => ?_)
  refine tabs_map (σ := sgM d.Univ m) (by rw [hvs]; exact hp.vnd) (fun t hm hu => hp.sep hu (by rw [← hvs]; exact List.mem_map.2 ⟨t, hm, rfl⟩)) (fun t hm => ?_) mp hmp _ _ (fun mp2 hmp2 => ?_)
  · obtain ⟨e, he, h1, h2⟩ := ht.mem hm
    have ho := hp.on e he
    have := nodup_len ho.1 ho.2
    exact ⟨fun u hu => ho.2 u (h2 ▸ hu), by rw [← h2]; omega, ht.2 t hm⟩
  · rw [prog_sat mp2 d.Clauses hr, satF_iff hp ht (σ := sgM d.Univ m) (fun v => ?_)]
    rw [hmp2 v]; rfl
theorem pwins_eq {d : S_api_Dqbf} (hm : May d) (hf : Few d) {ts : List S_api_Table} (ht : TOf d.Exist ts) : F_truth_wins d ts = some (winB d ts) := by
  unfold F_truth_wins
  have hu := hf.univ
  have hp := plain_of hm
  have hN : (((2 ^ d.Univ.length : Nat) : Int) - 0).toNat = 2 ^ d.Univ.length := by rw [Int.sub_zero, Int.toNat_natCast]
  rw [okI_eq (Int.natCast_nonneg _), okI_eq (wi_ok _), pw_eqT _ (by omega), hN]
  refine (upF_allN (A := some false) (fun m => satB d.Clauses (pairL (allP d ts (sgM d.Univ m)))) (2 ^ d.Univ.length) (fun m _ kk => ?_) (2 ^ d.Univ.length) 0 (by omega)).trans ?_
  · simp only [jn_eq]
    refine (prog_pt hp ht (by omega) (fun c hc x hx => (nrm_lit (hm.nrm c hc) hx).2) m (fun s => if (!s) = true then (some false) else (kk ()))).trans ?_
    cases satB d.Clauses (pairL (allP d ts (sgM d.Univ m))) <;> simp
  · unfold winB
    cases (List.range' 0 (2 ^ d.Univ.length)).all fun m => satB d.Clauses (pairL (allP d ts (sgM d.Univ m))) <;> simp
def wantD (d : S_api_Dqbf) : List S_api_Table := d.Exist.map fun e => S_api_Table.mk e.Var e.On []
theorem want_loop {R : Type} {d : S_api_Dqbf} (hl : d.Exist.length ≤ 1024) (K : List S_api_Table → Option R) :
    (rangeF (fun (j106 : Nat) (x107 : S_api_Dep) (s103 : (List S_api_Table)) k105 => (capN (s103.length + ([(S_api_Table.mk x107.Var x107.On ([] : List Bool))]).length) (k105 (s103 ++ ([(S_api_Table.mk x107.Var x107.On ([] : List Bool))]))))) 0 d.Exist ([] : List S_api_Table) K) = K (wantD d) := by
  refine rangeF_pre d.Exist (fun pre s => s = pre.map fun e => S_api_Table.mk e.Var e.On []) (fun _ _ _ => K (wantD d)) (fun s hI => by rw [hI]; rfl) ?_ d.Exist [] [] rfl rfl
  rintro pre x xs s kk hf rfl hk
  have hp : pre.length < d.Exist.length := by rw [hf]; simp
  rw [capN_eq (by simp; omega)]
  exact hk _ (by simp)
theorem tof_alike {es : List S_api_Dep} {l : List S_api_Table} (h : alikeB (es.map fun e => S_api_Table.mk e.Var e.On []) l = true) : TOf es l := by
  unfold alikeB at h
  simp only [Bool.and_eq_true, decide_eq_true_eq, List.length_map] at h
  obtain ⟨hl, h⟩ := h
  induction es generalizing l with
  | nil => cases l with
    | nil => exact ⟨rfl, by simp⟩
    | cons => simp at hl
  | cons e es ih => cases l with
    | nil => simp at hl
    | cons t l =>
      simp only [List.map_cons, List.zip_cons_cons, List.all_cons, Bool.and_eq_true, likeB, decide_eq_true_eq] at h
      obtain ⟨⟨h1, h2, h3⟩, h4⟩ := h
      obtain ⟨g1, g2⟩ := ih (by simpa using hl) h4
      refine ⟨by simp only [List.map_cons, g1, h1, h2], fun u hu => ?_⟩
      rcases List.mem_cons.1 hu with rfl | hu
      · exact h3
      · exact g2 u hu
def winsV (d : S_api_Dqbf) (l : List S_api_Table) : Bool × Int :=
  if MayD d = true then (if alikeB (wantD d) l = true then (if fewB d = true then (winB d l, 0) else (false, 3)) else (false, 2)) else (false, 2)
theorem pW_eq {d : S_api_Dqbf} (h : Sm d) {l : List S_api_Table} (hl : LSm l) : F_truth_Wins d l = some (winsV d l) := by
  unfold F_truth_Wins winsV
  rw [mayp_eq h, Option.bind_some]
  cases hM : MayD d
  · rfl
  have hm := may_of hM
  have hlen := hm.len
  simp only [Bool.not_true, Bool.false_eq_true, if_false, if_true]
  rw [want_loop (by omega), palike_eq hl, Option.bind_some]
  cases ha : alikeB (wantD d) l
  · rfl
  simp only [Bool.not_true, Bool.false_eq_true, if_false, if_true]
  rw [few_eq (by omega), Option.bind_some]
  cases hf : fewB d
  · rfl
  have e0 : ((0 : Int) != 0) = false := rfl
  simp only [if_true, e0, Bool.false_eq_true, if_false, pwins_eq hm (few_of hf) (tof_alike ha), Option.bind_some]
theorem rW_eq {d : S_api_Dqbf} (h : Sm d) {l : List S_api_Table} (hl : LSm l) : F_skolemref04_Wins d l = some (winsV d l) := by
  unfold F_skolemref04_Wins winsV
  rw [may3_eq h, Option.bind_some]
  cases hM : MayD d
  · rfl
  have hm := may_of hM
  have hlen := hm.len
  simp only [Bool.not_true, Bool.false_eq_true, if_false, if_true]
  rw [want_loop (by omega), ralike_eq hl, Option.bind_some]
  cases ha : alikeB (wantD d) l
  · rfl
  simp only [Bool.not_true, Bool.false_eq_true, if_false, if_true]
  rw [check_few h hM, Option.bind_some]
  cases hf : fewB d
  · rfl
  have e0 : ((0 : Int) != 0) = false := rfl
  simp only [if_true, e0, Bool.false_eq_true, if_false, win_eq h hm (few_of hf) (tof_alike ha), Option.bind_some]
end Go.Sk.X
namespace Go.Sk.X
open Go Go.Sk
theorem asc_ext : ∀ {a b : List Int}, a.Pairwise (· < ·) → b.Pairwise (· < ·) → (∀ x, x ∈ a ↔ x ∈ b) → a = b
  | [], [], _, _, _ => rfl
  | [], y :: b, _, _, h => by have := (h y).2 (by simp); simp at this
  | x :: a, [], _, _, h => by have := (h x).1 (by simp); simp at this
  | x :: a, y :: b, ha, hb, h => by
    rw [List.pairwise_cons] at ha hb
    have hxy : x = y := by
      have h1 := (h x).1 (by simp)
      have h2 := (h y).2 (by simp)
      rcases List.mem_cons.1 h1 with e | h1
      · exact e
      · rcases List.mem_cons.1 h2 with e | h2
        · exact e.symm
        · have := hb.1 x h1; have := ha.1 y h2; omega
    subst hxy
    rw [asc_ext ha.2 hb.2 (fun z => ?_)]
    constructor
    · intro hz
      rcases List.mem_cons.1 ((h z).1 (List.mem_cons_of_mem _ hz)) with e | hz2
      · have := ha.1 z hz; omega
      · exact hz2
    · intro hz
      rcases List.mem_cons.1 ((h z).2 (List.mem_cons_of_mem _ hz)) with e | hz2
      · have := hb.1 z hz; omega
      · exact hz2
theorem srt_len (l : List Int) : (srt l).length = l.length := (List.mergeSort_perm _ _).length_eq
theorem srt_mem {l : List Int} {x : Int} : x ∈ srt l ↔ x ∈ l := (List.mergeSort_perm _ _).mem_iff
theorem srt_nodup {l : List Int} (h : l.Nodup) : (srt l).Nodup := (List.mergeSort_perm _ _).nodup_iff.2 h
theorem srt_asc {l : List Int} (h : l.Nodup) : (srt l).Pairwise (· < ·) := by
  have h1 : (srt l).Pairwise (fun a b => decide (a ≤ b) = true) := List.pairwise_mergeSort (fun a b c h1 h2 => by simp at h1 h2 ⊢; omega) (fun a b => by simp; omega) l
  have h2 := srt_nodup h
  have h3 := List.Pairwise.and h1 h2
  exact h3.imp (fun {a b} hh => by
    have := hh.1; have h4 := hh.2
    simp at this
    omega)
theorem put_eq {a : List Int} (ha : a.Pairwise (· < ·)) (hl : a.length ≤ 1000) {v : Int} (hv : v ∉ a) : F_skolemref03_Put a v = some (a.filter (fun x => decide (x < v)) ++ v :: a.filter (fun x => decide (v < x))) := by
  unfold F_skolemref03_Put
  have hfl : ∀ l : List Int, (∀ x ∈ l, x < v) → l.filter (fun x => decide (x < v)) = l ∧ l.filter (fun x => decide (v < x)) = [] := fun l h => by
    constructor
    · exact List.filter_eq_self.2 (fun x hx => by simpa using h x hx)
    · rw [List.filter_eq_nil_iff]; intro x hx; have := h x hx; simp; omega
  refine rangeF_pre a (fun pre s => s.2.length ≤ pre.length + 1 ∧ ((s.1 = false ∧ (∀ x ∈ pre, x < v) ∧ s.2 = pre) ∨ (s.1 = true ∧ (∃ x ∈ pre, v < x) ∧ s.2 = pre.filter (fun x => decide (x < v)) ++ v :: pre.filter (fun x => decide (v < x))))) (fun _ _ _ => some (a.filter (fun x => decide (x < v)) ++ v :: a.filter (fun x => decide (v < x)))) ?_ ?_ a [] (false, []) rfl ⟨by simp, .inl ⟨rfl, by simp, rfl⟩⟩
  · rintro ⟨s1, s2⟩ ⟨h0, ⟨h1, h2, h3⟩ | ⟨h1, h2, h3⟩⟩
    · simp only at h0 h1 h2 h3 ⊢
      subst h1; subst h3
      rw [(hfl _ h2).1, (hfl _ h2).2, capN_eq (by simp; omega)]
      rfl
    · simp only at h0 h1 h2 h3 ⊢
      subst h1; subst h3; rfl
  · rintro pre x xs ⟨s1, s2⟩ kk hf ⟨h0, hI⟩ hk
    simp only at h0 hI ⊢
    have hlt : pre.length < a.length := by rw [hf]; simp
    have hxv : x ≠ v := fun e => hv (by rw [hf, ← e]; simp)
    have hpx : ∀ y ∈ pre, y < x := fun y hy => by
      rw [hf] at ha
      exact (List.pairwise_append.1 ha).2.2 y hy x (by simp)
    have e1 : (x == v) = false := by simpa using hxv
    simp only [e1, Bool.false_eq_true, if_false, jn_eq]
    rcases hI with ⟨h1, h2, h3⟩ | ⟨h1, h2, h3⟩
    · subst h1; subst h3
      simp only [Bool.not_false, if_true]
      by_cases hx : x > v
      · simp only [hx, decide_true, if_true]
        rw [capN_eq (by simp; omega), capN_eq (by simp; omega)]
        refine hk _ ⟨by simp, .inr ⟨rfl, ⟨x, by simp, hx⟩, ?_⟩⟩
        have n1 : ¬ x < v := by omega
        have n2 : v < x := hx
        simp [List.filter_append, (hfl _ h2).1, (hfl _ h2).2, n1, n2]
      · simp only [hx, decide_false, Bool.false_eq_true, if_false]
        rw [capN_eq (by simp; omega)]
        refine hk _ ⟨by simp, .inl ⟨rfl, fun y hy => ?_, rfl⟩⟩
        rcases List.mem_append.1 hy with hy | hy
        · exact h2 y hy
        · rw [List.mem_singleton] at hy; omega
    · subst h1
      obtain ⟨y, hy, hvy⟩ := h2
      have := hpx y hy
      have n1 : ¬ x < v := by omega
      have n2 : v < x := by omega
      simp only [Bool.not_true, Bool.false_eq_true, if_false]
      rw [capN_eq (by simp; omega)]
      refine hk _ ⟨by simp; omega, .inr ⟨rfl, ⟨y, by simp [hy], hvy⟩, ?_⟩⟩
      rw [h3]
      simp [List.filter_append, n1, n2]
theorem put_srt {b : List Int} (hl : b.length ≤ 1000) {v : Int} (hn : (b ++ [v]).Nodup) : F_skolemref03_Put (srt b) v = some (srt (b ++ [v])) := by
  have h1 := List.nodup_append.1 hn
  have hv : v ∉ b := fun h => h1.2.2 v h v (by simp) rfl
  have ha := srt_asc h1.1
  rw [put_eq ha (by rw [srt_len]; exact hl) (fun h => hv (srt_mem.1 h))]
  congr 1
  refine asc_ext ?_ (srt_asc hn) (fun x => ?_)
  · rw [List.pairwise_append, List.pairwise_cons]
    refine ⟨ha.filter _, ⟨fun y hy => by have := (List.mem_filter.1 hy).2; simpa using this, ha.filter _⟩, fun x hx y hy => ?_⟩
    have h2 : x < v := by have := (List.mem_filter.1 hx).2; simpa using this
    rcases List.mem_cons.1 hy with rfl | hy
    · exact h2
    · have h3 : v < y := by have := (List.mem_filter.1 hy).2; simpa using this
      omega
  · rw [srt_mem]
    simp only [List.mem_append, List.mem_cons, List.mem_filter, srt_mem, decide_eq_true_eq, List.not_mem_nil, or_false]
    constructor
    · rintro (⟨h, _⟩ | rfl | ⟨h, _⟩)
      · exact .inl h
      · exact .inr rfl
      · exact .inl h
    · rintro (h | rfl)
      · have : x ≠ v := fun e => hv (e ▸ h)
        rcases Int.lt_or_gt_of_ne this with h2 | h2
        · exact .inl ⟨h, h2⟩
        · exact .inr (.inr ⟨h, h2⟩)
      · exact .inr (.inl rfl)
def exV (ts : List S_truth_turn) : List Int := (ts.filter (·.f_exists)).map (·.v)
theorem exV_snoc (pre : List S_truth_turn) (t : S_truth_turn) : exV (pre ++ [t]) = exV pre ++ if t.f_exists = true then [t.v] else [] := by
  unfold exV
  cases h : t.f_exists <;> simp [h]
theorem exV_len (ts : List S_truth_turn) : (exV ts).length ≤ ts.length := by unfold exV; rw [List.length_map]; exact List.length_filter_le _ _
def tabsT (b : List Int) : List S_truth_turn → List S_api_Table
  | [] => []
  | t :: ts => if t.f_exists = true then tabsT (b ++ [t.v]) ts else S_api_Table.mk t.v (srt b) [] :: tabsT b ts
def cntT (c : Nat) (b : List Int) : List S_truth_turn → Nat
  | [] => 0
  | t :: ts => if t.f_exists = true then cntT c (b ++ [t.v]) ts else 2 ^ min b.length c + cntT c b ts
theorem cnt_same : ∀ (ts : List S_truth_turn) (b : List Int), (cntT 13 b ts = cntT 20 b ts) ∨ (4096 < cntT 13 b ts ∧ 4096 < cntT 20 b ts)
  | [], b => .inl rfl
  | t :: ts, b => by
    simp only [cntT]
    by_cases h : t.f_exists = true
    · simp only [h, if_true]; exact cnt_same ts _
    · simp only [h, Bool.false_eq_true, if_false]
      by_cases hb : b.length < 13
      · rw [show min b.length 13 = b.length by omega, show min b.length 20 = b.length by omega]
        rcases cnt_same ts b with h1 | ⟨h1, h2⟩
        · exact .inl (by rw [h1])
        · have := Nat.two_pow_pos b.length
          exact .inr ⟨by omega, by omega⟩
      · have h1 : 2 ^ 13 ≤ 2 ^ min b.length 13 := pw_le (by omega)
        have h2 : 2 ^ 13 ≤ 2 ^ min b.length 20 := pw_le (by omega)
        have hq : (2 : Nat) ^ 13 = 8192 := rfl
        exact .inr ⟨by omega, by omega⟩
theorem clone_eq {a : List Int} (hl : a.length ≤ 1000) : F_slices_Clone_int_int a = some a := by
  unfold F_slices_Clone_int_int
  cases a with
  | nil => rfl
  | cons x xs =>
    rw [if_neg (by simp), capN_eq (by simpa using by simp at hl; omega)]
    rfl
theorem univ_eq {q : S_api_Qbf} (h : (flat q.Prefix).length ≤ 100) : F_truth_universal q = some (tabsT [] (turnsP q.Prefix), (cntT 13 [] (turnsP q.Prefix) : Int)) := by
  unfold F_truth_universal
  rw [of_eq q h, Option.bind_some]
  have hlen := turns_len q.Prefix
  simp only
  generalize turnsP q.Prefix = ts at hlen
  refine rangeF_pre ts (fun pre s => s.2.1 = exV pre ∧ s.2.2.length ≤ pre.length ∧ 0 ≤ s.1 ∧ s.1 ≤ 8192 * (pre.length : Int)) (fun pre xs s => some (s.2.2 ++ tabsT (exV pre) xs, s.1 + (cntT 13 (exV pre) xs : Int))) ?_ ?_ ts [] (0, [], []) rfl ⟨rfl, by simp, by simp, by simp⟩ |>.trans ?_
  · rintro ⟨n, b, l⟩ _
    simp [tabsT, cntT]
  · rintro pre t xs ⟨n, b, l⟩ kk hf ⟨h1, h2, h3, h4⟩ hk
    simp only at h1 h2 h3 h4
    subst h1
    have hlt : pre.length < ts.length := by rw [hf]; simp
    have he := exV_len pre
    simp only [jn_eq, tabsT, cntT]
    by_cases hx : t.f_exists = true
    · simp only [hx, if_true]
      rw [capN_eq (by simp; omega)]
      have := hk (n, exV pre ++ [t.v], l) ⟨by rw [exV_snoc, if_pos hx], by simp; omega, h3, by simp; omega⟩
      rw [exV_snoc, if_pos hx] at this
      exact this
    · simp only [hx, Bool.false_eq_true, if_false]
      have hp : 2 ^ min (exV pre).length 13 ≤ 2 ^ 13 := pw_le (by omega)
      have hq : (2 : Nat) ^ 13 = 8192 := rfl
      have hmn : imn (((srt (exV pre)).length : Nat) : Int) 13 = ((min (exV pre).length 13 : Nat) : Int) := by rw [srt_len]; unfold imn; split <;> omega
      rw [clone_eq (by omega), Option.bind_some, okI_eq (by omega), capN_eq (by simp; omega), hmn, okI_eq (Int.natCast_nonneg _), pw_eqT _ (by omega)]
      generalize 2 ^ min (exV pre).length 13 = g at hp ⊢
      rw [wrap_id (by omega) (by omega)]
      have := hk (n + (g : Int), exV pre, l ++ [S_api_Table.mk t.v (srt (exV pre)) []]) ⟨by rw [exV_snoc, if_neg hx, List.append_nil], by simp; omega, by simp only; omega, by simp only [List.length_append, List.length_singleton]; omega⟩
      rw [exV_snoc, if_neg hx, List.append_nil] at this
      refine this.trans ?_
      simp
      omega
  · simp [exV]
theorem turns_loop {S R : Type} (g : S_truth_turn → S → (S → Option R) → Option R) (k : S → Option R) (p : List S_api_Block) (s : S) :
    rangeF (fun _ (x : S_api_Block) s k => rangeF (fun _ (y : Int) s k => g ⟨y, x.Exists⟩ s k) 0 x.Vars s (fun s => k s)) 0 p s k = rangeF (fun _ t s k => g t s k) 0 (turnsP p) s k := by
  unfold turnsP
  rw [← rangeF_flat (fun b : S_api_Block => b.Vars.map fun v => (⟨v, b.Exists⟩ : S_truth_turn)) g k p 0 0 s]
  congr 1
  funext j x s k
  exact rangeF_map (fun v => (⟨v, x.Exists⟩ : S_truth_turn)) g (fun s => k s) x.Vars 0 s
end Go.Sk.X
namespace Go.Sk.X
open Go Go.Sk
theorem srt_nil : srt [] = [] := by simp [srt]
theorem exV_sub {ts : List S_truth_turn} (hn : (ts.map (·.v)).Nodup) : (exV ts).Nodup := by
  unfold exV
  exact hn.sublist (List.Sublist.map _ (List.filter_sublist))
theorem put_turn {ts pre xs : List S_truth_turn} {t : S_truth_turn} (hf : ts = pre ++ t :: xs) (hn : (ts.map (·.v)).Nodup) (hl : ts.length ≤ 100) (hx : t.f_exists = true) : F_skolemref03_Put (srt (exV pre)) t.v = some (srt (exV pre ++ [t.v])) := by
  have he := exV_len pre
  have hlt : pre.length < ts.length := by rw [hf]; simp
  have h2 : (exV (pre ++ [t])).Nodup := exV_sub (by
    refine hn.sublist ?_
    rw [hf]
    exact List.Sublist.map _ (by simp))
  rw [exV_snoc, if_pos hx] at h2
  exact put_srt (by omega) h2
theorem moves_eq {q : S_api_Qbf} (h : (flat q.Prefix).length ≤ 100) (hn : (flat q.Prefix).Nodup) : F_skolemref04_moves q = some (if cntT 20 [] (turnsP q.Prefix) ≤ 4096 then (tabsT [] (turnsP q.Prefix), true) else ([], false)) := by
  unfold F_skolemref04_moves
  refine (turns_loop (S := List Int × Int × List S_api_Table) (fun (t : S_truth_turn) (s351 : ((List Int) × Int × (List S_api_Table))) k353 => (jn (fun (s392 : ((List Int) × Int × (List S_api_Table))) => (k353 (s392.1, s392.2.1, s392.2.2))) (fun k394 => (if t.f_exists = true then ((F_skolemref03_Put s351.1 t.v).bind (fun y396 => (k394 (y396, s351.2.1, s351.2.2)))) else (capN (s351.1.length) (okI (0 ≤ (IntKind.wrap .u64 (imn ((s351.1.length : Nat) : Int) (20 : Int)))) (if (decide ((IntKind.wrap .i64 (s351.2.1 + (IntKind.wrap .i64 ((1 : Int) * 2 ^ (min (IntKind.wrap .u64 (imn ((s351.1.length : Nat) : Int) (20 : Int))).toNat (IntKind.bits .i64)))))) > (4096 : Int))) = true then (some (([] : List S_api_Table), false)) else (capN (s351.2.2.length + ([(S_api_Table.mk t.v s351.1 ([] : List Bool))]).length) (k394 (s351.1, (IntKind.wrap .i64 (s351.2.1 + (IntKind.wrap .i64 ((1 : Int) * 2 ^ (min (IntKind.wrap .u64 (imn ((s351.1.length : Nat) : Int) (20 : Int))).toNat (IntKind.bits .i64)))))), (s351.2.2 ++ ([(S_api_Table.mk t.v s351.1 ([] : List Bool))])))))))))))) _ q.Prefix _).trans ?_
  have hlen := turns_len q.Prefix
  have hnd : ((turnsP q.Prefix).map (·.v)).Nodup := by rw [turns_v]; exact hn
  generalize turnsP q.Prefix = ts at hlen hnd
  refine (rangeF_pre ts (fun pre s => s.1 = srt (exV pre) ∧ s.2.2.length ≤ pre.length ∧ 0 ≤ s.2.1 ∧ s.2.1 ≤ 4096) (fun pre xs s => some (if s.2.1 + (cntT 20 (exV pre) xs : Int) ≤ 4096 then (s.2.2 ++ tabsT (exV pre) xs, true) else ([], false))) ?_ ?_ ts [] ([], 0, []) rfl ⟨srt_nil.symm, by simp, by simp, by simp⟩).trans ?_
  · rintro ⟨b, n, l⟩ ⟨h1, h2, h3, h4⟩
    simp only at h1 h2 h3 h4
    have : n + ((0 : Nat) : Int) ≤ 4096 := by omega
    simp only [tabsT, cntT, this, if_true, List.append_nil]
  · rintro pre t xs ⟨b, n, l⟩ kk hf ⟨h1, h2, h3, h4⟩ hk
    simp only at h1 h2 h3 h4
    subst h1
    have hlt : pre.length < ts.length := by rw [hf]; simp
    have he := exV_len pre
    have hsl := srt_len (exV pre)
    simp only [jn_eq, tabsT, cntT]
    by_cases hx : t.f_exists = true
    · simp only [hx, if_true]
      rw [put_turn hf hnd (by omega) hx, Option.bind_some]
      have := hk (srt (exV pre ++ [t.v]), n, l) ⟨by rw [exV_snoc, if_pos hx], by simp; omega, h3, h4⟩
      rw [exV_snoc, if_pos hx] at this
      exact this
    · simp only [hx, Bool.false_eq_true, if_false]
      have hp : 2 ^ min (exV pre).length 20 ≤ 2 ^ 20 := pw_le (by omega)
      have hq : (2 : Nat) ^ 20 = 1048576 := rfl
      have hmn : imn (((srt (exV pre)).length : Nat) : Int) 20 = ((min (exV pre).length 20 : Nat) : Int) := by rw [srt_len]; unfold imn; split <;> omega
      rw [capN_eq (by omega), hmn, okI_eq (wu0 _), pw_eq _ (by omega)]
      generalize 2 ^ min (exV pre).length 20 = g at hp ⊢
      rw [wrap_id (by omega) (by omega)]
      by_cases h5 : n + (g : Int) > 4096
      · have : ¬ n + ((g + cntT 20 (exV pre) xs : Nat) : Int) ≤ 4096 := by omega
        simp only [h5, decide_true, if_true, this, if_false]
      · simp only [h5, decide_false, Bool.false_eq_true, if_false]
        rw [capN_eq (by simp; omega)]
        have := hk (srt (exV pre), n + (g : Int), l ++ [S_api_Table.mk t.v (srt (exV pre)) []]) ⟨by rw [exV_snoc, if_neg hx, List.append_nil], by simp; omega, by simp only; omega, by simp only; omega⟩
        rw [exV_snoc, if_neg hx, List.append_nil] at this
        refine this.trans ?_
        simp only [List.append_assoc, List.singleton_append]
        have e : n + (g : Int) + (cntT 20 (exV pre) xs : Int) = n + ((g + cntT 20 (exV pre) xs : Nat) : Int) := by omega
        rw [e]
  · have hz : exV [] = [] := rfl
    simp only [hz, List.nil_append]
    have e : (0 : Int) + (cntT 20 [] ts : Int) ≤ 4096 ↔ cntT 20 [] ts ≤ 4096 := by omega
    simp only [e]
theorem alike_cons (t : S_api_Table) (a l : List S_api_Table) : alikeB (t :: a) l = match l with | [] => false | u :: l => likeB t u && alikeB a l := by
  unfold alikeB
  cases l with
  | nil => simp
  | cons u l =>
    simp only [List.length_cons, List.zip_cons_cons, List.all_cons]
    have : decide (a.length + 1 = l.length + 1) = decide (a.length = l.length) := by rw [Bool.eq_iff_iff]; simp
    rw [this, Bool.and_left_comm]
theorem alike_nil (l : List S_api_Table) : alikeB [] l = decide (l = []) := by
  unfold alikeB
  cases l <;> simp
theorem named_eq {q : S_api_Qbf} (h : (flat q.Prefix).length ≤ 100) (hn : (flat q.Prefix).Nodup) {l : List S_api_Table} (hl : LSm l) : F_skolemref04_named q l = some (alikeB (tabsT [] (turnsP q.Prefix)) l) := by
  unfold F_skolemref04_named
  refine (turns_loop (S := List Int × Int) (fun (t : S_truth_turn) (s911 : ((List Int) × Int)) k913 => (jn (fun (s1112 : ((List Int) × Int)) => (k913 (s1112.1, s1112.2))) (fun k1114 => (if t.f_exists = true then ((F_skolemref03_Put s911.1 t.v).bind (fun y1116 => (k1114 (y1116, s911.2)))) else (jn (fun (s1142 : Bool) => (if s1142 = true then (some false) else (k1114 (s911.1, (IntKind.wrap .i64 (s911.2 + (1 : Int))))))) (fun k1144 => (if (s911.2 == ((l.length : Nat) : Int)) = true then (k1144 true) else (getI l s911.2 (fun x1147 => (if (x1147.Var != t.v) = true then (k1144 true) else ((F_skolemref03_Ints x1147.On s911.1).bind (fun y1149 => (if (!y1149) = true then (k1144 true) else (if (decide (((s911.1.length : Nat) : Int) > (40 : Int))) = true then (k1144 true) else (okI (0 ≤ (IntKind.wrap .u64 ((s911.1.length : Nat) : Int))) (k1144 (((x1147.Bits.length : Nat) : Int) != (IntKind.wrap .i64 ((1 : Int) * 2 ^ (min (IntKind.wrap .u64 ((s911.1.length : Nat) : Int)).toNat (IntKind.bits .i64))))))))))))))))))))) _ q.Prefix _).trans ?_
  have hlen := turns_len q.Prefix
  have hnd : ((turnsP q.Prefix).map (·.v)).Nodup := by rw [turns_v]; exact hn
  generalize turnsP q.Prefix = ts at hlen hnd
  have hl1 := hl.1
  refine (rangeF_pre (S := List Int × Int) ts (fun pre s => s.1 = srt (exV pre) ∧ 0 ≤ s.2 ∧ s.2 ≤ l.length) (fun pre xs s => some (alikeB (tabsT (exV pre) xs) (l.drop s.2.toNat))) ?_ ?_ ts [] ([], (0 : Int)) rfl ⟨srt_nil.symm, by simp, by simp⟩).trans ?_
  · rintro ⟨b, n⟩ ⟨h1, h2, h3⟩
    simp only at h1 h2 h3 ⊢
    rw [tabsT, alike_nil]
    congr 1
    rw [Bool.eq_iff_iff]
    simp only [beq_iff_eq, decide_eq_true_eq, List.drop_eq_nil_iff]
    omega
  · rintro pre t xs ⟨b, n⟩ kk hf ⟨h1, h2, h3⟩ hk
    simp only at h1 h2 h3
    subst h1
    have hlt : pre.length < ts.length := by rw [hf]; simp
    have he := exV_len pre
    have hsl := srt_len (exV pre)
    simp only [jn_eq, tabsT]
    by_cases hx : t.f_exists = true
    · simp only [hx, if_true]
      rw [put_turn hf hnd (by omega) hx, Option.bind_some]
      have := hk (srt (exV pre ++ [t.v]), n) ⟨by rw [exV_snoc, if_pos hx], h2, h3⟩
      rw [exV_snoc, if_pos hx] at this
      exact this
    · simp only [hx, Bool.false_eq_true, if_false]
      rw [alike_cons]
      obtain ⟨i, rfl⟩ : ∃ i : Nat, n = i := ⟨n.toNat, by omega⟩
      rw [Int.toNat_natCast]
      by_cases h5 : i = l.length
      · have e : (((i : Nat) : Int) == ((l.length : Nat) : Int)) = true := by simp [h5]
        simp only [e, if_true]
        rw [h5, List.drop_length]
      · have e : (((i : Nat) : Int) == ((l.length : Nat) : Int)) = false := by simp; omega
        have hi : i < l.length := by omega
        have hm := hl.2 l[i] (List.getElem_mem hi)
        have hw : IntKind.wrap .i64 (((i : Nat) : Int) + 1) = ((i + 1 : Nat) : Int) := by rw [wrap_id (by omega) (by omega)]; omega
        simp only [e, Bool.false_eq_true, if_false, getI_nat, List.getElem?_eq_getElem hi, ints_eq, Option.bind_some, hw]
        rw [List.drop_eq_getElem_cons hi]
        simp only [likeB]
        have hk' := hk (srt (exV pre), ((i + 1 : Nat) : Int)) ⟨by rw [exV_snoc, if_neg hx, List.append_nil], by simp only; omega, by simp only; omega⟩
        rw [exV_snoc, if_neg hx, List.append_nil] at hk'
        simp only [Int.toNat_natCast] at hk'
        by_cases g1 : l[i].Var = t.v
        · have g1' : t.v = l[i].Var := g1.symm
          by_cases g2 : l[i].On = srt (exV pre)
          · have g2' : srt (exV pre) = l[i].On := g2.symm
            by_cases g3 : (((srt (exV pre)).length : Nat) : Int) > 40
            · have : ¬ l[i].Bits.length = 2 ^ l[i].On.length := fun e => by
                have := pow_big e hm.1
                rw [g2] at this; omega
              simp [g1, g2, g3, this]
              exact fun h => absurd (by rw [g2]; exact h) this
            · simp only [g1, g2, g3, bne_self_eq_false, Bool.false_eq_true, decide_true, decide_false, if_false, Bool.true_and, Bool.not_true]
              rw [okI_eq (wu0 _), pw_eq _ (by omega)]
              have e3 : (((l[i].Bits.length : Nat) : Int) != ((2 ^ (srt (exV pre)).length : Nat) : Int)) = !decide (l[i].Bits.length = 2 ^ (srt (exV pre)).length) := by
                rw [Bool.eq_iff_iff]; simp only [bne_iff_ne, Bool.not_eq_true', decide_eq_false_iff_not]; omega
              rw [e3, hk']
              by_cases h5 : l[i].Bits.length = 2 ^ (srt (exV pre)).length <;> simp [h5]
          · have g2' : ¬ srt (exV pre) = l[i].On := fun e => g2 e.symm
            simp [g1, g2, g2']
        · have g1' : ¬ t.v = l[i].Var := fun e => g1 e.symm
          simp [g1, g1']
  · have : exV [] = [] := rfl
    simp [this]
end Go.Sk.X
namespace Go.Sk.X
open Go Go.Sk
def unV (ts : List S_truth_turn) : List Int := (ts.filter fun t => !t.f_exists).map (·.v)
theorem tabs_var : ∀ (ts : List S_truth_turn) (b : List Int), (tabsT b ts).map (·.Var) = unV ts
  | [], b => rfl
  | t :: ts, b => by
    unfold tabsT unV
    cases h : t.f_exists
    · simp only [Bool.false_eq_true, if_false, List.map_cons, tabs_var ts b]
      rw [List.filter_cons]; simp [h, unV]
    · simp only [if_true, tabs_var ts _]
      rw [List.filter_cons]; simp [h, unV]
theorem exV_cons (t : S_truth_turn) (ts : List S_truth_turn) : exV (t :: ts) = if t.f_exists = true then t.v :: exV ts else exV ts := by
  unfold exV
  rw [List.filter_cons]
  split <;> rfl
theorem tabs_on : ∀ (ts : List S_truth_turn) (b : List Int), (b ++ exV ts).Nodup → ∀ t ∈ tabsT b ts, t.Bits = [] ∧ t.On.Nodup ∧ ∀ u ∈ t.On, u ∈ b ++ exV ts
  | [], b, _, t, h => by simp [tabsT] at h
  | x :: ts, b, hn, t, h => by
    unfold tabsT at h
    rw [exV_cons] at hn ⊢
    by_cases hx : x.f_exists = true
    · rw [if_pos hx] at h hn ⊢
      have := tabs_on ts (b ++ [x.v]) (by simpa using hn) t h
      simpa using this
    · rw [if_neg hx] at h hn ⊢
      rcases List.mem_cons.1 h with rfl | h
      · exact ⟨rfl, srt_nodup (List.nodup_append.1 hn).1, fun u hu => List.mem_append_left _ (srt_mem.1 hu)⟩
      · exact tabs_on ts b hn t h
def dual (q : S_api_Qbf) : S_api_Dqbf := ⟨exV (turnsP q.Prefix), (tabsT [] (turnsP q.Prefix)).map fun t => ⟨t.Var, t.On⟩, q.Clauses⟩
theorem dual_vars (q : S_api_Qbf) : varsD (dual q) = unV (turnsP q.Prefix) := by
  unfold varsD dual
  rw [List.map_map, ← tabs_var _ []]
  rfl
theorem mem_ex {ts : List S_truth_turn} {v : Int} : v ∈ exV ts ↔ ∃ t ∈ ts, t.f_exists = true ∧ t.v = v := by
  unfold exV
  simp only [List.mem_map, List.mem_filter]
  exact ⟨fun ⟨t, h, e⟩ => ⟨t, h.1, h.2, e⟩, fun ⟨t, h, h2, e⟩ => ⟨t, ⟨h, h2⟩, e⟩⟩
theorem mem_un {ts : List S_truth_turn} {v : Int} : v ∈ unV ts ↔ ∃ t ∈ ts, t.f_exists = false ∧ t.v = v := by
  unfold unV
  simp only [List.mem_map, List.mem_filter, Bool.not_eq_true']
  exact ⟨fun ⟨t, h, e⟩ => ⟨t, h.1, h.2, e⟩, fun ⟨t, h, h2, e⟩ => ⟨t, ⟨h, h2⟩, e⟩⟩
theorem dual_plain {q : S_api_Qbf} (h : Gd q) : Plain (dual q) := by
  have hnd : ((turnsP q.Prefix).map (·.v)).Nodup := by rw [turns_v]; exact h.nd
  have hin : ∀ t ∈ turnsP q.Prefix, t.v ∈ flat q.Prefix := fun t ht => by rw [← turns_v]; exact List.mem_map.2 ⟨t, ht, rfl⟩
  refine ⟨fun u hu => ?_, fun v hv => ?_, exV_sub hnd, ?_, fun {v} hv hv2 => ?_, fun c hc x hx => ⟨(h.lit hc hx).1, ?_⟩, fun e he => ?_⟩
  · obtain ⟨t, ht, _, rfl⟩ := mem_ex.1 hu
    have := (h.one _ (hin t ht)).1; omega
  · rw [dual_vars] at hv
    obtain ⟨t, ht, _, rfl⟩ := mem_un.1 hv
    have := (h.one _ (hin t ht)).1; omega
  · rw [dual_vars]; exact hnd.sublist (List.Sublist.map _ List.filter_sublist)
  · rw [dual_vars] at hv2
    obtain ⟨t, ht, h1, rfl⟩ := mem_ex.1 hv
    obtain ⟨u, hu, h2, h3⟩ := mem_un.1 hv2
    have := nodup_inj (·.v) hnd hu ht h3
    rw [this, h1] at h2; cases h2
  · have := h.wi c hc x hx
    rw [← turns_v] at this
    obtain ⟨t, ht, hv⟩ := List.mem_map.1 this
    rw [dual_vars]
    cases he : t.f_exists
    · exact .inr (mem_un.2 ⟨t, ht, he, hv⟩)
    · exact .inl (mem_ex.2 ⟨t, ht, he, hv⟩)
  · obtain ⟨t, ht, rfl⟩ := List.mem_map.1 he
    have := tabs_on (turnsP q.Prefix) [] (by rw [List.nil_append]; exact exV_sub hnd) t ht
    exact ⟨this.2.1, fun u hu => by simpa [dual] using this.2.2 u hu⟩
theorem dual_tof {q : S_api_Qbf} (h : Gd q) {l : List S_api_Table} (ha : alikeB (tabsT [] (turnsP q.Prefix)) l = true) : TOf (dual q).Exist l := by
  have hnd : ((turnsP q.Prefix).map (·.v)).Nodup := by rw [turns_v]; exact h.nd
  refine tof_alike ?_
  have : (dual q).Exist.map (fun e => S_api_Table.mk e.Var e.On []) = tabsT [] (turnsP q.Prefix) := by
    unfold dual
    rw [List.map_map]
    refine (List.map_congr_left (fun t ht => ?_)).trans (List.map_id _)
    have := (tabs_on (turnsP q.Prefix) [] (by rw [List.nil_append]; exact exV_sub hnd) t ht).1
    obtain ⟨v, o, b⟩ := t
    simp only at this
    subst this
    rfl
  rw [this]; exact ha
def playT (l : List S_api_Table) (σ : Int → Bool) (t : S_truth_turn) : List Int :=
  if t.f_exists = true then [if σ t.v = true then t.v else -t.v] else (l.filter fun u => decide (u.Var = t.v)).map fun u => if bitT u σ = true then t.v else -t.v
theorem playT_len (l : List S_api_Table) (σ : Int → Bool) (t : S_truth_turn) : (playT l σ t).length ≤ l.length + 1 := by
  unfold playT
  split
  · simp
  · rw [List.length_map]; have := List.length_filter_le (fun u => decide (u.Var = t.v)) l; omega
theorem exs_get {p : List S_api_Block} {i : Nat} {t : S_truth_turn} (h : (turnsP p)[i]? = some t) : (flat p)[i]? = some t.v ∧ (exs p)[i]? = some t.f_exists := by
  constructor
  · rw [← turns_v, List.getElem?_map, h]; rfl
  · unfold exs; rw [List.getElem?_map, h]; rfl
theorem played_eq {q : S_api_Qbf} (hq : (flat q.Prefix).length ≤ 100) (h : Gd q) {l : List S_api_Table} (hl : l.length ≤ 60) {p : List Int} {σ : Int → Bool} (h1 : ∀ t ∈ turnsP q.Prefix, t.f_exists = true → decide (t.v ∈ p) = σ t.v) (h2 : ∀ u ∈ l, F_skolemref04_At u p = some (bitT u σ)) :
    F_skolemref04_played q l p 0 = some ((turnsP q.Prefix).flatMap (playT l σ)) := by
  unfold F_skolemref04_played
  rw [order_eq _ hq, Option.bind_some]
  simp only
  have hlen := turns_len q.Prefix
  have hpos : ∀ t ∈ turnsP q.Prefix, 1 ≤ t.v ∧ t.v ≤ 65536 := fun t ht => h.one _ (by rw [← turns_v]; exact List.mem_map.2 ⟨t, ht, rfl⟩)
  have hget := fun (i : Nat) (t : S_truth_turn) => exs_get (p := q.Prefix) (i := i) (t := t)
  generalize turnsP q.Prefix = ts at h1 hlen hpos hget
  generalize flat q.Prefix = fl at hq hlen hget
  generalize exs q.Prefix = ex at hget
  refine (whileF_by (fun s : Int × List Int => ts.length - s.1.toNat) (fun s => 0 ≤ s.1 ∧ s.1 ≤ ts.length ∧ s.2.length ≤ 61 * s.1.toNat) (fun s => some (s.2 ++ (ts.drop s.1.toNat).flatMap (playT l σ))) ?_ 1000000000000 (0, []) ⟨by simp, by simp, by simp⟩ (by simp; omega)).trans (by simp)
  rintro ⟨i, out⟩ k ⟨h3, h4, h5⟩ hs
  simp only at h3 h4 h5 hs ⊢
  obtain ⟨n, rfl⟩ : ∃ n : Nat, i = n := ⟨i.toNat, by omega⟩
  rw [Int.toNat_natCast] at h5 ⊢
  simp only [jn_eq]
  by_cases h6 : ((n : Nat) : Int) < ((fl.length : Nat) : Int)
  · have hlt : n < ts.length := by omega
    obtain ⟨e1, e2⟩ := hget n ts[n] (List.getElem?_eq_getElem hlt)
    have hp := hpos ts[n] (List.getElem_mem hlt)
    have hne : (ts[n].v != 0) = true := by simp; omega
    have hw : IntKind.wrap .i64 (((n : Nat) : Int) + 1) = ((n + 1 : Nat) : Int) := by rw [wrap_id (by omega) (by omega)]; omega
    simp only [h6, decide_true, if_true, getI_nat, e1, e2, hne, hw]
    rw [List.drop_eq_getElem_cons hlt, List.flatMap_cons]
    have hpl := playT_len l σ ts[n]
    have key := hs (((n + 1 : Nat) : Int), out ++ playT l σ ts[n]) ⟨by simp only; omega, by simp only; omega, by simp only [Int.toNat_natCast, List.length_append]; omega⟩ (by simp only [Int.toNat_natCast]; omega)
    simp only [Int.toNat_natCast, List.append_assoc] at key
    unfold playT at key ⊢
    by_cases hx : ts[n].f_exists = true
    · have hh := h1 ts[n] (List.getElem_mem hlt) hx
      simp only [hx, if_true, has_eq, Option.bind_some] at key ⊢
      rw [hh, lit_eq _ (by omega) (by omega), Option.bind_some, capN_eq (by simp; omega)]
      exact key
    · simp only [hx, Bool.false_eq_true, if_false] at key ⊢
      refine rangeF_pre l (fun pre s => s = out ++ (pre.filter fun u => decide (u.Var = ts[n].v)).map fun u => if bitT u σ = true then ts[n].v else -ts[n].v) (fun _ _ _ => some (out ++ ((l.filter fun u => decide (u.Var = ts[n].v)).map (fun u => if bitT u σ = true then ts[n].v else -ts[n].v) ++ (ts.drop (n + 1)).flatMap (playT l σ)))) ?_ ?_ l [] out rfl (by simp)
      · rintro s rfl
        exact key
      · rintro pre u us s kk hf rfl hk
        have hu : u ∈ l := by rw [hf]; simp
        have hlp : pre.length < l.length := by rw [hf]; simp
        have hfl := List.length_filter_le (fun u => decide (u.Var = ts[n].v)) pre
        by_cases hv : u.Var = ts[n].v
        · have e3 : (u.Var == ts[n].v) = true := by simpa using hv
          simp only [e3, if_true, h2 u hu, Option.bind_some]
          rw [lit_eq _ (by omega) (by omega), Option.bind_some, capN_eq (by simp; omega)]
          exact hk _ (by simp [List.filter_append, hv])
        · have e3 : (u.Var == ts[n].v) = false := by simpa using hv
          simp only [e3, Bool.false_eq_true, if_false]
          exact hk _ (by simp [List.filter_append, hv])
  · have : n = ts.length := by omega
    simp only [h6, decide_false, Bool.false_eq_true, if_false]
    rw [this, List.drop_length]; simp
theorem mem_play {q : S_api_Qbf} (h : Gd q) {l : List S_api_Table} (ht : TOf (dual q).Exist l) (σ : Int → Bool) (x : Int) : x ∈ (turnsP q.Prefix).flatMap (playT l σ) ↔ x ∈ pairL (allP (dual q) l σ) := by
  rw [allP_eq]
  simp only [List.mem_append, List.mem_flatMap, ptL, List.mem_map]
  have hvs : l.map (·.Var) = unV (turnsP q.Prefix) := by rw [← dual_vars]; exact ht.vars
  constructor
  · rintro ⟨t, hm, hx⟩
    unfold playT at hx
    by_cases he : t.f_exists = true
    · rw [if_pos he] at hx
      exact .inl ⟨t.v, mem_ex.2 ⟨t, hm, he, rfl⟩, (by simpa using hx : x = _).symm⟩
    · rw [if_neg he] at hx
      obtain ⟨u, hu, rfl⟩ := List.mem_map.1 hx
      obtain ⟨h1, h2⟩ := List.mem_filter.1 hu
      have h2 : u.Var = t.v := by simpa using h2
      exact .inr ⟨u, h1, by rw [h2]⟩
  · rintro (⟨v, hv, rfl⟩ | ⟨u, hu, rfl⟩)
    · obtain ⟨t, hm, he, rfl⟩ := mem_ex.1 hv
      exact ⟨t, hm, by unfold playT; rw [if_pos he]; simp⟩
    · have : u.Var ∈ unV (turnsP q.Prefix) := by rw [← hvs]; exact List.mem_map.2 ⟨u, hu, rfl⟩
      obtain ⟨t, hm, he, hv⟩ := mem_un.1 this
      refine ⟨t, hm, ?_⟩
      unfold playT
      rw [if_neg (by simp [he])]
      exact List.mem_map.2 ⟨u, List.mem_filter.2 ⟨hu, by simp [hv]⟩, by rw [hv]⟩
theorem satB_congr {cs : List (List Int)} {a b : List Int} (h : ∀ x, x ∈ a ↔ x ∈ b) : satB cs a = satB cs b := by
  unfold satB
  have : (fun x => decide (x ∈ a)) = fun x => decide (x ∈ b) := by funext x; exact decide_eq_decide.2 (h x)
  rw [this]
end Go.Sk.X
namespace Go.Sk.X
open Go Go.Sk
def loseB (q : S_api_Qbf) (l : List S_api_Table) : Bool := (List.range' 0 (2 ^ (exV (turnsP q.Prefix)).length)).all fun m => !satB q.Clauses (pairL (allP (dual q) l (sgM (exV (turnsP q.Prefix)) m)))
def losesV (q : S_api_Qbf) (l : List S_api_Table) : Bool × Int :=
  if MayQ q = true then (if alikeB (tabsT [] (turnsP q.Prefix)) l = true then (if cntT 20 [] (turnsP q.Prefix) ≤ 4096 ∧ (turnsP q.Prefix).length ≤ 16 then (loseB q l, 0) else (false, 3)) else (false, 2)) else (false, 2)
theorem ex_loop {R : Type} (ts : List S_truth_turn) (hl : ts.length ≤ 1000) (K : List Int → Option R) :
    (rangeF (fun (j121 : Nat) (x122 : S_truth_turn) (s118 : (List Int)) k120 => (jn (fun (s146 : (List Int)) => (k120 s146)) (fun k148 => (if x122.f_exists = true then (capN (s118.length + [x122.v].length) (k148 (s118 ++ [x122.v]))) else (k148 s118))))) 0 ts ([] : List Int) K) = K (exV ts) := by
  refine rangeF_pre ts (fun pre s => s = exV pre) (fun _ _ _ => K (exV ts)) (fun s hI => by rw [hI]) ?_ ts [] [] rfl rfl
  rintro pre t xs s kk hf rfl hk
  have hp : pre.length < ts.length := by rw [hf]; simp
  have he := exV_len pre
  simp only [jn_eq]
  by_cases hx : t.f_exists = true
  · rw [if_pos hx, capN_eq (by simp; omega)]
    exact hk _ (by rw [exV_snoc, if_pos hx])
  · rw [if_neg hx]
    exact hk _ (by rw [exV_snoc, if_neg hx, List.append_nil])
theorem exV_app (a b : List S_truth_turn) : exV (a ++ b) = exV a ++ exV b := by simp [exV]
theorem exV_block (b : S_api_Block) : exV (turnsP [b]) = if b.Exists = true then b.Vars else [] := by
  unfold exV turnsP
  simp only [List.flatMap_cons, List.flatMap_nil, List.append_nil]
  cases h : b.Exists
  · simp [List.filter_map, Function.comp_def]
  · simp [List.filter_map, Function.comp_def]
theorem gd_nd {q : S_api_Qbf} (h : Gd q) : ((turnsP q.Prefix).map (·.v)).Nodup := by rw [turns_v]; exact h.nd
theorem pL_eq {q : S_api_Qbf} (hq : Sq q) {l : List S_api_Table} (hl : LSm l) : F_truth_Loses q l = some (losesV q l) := by
  unfold F_truth_Loses losesV
  rw [pmay_eq hq, Option.bind_some]
  cases hM : MayQ q
  · rfl
  have hg := gd_of hM
  simp only [Bool.not_true, Bool.false_eq_true, if_false, if_true]
  rw [univ_eq hq.vs, Option.bind_some]
  simp only
  rw [palike_eq hl, Option.bind_some]
  cases ha : alikeB (tabsT [] (turnsP q.Prefix)) l
  · rfl
  simp only [Bool.not_true, Bool.false_eq_true, if_false, if_true]
  rw [of_eq q hq.vs, Option.bind_some]
  simp only [jn_eq]
  have hts := turns_len q.Prefix
  have hvs := hq.vs
  by_cases hc : cntT 20 [] (turnsP q.Prefix) ≤ 4096 ∧ (turnsP q.Prefix).length ≤ 16
  · have h13 : ¬ ((cntT 13 [] (turnsP q.Prefix) : Nat) : Int) > 4096 := by
      rcases cnt_same (turnsP q.Prefix) [] with h | ⟨h, h2⟩ <;> omega
    have h16 : ¬ (((turnsP q.Prefix).length : Nat) : Int) > 16 := by omega
    rw [if_pos hc]
    simp only [h13, h16, decide_false, Bool.false_eq_true, if_false]
    have := ex_loop (turnsP q.Prefix) (by omega) (fun (s118 : List Int) => okI (0 ≤ ((s118.length : Nat) : Int)) (okI (-9223372036854775808 ≤ (0 : Int) ∧ (IntKind.wrap .i64 ((1 : Int) * 2 ^ (min ((s118.length : Nat) : Int).toNat (IntKind.bits .i64)))) ≤ 9223372036854775807) (some (true, (0 : Int)))))
    refine (rangeF_pre (turnsP q.Prefix) (fun pre s => s = exV pre) (fun _ _ _ => some (loseB q l, 0)) ?_ ?_ (turnsP q.Prefix) [] [] rfl rfl)
    · rintro s rfl
      have he := exV_len (turnsP q.Prefix)
      have hp := dual_plain hg
      have ht := dual_tof hg ha
      have hN : (((2 ^ (exV (turnsP q.Prefix)).length : Nat) : Int) - 0).toNat = 2 ^ (exV (turnsP q.Prefix)).length := by rw [Int.sub_zero, Int.toNat_natCast]
      rw [okI_eq (Int.natCast_nonneg _), okI_eq (wi_ok _), pw_eqT _ (by omega), hN]
      refine (upF_allN (A := some (false, 0)) (fun m => !satB q.Clauses (pairL (allP (dual q) l (sgM (exV (turnsP q.Prefix)) m)))) (2 ^ (exV (turnsP q.Prefix)).length) (fun m _ kk => ?_) (2 ^ (exV (turnsP q.Prefix)).length) 0 (by omega)).trans ?_
      · refine (prog_pt hp ht (by show (exV _).length ≤ 60; omega) (fun c hc x hx => (hg.lit hc hx).2) m (fun s => if s = true then (some (false, (0 : Int))) else (kk ()))).trans ?_
        show (if satB q.Clauses (pairL (allP (dual q) l (sgM (exV (turnsP q.Prefix)) m))) = true then _ else _) = _
        cases satB q.Clauses (pairL (allP (dual q) l (sgM (exV (turnsP q.Prefix)) m))) <;> simp
      · unfold loseB
        cases (List.range' 0 (2 ^ (exV (turnsP q.Prefix)).length)).all fun m => !satB q.Clauses (pairL (allP (dual q) l (sgM (exV (turnsP q.Prefix)) m))) <;> simp
    · rintro pre t xs s kk hf rfl hk
      have hp : pre.length < (turnsP q.Prefix).length := by rw [hf]; simp
      have he := exV_len pre
      by_cases hx : t.f_exists = true
      · simp only [hx, if_true]
        rw [capN_eq (by simp; omega)]
        exact hk _ (by rw [exV_snoc, if_pos hx])
      · simp only [hx, Bool.false_eq_true, if_false]
        exact hk _ (by rw [exV_snoc, if_neg hx, List.append_nil])
  · rw [if_neg hc]
    by_cases h13 : ((cntT 13 [] (turnsP q.Prefix) : Nat) : Int) > 4096
    · simp [h13]
    · have h16 : (((turnsP q.Prefix).length : Nat) : Int) > 16 := by
        rcases cnt_same (turnsP q.Prefix) [] with h | ⟨h, h2⟩ <;> omega
      simp [h13, h16]
theorem rL_eq {q : S_api_Qbf} (hq : Sq q) {l : List S_api_Table} (hl : LSm l) : F_skolemref04_Loses q l = some (losesV q l) := by
  unfold F_skolemref04_Loses losesV
  rw [rmay_eq hq, Option.bind_some]
  cases hM : MayQ q
  · rfl
  have hg := gd_of hM
  simp only [Bool.not_true, Bool.false_eq_true, if_false, if_true]
  rw [order_eq _ hq.vs, Option.bind_some, moves_eq hq.vs hg.nd, Option.bind_some]
  simp only [jn_eq]
  have hts := turns_len q.Prefix
  have hvs := hq.vs
  have hl1 := hl.1
  by_cases hc0 : cntT 20 [] (turnsP q.Prefix) ≤ 4096
  · simp only [hc0, if_true, ralike_eq hl, Option.bind_some, true_and]
    cases ha : alikeB (tabsT [] (turnsP q.Prefix)) l
    · rfl
    simp only [Bool.not_true, Bool.false_eq_true, if_false, if_true]
    by_cases hc : (turnsP q.Prefix).length ≤ 16
    · have h16 : ¬ (((flat q.Prefix).length : Nat) : Int) > 16 := by omega
      simp only [h16, hc, decide_false, Bool.false_eq_true, if_false, if_true]
      refine rangeF_pre q.Prefix (fun pre s => s = exV (turnsP pre)) (fun _ _ _ => some (loseB q l, 0)) ?_ ?_ q.Prefix [] [] rfl rfl
      · rintro s rfl
        have he := exV_len (turnsP q.Prefix)
        have hp := dual_plain hg
        have ht := dual_tof hg ha
        have hN : (((2 ^ (exV (turnsP q.Prefix)).length : Nat) : Int) - 0).toNat = 2 ^ (exV (turnsP q.Prefix)).length := by rw [Int.sub_zero, Int.toNat_natCast]
        rw [okI_eq (wi_ok _), pw_eq _ (by omega), hN]
        refine (upF_allN (A := some (false, 0)) (fun m => !satB q.Clauses (pairL (allP (dual q) l (sgM (exV (turnsP q.Prefix)) m)))) (2 ^ (exV (turnsP q.Prefix)).length) (fun m _ kk => ?_) (2 ^ (exV (turnsP q.Prefix)).length) 0 (by omega)).trans ?_
        · rw [okI_eq (wu0 _), point_eq _ m (fun x hx => ?_) (by omega), Option.bind_some, sgM_pt (us := exV (turnsP q.Prefix)) (exV_sub (gd_nd hg))]
          · rw [played_eq hq.vs hg hl1 (σ := sgM (exV (turnsP q.Prefix)) m) (fun t ht2 he2 => ?_) (fun u hu => ?_), Option.bind_some, sat_eq _ _ (by have := hq.tot; omega), Option.bind_some]
            · rw [satB_congr (mem_play hg ht _)]
              cases satB q.Clauses (pairL (allP (dual q) l (sgM (exV (turnsP q.Prefix)) m))) <;> simp
            · exact on_pt hp _ (mem_ex.2 ⟨t, ht2, he2, rfl⟩)
            · obtain ⟨e, he3, g1, g2⟩ := ht.mem hu
              have ho := hp.on e he3
              have := nodup_len ho.1 ho.2
              have hdu : (dual q).Univ.length = (exV (turnsP q.Prefix)).length := rfl
              refine at_eq (ht.2 u hu) (by rw [← g2]; omega) (fun v hv => on_pt hp _ (ho.2 v (g2 ▸ hv)))
          · have := exV_sub (gd_nd hg)
            obtain ⟨t, ht2, _, rfl⟩ := mem_ex.1 hx
            have := hg.one t.v (by rw [← turns_v]; exact List.mem_map.2 ⟨t, ht2, rfl⟩)
            omega
        · rw [okI_eq (wu0 _)]
          unfold loseB
          cases (List.range' 0 (2 ^ (exV (turnsP q.Prefix)).length)).all fun m => !satB q.Clauses (pairL (allP (dual q) l (sgM (exV (turnsP q.Prefix)) m))) <;> simp
      · rintro pre x xs s kk hf rfl hk
        have h1 : (flat pre).length + x.Vars.length ≤ (flat q.Prefix).length := by rw [hf, flat_app]; simp [flat]
        have he := exV_len (turnsP pre)
        have ht := turns_len pre
        have hsn : exV (turnsP (pre ++ [x])) = exV (turnsP pre) ++ if x.Exists = true then x.Vars else [] := by rw [turns_app, exV_app, exV_block]
        by_cases hx : x.Exists = true
        · simp only [hx, if_true]
          rw [capN_eq (by omega)]
          exact hk _ (by rw [hsn, if_pos hx])
        · simp only [hx, Bool.false_eq_true, if_false]
          exact hk _ (by rw [hsn, if_neg hx, List.append_nil])
    · have h16 : (((flat q.Prefix).length : Nat) : Int) > 16 := by omega
      simp [h16, hc]
  · have : ¬ (cntT 20 [] (turnsP q.Prefix) ≤ 4096 ∧ (turnsP q.Prefix).length ≤ 16) := fun h => hc0 h.1
    simp only [hc0, this, if_false, Bool.false_eq_true, named_eq hq.vs hg.nd hl, Option.bind_some, Bool.not_false, if_true]
    cases alikeB (tabsT [] (turnsP q.Prefix)) l <;> simp
theorem wide_ex {cs : List (List Int)} (hz : (InLz (InLz (InK .i64))) cs) (n : Nat) : ∃ b, F_skolemlaw04_wide cs (n : Int) = some b ∧ (b = false → cs.length ≤ 60 ∧ n ≤ 100 ∧ tot cs ≤ 300) := by
  unfold F_skolemlaw04_wide
  simp only [jn_eq]
  by_cases h2 : ((cs.length : Nat) : Int) > 60
  · exact ⟨true, by simp [h2], by simp⟩
  by_cases h3 : ((n : Nat) : Int) > 100
  · exact ⟨true, by simp [h2, h3], by simp⟩
  have hs2 := sumFold (fun b : List Int => b.length) 140737488351232 rfl cs 0 (fun b hb => (hz.2 b hb).1) (by omega)
  rw [rangeF_fold (fun s (x : List Int) => IntKind.wrap .i64 (s + ((x.length : Nat) : Int)))]
  rw [show ((0 : Nat) : Int) = 0 from rfl] at hs2
  rw [hs2, Nat.zero_add]
  simp only [h2, h3, decide_false, Bool.false_eq_true, if_false]
  refine ⟨_, rfl, fun h => ⟨by omega, by omega, ?_⟩⟩
  have h4 := of_decide_eq_false h
  unfold Go.Sk.X.tot
  have : (cs.map List.length).sum = (cs.map fun b => b.length).sum := rfl
  omega
theorem sum_le100 {l : List S_api_Dep} (h : ∀ e ∈ l, e.On.length ≤ 100) : (l.map fun e => e.On.length).sum ≤ 100 * l.length := by
  induction l with
  | nil => simp
  | cons e l ih =>
    have h1 := h e (by simp)
    have h2 := ih (fun x hx => h x (by simp [hx]))
    simp only [List.map_cons, List.sum_cons, List.length_cons]
    omega
theorem large_ex {d : S_api_Dqbf} (hz : Z_S_api_Dqbf d) : ∃ b, F_skolemlaw04_large d = some b ∧ (b = false → Sm d) := by
  unfold F_skolemlaw04_large
  simp only [jn_eq]
  by_cases h1 : ((d.Exist.length : Nat) : Int) > 60
  · exact ⟨true, by simp [h1], by simp⟩
  obtain ⟨w, hw, hwf⟩ := wide_ex hz.2.2 d.Univ.length
  simp only [h1, decide_false, Bool.false_eq_true, if_false, hw, Option.bind_some]
  cases w
  case true => exact ⟨true, by simp, by simp⟩
  obtain ⟨a1, a2, a3⟩ := hwf rfl
  simp only [Bool.false_eq_true, if_false]
  have hP : Has1 (fun b => b = false → Sm d) (rangeF (fun (j118 : Nat) (x119 : S_api_Dep) (s115 : Int) k117 => (if (decide (((x119.On.length : Nat) : Int) > (100 : Int))) = true then (some true) else (okI (0 ≤ (IntKind.wrap .u64 (imn ((x119.On.length : Nat) : Int) (10 : Int)))) (k117 (IntKind.wrap .i64 (s115 + (IntKind.wrap .i64 ((1 : Int) * 2 ^ (min (IntKind.wrap .u64 (imn ((x119.On.length : Nat) : Int) (10 : Int))).toNat (IntKind.bits .i64)))))))))) 0 d.Exist (0 : Int) (fun (s115 : Int) => (if (decide (s115 ≤ (16 : Int))) = true then (if (decide (s115 > (10 : Int))) = true then (some true) else (if (decide (s115 ≤ (10 : Int))) = true then (if (decide (((d.Univ.length : Nat) : Int) > (5 : Int))) = true then (some (decide (((d.Univ.length : Nat) : Int) ≤ (8 : Int)))) else (some false)) else (some false))) else (if (decide (s115 ≤ (10 : Int))) = true then (if (decide (((d.Univ.length : Nat) : Int) > (5 : Int))) = true then (some (decide (((d.Univ.length : Nat) : Int) ≤ (8 : Int)))) else (some false)) else (some false))))) := by
    refine rangeF_ex d.Exist (fun pre _ => ∀ e ∈ pre, e.On.length ≤ 100) ?_ ?_ d.Exist [] 0 rfl (by simp)
    · intro s ho
      have hsm : Sm d := ⟨by omega, by omega, by omega, by omega, by have := sum_le100 ho; omega⟩
      have any : ∀ x : Option Bool, (∃ b, x = some b) → Has1 (fun b => b = false → Sm d) x := fun x ⟨b, hb⟩ => ⟨b, hb, fun _ => hsm⟩
      refine any _ ?_
      by_cases c1 : s ≤ 16 <;> by_cases c2 : s > 10 <;> by_cases c3 : s ≤ 10 <;> by_cases c4 : ((d.Univ.length : Nat) : Int) > 5 <;> simp [c1, c2, c3, c4]
    · intro pre x xs s kk hf ho hk
      by_cases c : ((x.On.length : Nat) : Int) > 100
      · exact ⟨true, by simp [c], by simp⟩
      · simp only [c, decide_false, Bool.false_eq_true, if_false]
        rw [okI_eq (wu0 _)]
        refine hk _ (fun e he => ?_)
        rcases List.mem_append.1 he with he | he
        · exact ho e he
        · rw [List.mem_singleton] at he; subst he; omega
  obtain ⟨b, hb, hp⟩ := hP
  exact ⟨b, hb, hp⟩
theorem tables_ex (l : List S_api_Table) : ∃ b, F_skolemlaw04_tables l = some b ∧ (b = false → LSm l) := by
  unfold F_skolemlaw04_tables
  by_cases h1 : ((l.length : Nat) : Int) > 60
  · exact ⟨true, by simp [h1], by simp⟩
  simp only [h1, decide_false, Bool.false_eq_true, if_false]
  have hP : Has1 (fun b => b = false → LSm l) (rangeF (fun (j105 : Nat) (x106 : S_api_Table) (s102 : Unit) k104 => (jn (fun (s126 : Bool) => (if s126 = true then (some true) else (k104 ()))) (fun k128 => (if (decide (((x106.Bits.length : Nat) : Int) > (5000 : Int))) = true then (k128 true) else (k128 (decide (((x106.On.length : Nat) : Int) > (100 : Int)))))))) 0 l () (fun (s102 : Unit) => (some false))) := by
    refine rangeF_ex l (fun pre _ => ∀ t ∈ pre, t.Bits.length ≤ 5000 ∧ t.On.length ≤ 100) ?_ ?_ l [] () rfl (by simp)
    · intro s ho
      exact ⟨false, rfl, fun _ => ⟨by omega, ho⟩⟩
    · intro pre x xs s kk hf ho hk
      simp only [jn_eq]
      by_cases c : ((x.Bits.length : Nat) : Int) > 5000
      · exact ⟨true, by simp [c], by simp⟩
      by_cases c2 : ((x.On.length : Nat) : Int) > 100
      · exact ⟨true, by simp [c, c2], by simp⟩
      simp only [c, c2, decide_false, Bool.false_eq_true, if_false]
      refine hk _ (fun e he => ?_)
      rcases List.mem_append.1 he with he | he
      · exact ho e he
      · rw [List.mem_singleton] at he; subst he; omega
  obtain ⟨b, hb, hp⟩ := hP
  exact ⟨b, hb, hp⟩
theorem law_TruthWins {a0 : S_api_Qbf} {a1 : S_api_Dqbf} {a2 : List S_api_Table} (h0 : Z_S_api_Qbf a0) (h1 : Z_S_api_Dqbf a1) (_ : (InLz Z_S_api_Table) a2) : F_skolemlaw04_TruthWins a0 a1 a2 = some true := by
  unfold F_skolemlaw04_TruthWins
  obtain ⟨b, hb, hs⟩ := great_eq h0
  obtain ⟨b1, hb1, hs1⟩ := large_ex h1
  obtain ⟨b2, hb2, hs2⟩ := tables_ex a2
  simp only [jn_eq, hb, hb1, hb2, Option.bind_some]
  cases b
  case true => simp [head_eq]
  cases b1
  case true => simp [head_eq]
  cases b2
  case true => simp [head_eq]
  have hl := hs2 rfl
  simp only [Bool.false_eq_true, if_false, pW_eq (hs1 rfl) hl, rW_eq (hs1 rfl) hl, pL_eq (hs rfl) hl, rL_eq (hs rfl) hl, Option.bind_some, head_eq]
  simp
end Go.Sk.X