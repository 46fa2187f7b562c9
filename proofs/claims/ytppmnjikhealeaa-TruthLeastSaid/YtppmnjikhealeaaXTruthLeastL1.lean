/- The plain law of TruthLeast: about numbers and lists alone. It has no conditions. -/
import Derived.Test.YtppmnjikhealeaaXTruthLeastF
set_option linter.unusedVariables false
set_option linter.unusedSimpArgs false
namespace Go.Sk
open Go
theorem jn_eq {S R : Type} (f : S → Option R) (g : (S → Option R) → Option R) : jn f g = g f := rfl
theorem rangeF_cons {α S R : Type} (f : Nat → α → S → (S → Option R) → Option R) (i : Nat) (x : α) (xs : List α) (s : S) (k : S → Option R) : rangeF f i (x :: xs) s k = f i x s (fun s' => rangeF f (i + 1) xs s' k) := rfl
theorem upF_zero {S R : Type} (f : Int → S → (S → Option R) → Option R) (i : Int) (s : S) (k : S → Option R) : upF f 0 i s k = k s := rfl
theorem upF_succ {S R : Type} (f : Int → S → (S → Option R) → Option R) (n : Nat) (i : Int) (s : S) (k : S → Option R) : upF f (n + 1) i s k = f i s (fun s' => upF f n (i + 1) s' k) := rfl
theorem whileF_succ {S R : Type} (n : Nat) (b : (S → Option R) → S → Option R) (s : S) : whileF (n + 1) b s = b (whileF n b) s := rfl
theorem whileF_by {S R : Type} {b : (S → Option R) → S → Option R} (μ : S → Nat) (I : S → Prop) (g : S → Option R)
    (step : ∀ s k, I s → (∀ s', I s' → μ s' < μ s → k s' = g s') → b k s = g s) : ∀ n s, I s → μ s < n → whileF n b s = g s
  | 0, s, _, h => absurd h (Nat.not_lt_zero _)
  | n + 1, s, hI, h => by
    rw [whileF_succ]
    exact step s _ hI (fun s' h1 h2 => whileF_by μ I g step n s' h1 (by omega))
theorem rangeF_eq {α S R : Type} {f : Nat → α → S → (S → Option R) → Option R} {k : S → Option R} (g : Nat → List α → S → Option R) (h0 : ∀ j s, g j [] s = k s)
    (h1 : ∀ j x xs s kk, (∀ s', kk s' = g (j + 1) xs s') → f j x s kk = g j (x :: xs) s) : ∀ xs j s, rangeF f j xs s k = g j xs s
  | [], j, s => (h0 j s).symm
  | x :: xs, j, s => h1 j x xs s _ (fun s' => rangeF_eq g h0 h1 xs (j + 1) s')
theorem rangeF_pre {α S R : Type} {f : Nat → α → S → (S → Option R) → Option R} {k : S → Option R} (full : List α) (I : List α → S → Prop) (g : List α → List α → S → Option R) (h0 : ∀ s, I full s → k s = g full [] s)
    (h1 : ∀ pre x xs s kk, full = pre ++ x :: xs → I pre s → (∀ s', I (pre ++ [x]) s' → kk s' = g (pre ++ [x]) xs s') → f pre.length x s kk = g pre (x :: xs) s) : ∀ xs pre s, full = pre ++ xs → I pre s → rangeF f pre.length xs s k = g pre xs s
  | [], pre, s, hf, hI => by
    rw [List.append_nil] at hf; subst hf
    exact h0 s hI
  | x :: xs, pre, s, hf, hI => by
    refine h1 pre x xs s _ hf hI (fun s' hs' => ?_)
    have := rangeF_pre full I g h0 h1 xs (pre ++ [x]) s' (by simp [hf]) hs'
    rw [List.length_append] at this
    exact this
theorem wrap_id {n : Int} (h0 : -9223372036854775808 ≤ n) (h1 : n ≤ 9223372036854775807) : IntKind.wrap .i64 n = n := by
  simp only [IntKind.wrap, IntKind.bits, IntKind.signed]
  simp only [Bool.true_and]
  split <;> rename_i h <;> simp only [ge_iff_le, decide_eq_true_eq] at h <;> omega
def av (x : Int) : Int := if x < 0 then -x else x
def nrmB (last : Int) : List Int → Bool
  | [] => true
  | x :: xs => decide (-65536 ≤ x) && decide (x ≤ 65536) && decide (last < av x) && nrmB (av x) xs
theorem av_nonneg (x : Int) : 0 ≤ av x := by unfold av; split <;> omega
theorem av_neg (x : Int) : av (-x) = av x := by unfold av; split <;> split <;> omega
theorem nrm_cons {c x : Int} {xs : List Int} : nrmB c (x :: xs) = true ↔ -65536 ≤ x ∧ x ≤ 65536 ∧ c < av x ∧ nrmB (av x) xs = true := by
  simp [nrmB, and_assoc]
theorem nrm_mem : ∀ {c : Int} {l : List Int}, nrmB c l = true → ∀ x ∈ l, c < av x ∧ -65536 ≤ x ∧ x ≤ 65536
  | c, [], _, x, h => by simp at h
  | c, y :: ys, h, x, hx => by
    rw [nrm_cons] at h
    rcases List.mem_cons.1 hx with rfl | hx
    · exact ⟨h.2.2.1, h.1, h.2.1⟩
    · have := nrm_mem h.2.2.2 x hx
      exact ⟨by omega, this.2⟩
end Go.Sk
namespace Go.Sk
open Go
def Has1 {R : Type} (Post : R → Prop) (x : Option R) : Prop := ∃ r, x = some r ∧ Post r
theorem rangeF_ex {α S R : Type} {Post : R → Prop} {f : Nat → α → S → (S → Option R) → Option R} {k : S → Option R} (full : List α) (I : List α → S → Prop) (h0 : ∀ s, I full s → Has1 Post (k s))
    (h1 : ∀ pre x xs s kk, full = pre ++ x :: xs → I pre s → (∀ s', I (pre ++ [x]) s' → Has1 Post (kk s')) → Has1 Post (f pre.length x s kk)) : ∀ xs pre s, full = pre ++ xs → I pre s → Has1 Post (rangeF f pre.length xs s k)
  | [], pre, s, hf, hI => by
    rw [List.append_nil] at hf; subst hf
    exact h0 s hI
  | x :: xs, pre, s, hf, hI => by
    refine h1 pre x xs s _ hf hI (fun s' hs' => ?_)
    have := rangeF_ex full I h0 h1 xs (pre ++ [x]) s' (by simp [hf]) hs'
    rw [List.length_append] at this
    exact this
theorem whileF_ex {S R : Type} {Post : R → Prop} {b : (S → Option R) → S → Option R} (μ : S → Nat) (I : S → Prop)
    (step : ∀ s k, I s → (∀ s', I s' → μ s' < μ s → Has1 Post (k s')) → Has1 Post (b k s)) : ∀ n s, I s → μ s < n → Has1 Post (whileF n b s)
  | 0, s, _, h => absurd h (Nat.not_lt_zero _)
  | n + 1, s, hI, h => by
    rw [whileF_succ]
    exact step s _ hI (fun s' h1 h2 => whileF_ex μ I step n s' h1 (by omega))
theorem rangeF_fold {α S R : Type} (g : S → α → S) (k : S → Option R) : ∀ (xs : List α) (j : Nat) (s : S), rangeF (fun _ x s k => k (g s x)) j xs s k = k (xs.foldl g s)
  | [], _, _ => rfl
  | x :: xs, j, s => by rw [rangeF_cons]; exact rangeF_fold g k xs (j + 1) (g s x)
def rsB (c : Int) : List Int → Bool
  | [] => true
  | x :: xs => decide (c < x) && (decide (x ≤ 65536) && rsB x xs)
theorem rsB_cons {c x : Int} {xs : List Int} : rsB c (x :: xs) = true ↔ c < x ∧ x ≤ 65536 ∧ rsB x xs = true := by simp [rsB]
theorem rsB_mem : ∀ {l : List Int} {c : Int}, rsB c l = true → ∀ x ∈ l, c < x ∧ x ≤ 65536
  | [], _, _, x, hx => by simp at hx
  | y :: l, c, h, x, hx => by
    obtain ⟨h1, h2, h3⟩ := rsB_cons.1 h
    rcases List.mem_cons.1 hx with rfl | hx
    · exact ⟨h1, h2⟩
    · have := rsB_mem h3 x hx
      exact ⟨by omega, this.2⟩
theorem rsB_nodup : ∀ {l : List Int} {c : Int}, rsB c l = true → l.Nodup
  | [], _, _ => List.nodup_nil
  | y :: l, c, h => by
    obtain ⟨h1, h2, h3⟩ := rsB_cons.1 h
    exact List.nodup_cons.2 ⟨fun hm => by have := (rsB_mem h3 y hm).1; omega, rsB_nodup h3⟩
def lastD (l : List Int) : Int := (l.getLast?).getD 0
theorem lastD_app (l : List Int) (x : Int) : lastD (l ++ [x]) = x := by simp [lastD]
theorem lastD_get {l : List Int} (h : 0 < l.length) : l[l.length - 1]? = some (lastD l) := by
  unfold lastD
  rw [List.getLast?_eq_getElem?]
  have : l.length - 1 < l.length := by omega
  rw [List.getElem?_eq_getElem this]; rfl
theorem mget_fold {β : Type} (v : β) : ∀ (xs : List Int) (m : List (Int × β)) (k : Int), mget (xs.foldl (fun m x => mset m x v) m) k = if k ∈ xs then some v else mget m k
  | [], m, k => by simp
  | x :: xs, m, k => by
    rw [List.foldl_cons, mget_fold v xs, mget_mset]
    by_cases h1 : k ∈ xs
    · simp [h1]
    · by_cases h2 : k = x <;> simp [h1, h2]
end Go.Sk
namespace Go.Sk.X
open Go Go.Sk
theorem rises_eq (a : List Int) (hl : a.length ≤ 4194304) : F_prefix_rises a = some (rsB 0 a) := by
  refine rangeF_pre a (fun pre _ => 0 ≤ lastD pre) (fun pre xs _ => some (rsB (lastD pre) xs)) (fun _ _ => rfl) ?_ a [] () rfl (by decide)
  intro pre x xs s kk hf hI hk
  have hlen : pre.length < a.length := by rw [hf]; simp
  simp only [jn_eq, rsB]
  by_cases h1 : x < 1
  · have : ¬ lastD pre < x := by omega
    simp [h1, this]
  by_cases h2 : x > 65536
  · have : ¬ x ≤ 65536 := by omega
    simp [h1, h2, this]
  have hk' := hk () (by rw [lastD_app]; omega)
  rw [lastD_app] at hk'
  have h3 : x ≤ 65536 := by omega
  by_cases hp : 0 < pre.length
  · have e : IntKind.wrap .i64 (((pre.length : Nat) : Int) - 1) = ((pre.length - 1 : Nat) : Int) := by rw [wrap_id (by omega) (by omega)]; omega
    have hg : a[pre.length - 1]? = some (lastD pre) := by
      rw [hf, List.getElem?_append_left (by omega)]
      exact lastD_get hp
    have hp' : ((pre.length : Nat) : Int) > 0 := by omega
    simp only [h1, h2, hp', e, getI_nat, hg, decide_false, decide_true, if_true, if_false, Bool.false_eq_true]
    by_cases h4 : lastD pre ≥ x
    · have : ¬ lastD pre < x := by omega
      simp [h4, this]
    · have : lastD pre < x := by omega
      simp [h4, this, h3, hk']
  · have : pre = [] := List.eq_nil_of_length_eq_zero (by omega)
    subst this
    have h4 : lastD ([] : List Int) < x := by show (0 : Int) < x; omega
    simp [h1, h2, h3, h4, hk']
theorem rises3_eq (a : List Int) (hl : a.length ≤ 4194304) : F_skolemref03_Rises a = some (rsB 0 a) := rises_eq a hl
theorem abs3_eq {x : Int} (h0 : -9223372036854775807 ≤ x) (h1 : x ≤ 9223372036854775807) : F_skolemref03_Abs x = some (av x) := by
  unfold F_skolemref03_Abs av
  by_cases h : x < 0
  · have e : IntKind.wrap .i64 (0 - x) = -x := by rw [wrap_id (by omega) (by omega)]; omega
    simp only [h, decide_true, if_true, e]
  · simp [h]
theorem absp_eq {x : Int} (h0 : -9223372036854775807 ≤ x) (h1 : x ≤ 9223372036854775807) : F_prefix_abs x = some (av x) := by
  unfold F_prefix_abs av imx
  have e : IntKind.wrap .i64 (0 - x) = -x := by rw [wrap_id (by omega) (by omega)]; omega
  rw [e]
  by_cases h : x < 0
  · rw [if_pos (by omega), if_pos h]
  · rw [if_neg (by omega), if_neg h]
theorem normal_eq (a : List Int) (hl : a.length ≤ 4194304) : F_skolemref03_Normal a = some (nrmB 0 a) := by
  refine rangeF_pre a (fun pre _ => pre = [] ∨ (-65536 ≤ lastD pre ∧ lastD pre ≤ 65536)) (fun pre xs _ => some (nrmB (if pre = [] then 0 else av (lastD pre)) xs)) (fun _ _ => rfl) ?_ a [] () rfl (.inl rfl)
  intro pre x xs s kk hf hI hk
  have hlen : pre.length < a.length := by rw [hf]; simp
  simp only [jn_eq, nrmB]
  have av0 := av_nonneg (lastD pre)
  by_cases h0 : x = 0
  · subst h0
    have : av 0 = 0 := rfl
    have h5 : ¬ (if pre = [] then 0 else av (lastD pre)) < av 0 := by rw [this]; split <;> omega
    simp [h5]
  have h0' : (x == 0) = false := by simp [h0]
  by_cases h1 : x < -65536
  · have : ¬ -65536 ≤ x := by omega
    simp [h0', h1, this]
  by_cases h2 : x > 65536
  · have : ¬ x ≤ 65536 := by omega
    simp [h0', h1, h2, this]
  have hk' := hk () (.inr (by rw [lastD_app]; omega))
  rw [lastD_app] at hk'
  simp only [List.append_eq_nil_iff, List.cons_ne_self, and_false, if_false, reduceCtorEq] at hk'
  have h3 : x ≤ 65536 := by omega
  have h3' : -65536 ≤ x := by omega
  by_cases hp : 0 < pre.length
  · have e : IntKind.wrap .i64 (((pre.length : Nat) : Int) - 1) = ((pre.length - 1 : Nat) : Int) := by rw [wrap_id (by omega) (by omega)]; omega
    have hg : a[pre.length - 1]? = some (lastD pre) := by
      rw [hf, List.getElem?_append_left (by omega)]
      exact lastD_get hp
    have hp' : ((pre.length : Nat) : Int) > 0 := by omega
    have hne : pre ≠ [] := by intro e; subst e; simp at hp
    rcases hI with rfl | ⟨i1, i2⟩
    · exact absurd rfl hne
    simp only [h0', h1, h2, hp', e, getI_nat, hg, abs3_eq (x := x) (by omega) (by omega), abs3_eq (x := lastD pre) (by omega) (by omega), Option.bind_some, decide_false, decide_true, if_true, if_false, Bool.false_eq_true, hne]
    by_cases h4 : av (lastD pre) ≥ av x
    · have : ¬ av (lastD pre) < av x := by omega
      simp [h4, this]
    · have : av (lastD pre) < av x := by omega
      simp [h4, this, h3, h3', hk']
  · have : pre = [] := List.eq_nil_of_length_eq_zero (by omega)
    subst this
    have h4 : 0 < av x := by unfold av; split <;> omega
    simp [h0', h1, h2, h3, h3', h4, hk']
theorem has_eq (l : List Int) (v : Int) : F_skolemref03_Has l v = some (decide (v ∈ l)) := by
  refine rangeF_eq (fun _ xs _ => some (decide (v ∈ xs))) (fun _ _ => by simp) ?_ l 0 ()
  intro j x xs s kk hk
  by_cases h : x = v
  · subst h; simp
  · have : ¬ v = x := fun e => h e.symm
    simp [h, hk, this]
theorem part_eq (l u : List Int) : F_skolemref03_Part l u = some (l.all fun x => decide (x ∈ u)) := by
  refine rangeF_eq (fun _ xs _ => some (xs.all fun x => decide (x ∈ u))) (fun _ _ => rfl) ?_ l 0 ()
  intro j x xs s kk hk
  simp only [has_eq, Option.bind_some]
  by_cases h : x ∈ u <;> simp [h, hk]
def singB (pre : List Int) : List Int → Bool
  | [] => true
  | x :: xs => decide (1 ≤ x) && (decide (x ≤ 65536) && (!decide (x ∈ pre) && singB (pre ++ [x]) xs))
theorem single_eq (a : List Int) : F_skolemref03_single a = some (singB [] a) := by
  refine rangeF_pre a (fun pre _ => True) (fun pre xs _ => some (singB pre xs)) (fun _ _ => rfl) ?_ a [] () rfl trivial
  intro pre x xs s kk hf hI hk
  have hlen : pre.length < a.length := by rw [hf]; simp
  have hk' := hk () trivial
  simp only [jn_eq, singB]
  by_cases h1 : x < 1
  · have : ¬ 1 ≤ x := by omega
    simp [h1, this]
  by_cases h2 : x > 65536
  · have : ¬ x ≤ 65536 := by omega
    simp [h1, h2, this]
  have h3 : x ≤ 65536 := by omega
  have h4 : 1 ≤ x := by omega
  have ht : a.take (((pre.length : Nat) : Int)).toNat = pre := by rw [hf]; simp
  have ho : 0 ≤ ((pre.length : Nat) : Int) ∧ ((pre.length : Nat) : Int).toNat ≤ a.length := ⟨by omega, by omega⟩
  rw [okI_eq ho, ht, has_eq]
  by_cases h5 : x ∈ pre <;> simp [h1, h2, h3, h4, h5, hk']
theorem sing_iff : ∀ (l pre : List Int), singB pre l = true ↔ (∀ x ∈ l, 1 ≤ x ∧ x ≤ 65536) ∧ l.Nodup ∧ ∀ x ∈ l, x ∉ pre
  | [], pre => by simp [singB]
  | y :: l, pre => by
    simp only [singB, Bool.and_eq_true, decide_eq_true_eq, Bool.not_eq_true', decide_eq_false_iff_not, sing_iff l (pre ++ [y]), List.mem_append, List.mem_singleton, not_or, List.mem_cons, List.not_mem_nil, or_false, forall_eq_or_imp, List.nodup_cons]
    constructor
    · rintro ⟨a, b, c, d, e, f⟩
      exact ⟨⟨⟨a, b⟩, d⟩, ⟨fun hm => (f y hm).2 rfl, e⟩, c, fun x hx => (f x hx).1⟩
    · rintro ⟨⟨⟨a, b⟩, d⟩, ⟨f, e⟩, c, g⟩
      exact ⟨a, b, c, d, e, fun x hx => ⟨g x hx, fun e => f (e ▸ hx)⟩⟩
def varsD (d : S_api_Dqbf) : List Int := d.Exist.map (·.Var)
theorem all_eq (d : S_api_Dqbf) (h : d.Univ.length + d.Exist.length ≤ 8388608) : F_skolemref03_All d = some (d.Univ ++ varsD d) := by
  unfold F_skolemref03_All
  rw [capN_eq (by simp; omega)]
  refine rangeF_pre d.Exist (fun pre s => s.length = d.Univ.length + pre.length) (fun _ xs s => some (s ++ xs.map (·.Var))) (fun s _ => by simp) ?_ d.Exist [] ([] ++ d.Univ) rfl (by simp)
  intro pre x xs s kk hf hI hk
  have hlen : pre.length < d.Exist.length := by rw [hf]; simp
  rw [capN_eq (by simp; omega), hk _ (by simp [hI]; omega)]
  simp
def tot (cs : List (List Int)) : Nat := (cs.map List.length).sum
theorem tot_app (a b : List (List Int)) : tot (a ++ b) = tot a + tot b := by simp [tot]
theorem tot_cons (a : List Int) (b : List (List Int)) : tot (a :: b) = a.length + tot b := by simp [tot]
theorem tot_mem {cs : List (List Int)} {c : List Int} (h : c ∈ cs) : c.length ≤ tot cs := by
  obtain ⟨a, b, rfl⟩ := List.append_of_mem h
  rw [tot_app, tot_cons]; omega
theorem cnf_eq (cs : List (List Int)) (h : tot cs ≤ 4194304) : F_skolemref03_Cnf cs = some (cs.all (nrmB 0) && (decide (cs.length ≤ 20000) && decide (tot cs ≤ 200000))) := by
  refine rangeF_pre cs (fun pre s => s = (tot pre : Int)) (fun pre xs s => some (xs.all (nrmB 0) && (decide (cs.length ≤ 20000) && decide (tot cs ≤ 200000)))) ?_ ?_ cs [] 0 rfl rfl
  · rintro s rfl
    by_cases h1 : cs.length ≤ 20000
    · have : ((cs.length : Nat) : Int) ≤ 20000 := by omega
      by_cases h2 : tot cs ≤ 200000
      · have h3 : (tot cs : Int) ≤ 200000 := by omega
        simp [this, h1, h2, h3]
      · have h3 : ¬ (tot cs : Int) ≤ 200000 := by omega
        simp [this, h1, h2, h3]
    · have : ¬ ((cs.length : Nat) : Int) ≤ 20000 := by omega
      simp [this, h1]
  · intro pre x xs s kk hf hI hk
    have ht : tot pre + x.length ≤ tot cs := by rw [hf, tot_app, tot_cons]; omega
    rw [normal_eq x (by omega), Option.bind_some]
    have hk' := hk (IntKind.wrap .i64 (s + ((x.length : Nat) : Int))) (by rw [hI, wrap_id (by omega) (by omega), tot_app]; simp [tot])
    by_cases hx : nrmB 0 x = true
    · simp [hx, hk']
    · simp [hx]
theorem within_in (u : List Int) (kk : Unit → Option Bool) (c : List Int) (hr : ∀ x ∈ c, -65536 ≤ x ∧ x ≤ 65536) (hl : c.length ≤ 4194304) (R : Option Bool) (hk : kk () = R) :
    whileF 1000000000000 (fun k130 (s128 : Int) => (if (decide (s128 < ((c.length : Nat) : Int))) = true then (getI c s128 (fun x146 => ((F_skolemref03_Abs x146).bind (fun y147 => ((F_skolemref03_Has u y147).bind (fun y148 => (if (!y148) = true then (some false) else (k130 (IntKind.wrap .i64 (s128 + (1 : Int))))))))))) else (kk ()))) (0 : Int)
      = if (c.all fun x => decide (av x ∈ u)) = true then R else some false := by
  have := whileF_by (b := (fun k130 (s128 : Int) => (if (decide (s128 < ((c.length : Nat) : Int))) = true then (getI c s128 (fun x146 => ((F_skolemref03_Abs x146).bind (fun y147 => ((F_skolemref03_Has u y147).bind (fun y148 => (if (!y148) = true then (some false) else (k130 (IntKind.wrap .i64 (s128 + (1 : Int))))))))))) else (kk ())))) (fun s : Int => c.length - s.toNat) (fun s => 0 ≤ s ∧ s ≤ c.length) (fun s => if ((c.drop s.toNat).all fun x => decide (av x ∈ u)) = true then R else some false) ?_ 1000000000000 0 (by simp) (by simp; omega)
  · simpa using this
  · intro s k ⟨h0, h1⟩ hs
    by_cases h2 : s < ((c.length : Nat) : Int)
    · obtain ⟨n, rfl⟩ : ∃ n : Nat, s = n := ⟨s.toNat, by omega⟩
      have hn : n < c.length := by omega
      have hd : c.drop n = c[n] :: c.drop (n + 1) := by rw [List.drop_eq_getElem_cons hn]
      have hm := hr c[n] (List.getElem_mem hn)
      have hw : IntKind.wrap .i64 (((n : Nat) : Int) + 1) = ((n + 1 : Nat) : Int) := by rw [wrap_id (by omega) (by omega)]; omega
      have hs' := hs ((n + 1 : Nat) : Int) ⟨by omega, by omega⟩ (by simp; omega)
      simp only [h2, decide_true, if_true, getI_nat, List.getElem?_eq_getElem hn, abs3_eq (x := c[n]) (by omega) (by omega), has_eq, Option.bind_some, hw, hs', Int.toNat_natCast, hd, List.all_cons]
      by_cases h3 : av c[n] ∈ u <;> simp [h3]
    · have : s.toNat = c.length := by omega
      simp [h2, this, hk]
theorem within_eq (cs : List (List Int)) (u : List Int) (hr : ∀ c ∈ cs, nrmB 0 c = true) (hl : tot cs ≤ 4194304) : F_skolemref03_within cs u = some (cs.all fun c => c.all fun x => decide (av x ∈ u)) := by
  refine rangeF_pre cs (fun pre _ => True) (fun _ xs _ => some (xs.all fun c => c.all fun x => decide (av x ∈ u))) (fun _ _ => rfl) ?_ cs [] () rfl trivial
  intro pre x xs s kk hf hI hk
  have hx : x ∈ cs := by rw [hf]; simp
  rw [within_in u kk x (fun y hy => (nrm_mem (hr x hx) y hy).2) (Nat.le_trans (tot_mem hx) hl) _ (hk () trivial)]
  by_cases h : (x.all fun x => decide (av x ∈ u)) = true
  · rw [if_pos h]; simp only [List.all_cons, h, Bool.true_and]
  · rw [if_neg h]; simp only [List.all_cons, Bool.eq_false_iff.2 h, Bool.false_and]
end Go.Sk.X
namespace Go.Sk.X
open Go Go.Sk
structure Sm (d : S_api_Dqbf) : Prop where
  univ : d.Univ.length ≤ 2097152
  exist : d.Exist.length ≤ 2097152
  cls : d.Clauses.length ≤ 2097152
  tot : tot d.Clauses ≤ 2097152
  on : (d.Exist.map fun e => e.On.length).sum ≤ 2097152
theorem Sm.onE {d : S_api_Dqbf} (h : Sm d) {e : S_api_Dep} (he : e ∈ d.Exist) : e.On.length ≤ 2097152 := by
  have := h.on
  obtain ⟨a, b, hh⟩ := List.append_of_mem he
  rw [hh] at this
  simp at this
  omega
def depB (u : List Int) (e : S_api_Dep) : Bool := rsB 0 e.On && e.On.all fun x => decide (x ∈ u)
def MayD (d : S_api_Dqbf) : Bool :=
  (d.Exist.all fun e => !decide (e.Var ∈ d.Univ) && depB d.Univ e) && (rsB 0 d.Univ && (rsB 0 (varsD d) && (decide (d.Univ.length + d.Exist.length ≤ 1024) &&
    (decide (d.Clauses.length ≤ 20000) && ((d.Clauses.all fun c => nrmB 0 c && c.all fun x => decide (av x ∈ d.Univ ++ varsD d)) && decide (tot d.Clauses ≤ 200000))))))
theorem may3_eq {d : S_api_Dqbf} (h : Sm d) : F_skolemref03_MayDqbf d = some (MayD d) := by
  unfold F_skolemref03_MayDqbf
  have hv : (varsD d).length = d.Exist.length := by simp [varsD]
  have hA : (d.Univ ++ varsD d).length = d.Univ.length + d.Exist.length := by simp [hv]
  have h1 := h.univ
  have h2 := h.exist
  rw [all_eq d (by omega), Option.bind_some]
  simp only [jn_eq]
  by_cases hlen : d.Univ.length + d.Exist.length ≤ 1024
  case neg =>
    have : (((d.Univ ++ varsD d).length : Nat) : Int) > 1024 := by omega
    simp only [this, decide_true, if_true, MayD, hlen, decide_false, Bool.false_and, Bool.and_false]
  have hlen' : ¬ (((d.Univ ++ varsD d).length : Nat) : Int) > 1024 := by omega
  simp only [hlen', decide_false, Bool.false_eq_true, if_false, single_eq, Option.bind_some, rises3_eq d.Univ (by omega)]
  by_cases hU : rsB 0 d.Univ = true
  case neg =>
    have hU' := Bool.eq_false_iff.2 hU
    by_cases hs : singB [] (d.Univ ++ varsD d) = true <;> simp [hs, hU', MayD]
  have ho : 0 ≤ ((d.Univ.length : Nat) : Int) ∧ (((d.Univ.length : Nat) : Int)).toNat ≤ (d.Univ ++ varsD d).length := ⟨by omega, by omega⟩
  have hd : (d.Univ ++ varsD d).drop (((d.Univ.length : Nat) : Int)).toNat = varsD d := by simp
  rw [okI_eq ho, hd, rises3_eq (varsD d) (by omega)]
  simp only [Option.bind_some]
  by_cases hV : rsB 0 (varsD d) = true
  case neg =>
    have hV' := Bool.eq_false_iff.2 hV
    by_cases hs : singB [] (d.Univ ++ varsD d) = true <;> simp [hs, hU, hV', MayD]
  -- one of each, since both rise
  have hs : singB [] (d.Univ ++ varsD d) = true ↔ ∀ e ∈ d.Exist, e.Var ∉ d.Univ := by
    rw [sing_iff]
    constructor
    · rintro ⟨_, a, _⟩ e he hm
      exact (List.nodup_append.1 a).2.2 _ hm _ (List.mem_map.2 ⟨e, he, rfl⟩) rfl
    · intro hx
      refine ⟨fun x hm => ?_, List.nodup_append.2 ⟨rsB_nodup hU, rsB_nodup hV, ?_⟩, by simp⟩
      · rcases List.mem_append.1 hm with hm | hm
        · have := rsB_mem hU x hm; omega
        · have := rsB_mem hV x hm; omega
      · rintro x hm y hy rfl
        obtain ⟨e, he, rfl⟩ := List.mem_map.1 hy
        exact hx e he hm
  by_cases hS : singB [] (d.Univ ++ varsD d) = true
  case neg =>
    have hS' := Bool.eq_false_iff.2 hS
    have : ∃ e ∈ d.Exist, e.Var ∈ d.Univ := by
      refine Classical.byContradiction fun hc => hS (hs.2 fun e he hm => hc ⟨e, he, hm⟩)
    obtain ⟨e, he, hm⟩ := this
    have hall : (d.Exist.all fun e => !decide (e.Var ∈ d.Univ) && depB d.Univ e) = false := by
      rw [List.all_eq_false]
      exact ⟨e, he, by simp [hm]⟩
    simp [hS', MayD, hall]
  have hS2 := hs.1 hS
  have hall : (d.Exist.all fun e => !decide (e.Var ∈ d.Univ) && depB d.Univ e) = d.Exist.all (depB d.Univ) := by
    rw [Bool.eq_iff_iff]
    simp only [List.all_eq_true, Bool.and_eq_true, Bool.not_eq_true', decide_eq_false_iff_not]
    exact ⟨fun q e he => (q e he).2, fun q e he => ⟨hS2 e he, q e he⟩⟩
  rw [cnf_eq d.Clauses (Nat.le_trans h.tot (by decide))]
  simp only [hS, hU, hV, Bool.not_true, Bool.false_eq_true, if_false, Option.bind_some]
  -- the deps
  have hdeps : (rangeF (fun (j146 : Nat) (x147 : S_api_Dep) (s143 : Unit) k145 => (((F_skolemref03_Rises x147.On).bind (fun y185 => (if (!y185) = true then (if True then (some false) else (k145 ())) else ((F_skolemref03_Part x147.On d.Univ).bind (fun y187 => (if (!y187) = true then (some false) else (k145 ()))))))))) 0 d.Exist () (fun (s143 : Unit) => (some true))) = some (d.Exist.all (depB d.Univ)) := by
    refine rangeF_pre d.Exist (fun pre _ => True) (fun _ xs _ => some (xs.all (depB d.Univ))) (fun _ _ => rfl) ?_ d.Exist [] () rfl trivial
    intro pre x xs s kk hf hI hk
    have hx : x ∈ d.Exist := by rw [hf]; simp
    rw [rises3_eq x.On (Nat.le_trans (h.onE hx) (by decide)), Option.bind_some, part_eq, Option.bind_some, hk () trivial, List.all_cons, depB]
    by_cases a : rsB 0 x.On = true
    · by_cases b : (x.On.all fun x => decide (x ∈ d.Univ)) = true
      · rw [a, b]; simp
      · rw [a, Bool.eq_false_iff.2 b]; simp
    · rw [Bool.eq_false_iff.2 a]; simp
  rw [hdeps]
  unfold MayD
  rw [hall, hU, hV]
  by_cases hN : d.Clauses.all (nrmB 0) = true
  case neg =>
    have hN' := Bool.eq_false_iff.2 hN
    have : (d.Clauses.all fun c => nrmB 0 c && c.all fun x => decide (av x ∈ d.Univ ++ varsD d)) = false := by
      rw [List.all_eq_false] at hN' ⊢
      obtain ⟨c, hc, hn⟩ := hN'
      exact ⟨c, hc, by simp [Bool.eq_false_iff.2 hn]⟩
    simp only [hN', this, Bool.false_and, Bool.and_false, Bool.not_false, if_true]
  have hN2 := List.all_eq_true.1 hN
  rw [within_eq d.Clauses _ hN2 (Nat.le_trans h.tot (by decide)), Option.bind_some]
  have hW : (d.Clauses.all fun c => nrmB 0 c && c.all fun x => decide (av x ∈ d.Univ ++ varsD d)) = d.Clauses.all fun c => c.all fun x => decide (av x ∈ d.Univ ++ varsD d) := by
    rw [Bool.eq_iff_iff]
    simp only [List.all_eq_true, Bool.and_eq_true]
    exact ⟨fun q e he => (q e he).2, fun q e he => ⟨hN2 e he, q e he⟩⟩
  rw [hW, hN]
  generalize (d.Clauses.all fun c => c.all fun x => decide (av x ∈ d.Univ ++ varsD d)) = w
  generalize d.Exist.all (depB d.Univ) = e
  by_cases a : d.Clauses.length ≤ 20000 <;> by_cases b : tot d.Clauses ≤ 200000 <;> cases w <;> cases e <;> simp [a, b, hlen]
theorem fold2 (xs : List Int) : ∀ (m m' : List (Int × Bool)), xs.foldl (fun (s : List (Int × Bool) × List (Int × Bool)) x => (mset s.1 x true, mset s.2 x true)) (m, m') = (xs.foldl (fun m x => mset m x true) m, xs.foldl (fun m x => mset m x true) m') := by
  induction xs with
  | nil => intro m m'; rfl
  | cons x xs ih => intro m m'; rw [List.foldl_cons, List.foldl_cons, List.foldl_cons, ih]
theorem findF_eq (m : Int → Bool) (kk : Int → Option Bool) (l : List Int) (R : Option Bool) (hb : ∀ j : Nat, kk (j : Int) = some false) (hk : kk (-1) = R) :
    rangeF (fun (j1617 : Nat) (x1618 : Int) (s1614 : Unit) k1616 => (if (!(m x1618)) = true then (kk ((j1617 : Nat) : Int)) else (k1616 ()))) 0 l () (fun (s1614 : Unit) => kk (-1 : Int)) = if (l.all m) = true then R else some false := by
  refine rangeF_eq (fun _ xs _ => if (xs.all m) = true then R else some false) (fun _ _ => hk.symm) ?_ l 0 ()
  intro j x xs s k2 h2
  by_cases h : m x = true
  · simp [h, h2]
  · simp [Bool.eq_false_iff.2 h, hb]
theorem lits_in (m : Int → Bool) (kk : Int → Option Bool) (l : List Int) (R : Option Bool) (hk : ∀ s, kk s = R) :
    rangeF (fun (j3902 : Nat) (x3903 : Int) (s3899 : Int) k3901 => (jn (fun (s4091 : Bool) => (if s4091 = true then (some false) else ((F_prefix_abs x3903).bind (fun y4095 => (k3901 y4095))))) (fun k4093 => (if (x3903 == (0 : Int)) = true then (k4093 true) else (if (decide (x3903 < (-65536 : Int))) = true then (k4093 true) else (if (decide (x3903 > (65536 : Int))) = true then (k4093 true) else ((F_prefix_abs x3903).bind (fun y4099 => (if (decide (y4099 ≤ s3899)) = true then (k4093 true) else ((F_prefix_abs x3903).bind (fun y4101 => (k4093 (!(m y4101)))))))))))))) 0 l (0 : Int) kk
      = if (nrmB 0 l && l.all fun x => m (av x)) = true then R else some false := by
  refine rangeF_pre l (fun _ s => 0 ≤ s) (fun _ xs s => if (nrmB s xs && xs.all fun x => m (av x)) = true then R else some false) (fun s _ => by simp [nrmB, hk]) ?_ l [] 0 rfl (by decide)
  intro pre x xs s k2 hf hI h2
  simp only [jn_eq]
  by_cases h0 : x = 0
  · subst h0
    have h5 : ¬ s < av 0 := by show ¬ s < 0; omega
    simp [h5, nrmB]
  have h0' : (x == 0) = false := by simp [h0]
  by_cases h1 : x < -65536
  · have : ¬ -65536 ≤ x := by omega
    simp [h0', h1, this, nrmB]
  by_cases h3 : x > 65536
  · have : ¬ x ≤ 65536 := by omega
    simp [h0', h1, h3, this, nrmB]
  have e1 : -65536 ≤ x := by omega
  have e2 : x ≤ 65536 := by omega
  rw [absp_eq (x := x) (by omega) (by omega)]
  simp only [h0', h1, h3, decide_false, Bool.false_eq_true, if_false, Option.bind_some, nrmB, e1, e2, decide_true, Bool.true_and, List.all_cons]
  by_cases h4 : av x ≤ s
  · have : ¬ s < av x := by omega
    simp [h4, this]
  · have h5 : s < av x := by omega
    rw [h2 (av x) (av_nonneg x)]
    cases h6 : m (av x) <;> simp [h4, h5, h6]
theorem mayp_eq {d : S_api_Dqbf} (h : Sm d) : F_prefix_MayDqbf d = some (MayD d) := by
  unfold F_prefix_MayDqbf
  rw [rangeF_fold (fun (s : List (Int × Bool) × List (Int × Bool)) x => (mset s.1 x true, mset s.2 x true)), fold2]
  have h1 := h.univ
  have h2 := h.exist
  have h3 := h.tot
  have hmu : ∀ x, ((mget (d.Univ.foldl (fun m x => mset m x true) []) x).getD false) = decide (x ∈ d.Univ) := by
    intro x; rw [mget_fold]; by_cases hx : x ∈ d.Univ <;> simp [hx, mget]
  generalize hM : d.Univ.foldl (fun m x => mset m x true) ([] : List (Int × Bool)) = M at hmu ⊢
  simp only [hmu, jn_eq]
  refine (rangeF_pre d.Exist (fun pre s => s = pre.map (·.Var)) (fun _ xs _ => some ((xs.all fun e => !decide (e.Var ∈ d.Univ) && depB d.Univ e) && (rsB 0 d.Univ && (rsB 0 (varsD d) && (decide (d.Univ.length + d.Exist.length ≤ 1024) &&
    (decide (d.Clauses.length ≤ 20000) && ((d.Clauses.all fun c => nrmB 0 c && c.all fun x => decide (av x ∈ d.Univ ++ varsD d)) && decide (tot d.Clauses ≤ 200000)))))))) ?_ ?_ d.Exist [] [] rfl rfl)
  · rintro s rfl
    have hv : (d.Exist.map (·.Var)).length = d.Exist.length := by simp
    rw [rangeF_fold (fun m x => mset m x true)]
    have hma : ∀ x, (mget ((d.Exist.map (·.Var)).foldl (fun m x => mset m x true) M) x).isSome = decide (x ∈ d.Univ ++ varsD d) := by
      intro x
      rw [mget_fold, ← hM, mget_fold]
      by_cases a : x ∈ d.Exist.map (·.Var)
      · rw [if_pos a]; simp [varsD]; exact .inr (by simpa using a)
      · rw [if_neg a]
        by_cases b : x ∈ d.Univ
        · rw [if_pos b]; simp [b]
        · rw [if_neg b]
          have : x ∉ d.Univ ++ varsD d := by simp only [List.mem_append, not_or]; exact ⟨b, a⟩
          simp [mget, this]
    simp only [hma, rises_eq d.Univ (by omega), Option.bind_some, List.all_nil, Bool.true_and]
    by_cases hU : rsB 0 d.Univ = true
    case neg => simp [Bool.eq_false_iff.2 hU]
    rw [rises_eq _ (by rw [hv]; omega), Option.bind_some]
    by_cases hV : rsB 0 (varsD d) = true
    case neg =>
      have : rsB 0 (d.Exist.map (·.Var)) = false := Bool.eq_false_iff.2 hV
      simp [hU, this, Bool.eq_false_iff.2 hV]
    have hV' : rsB 0 (d.Exist.map (·.Var)) = true := hV
    rw [hv, wrap_id (by omega) (by omega)]
    by_cases hl : d.Univ.length + d.Exist.length ≤ 1024
    case neg =>
      have : ¬ ((d.Univ.length : Int) + (d.Exist.length : Int) ≤ 1024) := by omega
      simp [hU, hV', hl, this]
    have hl' : ((d.Univ.length : Int) + (d.Exist.length : Int) ≤ 1024) := by omega
    simp only [hU, hV, hV', hl, hl', decide_true, if_true, Bool.true_and]
    by_cases hc : d.Clauses.length ≤ 20000
    case neg =>
      have : ((d.Clauses.length : Nat) : Int) > 20000 := by omega
      simp [hc, this]
    have hc' : ¬ ((d.Clauses.length : Nat) : Int) > 20000 := by omega
    simp only [hc, hc', decide_true, decide_false, Bool.false_eq_true, if_false, Bool.true_and]
    have key := rangeF_pre (f := (fun (j3491 : Nat) (x3492 : (List Int)) (s3488 : Int) (k3490 : Int → Option Bool) => (rangeF (fun (j3902 : Nat) (x3903 : Int) (s3899 : Int) k3901 => (jn (fun (s4091 : Bool) => (if s4091 = true then (some false) else ((F_prefix_abs x3903).bind (fun y4095 => (k3901 y4095))))) (fun k4093 => (if (x3903 == (0 : Int)) = true then (k4093 true) else (if (decide (x3903 < (-65536 : Int))) = true then (k4093 true) else (if (decide (x3903 > (65536 : Int))) = true then (k4093 true) else ((F_prefix_abs x3903).bind (fun y4099 => (if (decide (y4099 ≤ s3899)) = true then (k4093 true) else ((F_prefix_abs x3903).bind (fun y4101 => (k4093 (!(decide (y4101 ∈ d.Univ ++ varsD d))))))))))))))) 0 x3492 (0 : Int) (fun (s3899 : Int) => (k3490 (IntKind.wrap .i64 (s3488 + ((x3492.length : Nat) : Int)))))))) (k := fun s3488 => some (decide (s3488 ≤ (200000 : Int))))
      d.Clauses (fun pre s => s = (tot pre : Int)) (fun _ xs _ => some ((xs.all fun c => nrmB 0 c && c.all fun x => decide (av x ∈ d.Univ ++ varsD d)) && decide (tot d.Clauses ≤ 200000))) ?_ ?_ d.Clauses [] 0 rfl rfl
    · simp only [jn_eq, if_true, List.length_nil] at key
      rw [key]; simp
    · rintro s rfl
      by_cases ht : tot d.Clauses ≤ 200000
      · have h3 : (tot d.Clauses : Int) ≤ 200000 := by omega
        simp [ht, h3]
      · have h3 : ¬ (tot d.Clauses : Int) ≤ 200000 := by omega
        simp [ht, h3]
    · intro pre x xs s kk hf hI hk
      have ht : tot pre + x.length ≤ tot d.Clauses := by rw [hf, tot_app, tot_cons]; omega
      have hk' := hk (IntKind.wrap .i64 (s + ((x.length : Nat) : Int))) (by rw [hI, wrap_id (by omega) (by omega), tot_app]; simp [tot])
      rw [lits_in (fun y => decide (y ∈ d.Univ ++ varsD d)) _ x _ (fun _ => hk'), List.all_cons]
      by_cases hx : (nrmB 0 x && x.all fun x => decide (av x ∈ d.Univ ++ varsD d)) = true
      · rw [if_pos hx, hx, Bool.true_and]
      · rw [if_neg hx, Bool.eq_false_iff.2 hx, Bool.false_and, Bool.false_and]
  · intro pre x xs s kk hf hI hk
    have hx : x ∈ d.Exist := by rw [hf]; simp
    have hlen : pre.length < d.Exist.length := by rw [hf]; simp
    have hk' := hk (s ++ [x.Var]) (by rw [hI]; simp)
    rw [List.all_cons]
    by_cases hu : x.Var ∈ d.Univ
    · simp [hu]
    rw [rises_eq x.On (Nat.le_trans (h.onE hx) (by decide)), Option.bind_some, depB]
    by_cases a : rsB 0 x.On = true
    case neg => simp [hu, Bool.eq_false_iff.2 a]
    simp only [hu, a, decide_false, Bool.false_eq_true, if_false, Bool.not_true]
    have hA : ∀ j : Nat, (if (decide (((j : Nat) : Int) ≥ (0 : Int))) = true then (some false) else (capN (s.length + [x.Var].length) (kk (s ++ [x.Var])))) = some false := fun j => by
      have : ((j : Nat) : Int) ≥ 0 := by omega
      simp [this]
    have hB : (if (decide ((-1 : Int) ≥ (0 : Int))) = true then (some false) else (capN (s.length + [x.Var].length) (kk (s ++ [x.Var])))) = kk (s ++ [x.Var]) := by
      rw [capN_eq (by rw [hI]; simp; omega)]; simp
    rw [findF_eq (fun y => decide (y ∈ d.Univ)) (fun s1611 => (if (decide (s1611 ≥ (0 : Int))) = true then (some false) else (capN (s.length + [x.Var].length) (kk (s ++ [x.Var]))))) x.On (kk (s ++ [x.Var])) hA hB]
    rw [hk']
    by_cases b : (x.On.all fun y => decide (y ∈ d.Univ)) = true
    · rw [if_pos b, b]; simp
    · rw [if_neg b, Bool.eq_false_iff.2 b]; simp
end Go.Sk.X
namespace Go.Sk.X
open Go Go.Sk
structure May (d : S_api_Dqbf) : Prop where
  dj : ∀ e ∈ d.Exist, e.Var ∉ d.Univ
  on : ∀ e ∈ d.Exist, rsB 0 e.On = true ∧ ∀ x ∈ e.On, x ∈ d.Univ
  ru : rsB 0 d.Univ = true
  rv : rsB 0 (varsD d) = true
  len : d.Univ.length + d.Exist.length ≤ 1024
  nrm : ∀ c ∈ d.Clauses, nrmB 0 c = true
  wi : ∀ c ∈ d.Clauses, ∀ x ∈ c, av x ∈ d.Univ ∨ av x ∈ varsD d
theorem may_of {d : S_api_Dqbf} (h : MayD d = true) : May d := by
  simp only [MayD, Bool.and_eq_true, List.all_eq_true, decide_eq_true_eq, Bool.not_eq_true', decide_eq_false_iff_not, depB, List.mem_append] at h
  obtain ⟨h1, h2, h3, h4, h5, h6, h7⟩ := h
  exact ⟨fun e he => (h1 e he).1, fun e he => (h1 e he).2, h2, h3, h4, fun c hc => (h6 c hc).1, fun c hc => (h6 c hc).2⟩
theorem May.sep {d : S_api_Dqbf} (h : May d) {x : Int} (h1 : x ∈ d.Univ) : x ∉ varsD d := fun hm => by
  obtain ⟨e, he, rfl⟩ := List.mem_map.1 hm
  exact h.dj e he h1
theorem wrapu (n : Int) : IntKind.wrap .u64 n = n % 18446744073709551616 := by
  simp only [IntKind.wrap, IntKind.bits, IntKind.signed]
  simp
end Go.Sk.X
namespace Go.Sk.X
open Go Go.Sk
theorem nrm_lit {c : List Int} (h : nrmB 0 c = true) {x : Int} (hx : x ∈ c) : x ≠ 0 ∧ -65536 ≤ x ∧ x ≤ 65536 := by
  obtain ⟨h1, h2⟩ := nrm_mem h x hx
  exact ⟨fun e => by subst e; simp [av] at h1, h2⟩
end Go.Sk.X
namespace Go.Sk.X
open Go Go.Sk
theorem av_pos {x : Int} (h : 0 < x) : av x = x := by unfold av; rw [if_neg (by omega)]
end Go.Sk.X
namespace Go.Sk.X
open Go Go.Sk
theorem nodup_len : ∀ {l m : List Int}, l.Nodup → (∀ x ∈ l, x ∈ m) → l.length ≤ m.length
  | [], m, _, _ => Nat.zero_le _
  | x :: l, m, h, hm => by
    rw [List.nodup_cons] at h
    obtain ⟨a, b, rfl⟩ := List.append_of_mem (hm x (by simp))
    have := nodup_len (l := l) (m := a ++ b) h.2 (fun y hy => by
      have := hm y (by simp [hy])
      simp only [List.mem_append, List.mem_cons] at this ⊢
      rcases this with h1 | h1 | h1
      · exact .inl h1
      · subst h1; exact absurd hy h.1
      · exact .inr h1)
    simp only [List.length_append, List.length_cons] at this ⊢
    omega
end Go.Sk.X
namespace Go.Sk.X
open Go Go.Sk
def satB (cs : List (List Int)) (a : List Int) : Bool := cs.all fun c => c.any fun x => decide (x ∈ a)
end Go.Sk.X
namespace Go.Sk.X
open Go Go.Sk
def flat (p : List S_api_Block) : List Int := p.flatMap (·.Vars)
theorem sumFold {α : Type} (f : α → Nat) (M : Nat) (hM : M = 140737488351232) : ∀ (ls : List α) (s : Nat), (∀ l ∈ ls, f l ≤ M) → s + ls.length * M ≤ 9223372036854775807 →
    ls.foldl (fun s (x : α) => IntKind.wrap .i64 (s + ((f x : Nat) : Int))) (s : Int) = ((s + (ls.map f).sum : Nat) : Int)
  | [], s, _, _ => by rw [List.foldl_nil, List.map_nil, List.sum_nil, Nat.add_zero]
  | l :: ls, s, h, hb => by
    have hl := h l (by simp)
    rw [List.length_cons, Nat.add_mul, Nat.one_mul] at hb
    have e : IntKind.wrap .i64 ((s : Int) + ((f l : Nat) : Int)) = ((s + f l : Nat) : Int) := by rw [wrap_id (by omega) (by omega)]; omega
    rw [List.foldl_cons, e, sumFold f M hM ls (s + f l) (fun x hx => h x (by simp [hx])) (by omega), List.map_cons, List.sum_cons, Nat.add_assoc]
structure Sq (q : S_api_Qbf) : Prop where
  bl : q.Prefix.length ≤ 60
  vs : (flat q.Prefix).length ≤ 100
  cl : q.Clauses.length ≤ 60
  tot : tot q.Clauses ≤ 300
end Go.Sk.X
namespace Go.Sk.X
open Go Go.Sk
end Go.Sk.X
namespace Go.Sk.X
open Go Go.Sk
def upd (f : Int → Bool) (v : Int) (b : Bool) : Int → Bool := fun u => if u = v then b else f u
def litF (f : Int → Bool) (x : Int) : Bool := if x < 0 then !f (-x) else f x
def satF (cs : List (List Int)) (f : Int → Bool) : Bool := cs.all fun c => c.any (litF f)
theorem lits_found (m : List (Int × Bool)) (c : List Int) (hr : ∀ x ∈ c, -65536 ≤ x ∧ x ≤ 65536) {R : Type} (kk : Int → Option R) (A B : Option R) (hA : ∀ j : Nat, kk (j : Int) = A) (hB : kk (-1) = B) :
    (rangeF (fun (j881 : Nat) (x882 : Int) (s878 : Unit) k880 => (jn (fun (s922 : Bool) => (if s922 = true then (kk ((j881 : Nat) : Int)) else (k880 ()))) (fun k924 => (if (decide (x882 < (0 : Int))) = true then (k924 (!((mget m (IntKind.wrap .i64 (0 - x882))).getD false))) else (k924 ((mget m x882).getD false)))))) 0 c () (fun (s878 : Unit) => (kk (-1 : Int))))
      = if (c.any (litF fun v => (mget m v).getD false)) = true then A else B := by
  refine rangeF_pre c (fun _ _ => True) (fun _ xs _ => if (xs.any (litF fun v => (mget m v).getD false)) = true then A else B) (fun _ _ => by simp [hB]) ?_ c [] () rfl trivial
  intro pre x xs s k2 hf hI h2
  have hx := hr x (by rw [hf]; simp)
  have hw : IntKind.wrap .i64 (0 - x) = -x := by rw [wrap_id (by omega) (by omega)]; omega
  rw [List.any_cons]
  simp only [jn_eq, hw, h2 () trivial, hA, litF]
  by_cases h : x < 0
  · simp only [h, decide_true, if_true]
    cases ((mget m (-x)).getD false) <;> simp
  · simp only [h, decide_false, Bool.false_eq_true, if_false]
    cases ((mget m x).getD false) <;> simp
theorem prog_sat (m : List (Int × Bool)) (cs : List (List Int)) (hr : ∀ c ∈ cs, ∀ x ∈ c, -65536 ≤ x ∧ x ≤ 65536) {R : Type} (kk : Bool → Option R) :
    (rangeF (fun (j519 : Nat) (x520 : (List Int)) (s516 : Unit) k518 => (jn (fun (s874 : Int) => (if (!(decide (s874 ≥ (0 : Int)))) = true then (kk false) else (k518 ()))) (fun k876 => (rangeF (fun (j881 : Nat) (x882 : Int) (s878 : Unit) k880 => (jn (fun (s922 : Bool) => (if s922 = true then (k876 ((j881 : Nat) : Int)) else (k880 ()))) (fun k924 => (if (decide (x882 < (0 : Int))) = true then (k924 (!((mget m (IntKind.wrap .i64 (0 - x882))).getD false))) else (k924 ((mget m x882).getD false)))))) 0 x520 () (fun (s878 : Unit) => (k876 (-1 : Int))))))) 0 cs () (fun (s516 : Unit) => (kk true)))
      = kk (satF cs fun v => (mget m v).getD false) := by
  refine rangeF_pre cs (fun _ _ => True) (fun _ xs _ => kk (satF xs fun v => (mget m v).getD false)) (fun _ _ => rfl) ?_ cs [] () rfl trivial
  intro pre x xs s k2 hf hI h2
  have e := lits_found m x (hr x (by rw [hf]; simp)) (fun (s874 : Int) => (if (!(decide (s874 ≥ (0 : Int)))) = true then (kk false) else (k2 ()))) (k2 ()) (kk false) (fun j => by
    have : ((j : Nat) : Int) ≥ 0 := by omega
    simp [this]) (by simp)
  refine e.trans ?_
  rw [h2 () trivial]
  simp only [satF, List.all_cons]
  by_cases h : (x.any (litF fun v => (mget m v).getD false)) = true
  · rw [if_pos h, h, Bool.true_and]
  · rw [if_neg h, Bool.eq_false_iff.2 h, Bool.false_and]
end Go.Sk.X
namespace Go.Sk.X
open Go Go.Sk
structure Gd (q : S_api_Qbf) : Prop where
  one : ∀ v ∈ flat q.Prefix, 1 ≤ v ∧ v ≤ 65536
  nd : (flat q.Prefix).Nodup
  nrm : ∀ c ∈ q.Clauses, nrmB 0 c = true
  wi : ∀ c ∈ q.Clauses, ∀ x ∈ c, av x ∈ flat q.Prefix
theorem head_eq : F_skolemlaw04_head = some true := by decide +kernel
end Go.Sk.X
namespace Go.Sk.X
open Go Go.Sk
def asg (d : S_api_Dqbf) (f : Int → (Int → Bool) → Bool) (σ : Int → Bool) (v : Int) : Bool := if v ∈ d.Univ then σ v else f v σ
def litT (a : Int → Bool) (x : Int) : Bool := if x < 0 then !(a (av x)) else a (av x)
def Dpd (d : S_api_Dqbf) (f : Int → (Int → Bool) → Bool) : Prop := ∀ e ∈ d.Exist, ∀ σ τ : Int → Bool, (∀ u ∈ e.On, σ u = τ u) → f e.Var σ = f e.Var τ
def Sat (d : S_api_Dqbf) (f : Int → (Int → Bool) → Bool) : Prop := ∀ σ, ∀ c ∈ d.Clauses, ∃ x ∈ c, litT (asg d f σ) x = true
def Sem (d : S_api_Dqbf) : Prop := ∃ f, Dpd d f ∧ Sat d f
theorem litT_congr {a b : Int → Bool} {x : Int} (h : a (av x) = b (av x)) : litT a x = litT b x := by unfold litT; rw [h]
end Go.Sk.X
namespace Go.Sk.X
open Go Go.Sk
def sz (es : List S_api_Dep) : Nat := (es.map fun e => 2 ^ e.On.length).sum
theorem sz_app (a b : List S_api_Dep) : sz (a ++ b) = sz a + sz b := by simp [sz]
theorem sz_cons (a : S_api_Dep) (b : List S_api_Dep) : sz (a :: b) = 2 ^ a.On.length + sz b := by simp [sz]
def ixF (σ : Int → Bool) : List Int → Nat
  | [] => 0
  | x :: xs => (if σ x = true then 1 else 0) + 2 * ixF σ xs
theorem ixF_lt (σ : Int → Bool) : ∀ l : List Int, ixF σ l < 2 ^ l.length
  | [] => by simp [ixF]
  | x :: l => by
    have := ixF_lt σ l
    have e : 2 ^ (l.length + 1) = 2 * 2 ^ l.length := by rw [Nat.pow_succ]; omega
    simp only [ixF, List.length_cons, e]
    split <;> omega
theorem ixF_congr {σ τ : Int → Bool} : ∀ {l : List Int}, (∀ u ∈ l, σ u = τ u) → ixF σ l = ixF τ l
  | [], _ => rfl
  | x :: l, h => by
    simp only [ixF]
    rw [h x (by simp), ixF_congr (l := l) (fun u hu => h u (by simp [hu]))]
theorem testBit_cons (b : Bool) (n i : Nat) : ((if b = true then 1 else 0) + 2 * n).testBit i = if i = 0 then b else n.testBit (i - 1) := by
  rcases i with _ | i
  · cases b <;> simp [Nat.testBit_zero] <;> omega
  · rw [Nat.testBit_succ]
    have : ((if b = true then 1 else 0) + 2 * n) / 2 = n := by cases b <;> simp <;> omega
    rw [this]; simp
theorem ixF_bit (σ : Int → Bool) : ∀ (l : List Int) (i : Nat) (x : Int), l[i]? = some x → (ixF σ l).testBit i = σ x
  | [], i, x, h => by simp at h
  | y :: l, i, x, h => by
    simp only [ixF]
    rw [testBit_cons]
    rcases i with _ | i
    · simp at h; subst h; simp
    · simp at h; simpa using ixF_bit σ l i x h
theorem ixF_snoc (σ : Int → Bool) : ∀ (l : List Int) (x : Int), ixF σ (l ++ [x]) = ixF σ l + if σ x = true then 2 ^ l.length else 0
  | [], x => by simp [ixF]
  | y :: l, x => by
    have e : 2 ^ (l.length + 1) = 2 * 2 ^ l.length := by rw [Nat.pow_succ]; omega
    simp only [List.cons_append, ixF, ixF_snoc σ l x, List.length_cons, e]
    by_cases h : σ x = true <;> simp [h] <;> omega
theorem fdiv_pow (m i : Nat) : Int.fdiv (m : Int) (2 ^ i) = ((m >>> i : Nat) : Int) := by
  rw [Nat.shiftRight_eq_div_pow, Int.fdiv_eq_ediv_of_nonneg _ (by have := Nat.two_pow_pos i; exact_mod_cast Nat.zero_le _)]
  rw [Int.natCast_ediv]
  rfl
theorem bit_and (m : Nat) (i : Nat) : ((BitVec.ofInt 64 ((m >>> i : Nat) : Int) &&& BitVec.ofInt 64 (1 : Int)).toNat) = if m.testBit i = true then 1 else 0 := by
  have h1 : BitVec.ofInt 64 (1 : Int) = BitVec.ofNat 64 1 := rfl
  rw [BitVec.ofInt_natCast, h1, BitVec.toNat_and, BitVec.toNat_ofNat, BitVec.toNat_ofNat]
  have : (1 % 2 ^ 64 : Nat) = 1 := rfl
  rw [this, Nat.and_one_is_mod, Nat.testBit_eq_decide_div_mod_eq, Nat.shiftRight_eq_div_pow]
  have : (m / 2 ^ i % 2 ^ 64) % 2 = m / 2 ^ i % 2 := by omega
  rw [this]
  by_cases h : m / 2 ^ i % 2 = 1
  · simp [h]
  · simp [h]; omega
def bitsF (m : Nat) : Nat → Nat → List Bool
  | _, 0 => []
  | l, k + 1 => m.testBit (l - 1) :: bitsF m (l - 1) k
theorem bitsF_len (m : Nat) : ∀ k l, (bitsF m l k).length = k
  | 0, l => rfl
  | k + 1, l => by simp [bitsF, bitsF_len m k (l - 1)]
theorem bitsF_get (m : Nat) : ∀ k l i, i < k → (bitsF m l k)[i]? = some (m.testBit (l - 1 - i))
  | 0, l, i, h => by omega
  | k + 1, l, i, h => by
    rcases i with _ | i
    · simp [bitsF]
    · simp only [bitsF, List.getElem?_cons_succ]
      rw [bitsF_get m k (l - 1) i (by omega)]
      congr 2; omega
def numL (n : Nat) : Nat → List S_api_Dep → List S_api_Table
  | _, [] => []
  | l, e :: es => S_api_Table.mk e.Var e.On (bitsF n l (2 ^ e.On.length)) :: numL n (l - 2 ^ e.On.length) es
def TOf (es : List S_api_Dep) (ts : List S_api_Table) : Prop := ts.map (fun t => (t.Var, t.On)) = es.map (fun e => (e.Var, e.On)) ∧ ∀ t ∈ ts, t.Bits.length = 2 ^ t.On.length
def bitT (t : S_api_Table) (σ : Int → Bool) : Bool := t.Bits.getD (ixF σ t.On) false
def fOf (ts : List S_api_Table) (v : Int) (σ : Int → Bool) : Bool := match ts.find? (fun t => decide (t.Var = v)) with | some t => bitT t σ | none => false
def pairL (vs : List (Int × Bool)) : List Int := vs.map fun q => if q.2 = true then q.1 else -q.1
def allP (d : S_api_Dqbf) (ts : List S_api_Table) (σ : Int → Bool) : List (Int × Bool) := d.Univ.map (fun u => (u, σ u)) ++ ts.map fun t => (t.Var, bitT t σ)
theorem pairL_mem {vs : List (Int × Bool)} {a : Int → Bool} (h : ∀ q ∈ vs, 0 < q.1 ∧ a q.1 = q.2) {x : Int} (hx : x ≠ 0) (hin : ∃ q ∈ vs, q.1 = av x) : x ∈ pairL vs ↔ litT a x = true := by
  constructor
  · intro hm
    obtain ⟨⟨v, b⟩, hq, rfl⟩ := List.mem_map.1 hm
    obtain ⟨h0, h1⟩ := h _ hq
    simp only at h0 h1 ⊢
    cases b
    · have : av (-v) = v := by rw [av_neg, av_pos h0]
      simp only [Bool.false_eq_true, if_false, litT, this, h1]
      rw [if_pos (by omega)]; rfl
    · simp only [if_true, litT, av_pos h0, h1]
      rw [if_neg (by omega)]
  · intro hm
    obtain ⟨⟨v, b⟩, hq, hv⟩ := hin
    obtain ⟨h0, h1⟩ := h _ hq
    simp only at h0 h1 hv
    refine List.mem_map.2 ⟨(v, b), hq, ?_⟩
    unfold litT at hm
    rw [← hv, h1] at hm
    by_cases hn : x < 0
    · rw [if_pos hn] at hm
      have hb : b = false := by simpa using hm
      subst hb
      simp only [Bool.false_eq_true, if_false, hv]
      unfold av; rw [if_pos hn]; omega
    · rw [if_neg hn] at hm
      subst hm
      simp only [if_true, hv]
      unfold av; rw [if_neg hn]
theorem find_tab {ts : List S_api_Table} (hn : (ts.map (·.Var)).Nodup) {t : S_api_Table} (h : t ∈ ts) : ts.find? (fun t2 => decide (t2.Var = t.Var)) = some t := by
  induction ts with
  | nil => simp at h
  | cons x xs ih =>
    rw [List.map_cons, List.nodup_cons] at hn
    rw [List.find?_cons]
    rcases List.mem_cons.1 h with rfl | h
    · simp
    · have : x.Var ≠ t.Var := fun e => hn.1 (e ▸ List.mem_map.2 ⟨t, h, rfl⟩)
      simp only [this, decide_false]
      exact ih hn.2 h
theorem TOf.vars {es : List S_api_Dep} {ts : List S_api_Table} (h : TOf es ts) : ts.map (·.Var) = es.map (·.Var) := by
  have := congrArg (List.map Prod.fst) h.1
  simpa [List.map_map, Function.comp_def] using this
theorem TOf.mem {es : List S_api_Dep} {ts : List S_api_Table} (h : TOf es ts) {t : S_api_Table} (ht : t ∈ ts) : ∃ e ∈ es, e.Var = t.Var ∧ e.On = t.On := by
  have : (t.Var, t.On) ∈ es.map fun e => (e.Var, e.On) := by rw [← h.1]; exact List.mem_map.2 ⟨t, ht, rfl⟩
  obtain ⟨e, he, h2⟩ := List.mem_map.1 this
  injection h2 with h2 h3
  exact ⟨e, he, h2, h3⟩
theorem TOf.has {es : List S_api_Dep} {ts : List S_api_Table} (h : TOf es ts) {e : S_api_Dep} (he : e ∈ es) : ∃ t ∈ ts, t.Var = e.Var ∧ t.On = e.On := by
  have : (e.Var, e.On) ∈ ts.map fun t => (t.Var, t.On) := by rw [h.1]; exact List.mem_map.2 ⟨e, he, rfl⟩
  obtain ⟨t, ht, h2⟩ := List.mem_map.1 this
  injection h2 with h2 h3
  exact ⟨t, ht, h2, h3⟩
structure Plain (d : S_api_Dqbf) : Prop where
  upos : ∀ u ∈ d.Univ, 0 < u
  vpos : ∀ v ∈ varsD d, 0 < v
  und : d.Univ.Nodup
  vnd : (varsD d).Nodup
  sep : ∀ {v}, v ∈ d.Univ → v ∉ varsD d
  wi : ∀ c ∈ d.Clauses, ∀ x ∈ c, x ≠ 0 ∧ (av x ∈ d.Univ ∨ av x ∈ varsD d)
  on : ∀ e ∈ d.Exist, e.On.Nodup ∧ ∀ u ∈ e.On, u ∈ d.Univ
theorem allP_asg {d : S_api_Dqbf} (hp : Plain d) {ts : List S_api_Table} (ht : TOf d.Exist ts) (σ : Int → Bool) : ∀ q ∈ allP d ts σ, 0 < q.1 ∧ asg d (fOf ts) σ q.1 = q.2 := by
  intro q hq
  have hvs : ts.map (·.Var) = varsD d := ht.vars
  rcases List.mem_append.1 hq with hq | hq
  · obtain ⟨u, hu, rfl⟩ := List.mem_map.1 hq
    exact ⟨hp.upos u hu, by unfold asg; rw [if_pos hu]⟩
  · obtain ⟨t, hm, rfl⟩ := List.mem_map.1 hq
    have hv : t.Var ∈ varsD d := by rw [← hvs]; exact List.mem_map.2 ⟨t, hm, rfl⟩
    refine ⟨hp.vpos _ hv, ?_⟩
    unfold asg fOf
    rw [if_neg (fun hu => hp.sep hu hv), find_tab (by rw [hvs]; exact hp.vnd) hm]
theorem sat_iff {d : S_api_Dqbf} (hp : Plain d) {ts : List S_api_Table} (ht : TOf d.Exist ts) (σ : Int → Bool) : satB d.Clauses (pairL (allP d ts σ)) = true ↔ ∀ c ∈ d.Clauses, ∃ x ∈ c, litT (asg d (fOf ts) σ) x = true := by
  unfold satB
  rw [List.all_eq_true]
  have hvs : ts.map (·.Var) = varsD d := ht.vars
  have key : ∀ c ∈ d.Clauses, ∀ x ∈ c, (x ∈ pairL (allP d ts σ) ↔ litT (asg d (fOf ts) σ) x = true) := fun c hc x hx => by
    obtain ⟨h0, h1⟩ := hp.wi c hc x hx
    refine pairL_mem (allP_asg hp ht σ) h0 ?_
    rcases h1 with h1 | h1
    · exact ⟨(av x, σ (av x)), List.mem_append.2 (.inl (List.mem_map.2 ⟨_, h1, rfl⟩)), rfl⟩
    · rw [← hvs] at h1
      obtain ⟨t, hm, h2⟩ := List.mem_map.1 h1
      exact ⟨(t.Var, bitT t σ), List.mem_append.2 (.inr (List.mem_map.2 ⟨t, hm, rfl⟩)), h2⟩
  constructor
  · intro h c hc
    have := h c hc
    rw [List.any_eq_true] at this
    obtain ⟨x, hx, hm⟩ := this
    exact ⟨x, hx, (key c hc x hx).1 (by simpa using hm)⟩
  · intro h c hc
    obtain ⟨x, hx, hm⟩ := h c hc
    rw [List.any_eq_true]
    exact ⟨x, hx, by simpa using (key c hc x hx).2 hm⟩
end Go.Sk.X
namespace Go.Sk.X
open Go Go.Sk
theorem wu0 (n : Int) : 0 ≤ IntKind.wrap .u64 n := by rw [wrapu]; omega
theorem pw_le {n m : Nat} (h : n ≤ m) : 2 ^ n ≤ 2 ^ m := Nat.pow_le_pow_right (by decide) h
theorem pw_eq (n : Nat) (h : n ≤ 62) : IntKind.wrap .i64 ((1 : Int) * 2 ^ (min (IntKind.wrap .u64 ((n : Nat) : Int)).toNat (IntKind.bits .i64))) = ((2 ^ n : Nat) : Int) := by
  have e1 : (IntKind.wrap .u64 ((n : Nat) : Int)).toNat = n := by rw [wrapu]; omega
  have e2 : IntKind.bits .i64 = 64 := rfl
  have e3 : min n 64 = n := by omega
  rw [e1, e2, e3]
  have : 2 ^ n ≤ 2 ^ 62 := pw_le h
  have h4 : (1 : Int) * (2 : Int) ^ n = ((2 ^ n : Nat) : Int) := by simp
  rw [h4]
  generalize 2 ^ n = m at this ⊢
  have h62 : (2 : Nat) ^ 62 = 4611686018427387904 := rfl
  exact wrap_id (by omega) (by omega)
theorem pw_eqT (n : Nat) (h : n ≤ 62) : IntKind.wrap .i64 ((1 : Int) * 2 ^ (min ((n : Nat) : Int).toNat (IntKind.bits .i64))) = ((2 ^ n : Nat) : Int) := by
  have := pw_eq n h
  rwa [show (IntKind.wrap .u64 ((n : Nat) : Int)).toNat = ((n : Nat) : Int).toNat by rw [wrapu]; omega] at this
theorem wi_ok (x : Int) : -9223372036854775808 ≤ (0 : Int) ∧ IntKind.wrap .i64 x ≤ 9223372036854775807 := by
  refine ⟨by decide, ?_⟩
  simp only [IntKind.wrap, IntKind.bits, IntKind.signed]
  simp only [Bool.true_and]
  split <;> rename_i h <;> simp only [ge_iff_le, decide_eq_true_eq] at h <;> omega
theorem bit_val (m i : Nat) (hi : i ≤ 62) : IntKind.wrap .i64 ((BitVec.ofInt (IntKind.bits .i64) (Int.fdiv (m : Int) (2 ^ (min (IntKind.wrap .u64 ((i : Nat) : Int)).toNat (IntKind.bits .i64)))) &&& BitVec.ofInt (IntKind.bits .i64) (1 : Int)).toNat : Int) = if m.testBit i = true then 1 else 0 := by
  have e1 : (IntKind.wrap .u64 ((i : Nat) : Int)).toNat = i := by rw [wrapu]; omega
  have e2 : IntKind.bits .i64 = 64 := rfl
  have e3 : min i 64 = i := by omega
  rw [e1, e2, e3, fdiv_pow, bit_and]
  split <;> rfl
structure Few (d : S_api_Dqbf) : Prop where
  on : ∀ e ∈ d.Exist, e.On.length ≤ 4
  univ : d.Univ.length ≤ 8
  bits : sz d.Exist ≤ 16
end Go.Sk.X
namespace Go.Sk.X
open Go Go.Sk
theorem plain_of {d : S_api_Dqbf} (hm : May d) : Plain d where
  upos u hu := (rsB_mem hm.ru u hu).1
  vpos v hv := (rsB_mem hm.rv v hv).1
  und := rsB_nodup hm.ru
  vnd := rsB_nodup hm.rv
  sep := hm.sep
  wi c hc x hx := ⟨(nrm_lit (hm.nrm c hc) hx).1, hm.wi c hc x hx⟩
  on e he := ⟨rsB_nodup (hm.on e he).1, (hm.on e he).2⟩
def sgM (us : List Int) (m : Nat) (u : Int) : Bool := m.testBit (us.idxOf u)
def winB (d : S_api_Dqbf) (ts : List S_api_Table) : Bool := (List.range' 0 (2 ^ d.Univ.length)).all fun m => satB d.Clauses (pairL (allP d ts (sgM d.Univ m)))
theorem allP_congr {d : S_api_Dqbf} (hp : Plain d) {ts : List S_api_Table} (ht : TOf d.Exist ts) {σ τ : Int → Bool} (h : ∀ u ∈ d.Univ, σ u = τ u) : allP d ts σ = allP d ts τ := by
  unfold allP
  congr 1
  · exact List.map_congr_left (fun u hu => by rw [h u hu])
  · refine List.map_congr_left (fun t hm => ?_)
    obtain ⟨e, he, h1, h2⟩ := ht.mem hm
    have : bitT t σ = bitT t τ := by
      unfold bitT
      rw [ixF_congr (fun u hu => h u ((hp.on e he).2 u (h2 ▸ hu)))]
    rw [this]
theorem winB_iff {d : S_api_Dqbf} (hp : Plain d) {ts : List S_api_Table} (ht : TOf d.Exist ts) : winB d ts = true ↔ ∀ σ, satB d.Clauses (pairL (allP d ts σ)) = true := by
  unfold winB
  rw [List.all_eq_true]
  constructor
  · intro h σ
    have := h (ixF σ d.Univ) (by rw [List.mem_range'_1]; exact ⟨Nat.zero_le _, by have := ixF_lt σ d.Univ; omega⟩)
    rw [← this, allP_congr hp ht (σ := σ) (τ := sgM d.Univ (ixF σ d.Univ)) (fun u hu => ?_)]
    unfold sgM
    have hi := List.idxOf_lt_length_of_mem hu
    exact (ixF_bit σ d.Univ _ u (by rw [List.getElem?_eq_getElem hi, List.getElem_idxOf])).symm
  · intro h m _
    exact h _
theorem upF_allN {R : Type} {f : Int → Unit → (Unit → Option R) → Option R} {k : Unit → Option R} {A : Option R} (p : Nat → Bool) (N : Nat)
    (h : ∀ m, m < N → ∀ kk, f (m : Int) () kk = if p m = true then kk () else A) : ∀ n j, j + n = N → upF f n (j : Int) () k = if ((List.range' j n).all p) = true then k () else A
  | 0, j, _ => by rw [upF_zero]; simp
  | n + 1, j, hj => by
    rw [upF_succ, h j (by omega), List.range'_succ, List.all_cons]
    have := upF_allN (k := k) p N h n (j + 1) (by omega)
    rw [show ((j : Int) + 1) = ((j + 1 : Nat) : Int) by omega, this]
    cases p j
    · simp
    · rw [Bool.true_and, if_pos rfl]
def firstW (w : Nat → Bool) (tn : Nat → List S_api_Table) : Nat → Nat → List S_api_Table × Int
  | 0, _ => ([], 6)
  | k + 1, j => if w j = true then (tn j, 0) else firstW w tn k (j + 1)
def skV (d : S_api_Dqbf) : List S_api_Table × Int := firstW (fun n => winB d (numL n (sz d.Exist) d.Exist)) (fun n => numL n (sz d.Exist) d.Exist) (2 ^ sz d.Exist) 0
end Go.Sk.X
namespace Go.Sk.X
open Go Go.Sk
theorem sz_nil : sz [] = 0 := rfl
def fewB (d : S_api_Dqbf) : Bool := decide (d.Univ.length ≤ 8) && ((d.Exist.all fun e => decide (e.On.length ≤ 4)) && decide (sz d.Exist ≤ 16))
theorem few_of {d : S_api_Dqbf} (h : fewB d = true) : Few d := by
  simp only [fewB, Bool.and_eq_true, decide_eq_true_eq, List.all_eq_true] at h
  exact ⟨h.2.1, h.1, h.2.2⟩
theorem few_eq {d : S_api_Dqbf} (hl : d.Exist.length ≤ 1024) : F_truth_few d = some (if fewB d = true then 0 else 3) := by
  refine rangeF_pre d.Exist (fun pre s => s = (sz pre : Int) ∧ sz pre ≤ 16 * pre.length ∧ ∀ e ∈ pre, e.On.length ≤ 4) (fun _ _ _ => some (if fewB d = true then 0 else 3)) ?_ ?_ d.Exist [] 0 rfl ⟨rfl, by simp [sz], by simp⟩
  · rintro s ⟨rfl, _, ho⟩
    simp only [jn_eq]
    have hall : (d.Exist.all fun e => decide (e.On.length ≤ 4)) = true := by rw [List.all_eq_true]; exact fun e he => by simpa using ho e he
    unfold fewB
    rw [hall, Bool.true_and]
    by_cases h1 : ((d.Univ.length : Nat) : Int) > 8
    · have : ¬ d.Univ.length ≤ 8 := by omega
      simp [h1, this]
    · have h3 : d.Univ.length ≤ 8 := by omega
      by_cases h2 : (sz d.Exist : Int) > 16
      · have : ¬ sz d.Exist ≤ 16 := by omega
        simp [h1, h2, h3, this]
      · have : sz d.Exist ≤ 16 := by omega
        simp [h1, h2, h3, this]
  · rintro pre x xs s kk hf ⟨rfl, hs, ho⟩ hk
    have hlen : pre.length < d.Exist.length := by rw [hf]; simp
    by_cases h1 : ((x.On.length : Nat) : Int) > 4
    · have : fewB d = false := by
        unfold fewB
        have : (d.Exist.all fun e => decide (e.On.length ≤ 4)) = false := by
          rw [List.all_eq_false]; exact ⟨x, by rw [hf]; simp, by simp; omega⟩
        simp [this]
      simp [h1, this]
    have hp : 2 ^ x.On.length ≤ 2 ^ 4 := pw_le (by omega)
    have hq : (2 : Nat) ^ 4 = 16 := rfl
    have h0 : (0 : Int) ≤ ((x.On.length : Nat) : Int) := Int.natCast_nonneg _
    simp only [h1, decide_false, Bool.false_eq_true, if_false]
    rw [okI_eq h0, pw_eqT _ (by omega)]
    generalize hG : 2 ^ x.On.length = g at hp ⊢
    have hs0 : (0 : Int) ≤ (sz pre : Int) := Int.natCast_nonneg _
    refine hk _ ⟨?_, ?_, ?_⟩
    · rw [wrap_id (by omega) (by omega), sz_app, sz_cons, hG, sz_nil]; omega
    · rw [sz_app, sz_cons, hG, List.length_append, List.length_singleton, sz_nil]; omega
    · intro e he
      rcases List.mem_append.1 he with he | he
      · exact ho e he
      · rw [List.mem_singleton] at he; subst he; omega
theorem ints_eq (a b : List Int) : F_skolemref03_Ints a b = some (decide (a = b)) := by
  unfold F_skolemref03_Ints
  by_cases hl : a.length = b.length
  · have : (((a.length : Nat) : Int) != ((b.length : Nat) : Int)) = false := by simp [hl]
    rw [this, if_neg (by decide)]
    refine rangeF_pre a (fun pre _ => pre = b.take pre.length) (fun pre xs _ => some (decide (pre ++ xs = b))) ?_ ?_ a [] () rfl rfl
    · intro s hI
      rw [hl, List.take_length] at hI
      simp [hI]
    · intro pre x xs s kk hf hI hk
      have hlt : pre.length < b.length := by rw [← hl, hf]; simp
      rw [getI_nat, List.getElem?_eq_getElem hlt]
      simp only
      by_cases hx : x = b[pre.length]
      · have h2 : pre ++ [x] = b.take (pre ++ [x]).length := by
          rw [List.length_append, List.length_singleton, List.take_add_one, List.getElem?_eq_getElem hlt, ← hI, hx]; rfl
        have := hk () h2
        rw [if_neg (by simp [hx]), this]
        simp
      · rw [if_pos (by simpa using hx)]
        have : ¬ pre ++ x :: xs = b := fun e => hx (by
          have h3 : (pre ++ x :: xs)[pre.length]? = b[pre.length]? := by rw [e]
          simpa [List.getElem?_eq_getElem hlt] using h3)
        simp [this]
  · have : (((a.length : Nat) : Int) != ((b.length : Nat) : Int)) = true := by simp; omega
    rw [this, if_pos rfl]
    have : ¬ a = b := fun e => hl (by rw [e])
    simp [this]
theorem equal_eq (a b : List Int) : F_slices_Equal_int_int a b = some (decide (a = b)) := ints_eq a b
def likeB (t u : S_api_Table) : Bool := decide (t.Var = u.Var) && (decide (t.On = u.On) && decide (u.Bits.length = 2 ^ u.On.length))
def alikeB (a l : List S_api_Table) : Bool := decide (a.length = l.length) && (a.zip l).all fun p => likeB p.1 p.2
def LSm (l : List S_api_Table) : Prop := l.length ≤ 60 ∧ ∀ t ∈ l, t.Bits.length ≤ 5000 ∧ t.On.length ≤ 100
theorem zip_all {α β : Type} {p : α × β → Bool} {a : List α} {l : List β} {R : Type} {f : Nat → α → Unit → (Unit → Option R) → Option R} {k : Unit → Option R} {A B : Option R} (hl : a.length = l.length) (hk : k () = A)
    (h : ∀ (j : Nat) x y kk, a[j]? = some x → l[j]? = some y → f j x () kk = if p (x, y) = true then kk () else B) : rangeF f 0 a () k = if (a.zip l).all p = true then A else B := by
  refine rangeF_pre a (fun _ _ => True) (fun pre xs _ => if (xs.zip (l.drop pre.length)).all p = true then A else B) (fun s _ => by simp [hk]) ?_ a [] () rfl trivial
  intro pre x xs s kk hf _ hk2
  have hlt : pre.length < l.length := by rw [← hl, hf]; simp
  rw [h pre.length x l[pre.length] kk (by rw [hf]; simp) (List.getElem?_eq_getElem hlt), hk2 () trivial, List.drop_eq_getElem_cons hlt, List.zip_cons_cons, List.all_cons]
  rw [List.length_append, List.length_singleton]
  cases p (x, l[pre.length])
  · simp
  · rw [Bool.true_and, if_pos rfl]
theorem pow_big {n m : Nat} (h : m = 2 ^ n) (hm : m ≤ 5000) : n ≤ 12 := by
  refine Classical.byContradiction fun hh => ?_
  have : 2 ^ 13 ≤ 2 ^ n := pw_le (by omega)
  have hq : (2 : Nat) ^ 13 = 8192 := rfl
  omega
theorem palike_eq {a l : List S_api_Table} (hl : LSm l) : F_truth_alike a l = some (alikeB a l) := by
  unfold F_truth_alike alikeB
  by_cases hL : a.length = l.length
  · have : (((a.length : Nat) : Int) != ((l.length : Nat) : Int)) = false := by simp [hL]
    simp only [jn_eq, this, Bool.false_eq_true, if_false]
    refine (zip_all (p := fun p => likeB p.1 p.2) (A := some true) (B := some false) hL rfl (fun j x y kk hx hy => ?_)).trans ?_
    · have hm := (hl.2 y (List.mem_of_getElem? hy))
      rw [getI_nat, hy]
      simp only [equal_eq, Option.bind_some, likeB]
      by_cases h1 : x.Var = y.Var
      · by_cases h2 : x.On = y.On
        · by_cases h3 : ((y.On.length : Nat) : Int) < 60
          · have h4 : (0 : Int) ≤ ((y.On.length : Nat) : Int) := Int.natCast_nonneg _
            simp only [h1, h2, h3, beq_self_eq_true, decide_true, if_true, Bool.true_and]
            rw [okI_eq h4, pw_eqT _ (by omega)]
            have : (((y.Bits.length : Nat) : Int) == ((2 ^ y.On.length : Nat) : Int)) = decide (y.Bits.length = 2 ^ y.On.length) := by
              rw [Bool.eq_iff_iff]; simp only [beq_iff_eq, decide_eq_true_eq]; omega
            rw [this]
            by_cases h5 : y.Bits.length = 2 ^ y.On.length <;> simp [h5]
          · have : ¬ y.Bits.length = 2 ^ y.On.length := fun e => by have := pow_big e hm.1; omega
            simp [h1, h2, h3, this]
        · simp [h1, h2]
      · simp [h1]
    · simp only [hL, decide_true, Bool.true_and]
      cases (a.zip l).all fun p => likeB p.1 p.2 <;> simp
  · have : (((a.length : Nat) : Int) != ((l.length : Nat) : Int)) = true := by simp; omega
    simp [jn_eq, this, hL]
end Go.Sk.X
namespace Go.Sk.X
open Go Go.Sk
theorem bit_valT (m i : Nat) (hi : i ≤ 62) : IntKind.wrap .i64 ((BitVec.ofInt (IntKind.bits .i64) (Int.fdiv (m : Int) (2 ^ (min ((i : Nat) : Int).toNat (IntKind.bits .i64)))) &&& BitVec.ofInt (IntKind.bits .i64) (1 : Int)).toNat : Int) = if m.testBit i = true then 1 else 0 := by
  have := bit_val m i hi
  rwa [show (IntKind.wrap .u64 ((i : Nat) : Int)).toNat = ((i : Nat) : Int).toNat by rw [wrapu]; omega] at this
theorem or_val {s j : Nat} (hs : s < 2 ^ j) (hj : j ≤ 60) : IntKind.wrap .i64 ((BitVec.ofInt (IntKind.bits .i64) (s : Int) ||| BitVec.ofInt (IntKind.bits .i64) ((2 ^ j : Nat) : Int)).toNat : Int) = ((s + 2 ^ j : Nat) : Int) := by
  have e2 : IntKind.bits .i64 = 64 := rfl
  have hp : 2 ^ j ≤ 2 ^ 60 := pw_le hj
  have h60 : (2 : Nat) ^ 60 = 1152921504606846976 := rfl
  have h64 : (2 : Nat) ^ 64 = 18446744073709551616 := rfl
  rw [e2, BitVec.ofInt_natCast, BitVec.ofInt_natCast, BitVec.toNat_or, BitVec.toNat_ofNat, BitVec.toNat_ofNat, Nat.mod_eq_of_lt (by omega), Nat.mod_eq_of_lt (by omega)]
  have h1 := Nat.two_pow_add_eq_or_of_lt hs 1
  rw [Nat.mul_one] at h1
  have h2 : s ||| 2 ^ j = s + 2 ^ j := by rw [Nat.or_comm, ← h1, Nat.add_comm]
  rw [h2, wrap_id (by omega) (by omega)]
theorem points_map {us : List Int} (hn : us.Nodup) (hl : us.length ≤ 62) (m : Nat) {R : Type} (K : List (Int × Bool) → Option R) (w : Option R) (hK : ∀ mp, (∀ v, (mget mp v).getD false = (decide (v ∈ us) && sgM us m v)) → K mp = w) :
    (rangeF (fun (j28062 : Nat) (x28063 : Int) (s28059 : (List (Int × Bool))) k28061 => (okI (0 ≤ ((j28062 : Nat) : Int)) (k28061 (mset s28059 x28063 ((IntKind.wrap .i64 ((BitVec.ofInt (IntKind.bits .i64) (Int.fdiv (m : Int) (2 ^ (min ((j28062 : Nat) : Int).toNat (IntKind.bits .i64)))) &&& BitVec.ofInt (IntKind.bits .i64) (1 : Int)).toNat : Int)) == (1 : Int)))))) 0 us ([] : List (Int × Bool)) K) = w := by
  refine rangeF_pre us (fun pre s => ∀ v, (mget s v).getD false = (decide (v ∈ pre) && sgM us m v)) (fun _ _ _ => w) (fun s hI => hK s hI) ?_ us [] [] rfl (by intro v; simp [mget])
  intro pre x xs s kk hf hI hk
  have hlt : pre.length < us.length := by rw [hf]; simp
  have hx : us[pre.length]? = some x := by rw [hf]; simp
  have hix : us.idxOf x = pre.length := by
    obtain ⟨hi, he⟩ := List.getElem?_eq_some_iff.1 hx
    rw [← he, hn.idxOf_getElem]
  rw [okI_eq (Int.natCast_nonneg _), bit_valT m _ (by omega)]
  refine hk _ (fun v => ?_)
  rw [mget_mset]
  by_cases hv : v = x
  · subst hv
    rw [if_pos rfl]
    have : sgM us m v = m.testBit pre.length := by unfold sgM; rw [hix]
    rw [this]
    cases m.testBit pre.length <;> simp
  · rw [if_neg hv, hI v]
    simp [hv]
theorem fOf_snoc_self {pre : List S_api_Table} {t : S_api_Table} (h : t.Var ∉ pre.map (·.Var)) (σ : Int → Bool) : fOf (pre ++ [t]) t.Var σ = bitT t σ := by
  unfold fOf
  rw [List.find?_append]
  have : pre.find? (fun u => decide (u.Var = t.Var)) = none := by
    rw [List.find?_eq_none]
    intro u hu
    have : u.Var ≠ t.Var := fun e => h (e ▸ List.mem_map.2 ⟨u, hu, rfl⟩)
    simpa using this
  rw [this]
  simp
theorem fOf_snoc_ne {pre : List S_api_Table} {t : S_api_Table} {v : Int} (h : v ≠ t.Var) (σ : Int → Bool) : fOf (pre ++ [t]) v σ = fOf pre v σ := by
  unfold fOf
  rw [List.find?_append]
  cases hp : pre.find? (fun u => decide (u.Var = v)) with
  | some u => rfl
  | none =>
    have : ¬ t.Var = v := fun e => h e.symm
    simp [this]
theorem tabs_map {us : List Int} {l : List S_api_Table} {σ : Int → Bool} (hnd : (l.map (·.Var)).Nodup) (hsep : ∀ t ∈ l, t.Var ∉ us) (hon : ∀ t ∈ l, (∀ u ∈ t.On, u ∈ us) ∧ t.On.length ≤ 60 ∧ t.Bits.length = 2 ^ t.On.length)
    (mp : List (Int × Bool)) (hmp : ∀ v, (mget mp v).getD false = (decide (v ∈ us) && σ v)) {R : Type} (K : List (Int × Bool) → Option R) (w : Option R) (hK : ∀ mp, (∀ v, (mget mp v).getD false = if v ∈ us then σ v else fOf l v σ) → K mp = w) :
    (rangeF (fun (j31058 : Nat) (x31059 : S_api_Table) (s31055 : (List (Int × Bool))) k31057 => (Option.bind (rangeF (fun (j31201 : Nat) (x31202 : Int) (s31198 : Int) k31200 => (jn (fun (s31219 : Int) => (k31200 s31219)) (fun k31221 => (if ((mget s31055 x31202).getD false) = true then (okI (0 ≤ ((j31201 : Nat) : Int)) (k31221 (IntKind.wrap .i64 ((BitVec.ofInt (IntKind.bits .i64) s31198 ||| BitVec.ofInt (IntKind.bits .i64) (IntKind.wrap .i64 ((1 : Int) * 2 ^ (min ((j31201 : Nat) : Int).toNat (IntKind.bits .i64))))).toNat : Int)))) else (k31221 s31198))))) 0 x31059.On (0 : Int) (fun (s31198 : Int) => (getI x31059.Bits s31198 (fun x31224 => (some x31224))))) (fun (y31197 : Bool) => (k31057 (mset s31055 x31059.Var y31197))))) 0 l mp K) = w := by
  refine rangeF_pre l (fun pre s => ∀ v, (mget s v).getD false = if v ∈ us then σ v else fOf pre v σ) (fun _ _ _ => w) (fun s hI => hK s hI) ?_ l [] mp rfl (by
    intro v; rw [hmp v]; by_cases hv : v ∈ us <;> simp [hv, fOf])
  intro pre t xs s kk hf hI hk
  have ht : t ∈ l := by rw [hf]; simp
  obtain ⟨ho, hl, hb⟩ := hon t ht
  have hpre : t.Var ∉ pre.map (·.Var) := fun hm => by
    rw [hf, List.map_append, List.map_cons] at hnd
    exact (List.nodup_append.1 hnd).2.2 _ hm _ (by simp) rfl
  have hat : (rangeF (fun (j31201 : Nat) (x31202 : Int) (s31198 : Int) k31200 => (jn (fun (s31219 : Int) => (k31200 s31219)) (fun k31221 => (if ((mget s x31202).getD false) = true then (okI (0 ≤ ((j31201 : Nat) : Int)) (k31221 (IntKind.wrap .i64 ((BitVec.ofInt (IntKind.bits .i64) s31198 ||| BitVec.ofInt (IntKind.bits .i64) (IntKind.wrap .i64 ((1 : Int) * 2 ^ (min ((j31201 : Nat) : Int).toNat (IntKind.bits .i64))))).toNat : Int)))) else (k31221 s31198))))) 0 t.On (0 : Int) (fun (s31198 : Int) => (getI t.Bits s31198 (fun x31224 => (some x31224))))) = some (bitT t σ) := by
    refine rangeF_pre t.On (fun p q => q = (ixF σ p : Int)) (fun _ _ _ => some (bitT t σ)) ?_ ?_ t.On [] 0 rfl rfl
    · rintro q rfl
      have hm : ixF σ t.On < t.Bits.length := by rw [hb]; exact ixF_lt _ _
      rw [getI_nat, List.getElem?_eq_getElem hm]
      simp [bitT, List.getD_eq_getElem?_getD, List.getElem?_eq_getElem hm]
    · rintro p x ys q k2 hf2 rfl hk2
      have hlen : p.length < t.On.length := by rw [hf2]; simp
      have hx := ho x (by rw [hf2]; simp)
      have hm := ixF_lt σ p
      have hk' := hk2 _ rfl
      rw [ixF_snoc] at hk'
      simp only [jn_eq]
      rw [hI x, if_pos hx]
      cases hs : σ x
      · rw [hs] at hk'
        simpa using hk'
      · rw [hs] at hk'
        rw [if_pos rfl, okI_eq (Int.natCast_nonneg _), pw_eqT _ (by omega), or_val hm (by omega)]
        exact hk'
  rw [hat, Option.bind_some]
  refine hk _ (fun v => ?_)
  rw [mget_mset]
  by_cases hv : v = t.Var
  · subst hv
    rw [if_pos rfl, if_neg (hsep t ht), fOf_snoc_self hpre]; rfl
  · rw [if_neg hv, hI v, fOf_snoc_ne hv]
theorem satF_iff {d : S_api_Dqbf} (hp : Plain d) {ts : List S_api_Table} (ht : TOf d.Exist ts) {σ : Int → Bool} {g : Int → Bool} (hg : ∀ v, g v = asg d (fOf ts) σ v) : satF d.Clauses g = satB d.Clauses (pairL (allP d ts σ)) := by
  rw [Bool.eq_iff_iff, sat_iff hp ht]
  unfold satF
  simp only [List.all_eq_true, List.any_eq_true]
  have : ∀ x, litF g x = litT (asg d (fOf ts) σ) x := fun x => by
    unfold litF litT av
    by_cases hx : x < 0
    · simp only [if_pos hx, hg]
    · simp only [if_neg hx, hg]
  simp only [this]
theorem prog_pt {d : S_api_Dqbf} (hp : Plain d) {ts : List S_api_Table} (ht : TOf d.Exist ts) (hl : d.Univ.length ≤ 60) (hr : ∀ c ∈ d.Clauses, ∀ x ∈ c, -65536 ≤ x ∧ x ≤ 65536) (m : Nat) {R : Type} (kk : Bool → Option R) :
    (rangeF (fun (j28062 : Nat) (x28063 : Int) (s28059 : (List (Int × Bool))) k28061 => (okI (0 ≤ ((j28062 : Nat) : Int)) (k28061 (mset s28059 x28063 ((IntKind.wrap .i64 ((BitVec.ofInt (IntKind.bits .i64) (Int.fdiv (m : Int) (2 ^ (min ((j28062 : Nat) : Int).toNat (IntKind.bits .i64)))) &&& BitVec.ofInt (IntKind.bits .i64) (1 : Int)).toNat : Int)) == (1 : Int)))))) 0 d.Univ ([] : List (Int × Bool)) (fun (s28059 : (List (Int × Bool))) => (rangeF (fun (j31058 : Nat) (x31059 : S_api_Table) (s31055 : (List (Int × Bool))) k31057 => (Option.bind (rangeF (fun (j31201 : Nat) (x31202 : Int) (s31198 : Int) k31200 => (jn (fun (s31219 : Int) => (k31200 s31219)) (fun k31221 => (if ((mget s31055 x31202).getD false) = true then (okI (0 ≤ ((j31201 : Nat) : Int)) (k31221 (IntKind.wrap .i64 ((BitVec.ofInt (IntKind.bits .i64) s31198 ||| BitVec.ofInt (IntKind.bits .i64) (IntKind.wrap .i64 ((1 : Int) * 2 ^ (min ((j31201 : Nat) : Int).toNat (IntKind.bits .i64))))).toNat : Int)))) else (k31221 s31198))))) 0 x31059.On (0 : Int) (fun (s31198 : Int) => (getI x31059.Bits s31198 (fun x31224 => (some x31224))))) (fun (y31197 : Bool) => (k31057 (mset s31055 x31059.Var y31197))))) 0 ts s28059 (fun (s31055 : (List (Int × Bool))) =>
      (rangeF (fun (j31643 : Nat) (x31644 : (List Int)) (s31640 : Unit) k31642 => (jn (fun (s31998 : Int) => (if (!(decide (s31998 ≥ (0 : Int)))) = true then (kk false) else (k31642 ()))) (fun k32000 => (rangeF (fun (j32005 : Nat) (x32006 : Int) (s32002 : Unit) k32004 => (jn (fun (s32046 : Bool) => (if s32046 = true then (k32000 ((j32005 : Nat) : Int)) else (k32004 ()))) (fun k32048 => (if (decide (x32006 < (0 : Int))) = true then (k32048 (!((mget s31055 (IntKind.wrap .i64 (0 - x32006))).getD false))) else (k32048 ((mget s31055 x32006).getD false)))))) 0 x31644 () (fun (s32002 : Unit) => (k32000 (-1 : Int))))))) 0 d.Clauses () (fun (s31640 : Unit) => (kk true)))))))
      = kk (satB d.Clauses (pairL (allP d ts (sgM d.Univ m)))) := by
  have hvs : ts.map (·.Var) = varsD d := ht.vars
  refine points_map hp.und (by omega) m _ _ (fun mp hmp => ?_)
  refine tabs_map (σ := sgM d.Univ m) (by rw [hvs]; exact hp.vnd) (fun t hm hu => hp.sep hu (by rw [← hvs]; exact List.mem_map.2 ⟨t, hm, rfl⟩)) (fun t hm => ?_) mp hmp _ _ (fun mp2 hmp2 => ?_)
  · obtain ⟨e, he, h1, h2⟩ := ht.mem hm
    have ho := hp.on e he
    have := nodup_len ho.1 ho.2
    exact ⟨fun u hu => ho.2 u (h2 ▸ hu), by rw [← h2]; omega, ht.2 t hm⟩
  · rw [prog_sat mp2 d.Clauses hr, satF_iff hp ht (σ := sgM d.Univ m) (fun v => ?_)]
    rw [hmp2 v]; rfl
theorem pwins_eq {d : S_api_Dqbf} (hm : May d) (hf : Few d) {ts : List S_api_Table} (ht : TOf d.Exist ts) : F_truth_wins d ts = some (winB d ts) := by
  unfold F_truth_wins
  have hu := hf.univ
  have hp := plain_of hm
  have hN : (((2 ^ d.Univ.length : Nat) : Int) - 0).toNat = 2 ^ d.Univ.length := by rw [Int.sub_zero, Int.toNat_natCast]
  rw [okI_eq (Int.natCast_nonneg _), okI_eq (wi_ok _), pw_eqT _ (by omega), hN]
  refine (upF_allN (A := some false) (fun m => satB d.Clauses (pairL (allP d ts (sgM d.Univ m)))) (2 ^ d.Univ.length) (fun m _ kk => ?_) (2 ^ d.Univ.length) 0 (by omega)).trans ?_
  · simp only [jn_eq]
    refine (prog_pt hp ht (by omega) (fun c hc x hx => (nrm_lit (hm.nrm c hc) hx).2) m (fun s => if (!s) = true then (some false) else (kk ()))).trans ?_
    cases satB d.Clauses (pairL (allP d ts (sgM d.Univ m))) <;> simp
  · unfold winB
    cases (List.range' 0 (2 ^ d.Univ.length)).all fun m => satB d.Clauses (pairL (allP d ts (sgM d.Univ m))) <;> simp
def wantD (d : S_api_Dqbf) : List S_api_Table := d.Exist.map fun e => S_api_Table.mk e.Var e.On []
theorem want_loop {R : Type} {d : S_api_Dqbf} (hl : d.Exist.length ≤ 1024) (K : List S_api_Table → Option R) :
    (rangeF (fun (j106 : Nat) (x107 : S_api_Dep) (s103 : (List S_api_Table)) k105 => (capN (s103.length + ([(S_api_Table.mk x107.Var x107.On ([] : List Bool))]).length) (k105 (s103 ++ ([(S_api_Table.mk x107.Var x107.On ([] : List Bool))]))))) 0 d.Exist ([] : List S_api_Table) K) = K (wantD d) := by
  refine rangeF_pre d.Exist (fun pre s => s = pre.map fun e => S_api_Table.mk e.Var e.On []) (fun _ _ _ => K (wantD d)) (fun s hI => by rw [hI]; rfl) ?_ d.Exist [] [] rfl rfl
  rintro pre x xs s kk hf rfl hk
  have hp : pre.length < d.Exist.length := by rw [hf]; simp
  rw [capN_eq (by simp; omega)]
  exact hk _ (by simp)
theorem tof_alike {es : List S_api_Dep} {l : List S_api_Table} (h : alikeB (es.map fun e => S_api_Table.mk e.Var e.On []) l = true) : TOf es l := by
  unfold alikeB at h
  simp only [Bool.and_eq_true, decide_eq_true_eq, List.length_map] at h
  obtain ⟨hl, h⟩ := h
  induction es generalizing l with
  | nil => cases l with
    | nil => exact ⟨rfl, by simp⟩
    | cons => simp at hl
  | cons e es ih => cases l with
    | nil => simp at hl
    | cons t l =>
      simp only [List.map_cons, List.zip_cons_cons, List.all_cons, Bool.and_eq_true, likeB, decide_eq_true_eq] at h
      obtain ⟨⟨h1, h2, h3⟩, h4⟩ := h
      obtain ⟨g1, g2⟩ := ih (by simpa using hl) h4
      refine ⟨by simp only [List.map_cons, g1, h1, h2], fun u hu => ?_⟩
      rcases List.mem_cons.1 hu with rfl | hu
      · exact h3
      · exact g2 u hu
def winsV (d : S_api_Dqbf) (l : List S_api_Table) : Bool × Int :=
  if MayD d = true then (if alikeB (wantD d) l = true then (if fewB d = true then (winB d l, 0) else (false, 3)) else (false, 2)) else (false, 2)
theorem pW_eq {d : S_api_Dqbf} (h : Sm d) {l : List S_api_Table} (hl : LSm l) : F_truth_Wins d l = some (winsV d l) := by
  unfold F_truth_Wins winsV
  rw [mayp_eq h, Option.bind_some]
  cases hM : MayD d
  · rfl
  have hm := may_of hM
  have hlen := hm.len
  simp only [Bool.not_true, Bool.false_eq_true, if_false, if_true]
  rw [want_loop (by omega), palike_eq hl, Option.bind_some]
  cases ha : alikeB (wantD d) l
  · rfl
  simp only [Bool.not_true, Bool.false_eq_true, if_false, if_true]
  rw [few_eq (by omega), Option.bind_some]
  cases hf : fewB d
  · rfl
  have e0 : ((0 : Int) != 0) = false := rfl
  simp only [if_true, e0, Bool.false_eq_true, if_false, pwins_eq hm (few_of hf) (tof_alike ha), Option.bind_some]
end Go.Sk.X
namespace Go.Sk.X
open Go Go.Sk
theorem wide_ex {cs : List (List Int)} (hz : (InLz (InLz (InK .i64))) cs) (n : Nat) : ∃ b, F_skolemlaw04_wide cs (n : Int) = some b ∧ (b = false → cs.length ≤ 60 ∧ n ≤ 100 ∧ tot cs ≤ 300) := by
  unfold F_skolemlaw04_wide
  simp only [jn_eq]
  by_cases h2 : ((cs.length : Nat) : Int) > 60
  · exact ⟨true, by simp [h2], by simp⟩
  by_cases h3 : ((n : Nat) : Int) > 100
  · exact ⟨true, by simp [h2, h3], by simp⟩
  have hs2 := sumFold (fun b : List Int => b.length) 140737488351232 rfl cs 0 (fun b hb => (hz.2 b hb).1) (by omega)
  rw [rangeF_fold (fun s (x : List Int) => IntKind.wrap .i64 (s + ((x.length : Nat) : Int)))]
  rw [show ((0 : Nat) : Int) = 0 from rfl] at hs2
  rw [hs2, Nat.zero_add]
  simp only [h2, h3, decide_false, Bool.false_eq_true, if_false]
  refine ⟨_, rfl, fun h => ⟨by omega, by omega, ?_⟩⟩
  have h4 := of_decide_eq_false h
  unfold Go.Sk.X.tot
  have : (cs.map List.length).sum = (cs.map fun b => b.length).sum := rfl
  omega
theorem sum_le100 {l : List S_api_Dep} (h : ∀ e ∈ l, e.On.length ≤ 100) : (l.map fun e => e.On.length).sum ≤ 100 * l.length := by
  induction l with
  | nil => simp
  | cons e l ih =>
    have h1 := h e (by simp)
    have h2 := ih (fun x hx => h x (by simp [hx]))
    simp only [List.map_cons, List.sum_cons, List.length_cons]
    omega
theorem large_ex {d : S_api_Dqbf} (hz : Z_S_api_Dqbf d) : ∃ b, F_skolemlaw04_large d = some b ∧ (b = false → Sm d) := by
  unfold F_skolemlaw04_large
  simp only [jn_eq]
  by_cases h1 : ((d.Exist.length : Nat) : Int) > 60
  · exact ⟨true, by simp [h1], by simp⟩
  obtain ⟨w, hw, hwf⟩ := wide_ex hz.2.2 d.Univ.length
  simp only [h1, decide_false, Bool.false_eq_true, if_false, hw, Option.bind_some]
  cases w
  case true => exact ⟨true, by simp, by simp⟩
  obtain ⟨a1, a2, a3⟩ := hwf rfl
  simp only [Bool.false_eq_true, if_false]
  have hP : Has1 (fun b => b = false → Sm d) (rangeF (fun (j118 : Nat) (x119 : S_api_Dep) (s115 : Int) k117 => (if (decide (((x119.On.length : Nat) : Int) > (100 : Int))) = true then (some true) else (okI (0 ≤ (IntKind.wrap .u64 (imn ((x119.On.length : Nat) : Int) (10 : Int)))) (k117 (IntKind.wrap .i64 (s115 + (IntKind.wrap .i64 ((1 : Int) * 2 ^ (min (IntKind.wrap .u64 (imn ((x119.On.length : Nat) : Int) (10 : Int))).toNat (IntKind.bits .i64)))))))))) 0 d.Exist (0 : Int) (fun (s115 : Int) => (if (decide (s115 ≤ (16 : Int))) = true then (if (decide (s115 > (10 : Int))) = true then (some true) else (if (decide (s115 ≤ (10 : Int))) = true then (if (decide (((d.Univ.length : Nat) : Int) > (5 : Int))) = true then (some (decide (((d.Univ.length : Nat) : Int) ≤ (8 : Int)))) else (some false)) else (some false))) else (if (decide (s115 ≤ (10 : Int))) = true then (if (decide (((d.Univ.length : Nat) : Int) > (5 : Int))) = true then (some (decide (((d.Univ.length : Nat) : Int) ≤ (8 : Int)))) else (some false)) else (some false))))) := by
    refine rangeF_ex d.Exist (fun pre _ => ∀ e ∈ pre, e.On.length ≤ 100) ?_ ?_ d.Exist [] 0 rfl (by simp)
    · intro s ho
      have hsm : Sm d := ⟨by omega, by omega, by omega, by omega, by have := sum_le100 ho; omega⟩
      have any : ∀ x : Option Bool, (∃ b, x = some b) → Has1 (fun b => b = false → Sm d) x := fun x ⟨b, hb⟩ => ⟨b, hb, fun _ => hsm⟩
      refine any _ ?_
      by_cases c1 : s ≤ 16 <;> by_cases c2 : s > 10 <;> by_cases c3 : s ≤ 10 <;> by_cases c4 : ((d.Univ.length : Nat) : Int) > 5 <;> simp [c1, c2, c3, c4]
    · intro pre x xs s kk hf ho hk
      by_cases c : ((x.On.length : Nat) : Int) > 100
      · exact ⟨true, by simp [c], by simp⟩
      · simp only [c, decide_false, Bool.false_eq_true, if_false]
        rw [okI_eq (wu0 _)]
        refine hk _ (fun e he => ?_)
        rcases List.mem_append.1 he with he | he
        · exact ho e he
        · rw [List.mem_singleton] at he; subst he; omega
  obtain ⟨b, hb, hp⟩ := hP
  exact ⟨b, hb, hp⟩
end Go.Sk.X
namespace Go.Sk.X
open Go Go.Sk
def tabB : List S_api_Dep → List Bool → List S_api_Table
  | [], _ => []
  | e :: es, q => S_api_Table.mk e.Var e.On (q.take (2 ^ e.On.length)) :: tabB es (q.drop (2 ^ e.On.length))
theorem tabB_of : ∀ (es : List S_api_Dep) (q : List Bool), q.length = sz es → TOf es (tabB es q)
  | [], q, _ => ⟨rfl, by simp [tabB]⟩
  | e :: es, q, h => by
    rw [sz_cons] at h
    obtain ⟨h1, h2⟩ := tabB_of es (q.drop (2 ^ e.On.length)) (by rw [List.length_drop]; omega)
    refine ⟨by simp only [tabB, List.map_cons, h1], fun t ht => ?_⟩
    simp only [tabB, List.mem_cons] at ht
    rcases ht with rfl | ht
    · simp only [List.length_take]; omega
    · exact h2 t ht
theorem tabB_bits : ∀ (es : List S_api_Dep) (q : List Bool), q.length = sz es → bitsN (tabB es q) = sz es
  | [], q, _ => rfl
  | e :: es, q, h => by
    rw [sz_cons] at h ⊢
    have := tabB_bits es (q.drop (2 ^ e.On.length)) (by rw [List.length_drop]; omega)
    unfold bitsN at this ⊢
    simp only [tabB, List.map_cons, List.sum_cons, this, List.length_take]
    omega
theorem tabB_set : ∀ (es : List S_api_Dep) (q : List Bool) (i : Nat) (v : Bool), q.length = sz es → setB (tabB es q) i v = tabB es (q.set i v)
  | [], q, i, v, _ => rfl
  | e :: es, q, i, v, h => by
    rw [sz_cons] at h
    have hl : (q.take (2 ^ e.On.length)).length = 2 ^ e.On.length := by rw [List.length_take]; omega
    simp only [tabB, setB, hl]
    by_cases hi : i < 2 ^ e.On.length
    · rw [if_pos hi, List.take_set, List.drop_set, if_pos hi]
    · rw [if_neg hi, tabB_set es _ _ v (by rw [List.length_drop]; omega), List.take_set, List.drop_set, if_neg hi]
      congr 1
      rw [List.set_eq_of_length_le (by rw [hl]; omega)]
def numR : List Bool → Nat
  | [] => 0
  | b :: r => (if b = true then 1 else 0) + 2 * numR r
def num (q : List Bool) : Nat := numR q.reverse
theorem num_snoc (q : List Bool) (b : Bool) : num (q ++ [b]) = (if b = true then 1 else 0) + 2 * num q := by simp [num, numR]
theorem numR_bit : ∀ (r : List Bool) (i : Nat), (numR r).testBit i = r.getD i false
  | [], i => by simp [numR]
  | b :: r, i => by
    simp only [numR]
    rw [testBit_cons]
    rcases i with _ | i
    · simp
    · simpa using numR_bit r i
theorem bitsF_num (q : List Bool) : bitsF (num q) q.length q.length = q := by
  refine List.ext_getElem? (fun i => ?_)
  by_cases hi : i < q.length
  · rw [bitsF_get _ _ _ _ hi, num, numR_bit, List.getElem?_eq_getElem hi]
    congr 1
    rw [List.getD_eq_getElem?_getD, List.getElem?_reverse (by omega), show q.length - 1 - (q.length - 1 - i) = i by omega, List.getElem?_eq_getElem hi]
    rfl
  · rw [List.getElem?_eq_none (by rw [bitsF_len]; omega), List.getElem?_eq_none (by omega)]
theorem bitsF_split (n : Nat) : ∀ (a l b : Nat), bitsF n l (a + b) = bitsF n l a ++ bitsF n (l - a) b
  | 0, l, b => by simp [bitsF]
  | a + 1, l, b => by
    rw [show a + 1 + b = (a + b) + 1 by omega]
    simp only [bitsF, List.cons_append, bitsF_split n a (l - 1) b]
    rw [show l - 1 - a = l - (a + 1) by omega]
theorem tabB_num (n : Nat) : ∀ (es : List S_api_Dep) (l : Nat), tabB es (bitsF n l (sz es)) = numL n l es
  | [], l => rfl
  | e :: es, l => by
    rw [sz_cons, bitsF_split]
    have hl := bitsF_len n (2 ^ e.On.length) l
    simp only [tabB, numL]
    rw [List.take_append_of_le_length (by omega), List.take_of_length_le (by omega), List.drop_append_of_le_length (by omega), List.drop_of_length_le (by omega), List.nil_append, tabB_num n es]
theorem tab_q {es : List S_api_Dep} {q : List Bool} (h : q.length = sz es) : numL (num q) (sz es) es = tabB es q := by
  rw [← tabB_num, ← h, bitsF_num]
def leastL (W : List Bool → Bool) : List Bool → Nat → Option (List Bool)
  | p, 0 => if W p = true then some p else none
  | p, k + 1 => (leastL W (p ++ [false]) k).or (leastL W (p ++ [true]) k)
theorem least_none {W : List Bool → Bool} : ∀ (k : Nat) (p : List Bool), (∀ r, r.length = p.length + k → r.take p.length = p → W r = false) → leastL W p k = none
  | 0, p, h => by
    unfold leastL
    rw [h p (by simp) (by simp)]; rfl
  | k + 1, p, h => by
    unfold leastL
    have key : ∀ b, leastL W (p ++ [b]) k = none := fun b => least_none k (p ++ [b]) (fun r hr ht => h r (by simp at hr; omega) (by
      have := congrArg (List.take p.length) ht
      rw [List.take_take, List.take_append_of_le_length (Nat.le_refl _), List.take_of_length_le (Nat.le_refl _)] at this
      rwa [show min p.length (p ++ [b]).length = p.length by simp] at this))
    rw [key, key]; rfl
theorem fw_split (w : Nat → Bool) (tn : Nat → List S_api_Table) : ∀ (a b j : Nat), firstW w tn (a + b) j = if (firstW w tn a j).2 = 0 then firstW w tn a j else firstW w tn b (j + a)
  | 0, b, j => by simp [firstW]
  | a + 1, b, j => by
    rw [show a + 1 + b = (a + b) + 1 by omega]
    simp only [firstW]
    by_cases h : w j = true
    · simp [h]
    · simp only [h, Bool.false_eq_true, if_false]
      rw [fw_split w tn a b (j + 1), show j + 1 + a = j + (a + 1) by omega]
theorem least_fw {d : S_api_Dqbf} : ∀ (k : Nat) (p : List Bool), p.length + k = sz d.Exist → firstW (fun n => winB d (numL n (sz d.Exist) d.Exist)) (fun n => numL n (sz d.Exist) d.Exist) (2 ^ k) (num p * 2 ^ k) =
    match leastL (fun q => winB d (tabB d.Exist q)) p k with | some q => (tabB d.Exist q, 0) | none => ([], 6)
  | 0, p, h => by
    have h1 : p.length = sz d.Exist := by simpa using h
    show firstW _ _ 1 (num p * 1) = _
    rw [Nat.mul_one]
    simp only [firstW, leastL, tab_q h1]
    by_cases hw : winB d (tabB d.Exist p) = true
    · rw [if_pos hw, if_pos hw]
    · rw [if_neg hw, if_neg hw]
  | k + 1, p, h => by
    have e1 : 2 ^ (k + 1) = 2 ^ k + 2 ^ k := by rw [Nat.pow_succ]; omega
    have e2 : num p * 2 ^ (k + 1) = num (p ++ [false]) * 2 ^ k := by
      rw [num_snoc, Nat.pow_succ]; simp only [Bool.false_eq_true, if_false, Nat.zero_add]
      rw [Nat.mul_comm 2 (num p), Nat.mul_assoc, Nat.mul_comm (2 ^ k) 2]
    have e3 : num (p ++ [false]) * 2 ^ k + 2 ^ k = num (p ++ [true]) * 2 ^ k := by
      rw [num_snoc, num_snoc]; simp only [Bool.false_eq_true, if_false, if_true, Nat.zero_add]
      rw [Nat.add_mul, Nat.one_mul, Nat.add_comm]
    rw [e2, e1, fw_split, e3, least_fw k (p ++ [false]) (by simp; omega), least_fw k (p ++ [true]) (by simp; omega)]
    show _ = match (leastL _ (p ++ [false]) k).or (leastL _ (p ++ [true]) k) with | some q => _ | none => _
    cases leastL (fun q => winB d (tabB d.Exist q)) (p ++ [false]) k with
    | some q => rfl
    | none => simp
theorem findP_eq {d : S_api_Dqbf} (hN : sz d.Exist ≤ 1000000) (hB : ∀ (q : List Bool) (i : Nat), q.length = sz d.Exist → i ≤ sz d.Exist → ∃ b, F_truth_least_broken ⟨d, tabB d.Exist q⟩ (i : Int) = some b ∧ (b = true → ∀ r : List Bool, r.length = sz d.Exist → r.take i = q.take i → winB d (tabB d.Exist r) = false) ∧ (b = false → i = sz d.Exist → winB d (tabB d.Exist q) = true)) :
    ∀ (k n : Nat) (p : List Bool), p.length + k = sz d.Exist → k < n → findP d n (tabB d.Exist (p ++ List.replicate k false)) (p.length : Int) =
      some (match leastL (fun q => winB d (tabB d.Exist q)) p k with | some r => (true, tabB d.Exist r) | none => (false, tabB d.Exist (p ++ List.replicate k false)))
  | k, 0, p, _, h => by omega
  | k, n + 1, p, hp, hk => by
    have hql : (p ++ List.replicate k false).length = sz d.Exist := by simp; exact hp
    obtain ⟨b, hb, hb1, hb2⟩ := hB (p ++ List.replicate k false) p.length hql (by omega)
    have htk : (p ++ List.replicate k false).take p.length = p := by rw [List.take_append_of_le_length (Nat.le_refl _), List.take_of_length_le (Nat.le_refl _)]
    unfold findP
    rw [hb, Option.bind_some]
    cases b
    case true =>
      rw [least_none k p (fun r hr ht => hb1 rfl r (by omega) (by rw [ht, htk]))]
      rfl
    simp only [Bool.false_eq_true, if_false, tabB_bits _ _ hql]
    rcases k with _ | k
    · have hps : p.length = sz d.Exist := by simpa using hp
      have hw := hb2 rfl hps
      have e0 : ((p.length : Int) == (sz d.Exist : Int)) = true := by simp [hps]
      rw [if_pos e0]
      simp only [List.replicate_zero, List.append_nil] at hw ⊢
      simp only [leastL, hw, if_true]
    · have e0 : ((p.length : Int) == (sz d.Exist : Int)) = false := by simp; omega
      have hw : IntKind.wrap .i64 ((p.length : Int) + 1) = ((p.length + 1 : Nat) : Int) := by rw [wrap_id (by omega) (by omega)]; omega
      have s1 : ∀ v, (p ++ List.replicate (k + 1) false).set p.length v = p ++ [v] ++ List.replicate k false := fun v => by
        rw [List.set_append_right _ _ (Nat.le_refl _), Nat.sub_self, List.replicate_succ, List.set_cons_zero]; simp
      have s2 : ∀ u v : Bool, (p ++ [u] ++ List.replicate k false).set p.length v = p ++ [v] ++ List.replicate k false := fun u v => by
        rw [List.append_assoc, List.set_append_right _ _ (Nat.le_refl _), Nat.sub_self]; simp
      have l1 : ∀ v : Bool, (p ++ [v] ++ List.replicate k false).length = sz d.Exist := fun v => by simp; omega
      have ih := fun v : Bool => findP_eq hN hB k n (p ++ [v]) (by simp; omega) (by omega)
      simp only [List.length_append, List.length_singleton] at ih
      rw [e0, if_neg (by decide), okI_eq ⟨by omega, by omega⟩, Int.toNat_natCast, tabB_set _ _ _ _ hql, s1, hw, ih false, Option.bind_some]
      simp only [leastL]
      cases h1 : leastL (fun q => winB d (tabB d.Exist q)) (p ++ [false]) k with
      | some r => simp
      | none =>
        simp only [Bool.false_eq_true, if_false, Option.none_or]
        rw [tabB_bits _ _ (l1 false), okI_eq (by omega), tabB_set _ _ _ _ (l1 false), s2, ih true, Option.bind_some]
        cases h2 : leastL (fun q => winB d (tabB d.Exist q)) (p ++ [true]) k with
        | some r => simp
        | none =>
          simp only [Bool.false_eq_true, if_false]
          rw [tabB_bits _ _ (l1 true), okI_eq (by omega), tabB_set _ _ _ _ (l1 true), s2]
          simp [List.replicate_succ]
end Go.Sk.X
namespace Go.Sk.X
open Go Go.Sk
def kpos (σ : Int → Bool) : Nat → List S_api_Table → Int → Option Nat
  | _, [], _ => none
  | b, t :: ts, v => if t.Var = v then some (b + ixF σ t.On) else kpos σ (b + t.Bits.length) ts v
theorem kpos_snoc (σ : Int → Bool) : ∀ (ts : List S_api_Table) (b : Nat) (t : S_api_Table) (v : Int), kpos σ b (ts ++ [t]) v = (kpos σ b ts v).or (if t.Var = v then some (b + bitsN ts + ixF σ t.On) else none)
  | [], b, t, v => by simp [kpos, bitsN]
  | x :: ts, b, t, v => by
    simp only [List.cons_append, kpos]
    by_cases h : x.Var = v
    · simp [h]
    · rw [if_neg h, if_neg h, kpos_snoc σ ts]
      have : b + x.Bits.length + bitsN ts = b + bitsN (x :: ts) := by simp [bitsN]; omega
      rw [this]
theorem kpos_none (σ : Int → Bool) : ∀ (ts : List S_api_Table) (b : Nat) (v : Int), v ∉ ts.map (·.Var) → kpos σ b ts v = none
  | [], _, _, _ => rfl
  | t :: ts, b, v, h => by
    simp only [List.map_cons, List.mem_cons, not_or] at h
    simp only [kpos]
    rw [if_neg (fun e => h.1 e.symm), kpos_none σ ts _ v h.2]
theorem kpos_tab (σ : Int → Bool) : ∀ (es : List S_api_Dep) (q : List Bool) (b : Nat) (v : Int), q.length = sz es →
    (kpos σ b (tabB es q) v = none ∧ v ∉ es.map (·.Var)) ∨ (∃ k, kpos σ b (tabB es q) v = some (b + k) ∧ k < sz es ∧ v ∈ es.map (·.Var) ∧ ∀ r : List Bool, r.length = sz es → fOf (tabB es r) v σ = r.getD k false ∧ kpos σ b (tabB es r) v = some (b + k))
  | [], q, b, v, _ => .inl ⟨rfl, by simp⟩
  | e :: es, q, b, v, h => by
    rw [sz_cons] at h
    have hl : ∀ r : List Bool, r.length = sz (e :: es) → (r.take (2 ^ e.On.length)).length = 2 ^ e.On.length := fun r hr => by rw [sz_cons] at hr; rw [List.length_take]; omega
    have hix := ixF_lt σ e.On
    by_cases hv : e.Var = v
    · refine .inr ⟨ixF σ e.On, by simp [tabB, kpos, hv], by rw [sz_cons]; omega, by simp [hv], fun r hr => ⟨?_, by simp [tabB, kpos, hv]⟩⟩
      unfold fOf
      simp only [tabB, List.find?_cons, hv, decide_true]
      show (r.take (2 ^ e.On.length)).getD (ixF σ e.On) false = _
      rw [List.getD_eq_getElem?_getD, List.getD_eq_getElem?_getD, List.getElem?_take, if_pos hix]
    · have hq : (q.drop (2 ^ e.On.length)).length = sz es := by rw [List.length_drop]; omega
      have hk : ∀ r : List Bool, r.length = sz (e :: es) → kpos σ b (tabB (e :: es) r) v = kpos σ (b + 2 ^ e.On.length) (tabB es (r.drop (2 ^ e.On.length))) v := fun r hr => by
        simp only [tabB, kpos, hl r hr]
        rw [if_neg hv]
      rcases kpos_tab σ es (q.drop (2 ^ e.On.length)) (b + 2 ^ e.On.length) v hq with ⟨h1, h2⟩ | ⟨k, h1, h2, h3, h4⟩
      · exact .inl ⟨by rw [hk q (by rw [sz_cons]; exact h), h1], by simp only [List.map_cons, List.mem_cons, not_or]; exact ⟨fun e => hv e.symm, h2⟩⟩
      · refine .inr ⟨2 ^ e.On.length + k, by rw [hk q (by rw [sz_cons]; exact h), h1, Nat.add_assoc], by rw [sz_cons]; omega, by simp [h3], fun r hr => ?_⟩
        have hr2 : (r.drop (2 ^ e.On.length)).length = sz es := by rw [sz_cons] at hr; rw [List.length_drop]; omega
        obtain ⟨g1, g2⟩ := h4 (r.drop (2 ^ e.On.length)) hr2
        refine ⟨?_, by rw [hk r hr, g2, Nat.add_assoc]⟩
        have : fOf (tabB (e :: es) r) v σ = fOf (tabB es (r.drop (2 ^ e.On.length))) v σ := by
          unfold fOf
          simp only [tabB, List.find?_cons, hv, decide_false]
        rw [this, g1, List.getD_eq_getElem?_getD, List.getD_eq_getElem?_getD, List.getElem?_drop]
def lostB (d : S_api_Dqbf) (ts : List S_api_Table) (i : Nat) (σ : Int → Bool) (x : Int) : Bool := !litT (asg d (fOf ts) σ) x && (match kpos σ 0 ts (av x) with | some k => decide (k < i) | none => true)
theorem lits_lost {R : Type} (lost : Int → Bool) (c : List Int) {f : Nat → Int → Unit → (Unit → Option R) → Option R} {k : Unit → Option R} {A B : Option R} (hk : k () = A) (h : ∀ (j : Nat) x kk, x ∈ c → f j x () kk = if lost x = true then kk () else B) :
    rangeF f 0 c () k = if (c.all lost) = true then A else B := by
  refine rangeF_pre c (fun _ _ => True) (fun _ xs _ => if (xs.all lost) = true then A else B) (fun _ _ => by simp [hk]) ?_ c [] () rfl trivial
  intro pre x xs s kk hf _ hk2
  rw [show s = () from rfl, h pre.length x kk (by rw [hf]; simp), hk2 () trivial, List.all_cons]
  cases lost x
  · simp
  · rw [Bool.true_and, if_pos rfl]
theorem cls_lost {R : Type} (bad : List Int → Bool) (cs : List (List Int)) {f : Nat → List Int → Unit → (Unit → Option R) → Option R} {k : Unit → Option R} {A B : Option R} (hk : k () = B) (h : ∀ (j : Nat) c kk, c ∈ cs → f j c () kk = if bad c = true then A else kk ()) :
    rangeF f 0 cs () k = if (cs.any bad) = true then A else B := by
  refine rangeF_pre cs (fun _ _ => True) (fun _ xs _ => if (xs.any bad) = true then A else B) (fun _ _ => by simp [hk]) ?_ cs [] () rfl trivial
  intro pre x xs s kk hf _ hk2
  rw [show s = () from rfl, h pre.length x kk (by rw [hf]; simp), hk2 () trivial, List.any_cons]
  cases bad x <;> simp
theorem broken_eq {d : S_api_Dqbf} (hm : May d) (hf : Few d) {ts : List S_api_Table} (ht : TOf d.Exist ts) (hb : bitsN ts ≤ 1000) (i : Nat) :
    F_truth_least_broken ⟨d, ts⟩ (i : Int) = some (!((List.range' 0 (2 ^ d.Univ.length)).all fun m => !(d.Clauses.any fun c => c.all (lostB d ts i (sgM d.Univ m))))) := by
  unfold F_truth_least_broken
  have hu := hf.univ
  have hp := plain_of hm
  have hvs : ts.map (·.Var) = varsD d := ht.vars
  have hN : (((2 ^ d.Univ.length : Nat) : Int) - 0).toNat = 2 ^ d.Univ.length := by rw [Int.sub_zero, Int.toNat_natCast]
  dsimp only
  rw [okI_eq (Int.natCast_nonneg _), okI_eq (wi_ok _), pw_eqT _ (by omega), hN]
  refine (upF_allN (A := some true) (fun m => !(d.Clauses.any fun c => c.all (lostB d ts i (sgM d.Univ m)))) (2 ^ d.Univ.length) (fun m _ kk => ?_) (2 ^ d.Univ.length) 0 (by omega)).trans ?_
  · refine points_map hp.und (by omega) m _ _ (fun mp hmp => ?_)
    simp only [jn_eq]
    have hnd : (ts.map (·.Var)).Nodup := by rw [hvs]; exact hp.vnd
    refine rangeF_pre ts (fun pre s => s.1 = (bitsN pre : Int) ∧ (∀ v, (mget s.2.1 v).getD false = if v ∈ d.Univ then sgM d.Univ m v else fOf pre v (sgM d.Univ m)) ∧ ∀ v, mget s.2.2 v = (kpos (sgM d.Univ m) 0 pre v).map fun k => decide (k < i))
      (fun _ _ _ => if (!(d.Clauses.any fun c => c.all (lostB d ts i (sgM d.Univ m)))) = true then kk () else some true) ?_ ?_ ts [] (0, mp, []) rfl ⟨rfl, fun v => by rw [hmp v]; by_cases hv : v ∈ d.Univ <;> simp [hv, fOf], fun v => rfl⟩
    · rintro ⟨n, v1, kn⟩ ⟨-, h1, h2⟩
      simp only at h1 h2 ⊢
      refine (cls_lost (fun c => c.all (lostB d ts i (sgM d.Univ m))) d.Clauses (A := some true) (B := kk ()) rfl (fun j c k2 hc => ?_)).trans ?_
      · refine lits_lost (lostB d ts i (sgM d.Univ m)) c (by rfl) (fun j2 x k3 hx => ?_)
        have hxr := (nrm_lit (hm.nrm c hc) hx).2
        have hav : imx x (IntKind.wrap .i64 (0 - x)) = av x := by
          rw [wrap_id (by omega) (by omega)]
          unfold imx av
          by_cases hn : x < 0
          · rw [if_pos hn]; split <;> omega
          · rw [if_neg hn]; split <;> omega
        have hg : (if x < 0 then !(mget v1 (IntKind.wrap .i64 (0 - x))).getD false else (mget v1 x).getD false) = litT (asg d (fOf ts) (sgM d.Univ m)) x := by
          unfold litT
          have e : ∀ v, (mget v1 v).getD false = asg d (fOf ts) (sgM d.Univ m) v := fun v => by rw [h1 v]; rfl
          by_cases hn : x < 0
          · rw [if_pos hn, if_pos hn, e, wrap_id (by omega) (by omega), show av x = 0 - x by unfold av; rw [if_pos hn]; omega]
          · rw [if_neg hn, if_neg hn, e, show av x = x by unfold av; rw [if_neg hn]]
        rw [hav, h2 (av x)]
        unfold lostB
        rw [← hg]
        by_cases hn : x < 0
        · simp only [hn, decide_true, if_true]
          cases (mget v1 (IntKind.wrap .i64 (0 - x))).getD false <;> cases kpos (sgM d.Univ m) 0 ts (av x) with
          | none => simp
          | some k => by_cases hk : k < i <;> simp [hk]
        · simp only [hn, decide_false, Bool.false_eq_true, if_false]
          cases (mget v1 x).getD false <;> cases kpos (sgM d.Univ m) 0 ts (av x) with
          | none => simp
          | some k => by_cases hk : k < i <;> simp [hk]
      · cases d.Clauses.any fun c => c.all (lostB d ts i (sgM d.Univ m)) <;> simp
    · rintro pre t xs ⟨n, v1, kn⟩ k2 hfu ⟨h0, h1, h2⟩ hk
      simp only at h0 h1 h2 ⊢
      subst h0
      have hmt : t ∈ ts := by rw [hfu]; simp
      obtain ⟨e, he, g1, g2⟩ := ht.mem hmt
      have ho := hp.on e he
      have hol : t.On.length ≤ 4 := by rw [← g2]; exact hf.on e he
      have hbl := ht.2 t hmt
      have hpre : t.Var ∉ pre.map (·.Var) := fun hm2 => by
        rw [hfu, List.map_append, List.map_cons] at hnd
        exact (List.nodup_append.1 hnd).2.2 _ hm2 _ (by simp) rfl
      have htu : t.Var ∉ d.Univ := fun hu2 => hp.sep hu2 (by rw [← hvs]; exact List.mem_map.2 ⟨t, hmt, rfl⟩)
      have hbp : bitsN pre + t.Bits.length ≤ bitsN ts := by rw [hfu]; simp [bitsN]
      refine rangeF_pre t.On (fun p q => q = (ixF (sgM d.Univ m) p : Int)) (fun _ _ _ => if (!(d.Clauses.any fun c => c.all (lostB d ts i (sgM d.Univ m)))) = true then kk () else some true) ?_ ?_ t.On [] 0 rfl rfl
      · rintro q rfl
        have hix := ixF_lt (sgM d.Univ m) t.On
        have hlt : ixF (sgM d.Univ m) t.On < t.Bits.length := by rw [hbl]; exact hix
        rw [getI_nat, List.getElem?_eq_getElem hlt]
        simp only
        have hbit : t.Bits[ixF (sgM d.Univ m) t.On] = bitT t (sgM d.Univ m) := by unfold bitT; rw [List.getD_eq_getElem?_getD, List.getElem?_eq_getElem hlt]; rfl
        rw [hbit, wrap_id (by omega) (by omega), wrap_id (by omega) (by omega)]
        refine hk _ ⟨by simp [bitsN], fun v => ?_, fun v => ?_⟩
        · rw [mget_mset]
          by_cases hv : v = t.Var
          · subst hv
            rw [if_pos rfl, if_neg htu, fOf_snoc_self hpre]; rfl
          · rw [if_neg hv, h1 v, fOf_snoc_ne hv]
        · rw [mget_mset, kpos_snoc]
          by_cases hv : v = t.Var
          · subst hv
            rw [if_pos rfl, kpos_none _ _ _ _ hpre, if_pos rfl]
            have : decide (((bitsN pre : Nat) : Int) + (ixF (sgM d.Univ m) t.On : Int) < (i : Int)) = decide (0 + bitsN pre + ixF (sgM d.Univ m) t.On < i) := decide_eq_decide.2 (by omega)
            simp [this]
          · rw [if_neg hv, h2 v, if_neg (fun e => hv e.symm)]
            simp
      · rintro p x ys q k3 hf2 rfl hk3
        have hlen : p.length < t.On.length := by rw [hf2]; simp
        have hx : x ∈ d.Univ := ho.2 x (by rw [g2, hf2]; simp)
        have hm3 := ixF_lt (sgM d.Univ m) p
        have hk' := hk3 _ rfl
        rw [ixF_snoc] at hk'
        rw [h1 x, if_pos hx]
        cases hs : sgM d.Univ m x
        · rw [hs] at hk'
          simpa using hk'
        · rw [hs] at hk'
          rw [if_pos rfl, okI_eq (Int.natCast_nonneg _), pw_eqT _ (by omega), or_val hm3 (by omega)]
          exact hk'
  · cases (List.range' 0 (2 ^ d.Univ.length)).all fun m => !(d.Clauses.any fun c => c.all (lostB d ts i (sgM d.Univ m))) <;> simp
end Go.Sk.X
namespace Go.Sk.X
open Go Go.Sk
theorem broken_says {d : S_api_Dqbf} (hm : May d) (hf : Few d) (q : List Bool) (i : Nat) (hq : q.length = sz d.Exist) (hi : i ≤ sz d.Exist) :
    ∃ b, F_truth_least_broken ⟨d, tabB d.Exist q⟩ (i : Int) = some b ∧ (b = true → ∀ r : List Bool, r.length = sz d.Exist → r.take i = q.take i → winB d (tabB d.Exist r) = false) ∧ (b = false → i = sz d.Exist → winB d (tabB d.Exist q) = true) := by
  have hp := plain_of hm
  have hb := hf.bits
  refine ⟨_, broken_eq hm hf (tabB_of _ _ hq) (by rw [tabB_bits _ _ hq]; omega) i, fun h r hr ht => ?_, fun h hi2 => ?_⟩
  · rw [Bool.not_eq_true'] at h
    obtain ⟨m, hmm, hc⟩ := List.all_eq_false.1 h
    rw [Bool.not_eq_true, Bool.not_eq_false'] at hc
    obtain ⟨c, hc1, hc2⟩ := List.any_eq_true.1 hc
    rw [List.all_eq_true] at hc2
    refine Bool.eq_false_iff.2 (fun hw => ?_)
    obtain ⟨x, hx, hl⟩ := (sat_iff hp (tabB_of _ _ hr) _).1 ((winB_iff hp (tabB_of _ _ hr)).1 hw (sgM d.Univ m)) c hc1
    have h2 := hc2 x hx
    unfold lostB at h2
    simp only [Bool.and_eq_true, Bool.not_eq_true'] at h2
    have hag : asg d (fOf (tabB d.Exist r)) (sgM d.Univ m) (av x) = asg d (fOf (tabB d.Exist q)) (sgM d.Univ m) (av x) := by
      unfold asg
      by_cases hu : av x ∈ d.Univ
      · rw [if_pos hu, if_pos hu]
      · rw [if_neg hu, if_neg hu]
        have hv := ((hp.wi c hc1 x hx).2).resolve_left hu
        rcases kpos_tab (sgM d.Univ m) d.Exist q 0 (av x) hq with ⟨_, h3⟩ | ⟨k, h3, h4, h5, h6⟩
        · exact absurd hv h3
        · rw [(h6 r hr).1, (h6 q hq).1]
          have h7 := h2.2
          rw [h3] at h7
          have h8 : k < i := by simpa using h7
          have h9 : (r.take i)[k]? = (q.take i)[k]? := by rw [ht]
          rw [List.getElem?_take, List.getElem?_take, if_pos h8, if_pos h8] at h9
          rw [List.getD_eq_getElem?_getD, List.getD_eq_getElem?_getD, h9]
    rw [litT_congr hag, h2.1] at hl
    exact absurd hl (by decide)
  · rw [Bool.not_eq_false'] at h
    unfold winB
    rw [List.all_eq_true] at h ⊢
    intro m hmm
    rw [sat_iff hp (tabB_of _ _ hq)]
    intro c hc
    have h1 := h m hmm
    rw [Bool.not_eq_true'] at h1
    have h2 := List.any_eq_false.1 h1 c hc
    rw [Bool.not_eq_true] at h2
    obtain ⟨x, hx, hl⟩ := List.all_eq_false.1 h2
    refine ⟨x, hx, ?_⟩
    refine Classical.byContradiction fun hn => hl ?_
    unfold lostB
    rw [Bool.not_eq_true] at hn
    rw [hn]
    rcases kpos_tab (sgM d.Univ m) d.Exist q 0 (av x) hq with ⟨h3, _⟩ | ⟨k, h3, h4, _⟩
    · rw [h3]; rfl
    · rw [h3]
      have : k < i := by omega
      simp [this]
theorem clone_eq {a : List Int} (hl : a.length ≤ 1000) : F_slices_Clone_int_int a = some a := by
  unfold F_slices_Clone_int_int
  cases a with
  | nil => rfl
  | cons x xs =>
    rw [if_neg (by simp), capN_eq (by simpa using by simp at hl; omega)]
    rfl
theorem tabB_new : ∀ es : List S_api_Dep, tabB es (List.replicate (sz es) false) = es.map fun e => S_api_Table.mk e.Var e.On (List.replicate (2 ^ e.On.length) false)
  | [] => rfl
  | e :: es => by
    rw [sz_cons, List.map_cons, ← tabB_new es]
    simp only [tabB, List.take_replicate, List.drop_replicate]
    rw [show min (2 ^ e.On.length) (2 ^ e.On.length + sz es) = 2 ^ e.On.length by omega, show 2 ^ e.On.length + sz es - 2 ^ e.On.length = sz es by omega]
theorem newF_eq {d : S_api_Dqbf} (hm : May d) (hf : Few d) : newF d = some (tabB d.Exist (List.replicate (sz d.Exist) false)) := by
  have hl := hm.len
  have hb := hf.bits
  unfold newF
  refine rangeF_pre d.Exist (fun pre s => s = pre.map fun e => S_api_Table.mk e.Var e.On (List.replicate (2 ^ e.On.length) false)) (fun _ _ _ => some (tabB d.Exist (List.replicate (sz d.Exist) false))) ?_ ?_ d.Exist [] [] rfl rfl
  · rintro s rfl
    rw [← tabB_new, tabB_bits _ _ (by simp)]
    have h2 : (tabB d.Exist (List.replicate (sz d.Exist) false)).length = d.Exist.length := by rw [tabB_new, List.length_map]
    rw [okI_eq ⟨by omega, by omega⟩]
  · rintro pre x xs s kk hfu rfl hk
    have hx : x ∈ d.Exist := by rw [hfu]; simp
    have ho := hf.on x hx
    have hlen : pre.length < d.Exist.length := by rw [hfu]; simp
    have hp : 2 ^ x.On.length ≤ 2 ^ 4 := pw_le ho
    have hq : (2 : Nat) ^ 4 = 16 := rfl
    have hc : cntI x = ((2 ^ x.On.length : Nat) : Int) := pw_eqT _ (by omega)
    rw [clone_eq (by omega), Option.bind_some, okI_eq (Int.natCast_nonneg _), hc, Int.toNat_natCast, okI_eq ⟨Int.natCast_nonneg _, by omega⟩, okI_eq (by rw [List.length_map]; omega)]
    exact hk _ (by simp)
def skR (d : S_api_Dqbf) : List S_api_Table × Int := if MayD d = true then (if fewB d = true then skV d else ([], 3)) else ([], 2)
theorem pskol {d : S_api_Dqbf} (h : Sm d) : F_truth_Skolem d = some (skR d) := by
  unfold F_truth_Skolem skR
  rw [mayp_eq h, Option.bind_some]
  cases hM : MayD d
  · rfl
  have hm := may_of hM
  have hl := hm.len
  rw [few_eq (by omega)]
  cases hF : fewB d
  · rfl
  have hf := few_of hF
  have hb := hf.bits
  have e1 := findP_eq (d := d) (by omega) (broken_says hm hf) (sz d.Exist) 1000000 [] (by simp) (by omega)
  rw [List.nil_append] at e1
  have e2 := least_fw (d := d) (sz d.Exist) [] (by simp)
  have e3 : num [] = 0 := rfl
  rw [e3, Nat.zero_mul] at e2
  simp only [Option.bind_some, newF_eq hm hf, Bool.not_true, Bool.false_eq_true, if_false, if_true]
  have h00 : ((0 : Int) != 0) = false := rfl
  rw [h00, if_neg (by decide)]
  have e4 : findP d 1000000 (tabB d.Exist (List.replicate (sz d.Exist) false)) 0 = _ := e1
  rw [e4]
  unfold skV
  rw [e2]
  cases leastL (fun q => winB d (tabB d.Exist q)) [] (sz d.Exist) <;> rfl
end Go.Sk.X
namespace Go.Sk.X
open Go Go.Sk
def flatT (ts : List S_api_Table) : List Bool := (ts.map (·.Bits)).flatten
theorem flatT_cons (t : S_api_Table) (ts : List S_api_Table) : flatT (t :: ts) = t.Bits ++ flatT ts := rfl
theorem flatT_snoc (ts : List S_api_Table) (t : S_api_Table) : flatT (ts ++ [t]) = flatT ts ++ t.Bits := by simp [flatT]
theorem tof_cons {e : S_api_Dep} {es : List S_api_Dep} {t : S_api_Table} {ts : List S_api_Table} : TOf (e :: es) (t :: ts) ↔ (t.Var = e.Var ∧ t.On = e.On ∧ t.Bits.length = 2 ^ e.On.length) ∧ TOf es ts := by
  constructor
  · rintro ⟨h1, h2⟩
    simp only [List.map_cons, List.cons.injEq, Prod.mk.injEq] at h1
    have := h2 t (by simp)
    rw [h1.1.2] at this
    exact ⟨⟨h1.1.1, h1.1.2, this⟩, h1.2, fun x hx => h2 x (by simp [hx])⟩
  · rintro ⟨⟨h1, h2, h3⟩, h4, h5⟩
    refine ⟨by simp [h1, h2, h4], fun x hx => ?_⟩
    rcases List.mem_cons.1 hx with rfl | hx
    · rw [h3, h2]
    · exact h5 x hx
theorem tof_flat : ∀ {es : List S_api_Dep} {ts : List S_api_Table}, TOf es ts → (flatT ts).length = sz es ∧ tabB es (flatT ts) = ts
  | [], [], _ => ⟨rfl, rfl⟩
  | [], t :: ts, h => by have := h.1; simp at this
  | e :: es, [], h => by have := h.1; simp at this
  | e :: es, t :: ts, h => by
    obtain ⟨⟨h1, h2, h3⟩, h4⟩ := tof_cons.1 h
    obtain ⟨g1, g2⟩ := tof_flat h4
    rw [flatT_cons]
    refine ⟨by rw [List.length_append, sz_cons, h3, g1], ?_⟩
    simp only [tabB]
    rw [List.take_append_of_le_length (by omega), List.take_of_length_le (by omega), List.drop_append_of_le_length (by omega), List.drop_of_length_le (by omega), List.nil_append, g2, ← h1, ← h2]
theorem flat_tab : ∀ {es : List S_api_Dep} {q : List Bool}, q.length = sz es → flatT (tabB es q) = q
  | [], q, h => by
    have : q = [] := List.eq_nil_of_length_eq_zero h
    subst this; rfl
  | e :: es, q, h => by
    rw [sz_cons] at h
    simp only [tabB, flatT_cons]
    rw [flat_tab (by rw [List.length_drop]; omega), List.take_append_drop]
theorem sz_ge : ∀ es : List S_api_Dep, es.length ≤ sz es
  | [] => by simp
  | e :: es => by
    rw [sz_cons, List.length_cons]
    have := sz_ge es
    have := Nat.two_pow_pos e.On.length
    omega
theorem least_lost {W : List Bool → Bool} : ∀ (k : Nat) (p : List Bool), leastL W p k = none → ∀ s : List Bool, s.length = k → W (p ++ s) = false
  | 0, p, h, s, hs => by
    have : s = [] := List.eq_nil_of_length_eq_zero hs
    subst this
    unfold leastL at h
    split at h
    · simp at h
    · rename_i hw
      rw [List.append_nil]
      exact Bool.eq_false_iff.2 hw
  | k + 1, p, h, s, hs => by
    unfold leastL at h
    rw [Option.or_eq_none_iff] at h
    cases s with
    | nil => simp at hs
    | cons b s =>
      have hs2 : s.length = k := by simpa using hs
      have e : p ++ b :: s = (p ++ [b]) ++ s := by simp
      rw [e]
      cases b
      · exact least_lost k _ h.1 s hs2
      · exact least_lost k _ h.2 s hs2
theorem least_min {W : List Bool → Bool} : ∀ (k : Nat) (p r : List Bool), leastL W p k = some r → W r = true ∧ ∃ s, r = p ++ s ∧ s.length = k ∧ ∀ c a b : List Bool, s = c ++ true :: a → b.length = a.length → W (p ++ (c ++ false :: b)) = false
  | 0, p, r, h => by
    unfold leastL at h
    split at h
    · rename_i hw
      injection h with h; subst h
      exact ⟨hw, [], by simp, rfl, fun c a b h _ => by simp at h⟩
    · simp at h
  | k + 1, p, r, h => by
    unfold leastL at h
    cases h1 : leastL W (p ++ [false]) k with
    | some x =>
      rw [h1, Option.some_or] at h
      injection h with h; subst h
      obtain ⟨g1, s, g2, g3, g4⟩ := least_min k _ _ h1
      refine ⟨g1, false :: s, by rw [g2]; simp, by simp [g3], fun c a b hc hb => ?_⟩
      cases c with
      | nil => simp at hc
      | cons y c =>
        rw [List.cons_append, List.cons.injEq] at hc
        have := g4 c a b hc.2 hb
        rw [← hc.1]
        simpa using this
    | none =>
      rw [h1, Option.none_or] at h
      obtain ⟨g1, s, g2, g3, g4⟩ := least_min k _ _ h
      refine ⟨g1, true :: s, by rw [g2]; simp, by simp [g3], fun c a b hc hb => ?_⟩
      cases c with
      | nil =>
        simp only [List.nil_append, List.cons.injEq, true_and] at hc
        have := least_lost k _ h1 b (by rw [hb, ← hc]; exact g3)
        simpa using this
      | cons y c =>
        rw [List.cons_append, List.cons.injEq] at hc
        have := g4 c a b hc.2 hb
        rw [← hc.1]
        simpa using this
def LInv (f : Int) (P Q : List Bool) : Prop := P.length = Q.length ∧ ((f = 0 ∧ P = Q) ∨ (f = 1 ∧ ∃ c a b, P = c ++ true :: a ∧ Q = c ++ false :: b) ∨ f = 2)
theorem LInv.step {f : Int} {P Q : List Bool} (h : LInv f P Q) (p b : Bool) : LInv (if (f == (0 : Int)) = true then (if (!(b == p)) = true then (if b = true then 2 else 1) else f) else f) (P ++ [p]) (Q ++ [b]) := by
  obtain ⟨h0, h⟩ := h
  refine ⟨by simp [h0], ?_⟩
  rcases h with ⟨rfl, rfl⟩ | ⟨rfl, c, x, y, rfl, rfl⟩ | rfl
  · cases b <;> cases p
    · exact .inl ⟨rfl, rfl⟩
    · exact .inr (.inl ⟨rfl, P, [], [], rfl, rfl⟩)
    · exact .inr (.inr rfl)
    · exact .inl ⟨rfl, rfl⟩
  · exact .inr (.inl ⟨rfl, c, x ++ [p], y ++ [b], by simp, by simp⟩)
  · exact .inr (.inr rfl)
theorem skV_least {d : S_api_Dqbf} {l : List S_api_Table} (h : skV d = (l, 0)) : winB d l = true ∧ TOf d.Exist l ∧ ∀ M, TOf d.Exist M → LInv 1 (flatT l) (flatT M) → winB d M = false := by
  have e := least_fw (d := d) (sz d.Exist) [] (by simp)
  have e3 : num [] = 0 := rfl
  rw [e3, Nat.zero_mul] at e
  unfold skV at h
  rw [e] at h
  cases hL : leastL (fun q => winB d (tabB d.Exist q)) [] (sz d.Exist) with
  | none => rw [hL] at h; simp at h
  | some r =>
    rw [hL] at h
    simp only [Prod.mk.injEq] at h
    obtain ⟨g1, s, g2, g3, g4⟩ := least_min _ _ _ hL
    rw [List.nil_append] at g2; subst g2
    have hl := h.1
    subst hl
    refine ⟨g1, tabB_of _ _ g3, fun M hM hI => ?_⟩
    obtain ⟨f1, f2⟩ := tof_flat hM
    rw [flat_tab g3] at hI
    obtain ⟨h0, h | ⟨_, c, a, b, h1, h2⟩ | h⟩ := hI
    · exact absurd h.1 (by decide)
    · have := g4 c a b h1 (by rw [h1, h2] at h0; simp at h0; omega)
      rw [List.nil_append, ← h2, f2] at this
      exact this
    · exact absurd h (by decide)
theorem alike_tof {d : S_api_Dqbf} {M : List S_api_Table} (h : TOf d.Exist M) : alikeB (wantD d) M = true := by
  unfold alikeB wantD
  obtain ⟨h1, h2⟩ := h
  have hl : M.length = d.Exist.length := by have := congrArg List.length h1; simpa using this
  rw [Bool.and_eq_true]
  refine ⟨by simp [hl], ?_⟩
  rw [List.all_eq_true]
  rintro ⟨a, b⟩ hm
  obtain ⟨i, hi⟩ := List.mem_iff_getElem?.1 hm
  rw [List.getElem?_zip_eq_some] at hi
  obtain ⟨ha, hb⟩ := hi
  rw [List.getElem?_map] at ha
  cases he : d.Exist[i]? with
  | none => rw [he] at ha; simp at ha
  | some e =>
    rw [he] at ha
    simp only [Option.map_some, Option.some.injEq] at ha
    subst ha
    have h3 : (M.map fun t => (t.Var, t.On))[i]? = (d.Exist.map fun e => (e.Var, e.On))[i]? := by rw [h1]
    rw [List.getElem?_map, List.getElem?_map, he, hb] at h3
    simp only [Option.map_some, Option.some.injEq, Prod.mk.injEq] at h3
    have h4 := h2 b (List.mem_of_getElem? hb)
    simp [likeB, h3.1, h3.2, h4]
end Go.Sk.X
namespace Go.Sk.X
open Go Go.Sk
def bitN (a1 k : Int) : Bool := ((IntKind.wrap .u16 ((BitVec.ofInt (IntKind.bits .u16) (Int.fdiv a1 (2 ^ (min (IntKind.wrap .u64 ((BitVec.ofInt (IntKind.bits .u64) (IntKind.wrap .u64 k) &&& BitVec.ofInt (IntKind.bits .u64) (15 : Int)).toNat : Int)).toNat (IntKind.bits .u16)))) &&& BitVec.ofInt (IntKind.bits .u16) (1 : Int)).toNat : Int)) == (1 : Int))
theorem bits_loop {Q : Bool → Prop} (a1 : Int) (x : S_api_Table) (hx : x.Bits.length ≤ 16) (P0 Q0 : List Bool) (K : Int → Int → List Bool → Option Bool) (k0 f0 : Int) (h0 : LInv f0 P0 Q0)
    (h : ∀ k f bs, bs.length = x.Bits.length → LInv f (P0 ++ x.Bits) (Q0 ++ bs) → Has1 Q (K k f bs)) :
    Has1 Q (whileF 1000000000000 (fun k530 (s528 : (Int × Int × Int × (List Bool))) => (if (decide (s528.2.2.1 < ((x.Bits.length : Nat) : Int))) = true then (okI (0 ≤ (IntKind.wrap .u64 ((BitVec.ofInt (IntKind.bits .u64) (IntKind.wrap .u64 s528.1) &&& BitVec.ofInt (IntKind.bits .u64) (15 : Int)).toNat : Int))) (capN (s528.2.2.2.length + [(bitN a1 s528.1)].length) (jn (fun (s712 : Int) => (k530 ((IntKind.wrap .i64 (s528.1 + (1 : Int))), s712, (IntKind.wrap .i64 (s528.2.2.1 + (1 : Int))), (s528.2.2.2 ++ [(bitN a1 s528.1)])))) (fun k714 => (jn (fun (s717 : Bool) => (if s717 = true then (if (bitN a1 s528.1) = true then (k714 (2 : Int)) else (k714 (1 : Int))) else (k714 s528.2.1))) (fun k719 => (if (s528.2.1 == (0 : Int)) = true then (getI x.Bits s528.2.2.1 (fun x723 => (k719 (!((bitN a1 s528.1) == x723))))) else (k719 false)))))))) else (K s528.1 s528.2.1 s528.2.2.2))) (k0, f0, (0 : Int), ([] : List Bool))) := by
  refine whileF_ex (fun s : Int × Int × Int × List Bool => x.Bits.length - s.2.2.1.toNat) (fun s => 0 ≤ s.2.2.1 ∧ s.2.2.1 ≤ x.Bits.length ∧ (s.2.2.2.length : Int) = s.2.2.1 ∧ LInv s.2.1 (P0 ++ x.Bits.take s.2.2.1.toNat) (Q0 ++ s.2.2.2)) ?_ 1000000000000 (k0, f0, 0, []) ⟨by simp, by simp, by simp, by simpa using h0⟩ (by simp; omega)
  rintro ⟨k, f, j, bs⟩ kk ⟨g0, g1, g2, g3⟩ hs
  simp only at g0 g1 g2 g3 ⊢
  by_cases c : j < ((x.Bits.length : Nat) : Int)
  · obtain ⟨n, rfl⟩ : ∃ n : Nat, j = n := ⟨j.toNat, by omega⟩
    have hlt : n < x.Bits.length := by omega
    have hw : IntKind.wrap .i64 (((n : Nat) : Int) + 1) = ((n + 1 : Nat) : Int) := by rw [wrap_id (by omega) (by omega)]; omega
    rw [Int.toNat_natCast] at g3
    have htk : x.Bits.take (n + 1) = x.Bits.take n ++ [x.Bits[n]] := by rw [List.take_add_one, List.getElem?_eq_getElem hlt]; rfl
    have hst := fun b => g3.step x.Bits[n] b
    rw [if_pos (by rw [decide_eq_true_eq]; exact c), okI_eq (wu0 _), capN_eq (by simp; omega)]
    generalize bitN a1 k = b
    have hst := hst b
    simp only [jn_eq, getI_nat, List.getElem?_eq_getElem hlt, hw]
    have fin : ∀ f', LInv f' (P0 ++ x.Bits.take n ++ [x.Bits[n]]) (Q0 ++ bs ++ [b]) → ∀ k', Has1 Q (kk (k', f', ((n + 1 : Nat) : Int), bs ++ [b])) := fun f' hf k' =>
      hs _ ⟨by show (0 : Int) ≤ ((n + 1 : Nat) : Int); omega, by show ((n + 1 : Nat) : Int) ≤ _; omega, by simp; omega, by
        show LInv f' (P0 ++ x.Bits.take (((n + 1 : Nat) : Int)).toNat) (Q0 ++ (bs ++ [b]))
        rw [Int.toNat_natCast, htk, ← List.append_assoc, ← List.append_assoc]; exact hf⟩ (by simp; omega)
    by_cases c1 : (f == (0 : Int)) = true
    · rw [if_pos c1] at hst ⊢
      by_cases c2 : (!(b == x.Bits[n])) = true
      · rw [if_pos c2] at hst ⊢
        by_cases c3 : b = true
        · rw [if_pos c3] at hst ⊢; exact fin _ hst _
        · rw [if_neg c3] at hst ⊢; exact fin _ hst _
      · rw [if_neg c2] at hst ⊢; exact fin _ hst _
    · rw [if_neg c1] at hst ⊢
      rw [if_neg (by decide)]; exact fin _ hst _
  · rw [if_neg (by rw [decide_eq_true_eq]; exact c)]
    have e : j.toNat = x.Bits.length := by omega
    rw [e, List.take_length] at g3
    exact h k f bs (by omega) g3
end Go.Sk.X
namespace Go.Sk.X
open Go Go.Sk
theorem jn_law {S R : Type} {f : S → Option R} {g : (S → Option R) → Option R} {r : Option R} (P : S → Prop) (h1 : ∀ s, P s → f s = r) (h2 : ∀ k, (∀ s, P s → k s = r) → g k = r) : jn f g = r := h2 f h1
theorem has1_true {x : Option Bool} (h : Has1 (fun b => b = true) x) : x = some true := by obtain ⟨b, hb, rfl⟩ := h; exact hb
theorem shape_tof {es : List S_api_Dep} {l M : List S_api_Table} (h : TOf es l) (hs : M.map (fun t => (t.Var, t.On, t.Bits.length)) = l.map (fun t => (t.Var, t.On, t.Bits.length))) : TOf es M := by
  refine ⟨?_, fun t ht => ?_⟩
  · rw [← h.1]
    have := congrArg (List.map fun q : Int × List Int × Nat => (q.1, q.2.1)) hs
    simpa [List.map_map, Function.comp_def] using this
  · have hm : (t.Var, t.On, t.Bits.length) ∈ l.map (fun t => (t.Var, t.On, t.Bits.length)) := by rw [← hs]; exact List.mem_map.2 ⟨t, ht, rfl⟩
    obtain ⟨u, hu, he⟩ := List.mem_map.1 hm
    simp only [Prod.mk.injEq] at he
    have := h.2 u hu
    rw [← he.2.2, ← he.2.1]; exact this
def zeroT : S_api_Table := S_api_Table.mk (0 : Int) ([] : List Int) ([] : List Bool)
theorem set_rep {α : Type} (done : List α) (n : Nat) (z t : α) : (done ++ List.replicate (n + 1) z).set done.length t = (done ++ [t]) ++ List.replicate n z := by
  rw [List.set_append_right _ _ (Nat.le_refl _), Nat.sub_self, List.replicate_succ, List.set_cons_zero]
  simp
theorem lsm_of {d : S_api_Dqbf} (hf : Few d) {M : List S_api_Table} (h : TOf d.Exist M) : LSm M := by
  have hb := hf.bits
  have hge := sz_ge d.Exist
  have hl : M.length = d.Exist.length := by have := congrArg List.length h.1; simpa using this
  refine ⟨by omega, fun t ht => ?_⟩
  obtain ⟨e, he, g1, g2⟩ := h.mem ht
  have ho := hf.on e he
  have hp : 2 ^ t.On.length ≤ 2 ^ 4 := pw_le (by rw [← g2]; exact ho)
  have hq : (2 : Nat) ^ 4 = 16 := rfl
  rw [h.2 t ht, ← g2] at *
  omega
theorem skV_two (d : S_api_Dqbf) : skV d = ([], 6) ∨ ∃ l, skV d = (l, 0) := by
  unfold skV
  generalize 2 ^ sz d.Exist = k
  generalize (0 : Nat) = j
  induction k generalizing j with
  | zero => exact .inl rfl
  | succ k ih =>
    simp only [firstW]
    split
    · exact .inr ⟨_, rfl⟩
    · exact ih (j + 1)
theorem law_TruthLeast {a0 : S_api_Dqbf} {a1 : Int} (hz : Z_S_api_Dqbf a0) (h1 : InK .u16 a1) : F_skolemlaw04_TruthLeast a0 a1 = some true := by
  unfold F_skolemlaw04_TruthLeast
  obtain ⟨b, hb, hs⟩ := large_ex hz
  have e1 : ((F_skolemlaw04_head).bind fun y => some y) = some true := by rw [head_eq, Option.bind_some]
  refine jn_law (fun s => s = true ∨ (b = false ∧ MayD a0 = true ∧ s = false)) (fun s hs1 => ?_) (fun k hk => ?_)
  rotate_left
  · rw [hb, Option.bind_some]
    cases b
    · rw [if_neg (by decide), may3_eq (hs rfl), Option.bind_some]
      cases hM : MayD a0
      · exact hk _ (.inl rfl)
      · exact hk _ (.inr ⟨rfl, hM, rfl⟩)
    · exact hk _ (.inl rfl)
  rcases hs1 with rfl | ⟨rfl, hM, rfl⟩
  · exact e1
  have h := hs rfl
  have hm := may_of hM
  rw [if_neg (by decide), pskol h, Option.bind_some]
  unfold skR
  rw [if_pos hM]
  cases hF : fewB a0
  · exact e1
  have hf := few_of hF
  rw [if_pos rfl]
  rcases skV_two a0 with hv | ⟨l, hv⟩
  · rw [hv]; exact e1
  rw [hv]
  obtain ⟨hw, ht, hmin⟩ := skV_least hv
  have hll : l.length = a0.Exist.length := by have := congrArg List.length ht.1; simpa using this
  have hlen := hm.len
  have hLl := lsm_of hf ht
  simp only
  have e0 : ((0 : Int) != 0) = false := rfl
  have e00 : ((0 : Int) == 0) = true := rfl
  have e2 : (((l.length : Nat) : Int) != ((a0.Exist.length : Nat) : Int)) = false := by simp [hll]
  rw [e0, if_neg (by decide), e2, if_neg (by decide), okI_eq (by omega)]
  refine has1_true (rangeF_ex l (fun pre s => ∃ done, done.map (fun t => (t.Var, t.On, t.Bits.length)) = pre.map (fun t => (t.Var, t.On, t.Bits.length)) ∧ s.2.2 = done ++ List.replicate (l.length - pre.length) zeroT ∧ LInv s.2.1 (flatT pre) (flatT done)) ?_ ?_ l [] (0, 0, _) rfl ⟨[], rfl, rfl, rfl, .inl ⟨rfl, rfl⟩⟩)
  · rintro ⟨k, f, M⟩ ⟨done, g1, g2, g3⟩
    simp only [Nat.sub_self, List.replicate_zero, List.append_nil] at g2 g3 ⊢
    subst g2
    have htd := shape_tof ht g1
    refine ⟨true, ?_, rfl⟩
    have w1 : winsV a0 M = (winB a0 M, 0) := by unfold winsV; rw [if_pos hM, if_pos (alike_tof htd), if_pos hF]
    have w2 : winsV a0 l = (true, 0) := by unfold winsV; rw [if_pos hM, if_pos (alike_tof ht), if_pos hF, hw]
    rw [pW_eq h (lsm_of hf htd), Option.bind_some, pW_eq h hLl, Option.bind_some, w1, w2]
    simp only [e00, if_true]
    by_cases hwM : winB a0 M = true
    · rw [if_pos hwM]
      have hf1 : (f == (1 : Int)) = false := by
        refine Bool.eq_false_iff.2 (fun hf1 => ?_)
        have hf2 : f = 1 := by simpa using hf1
        subst hf2
        have := hmin M htd g3
        rw [hwM] at this
        exact absurd this (by decide)
      rw [hf1]
      exact e1
    · rw [if_neg hwM]
      exact e1
  · rintro pre x xs ⟨k, f, M⟩ kk hfu ⟨done, g1, g2, g3⟩ hk
    simp only at g2 g3 ⊢
    subst g2
    have hlt : pre.length < l.length := by rw [hfu]; simp
    have hdl : done.length = pre.length := by have := congrArg List.length g1; simpa using this
    obtain ⟨n, hn⟩ : ∃ n, l.length - pre.length = n + 1 := ⟨l.length - pre.length - 1, by omega⟩
    have hx : x ∈ l := by rw [hfu]; simp
    have hxb : x.Bits.length ≤ 16 := by
      obtain ⟨e, he, _, q2⟩ := ht.mem hx
      have ho := hf.on e he
      have hp : 2 ^ e.On.length ≤ 2 ^ 4 := pw_le ho
      rw [ht.2 x hx, ← q2]
      exact hp
    have hget : (done ++ List.replicate (n + 1) zeroT)[pre.length]? = some zeroT := by
      rw [List.getElem?_append_right (by omega), hdl, Nat.sub_self, List.replicate_succ]; rfl
    rw [hn, getI_nat, hget]
    simp only [Int.toNat_natCast]
    refine bits_loop (Q := fun b => b = true) a1 x hxb (flatT pre) (flatT done) (fun k' f' bs => kk (k', f', (done ++ List.replicate (n + 1) zeroT).set pre.length (S_api_Table.mk x.Var x.On bs))) k f g3 (fun k' f' bs hbs hI => ?_)
    refine hk _ ⟨done ++ [S_api_Table.mk x.Var x.On bs], by simp [g1, hbs], ?_, ?_⟩
    · show (done ++ List.replicate (n + 1) zeroT).set pre.length (S_api_Table.mk x.Var x.On bs) = _
      rw [← hdl, set_rep, List.length_append, List.length_singleton, show l.length - (pre.length + 1) = n by omega]
    · show LInv f' (flatT (pre ++ [x])) (flatT (done ++ [_]))
      rw [flatT_snoc, flatT_snoc]
      exact hI
end Go.Sk.X