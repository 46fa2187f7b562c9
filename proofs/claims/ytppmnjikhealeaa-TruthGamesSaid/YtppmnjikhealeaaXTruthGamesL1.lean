/- The plain law of TruthGames: about numbers and lists alone. It has no conditions. -/
import Derived.Test.YtppmnjikhealeaaXTruthGamesF
set_option linter.unusedVariables false
set_option linter.unusedSimpArgs false
namespace Go.Sk
open Go
theorem jn_eq {S R : Type} (f : S → Option R) (g : (S → Option R) → Option R) : jn f g = g f := rfl
theorem rangeF_nil {α S R : Type} (f : Nat → α → S → (S → Option R) → Option R) (i : Nat) (s : S) (k : S → Option R) : rangeF f i [] s k = k s := rfl
theorem rangeF_cons {α S R : Type} (f : Nat → α → S → (S → Option R) → Option R) (i : Nat) (x : α) (xs : List α) (s : S) (k : S → Option R) : rangeF f i (x :: xs) s k = f i x s (fun s' => rangeF f (i + 1) xs s' k) := rfl
theorem upF_zero {S R : Type} (f : Int → S → (S → Option R) → Option R) (i : Int) (s : S) (k : S → Option R) : upF f 0 i s k = k s := rfl
theorem upF_succ {S R : Type} (f : Int → S → (S → Option R) → Option R) (n : Nat) (i : Int) (s : S) (k : S → Option R) : upF f (n + 1) i s k = f i s (fun s' => upF f n (i + 1) s' k) := rfl
theorem whileF_succ {S R : Type} (n : Nat) (b : (S → Option R) → S → Option R) (s : S) : whileF (n + 1) b s = b (whileF n b) s := rfl
theorem whileF_by {S R : Type} {b : (S → Option R) → S → Option R} (μ : S → Nat) (I : S → Prop) (g : S → Option R)
    (step : ∀ s k, I s → (∀ s', I s' → μ s' < μ s → k s' = g s') → b k s = g s) : ∀ n s, I s → μ s < n → whileF n b s = g s
  | 0, s, _, h => absurd h (Nat.not_lt_zero _)
  | n + 1, s, hI, h => by
    rw [whileF_succ]
    exact step s _ hI (fun s' h1 h2 => whileF_by μ I g step n s' h1 (by omega))
theorem rangeF_eq {α S R : Type} {f : Nat → α → S → (S → Option R) → Option R} {k : S → Option R} (g : Nat → List α → S → Option R) (h0 : ∀ j s, g j [] s = k s)
    (h1 : ∀ j x xs s kk, (∀ s', kk s' = g (j + 1) xs s') → f j x s kk = g j (x :: xs) s) : ∀ xs j s, rangeF f j xs s k = g j xs s
  | [], j, s => (h0 j s).symm
  | x :: xs, j, s => h1 j x xs s _ (fun s' => rangeF_eq g h0 h1 xs (j + 1) s')
theorem rangeF_pre {α S R : Type} {f : Nat → α → S → (S → Option R) → Option R} {k : S → Option R} (full : List α) (I : List α → S → Prop) (g : List α → List α → S → Option R) (h0 : ∀ s, I full s → k s = g full [] s)
    (h1 : ∀ pre x xs s kk, full = pre ++ x :: xs → I pre s → (∀ s', I (pre ++ [x]) s' → kk s' = g (pre ++ [x]) xs s') → f pre.length x s kk = g pre (x :: xs) s) : ∀ xs pre s, full = pre ++ xs → I pre s → rangeF f pre.length xs s k = g pre xs s
  | [], pre, s, hf, hI => by
    rw [List.append_nil] at hf; subst hf
    exact h0 s hI
  | x :: xs, pre, s, hf, hI => by
    refine h1 pre x xs s _ hf hI (fun s' hs' => ?_)
    have := rangeF_pre full I g h0 h1 xs (pre ++ [x]) s' (by simp [hf]) hs'
    rw [List.length_append] at this
    exact this
theorem wrap_id {n : Int} (h0 : -9223372036854775808 ≤ n) (h1 : n ≤ 9223372036854775807) : IntKind.wrap .i64 n = n := by
  simp only [IntKind.wrap, IntKind.bits, IntKind.signed]
  simp only [Bool.true_and]
  split <;> rename_i h <;> simp only [ge_iff_le, decide_eq_true_eq] at h <;> omega
def av (x : Int) : Int := if x < 0 then -x else x
def nrmB (last : Int) : List Int → Bool
  | [] => true
  | x :: xs => decide (-65536 ≤ x) && decide (x ≤ 65536) && decide (last < av x) && nrmB (av x) xs
theorem av_nonneg (x : Int) : 0 ≤ av x := by unfold av; split <;> omega
theorem av_neg (x : Int) : av (-x) = av x := by unfold av; split <;> split <;> omega
theorem nrm_cons {c x : Int} {xs : List Int} : nrmB c (x :: xs) = true ↔ -65536 ≤ x ∧ x ≤ 65536 ∧ c < av x ∧ nrmB (av x) xs = true := by
  simp [nrmB, and_assoc]
theorem nrm_mem : ∀ {c : Int} {l : List Int}, nrmB c l = true → ∀ x ∈ l, c < av x ∧ -65536 ≤ x ∧ x ≤ 65536
  | c, [], _, x, h => by simp at h
  | c, y :: ys, h, x, hx => by
    rw [nrm_cons] at h
    rcases List.mem_cons.1 hx with rfl | hx
    · exact ⟨h.2.2.1, h.1, h.2.1⟩
    · have := nrm_mem h.2.2.2 x hx
      exact ⟨by omega, this.2⟩
end Go.Sk
namespace Go.Sk
open Go
def Has1 {R : Type} (Post : R → Prop) (x : Option R) : Prop := ∃ r, x = some r ∧ Post r
theorem rangeF_ex {α S R : Type} {Post : R → Prop} {f : Nat → α → S → (S → Option R) → Option R} {k : S → Option R} (full : List α) (I : List α → S → Prop) (h0 : ∀ s, I full s → Has1 Post (k s))
    (h1 : ∀ pre x xs s kk, full = pre ++ x :: xs → I pre s → (∀ s', I (pre ++ [x]) s' → Has1 Post (kk s')) → Has1 Post (f pre.length x s kk)) : ∀ xs pre s, full = pre ++ xs → I pre s → Has1 Post (rangeF f pre.length xs s k)
  | [], pre, s, hf, hI => by
    rw [List.append_nil] at hf; subst hf
    exact h0 s hI
  | x :: xs, pre, s, hf, hI => by
    refine h1 pre x xs s _ hf hI (fun s' hs' => ?_)
    have := rangeF_ex full I h0 h1 xs (pre ++ [x]) s' (by simp [hf]) hs'
    rw [List.length_append] at this
    exact this
theorem rangeF_fold {α S R : Type} (g : S → α → S) (k : S → Option R) : ∀ (xs : List α) (j : Nat) (s : S), rangeF (fun _ x s k => k (g s x)) j xs s k = k (xs.foldl g s)
  | [], _, _ => rfl
  | x :: xs, j, s => by rw [rangeF_cons]; exact rangeF_fold g k xs (j + 1) (g s x)
def rsB (c : Int) : List Int → Bool
  | [] => true
  | x :: xs => decide (c < x) && (decide (x ≤ 65536) && rsB x xs)
theorem rsB_cons {c x : Int} {xs : List Int} : rsB c (x :: xs) = true ↔ c < x ∧ x ≤ 65536 ∧ rsB x xs = true := by simp [rsB]
theorem rsB_mem : ∀ {l : List Int} {c : Int}, rsB c l = true → ∀ x ∈ l, c < x ∧ x ≤ 65536
  | [], _, _, x, hx => by simp at hx
  | y :: l, c, h, x, hx => by
    obtain ⟨h1, h2, h3⟩ := rsB_cons.1 h
    rcases List.mem_cons.1 hx with rfl | hx
    · exact ⟨h1, h2⟩
    · have := rsB_mem h3 x hx
      exact ⟨by omega, this.2⟩
theorem rsB_nodup : ∀ {l : List Int} {c : Int}, rsB c l = true → l.Nodup
  | [], _, _ => List.nodup_nil
  | y :: l, c, h => by
    obtain ⟨h1, h2, h3⟩ := rsB_cons.1 h
    exact List.nodup_cons.2 ⟨fun hm => by have := (rsB_mem h3 y hm).1; omega, rsB_nodup h3⟩
def lastD (l : List Int) : Int := (l.getLast?).getD 0
theorem lastD_app (l : List Int) (x : Int) : lastD (l ++ [x]) = x := by simp [lastD]
theorem lastD_get {l : List Int} (h : 0 < l.length) : l[l.length - 1]? = some (lastD l) := by
  unfold lastD
  rw [List.getLast?_eq_getElem?]
  have : l.length - 1 < l.length := by omega
  rw [List.getElem?_eq_getElem this]; rfl
theorem mget_fold {β : Type} (v : β) : ∀ (xs : List Int) (m : List (Int × β)) (k : Int), mget (xs.foldl (fun m x => mset m x v) m) k = if k ∈ xs then some v else mget m k
  | [], m, k => by simp
  | x :: xs, m, k => by
    rw [List.foldl_cons, mget_fold v xs, mget_mset]
    by_cases h1 : k ∈ xs
    · simp [h1]
    · by_cases h2 : k = x <;> simp [h1, h2]
end Go.Sk
namespace Go.Sk.X
open Go Go.Sk
theorem rises_eq (a : List Int) (hl : a.length ≤ 4194304) : F_prefix_rises a = some (rsB 0 a) := by
  refine rangeF_pre a (fun pre _ => 0 ≤ lastD pre) (fun pre xs _ => some (rsB (lastD pre) xs)) (fun _ _ => rfl) ?_ a [] () rfl (by decide)
  intro pre x xs s kk hf hI hk
  have hlen : pre.length < a.length := by rw [hf]; simp
  simp only [jn_eq, rsB]
  by_cases h1 : x < 1
  · have : ¬ lastD pre < x := by omega
    simp [h1, this]
  by_cases h2 : x > 65536
  · have : ¬ x ≤ 65536 := by omega
    simp [h1, h2, this]
  have hk' := hk () (by rw [lastD_app]; omega)
  rw [lastD_app] at hk'
  have h3 : x ≤ 65536 := by omega
  by_cases hp : 0 < pre.length
  · have e : IntKind.wrap .i64 (((pre.length : Nat) : Int) - 1) = ((pre.length - 1 : Nat) : Int) := by rw [wrap_id (by omega) (by omega)]; omega
    have hg : a[pre.length - 1]? = some (lastD pre) := by
      rw [hf, List.getElem?_append_left (by omega)]
      exact lastD_get hp
    have hp' : ((pre.length : Nat) : Int) > 0 := by omega
    simp only [h1, h2, hp', e, getI_nat, hg, decide_false, decide_true, if_true, if_false, Bool.false_eq_true]
    by_cases h4 : lastD pre ≥ x
    · have : ¬ lastD pre < x := by omega
      simp [h4, this]
    · have : lastD pre < x := by omega
      simp [h4, this, h3, hk']
  · have : pre = [] := List.eq_nil_of_length_eq_zero (by omega)
    subst this
    have h4 : lastD ([] : List Int) < x := by show (0 : Int) < x; omega
    simp [h1, h2, h3, h4, hk']
theorem abs3_eq {x : Int} (h0 : -9223372036854775807 ≤ x) (h1 : x ≤ 9223372036854775807) : F_skolemref03_Abs x = some (av x) := by
  unfold F_skolemref03_Abs av
  by_cases h : x < 0
  · have e : IntKind.wrap .i64 (0 - x) = -x := by rw [wrap_id (by omega) (by omega)]; omega
    simp only [h, decide_true, if_true, e]
  · simp [h]
theorem absp_eq {x : Int} (h0 : -9223372036854775807 ≤ x) (h1 : x ≤ 9223372036854775807) : F_prefix_abs x = some (av x) := by
  unfold F_prefix_abs av imx
  have e : IntKind.wrap .i64 (0 - x) = -x := by rw [wrap_id (by omega) (by omega)]; omega
  rw [e]
  by_cases h : x < 0
  · rw [if_pos (by omega), if_pos h]
  · rw [if_neg (by omega), if_neg h]
theorem normal_eq (a : List Int) (hl : a.length ≤ 4194304) : F_skolemref03_Normal a = some (nrmB 0 a) := by
  refine rangeF_pre a (fun pre _ => pre = [] ∨ (-65536 ≤ lastD pre ∧ lastD pre ≤ 65536)) (fun pre xs _ => some (nrmB (if pre = [] then 0 else av (lastD pre)) xs)) (fun _ _ => rfl) ?_ a [] () rfl (.inl rfl)
  intro pre x xs s kk hf hI hk
  have hlen : pre.length < a.length := by rw [hf]; simp
  simp only [jn_eq, nrmB]
  have av0 := av_nonneg (lastD pre)
  by_cases h0 : x = 0
  · subst h0
    have : av 0 = 0 := rfl
    have h5 : ¬ (if pre = [] then 0 else av (lastD pre)) < av 0 := by rw [this]; split <;> omega
    simp [h5]
  have h0' : (x == 0) = false := by simp [h0]
  by_cases h1 : x < -65536
  · have : ¬ -65536 ≤ x := by omega
    simp [h0', h1, this]
  by_cases h2 : x > 65536
  · have : ¬ x ≤ 65536 := by omega
    simp [h0', h1, h2, this]
  have hk' := hk () (.inr (by rw [lastD_app]; omega))
  rw [lastD_app] at hk'
  simp only [List.append_eq_nil_iff, List.cons_ne_self, and_false, if_false, reduceCtorEq] at hk'
  have h3 : x ≤ 65536 := by omega
  have h3' : -65536 ≤ x := by omega
  by_cases hp : 0 < pre.length
  · have e : IntKind.wrap .i64 (((pre.length : Nat) : Int) - 1) = ((pre.length - 1 : Nat) : Int) := by rw [wrap_id (by omega) (by omega)]; omega
    have hg : a[pre.length - 1]? = some (lastD pre) := by
      rw [hf, List.getElem?_append_left (by omega)]
      exact lastD_get hp
    have hp' : ((pre.length : Nat) : Int) > 0 := by omega
    have hne : pre ≠ [] := by intro e; subst e; simp at hp
    rcases hI with rfl | ⟨i1, i2⟩
    · exact absurd rfl hne
    simp only [h0', h1, h2, hp', e, getI_nat, hg, abs3_eq (x := x) (by omega) (by omega), abs3_eq (x := lastD pre) (by omega) (by omega), Option.bind_some, decide_false, decide_true, if_true, if_false, Bool.false_eq_true, hne]
    by_cases h4 : av (lastD pre) ≥ av x
    · have : ¬ av (lastD pre) < av x := by omega
      simp [h4, this]
    · have : av (lastD pre) < av x := by omega
      simp [h4, this, h3, h3', hk']
  · have : pre = [] := List.eq_nil_of_length_eq_zero (by omega)
    subst this
    have h4 : 0 < av x := by unfold av; split <;> omega
    simp [h0', h1, h2, h3, h3', h4, hk']
theorem has_eq (l : List Int) (v : Int) : F_skolemref03_Has l v = some (decide (v ∈ l)) := by
  refine rangeF_eq (fun _ xs _ => some (decide (v ∈ xs))) (fun _ _ => by simp) ?_ l 0 ()
  intro j x xs s kk hk
  by_cases h : x = v
  · subst h; simp
  · have : ¬ v = x := fun e => h e.symm
    simp [h, hk, this]
def singB (pre : List Int) : List Int → Bool
  | [] => true
  | x :: xs => decide (1 ≤ x) && (decide (x ≤ 65536) && (!decide (x ∈ pre) && singB (pre ++ [x]) xs))
theorem single_eq (a : List Int) : F_skolemref03_single a = some (singB [] a) := by
  refine rangeF_pre a (fun pre _ => True) (fun pre xs _ => some (singB pre xs)) (fun _ _ => rfl) ?_ a [] () rfl trivial
  intro pre x xs s kk hf hI hk
  have hlen : pre.length < a.length := by rw [hf]; simp
  have hk' := hk () trivial
  simp only [jn_eq, singB]
  by_cases h1 : x < 1
  · have : ¬ 1 ≤ x := by omega
    simp [h1, this]
  by_cases h2 : x > 65536
  · have : ¬ x ≤ 65536 := by omega
    simp [h1, h2, this]
  have h3 : x ≤ 65536 := by omega
  have h4 : 1 ≤ x := by omega
  have ht : a.take (((pre.length : Nat) : Int)).toNat = pre := by rw [hf]; simp
  have ho : 0 ≤ ((pre.length : Nat) : Int) ∧ ((pre.length : Nat) : Int).toNat ≤ a.length := ⟨by omega, by omega⟩
  rw [okI_eq ho, ht, has_eq]
  by_cases h5 : x ∈ pre <;> simp [h1, h2, h3, h4, h5, hk']
theorem sing_iff : ∀ (l pre : List Int), singB pre l = true ↔ (∀ x ∈ l, 1 ≤ x ∧ x ≤ 65536) ∧ l.Nodup ∧ ∀ x ∈ l, x ∉ pre
  | [], pre => by simp [singB]
  | y :: l, pre => by
    simp only [singB, Bool.and_eq_true, decide_eq_true_eq, Bool.not_eq_true', decide_eq_false_iff_not, sing_iff l (pre ++ [y]), List.mem_append, List.mem_singleton, not_or, List.mem_cons, List.not_mem_nil, or_false, forall_eq_or_imp, List.nodup_cons]
    constructor
    · rintro ⟨a, b, c, d, e, f⟩
      exact ⟨⟨⟨a, b⟩, d⟩, ⟨fun hm => (f y hm).2 rfl, e⟩, c, fun x hx => (f x hx).1⟩
    · rintro ⟨⟨⟨a, b⟩, d⟩, ⟨f, e⟩, c, g⟩
      exact ⟨a, b, c, d, e, fun x hx => ⟨g x hx, fun e => f (e ▸ hx)⟩⟩
def varsD (d : S_api_Dqbf) : List Int := d.Exist.map (·.Var)
def tot (cs : List (List Int)) : Nat := (cs.map List.length).sum
theorem tot_app (a b : List (List Int)) : tot (a ++ b) = tot a + tot b := by simp [tot]
theorem tot_cons (a : List Int) (b : List (List Int)) : tot (a :: b) = a.length + tot b := by simp [tot]
theorem tot_mem {cs : List (List Int)} {c : List Int} (h : c ∈ cs) : c.length ≤ tot cs := by
  obtain ⟨a, b, rfl⟩ := List.append_of_mem h
  rw [tot_app, tot_cons]; omega
theorem cnf_eq (cs : List (List Int)) (h : tot cs ≤ 4194304) : F_skolemref03_Cnf cs = some (cs.all (nrmB 0) && (decide (cs.length ≤ 20000) && decide (tot cs ≤ 200000))) := by
  refine rangeF_pre cs (fun pre s => s = (tot pre : Int)) (fun pre xs s => some (xs.all (nrmB 0) && (decide (cs.length ≤ 20000) && decide (tot cs ≤ 200000)))) ?_ ?_ cs [] 0 rfl rfl
  · rintro s rfl
    by_cases h1 : cs.length ≤ 20000
    · have : ((cs.length : Nat) : Int) ≤ 20000 := by omega
      by_cases h2 : tot cs ≤ 200000
      · have h3 : (tot cs : Int) ≤ 200000 := by omega
        simp [this, h1, h2, h3]
      · have h3 : ¬ (tot cs : Int) ≤ 200000 := by omega
        simp [this, h1, h2, h3]
    · have : ¬ ((cs.length : Nat) : Int) ≤ 20000 := by omega
      simp [this, h1]
  · intro pre x xs s kk hf hI hk
    have ht : tot pre + x.length ≤ tot cs := by rw [hf, tot_app, tot_cons]; omega
    rw [normal_eq x (by omega), Option.bind_some]
    have hk' := hk (IntKind.wrap .i64 (s + ((x.length : Nat) : Int))) (by rw [hI, wrap_id (by omega) (by omega), tot_app]; simp [tot])
    by_cases hx : nrmB 0 x = true
    · simp [hx, hk']
    · simp [hx]
theorem within_in (u : List Int) (kk : Unit → Option Bool) (c : List Int) (hr : ∀ x ∈ c, -65536 ≤ x ∧ x ≤ 65536) (hl : c.length ≤ 4194304) (R : Option Bool) (hk : kk () = R) :
    whileF 1000000000000 (fun k130 (s128 : Int) => (if (decide (s128 < ((c.length : Nat) : Int))) = true then (getI c s128 (fun x146 => ((F_skolemref03_Abs x146).bind (fun y147 => ((F_skolemref03_Has u y147).bind (fun y148 => (if (!y148) = true then (some false) else (k130 (IntKind.wrap .i64 (s128 + (1 : Int))))))))))) else (kk ()))) (0 : Int)
      = if (c.all fun x => decide (av x ∈ u)) = true then R else some false := by
  have := whileF_by (b := (fun k130 (s128 : Int) => (if (decide (s128 < ((c.length : Nat) : Int))) = true then (getI c s128 (fun x146 => ((F_skolemref03_Abs x146).bind (fun y147 => ((F_skolemref03_Has u y147).bind (fun y148 => (if (!y148) = true then (some false) else (k130 (IntKind.wrap .i64 (s128 + (1 : Int))))))))))) else (kk ())))) (fun s : Int => c.length - s.toNat) (fun s => 0 ≤ s ∧ s ≤ c.length) (fun s => if ((c.drop s.toNat).all fun x => decide (av x ∈ u)) = true then R else some false) ?_ 1000000000000 0 (by simp) (by simp; omega)
  · simpa using this
  · intro s k ⟨h0, h1⟩ hs
    by_cases h2 : s < ((c.length : Nat) : Int)
    · obtain ⟨n, rfl⟩ : ∃ n : Nat, s = n := ⟨s.toNat, by omega⟩
      have hn : n < c.length := by omega
      have hd : c.drop n = c[n] :: c.drop (n + 1) := by rw [List.drop_eq_getElem_cons hn]
      have hm := hr c[n] (List.getElem_mem hn)
      have hw : IntKind.wrap .i64 (((n : Nat) : Int) + 1) = ((n + 1 : Nat) : Int) := by rw [wrap_id (by omega) (by omega)]; omega
      have hs' := hs ((n + 1 : Nat) : Int) ⟨by omega, by omega⟩ (by simp; omega)
      simp only [h2, decide_true, if_true, getI_nat, List.getElem?_eq_getElem hn, abs3_eq (x := c[n]) (by omega) (by omega), has_eq, Option.bind_some, hw, hs', Int.toNat_natCast, hd, List.all_cons]
      by_cases h3 : av c[n] ∈ u <;> simp [h3]
    · have : s.toNat = c.length := by omega
      simp [h2, this, hk]
theorem within_eq (cs : List (List Int)) (u : List Int) (hr : ∀ c ∈ cs, nrmB 0 c = true) (hl : tot cs ≤ 4194304) : F_skolemref03_within cs u = some (cs.all fun c => c.all fun x => decide (av x ∈ u)) := by
  refine rangeF_pre cs (fun pre _ => True) (fun _ xs _ => some (xs.all fun c => c.all fun x => decide (av x ∈ u))) (fun _ _ => rfl) ?_ cs [] () rfl trivial
  intro pre x xs s kk hf hI hk
  have hx : x ∈ cs := by rw [hf]; simp
  rw [within_in u kk x (fun y hy => (nrm_mem (hr x hx) y hy).2) (Nat.le_trans (tot_mem hx) hl) _ (hk () trivial)]
  by_cases h : (x.all fun x => decide (av x ∈ u)) = true
  · rw [if_pos h]; simp only [List.all_cons, h, Bool.true_and]
  · rw [if_neg h]; simp only [List.all_cons, Bool.eq_false_iff.2 h, Bool.false_and]
end Go.Sk.X
namespace Go.Sk.X
open Go Go.Sk
structure Sm (d : S_api_Dqbf) : Prop where
  univ : d.Univ.length ≤ 2097152
  exist : d.Exist.length ≤ 2097152
  cls : d.Clauses.length ≤ 2097152
  tot : tot d.Clauses ≤ 2097152
  on : (d.Exist.map fun e => e.On.length).sum ≤ 2097152
theorem Sm.onE {d : S_api_Dqbf} (h : Sm d) {e : S_api_Dep} (he : e ∈ d.Exist) : e.On.length ≤ 2097152 := by
  have := h.on
  obtain ⟨a, b, hh⟩ := List.append_of_mem he
  rw [hh] at this
  simp at this
  omega
def depB (u : List Int) (e : S_api_Dep) : Bool := rsB 0 e.On && e.On.all fun x => decide (x ∈ u)
def MayD (d : S_api_Dqbf) : Bool :=
  (d.Exist.all fun e => !decide (e.Var ∈ d.Univ) && depB d.Univ e) && (rsB 0 d.Univ && (rsB 0 (varsD d) && (decide (d.Univ.length + d.Exist.length ≤ 1024) &&
    (decide (d.Clauses.length ≤ 20000) && ((d.Clauses.all fun c => nrmB 0 c && c.all fun x => decide (av x ∈ d.Univ ++ varsD d)) && decide (tot d.Clauses ≤ 200000))))))
theorem fold2 (xs : List Int) : ∀ (m m' : List (Int × Bool)), xs.foldl (fun (s : List (Int × Bool) × List (Int × Bool)) x => (mset s.1 x true, mset s.2 x true)) (m, m') = (xs.foldl (fun m x => mset m x true) m, xs.foldl (fun m x => mset m x true) m') := by
  induction xs with
  | nil => intro m m'; rfl
  | cons x xs ih => intro m m'; rw [List.foldl_cons, List.foldl_cons, List.foldl_cons, ih]
theorem findF_eq (m : Int → Bool) (kk : Int → Option Bool) (l : List Int) (R : Option Bool) (hb : ∀ j : Nat, kk (j : Int) = some false) (hk : kk (-1) = R) :
    rangeF (fun (j1617 : Nat) (x1618 : Int) (s1614 : Unit) k1616 => (if (!(m x1618)) = true then (kk ((j1617 : Nat) : Int)) else (k1616 ()))) 0 l () (fun (s1614 : Unit) => kk (-1 : Int)) = if (l.all m) = true then R else some false := by
  refine rangeF_eq (fun _ xs _ => if (xs.all m) = true then R else some false) (fun _ _ => hk.symm) ?_ l 0 ()
  intro j x xs s k2 h2
  by_cases h : m x = true
  · simp [h, h2]
  · simp [Bool.eq_false_iff.2 h, hb]
theorem lits_in (m : Int → Bool) (kk : Int → Option Bool) (l : List Int) (R : Option Bool) (hk : ∀ s, kk s = R) :
    rangeF (fun (j3902 : Nat) (x3903 : Int) (s3899 : Int) k3901 => (jn (fun (s4091 : Bool) => (if s4091 = true then (some false) else ((F_prefix_abs x3903).bind (fun y4095 => (k3901 y4095))))) (fun k4093 => (if (x3903 == (0 : Int)) = true then (k4093 true) else (if (decide (x3903 < (-65536 : Int))) = true then (k4093 true) else (if (decide (x3903 > (65536 : Int))) = true then (k4093 true) else ((F_prefix_abs x3903).bind (fun y4099 => (if (decide (y4099 ≤ s3899)) = true then (k4093 true) else ((F_prefix_abs x3903).bind (fun y4101 => (k4093 (!(m y4101)))))))))))))) 0 l (0 : Int) kk
      = if (nrmB 0 l && l.all fun x => m (av x)) = true then R else some false := by
  refine rangeF_pre l (fun _ s => 0 ≤ s) (fun _ xs s => if (nrmB s xs && xs.all fun x => m (av x)) = true then R else some false) (fun s _ => by simp [nrmB, hk]) ?_ l [] 0 rfl (by decide)
  intro pre x xs s k2 hf hI h2
  simp only [jn_eq]
  by_cases h0 : x = 0
  · subst h0
    have h5 : ¬ s < av 0 := by show ¬ s < 0; omega
    simp [h5, nrmB]
  have h0' : (x == 0) = false := by simp [h0]
  by_cases h1 : x < -65536
  · have : ¬ -65536 ≤ x := by omega
    simp [h0', h1, this, nrmB]
  by_cases h3 : x > 65536
  · have : ¬ x ≤ 65536 := by omega
    simp [h0', h1, h3, this, nrmB]
  have e1 : -65536 ≤ x := by omega
  have e2 : x ≤ 65536 := by omega
  rw [absp_eq (x := x) (by omega) (by omega)]
  simp only [h0', h1, h3, decide_false, Bool.false_eq_true, if_false, Option.bind_some, nrmB, e1, e2, decide_true, Bool.true_and, List.all_cons]
  by_cases h4 : av x ≤ s
  · have : ¬ s < av x := by omega
    simp [h4, this]
  · have h5 : s < av x := by omega
    rw [h2 (av x) (av_nonneg x)]
    cases h6 : m (av x) <;> simp [h4, h5, h6]
theorem mayp_eq {d : S_api_Dqbf} (h : Sm d) : F_prefix_MayDqbf d = some (MayD d) := by
  unfold F_prefix_MayDqbf
  rw [rangeF_fold (fun (s : List (Int × Bool) × List (Int × Bool)) x => (mset s.1 x true, mset s.2 x true)), fold2]
  have h1 := h.univ
  have h2 := h.exist
  have h3 := h.tot
  have hmu : ∀ x, ((mget (d.Univ.foldl (fun m x => mset m x true) []) x).getD false) = decide (x ∈ d.Univ) := by
    intro x; rw [mget_fold]; by_cases hx : x ∈ d.Univ <;> simp [hx, mget]
  generalize hM : d.Univ.foldl (fun m x => mset m x true) ([] : List (Int × Bool)) = M at hmu ⊢
  simp only [hmu, jn_eq]
  refine (rangeF_pre d.Exist (fun pre s => s = pre.map (·.Var)) (fun _ xs _ => some ((xs.all fun e => !decide (e.Var ∈ d.Univ) && depB d.Univ e) && (rsB 0 d.Univ && (rsB 0 (varsD d) && (decide (d.Univ.length + d.Exist.length ≤ 1024) &&
    (decide (d.Clauses.length ≤ 20000) && ((d.Clauses.all fun c => nrmB 0 c && c.all fun x => decide (av x ∈ d.Univ ++ varsD d)) && decide (tot d.Clauses ≤ 200000)))))))) ?_ ?_ d.Exist [] [] rfl rfl)
  · rintro s rfl
    have hv : (d.Exist.map (·.Var)).length = d.Exist.length := by simp
    rw [rangeF_fold (fun m x => mset m x true)]
    have hma : ∀ x, (mget ((d.Exist.map (·.Var)).foldl (fun m x => mset m x true) M) x).isSome = decide (x ∈ d.Univ ++ varsD d) := by
      intro x
      rw [mget_fold, ← hM, mget_fold]
      by_cases a : x ∈ d.Exist.map (·.Var)
      · rw [if_pos a]; simp [varsD]; exact .inr (by simpa using a)
      · rw [if_neg a]
        by_cases b : x ∈ d.Univ
        · rw [if_pos b]; simp [b]
        · rw [if_neg b]
          have : x ∉ d.Univ ++ varsD d := by simp only [List.mem_append, not_or]; exact ⟨b, a⟩
          simp [mget, this]
    simp only [hma, rises_eq d.Univ (by omega), Option.bind_some, List.all_nil, Bool.true_and]
    by_cases hU : rsB 0 d.Univ = true
    case neg => simp [Bool.eq_false_iff.2 hU]
    rw [rises_eq _ (by rw [hv]; omega), Option.bind_some]
    by_cases hV : rsB 0 (varsD d) = true
    case neg =>
      have : rsB 0 (d.Exist.map (·.Var)) = false := Bool.eq_false_iff.2 hV
      simp [hU, this, Bool.eq_false_iff.2 hV]
    have hV' : rsB 0 (d.Exist.map (·.Var)) = true := hV
    rw [hv, wrap_id (by omega) (by omega)]
    by_cases hl : d.Univ.length + d.Exist.length ≤ 1024
    case neg =>
      have : ¬ ((d.Univ.length : Int) + (d.Exist.length : Int) ≤ 1024) := by omega
      simp [hU, hV', hl, this]
    have hl' : ((d.Univ.length : Int) + (d.Exist.length : Int) ≤ 1024) := by omega
    simp only [hU, hV, hV', hl, hl', decide_true, if_true, Bool.true_and]
    by_cases hc : d.Clauses.length ≤ 20000
    case neg =>
      have : ((d.Clauses.length : Nat) : Int) > 20000 := by omega
      simp [hc, this]
    have hc' : ¬ ((d.Clauses.length : Nat) : Int) > 20000 := by omega
    simp only [hc, hc', decide_true, decide_false, Bool.false_eq_true, if_false, Bool.true_and]
    have key := rangeF_pre (f := (fun (j3491 : Nat) (x3492 : (List Int)) (s3488 : Int) (k3490 : Int → Option Bool) => (rangeF (fun (j3902 : Nat) (x3903 : Int) (s3899 : Int) k3901 => (jn (fun (s4091 : Bool) => (if s4091 = true then (some false) else ((F_prefix_abs x3903).bind (fun y4095 => (k3901 y4095))))) (fun k4093 => (if (x3903 == (0 : Int)) = true then (k4093 true) else (if (decide (x3903 < (-65536 : Int))) = true then (k4093 true) else (if (decide (x3903 > (65536 : Int))) = true then (k4093 true) else ((F_prefix_abs x3903).bind (fun y4099 => (if (decide (y4099 ≤ s3899)) = true then (k4093 true) else ((F_prefix_abs x3903).bind (fun y4101 => (k4093 (!(decide (y4101 ∈ d.Univ ++ varsD d))))))))))))))) 0 x3492 (0 : Int) (fun (s3899 : Int) => (k3490 (IntKind.wrap .i64 (s3488 + ((x3492.length : Nat) : Int)))))))) (k := fun s3488 => some (decide (s3488 ≤ (200000 : Int))))
      d.Clauses (fun pre s => s = (tot pre : Int)) (fun _ xs _ => some ((xs.all fun c => nrmB 0 c && c.all fun x => decide (av x ∈ d.Univ ++ varsD d)) && decide (tot d.Clauses ≤ 200000))) ?_ ?_ d.Clauses [] 0 rfl rfl
    · simp only [jn_eq, if_true, List.length_nil] at key
      rw [key]; simp
    · rintro s rfl
      by_cases ht : tot d.Clauses ≤ 200000
      · have h3 : (tot d.Clauses : Int) ≤ 200000 := by omega
        simp [ht, h3]
      · have h3 : ¬ (tot d.Clauses : Int) ≤ 200000 := by omega
        simp [ht, h3]
    · intro pre x xs s kk hf hI hk
      have ht : tot pre + x.length ≤ tot d.Clauses := by rw [hf, tot_app, tot_cons]; omega
      have hk' := hk (IntKind.wrap .i64 (s + ((x.length : Nat) : Int))) (by rw [hI, wrap_id (by omega) (by omega), tot_app]; simp [tot])
      rw [lits_in (fun y => decide (y ∈ d.Univ ++ varsD d)) _ x _ (fun _ => hk'), List.all_cons]
      by_cases hx : (nrmB 0 x && x.all fun x => decide (av x ∈ d.Univ ++ varsD d)) = true
      · rw [if_pos hx, hx, Bool.true_and]
      · rw [if_neg hx, Bool.eq_false_iff.2 hx, Bool.false_and, Bool.false_and]
  · intro pre x xs s kk hf hI hk
    have hx : x ∈ d.Exist := by rw [hf]; simp
    have hlen : pre.length < d.Exist.length := by rw [hf]; simp
    have hk' := hk (s ++ [x.Var]) (by rw [hI]; simp)
    rw [List.all_cons]
    by_cases hu : x.Var ∈ d.Univ
    · simp [hu]
    rw [rises_eq x.On (Nat.le_trans (h.onE hx) (by decide)), Option.bind_some, depB]
    by_cases a : rsB 0 x.On = true
    case neg => simp [hu, Bool.eq_false_iff.2 a]
    simp only [hu, a, decide_false, Bool.false_eq_true, if_false, Bool.not_true]
    have hA : ∀ j : Nat, (if (decide (((j : Nat) : Int) ≥ (0 : Int))) = true then (some false) else (capN (s.length + [x.Var].length) (kk (s ++ [x.Var])))) = some false := fun j => by
      have : ((j : Nat) : Int) ≥ 0 := by omega
      simp [this]
    have hB : (if (decide ((-1 : Int) ≥ (0 : Int))) = true then (some false) else (capN (s.length + [x.Var].length) (kk (s ++ [x.Var])))) = kk (s ++ [x.Var]) := by
      rw [capN_eq (by rw [hI]; simp; omega)]; simp
    rw [findF_eq (fun y => decide (y ∈ d.Univ)) (fun s1611 => (if (decide (s1611 ≥ (0 : Int))) = true then (some false) else (capN (s.length + [x.Var].length) (kk (s ++ [x.Var]))))) x.On (kk (s ++ [x.Var])) hA hB]
    rw [hk']
    by_cases b : (x.On.all fun y => decide (y ∈ d.Univ)) = true
    · rw [if_pos b, b]; simp
    · rw [if_neg b, Bool.eq_false_iff.2 b]; simp
end Go.Sk.X
namespace Go.Sk.X
open Go Go.Sk
structure May (d : S_api_Dqbf) : Prop where
  dj : ∀ e ∈ d.Exist, e.Var ∉ d.Univ
  on : ∀ e ∈ d.Exist, rsB 0 e.On = true ∧ ∀ x ∈ e.On, x ∈ d.Univ
  ru : rsB 0 d.Univ = true
  rv : rsB 0 (varsD d) = true
  len : d.Univ.length + d.Exist.length ≤ 1024
  nrm : ∀ c ∈ d.Clauses, nrmB 0 c = true
  wi : ∀ c ∈ d.Clauses, ∀ x ∈ c, av x ∈ d.Univ ∨ av x ∈ varsD d
theorem may_of {d : S_api_Dqbf} (h : MayD d = true) : May d := by
  simp only [MayD, Bool.and_eq_true, List.all_eq_true, decide_eq_true_eq, Bool.not_eq_true', decide_eq_false_iff_not, depB, List.mem_append] at h
  obtain ⟨h1, h2, h3, h4, h5, h6, h7⟩ := h
  exact ⟨fun e he => (h1 e he).1, fun e he => (h1 e he).2, h2, h3, h4, fun c hc => (h6 c hc).1, fun c hc => (h6 c hc).2⟩
theorem May.sep {d : S_api_Dqbf} (h : May d) {x : Int} (h1 : x ∈ d.Univ) : x ∉ varsD d := fun hm => by
  obtain ⟨e, he, rfl⟩ := List.mem_map.1 hm
  exact h.dj e he h1
theorem wrapu (n : Int) : IntKind.wrap .u64 n = n % 18446744073709551616 := by
  simp only [IntKind.wrap, IntKind.bits, IntKind.signed]
  simp
end Go.Sk.X
namespace Go.Sk.X
open Go Go.Sk
theorem nrm_lit {c : List Int} (h : nrmB 0 c = true) {x : Int} (hx : x ∈ c) : x ≠ 0 ∧ -65536 ≤ x ∧ x ≤ 65536 := by
  obtain ⟨h1, h2⟩ := nrm_mem h x hx
  exact ⟨fun e => by subst e; simp [av] at h1, h2⟩
end Go.Sk.X
namespace Go.Sk.X
open Go Go.Sk
theorem av_pos {x : Int} (h : 0 < x) : av x = x := by unfold av; rw [if_neg (by omega)]
end Go.Sk.X
namespace Go.Sk.X
open Go Go.Sk
theorem nodup_len : ∀ {l m : List Int}, l.Nodup → (∀ x ∈ l, x ∈ m) → l.length ≤ m.length
  | [], m, _, _ => Nat.zero_le _
  | x :: l, m, h, hm => by
    rw [List.nodup_cons] at h
    obtain ⟨a, b, rfl⟩ := List.append_of_mem (hm x (by simp))
    have := nodup_len (l := l) (m := a ++ b) h.2 (fun y hy => by
      have := hm y (by simp [hy])
      simp only [List.mem_append, List.mem_cons] at this ⊢
      rcases this with h1 | h1 | h1
      · exact .inl h1
      · subst h1; exact absurd hy h.1
      · exact .inr h1)
    simp only [List.length_append, List.length_cons] at this ⊢
    omega
end Go.Sk.X
namespace Go.Sk.X
open Go Go.Sk
def satB (cs : List (List Int)) (a : List Int) : Bool := cs.all fun c => c.any fun x => decide (x ∈ a)
end Go.Sk.X
namespace Go.Sk.X
open Go Go.Sk
def flat (p : List S_api_Block) : List Int := p.flatMap (·.Vars)
def turnsP (p : List S_api_Block) : List S_truth_turn := p.flatMap fun b => b.Vars.map fun v => ⟨v, b.Exists⟩
theorem flat_app (a b : List S_api_Block) : flat (a ++ b) = flat a ++ flat b := by simp [flat]
theorem flat_one (a : S_api_Block) : flat [a] = a.Vars := by simp [flat]
theorem turns_v (p : List S_api_Block) : (turnsP p).map (·.v) = flat p := by
  induction p with
  | nil => rfl
  | cons b p ih =>
    simp only [turnsP, flat, List.flatMap_cons, List.map_append, List.map_map] at *
    rw [ih]; congr 1
    exact List.map_id _
theorem rangeF_app {α S R : Type} (g : α → S → (S → Option R) → Option R) (k : S → Option R) : ∀ (xs ys : List α) (i j : Nat) (s : S),
    rangeF (fun _ x s k => g x s k) i (xs ++ ys) s k = rangeF (fun _ x s k => g x s k) i xs s (fun s' => rangeF (fun _ x s k => g x s k) j ys s' k)
  | [], ys, i, j, s => by
    rw [List.nil_append, rangeF_nil]
    induction ys generalizing i j s with
    | nil => rfl
    | cons y ys ih => rw [rangeF_cons, rangeF_cons]; congr 1; funext s'; exact ih (i + 1) (j + 1) s'
  | x :: xs, ys, i, j, s => by
    rw [List.cons_append, rangeF_cons, rangeF_cons]; congr 1; funext s'; exact rangeF_app g k xs ys (i + 1) j s'
theorem rangeF_flat {α β S R : Type} (h : α → List β) (g : β → S → (S → Option R) → Option R) (k : S → Option R) : ∀ (xs : List α) (i j : Nat) (s : S),
    rangeF (fun _ x s k => rangeF (fun _ y s k => g y s k) 0 (h x) s (fun s => k s)) i xs s k = rangeF (fun _ y s k => g y s k) j (xs.flatMap h) s k
  | [], i, j, s => rfl
  | x :: xs, i, j, s => by
    rw [rangeF_cons, List.flatMap_cons, rangeF_app g k _ _ j 0]
    have e : (fun s => rangeF (fun _ x s k => rangeF (fun _ y s k => g y s k) 0 (h x) s (fun s => k s)) (i + 1) xs s k) = fun s => rangeF (fun _ y s k => g y s k) 0 (xs.flatMap h) s k := by
      funext s'; exact rangeF_flat h g k xs (i + 1) 0 s'
    rw [e]
    have := rangeF_app g (fun s => rangeF (fun _ y s k => g y s k) 0 (xs.flatMap h) s k) [] (h x) j 0 s
    rw [List.nil_append, rangeF_nil] at this
    exact this.symm
theorem sumFold {α : Type} (f : α → Nat) (M : Nat) (hM : M = 140737488351232) : ∀ (ls : List α) (s : Nat), (∀ l ∈ ls, f l ≤ M) → s + ls.length * M ≤ 9223372036854775807 →
    ls.foldl (fun s (x : α) => IntKind.wrap .i64 (s + ((f x : Nat) : Int))) (s : Int) = ((s + (ls.map f).sum : Nat) : Int)
  | [], s, _, _ => by rw [List.foldl_nil, List.map_nil, List.sum_nil, Nat.add_zero]
  | l :: ls, s, h, hb => by
    have hl := h l (by simp)
    rw [List.length_cons, Nat.add_mul, Nat.one_mul] at hb
    have e : IntKind.wrap .i64 ((s : Int) + ((f l : Nat) : Int)) = ((s + f l : Nat) : Int) := by rw [wrap_id (by omega) (by omega)]; omega
    rw [List.foldl_cons, e, sumFold f M hM ls (s + f l) (fun x hx => h x (by simp [hx])) (by omega), List.map_cons, List.sum_cons, Nat.add_assoc]
structure Sq (q : S_api_Qbf) : Prop where
  bl : q.Prefix.length ≤ 60
  vs : (flat q.Prefix).length ≤ 100
  cl : q.Clauses.length ≤ 60
  tot : tot q.Clauses ≤ 300
theorem flat_len (p : List S_api_Block) : (flat p).length = (p.map fun b => b.Vars.length).sum := by
  induction p with
  | nil => rfl
  | cons b p ih => simp only [flat, List.flatMap_cons, List.length_append, List.map_cons, List.sum_cons] at *; omega
theorem great_eq {q : S_api_Qbf} (hz : Z_S_api_Qbf q) : ∃ b, F_skolemlaw04_great q = some b ∧ (b = false → Sq q) := by
  unfold F_skolemlaw04_great F_skolemlaw04_wide
  by_cases h1 : ((q.Prefix.length : Nat) : Int) > 60
  · exact ⟨true, by simp only [h1, decide_true, if_true], by simp⟩
  have hs1 := sumFold (fun b : S_api_Block => b.Vars.length) 140737488351232 rfl q.Prefix 0 (fun b hb => (hz.1.2 b hb).2.1) (by omega)
  rw [rangeF_fold (fun s (x : S_api_Block) => IntKind.wrap .i64 (s + ((x.Vars.length : Nat) : Int)))]
  rw [show ((0 : Nat) : Int) = 0 from rfl] at hs1
  rw [hs1, Nat.zero_add, ← flat_len]
  simp only [h1, decide_false, Bool.false_eq_true, if_false, jn_eq]
  by_cases h2 : ((q.Clauses.length : Nat) : Int) > 60
  · exact ⟨true, by simp [h2], by simp⟩
  by_cases h3 : (((flat q.Prefix).length : Nat) : Int) > 100
  · exact ⟨true, by simp [h2, h3], by simp⟩
  have hs2 := sumFold (fun b : List Int => b.length) 140737488351232 rfl q.Clauses 0 (fun b hb => (hz.2.2 b hb).1) (by omega)
  rw [rangeF_fold (fun s (x : List Int) => IntKind.wrap .i64 (s + ((x.length : Nat) : Int)))]
  rw [show ((0 : Nat) : Int) = 0 from rfl] at hs2
  rw [hs2, Nat.zero_add]
  simp only [h2, h3, decide_false, Bool.false_eq_true, if_false, Option.bind_some]
  by_cases h4 : (((q.Clauses.map fun b => b.length).sum : Nat) : Int) > 300
  · exact ⟨true, by simp [h4], by simp⟩
  · refine ⟨_, by simp only [h4, decide_false, Bool.false_eq_true, if_false]; exact (apply_ite some _ _ _).symm, fun _ => ⟨by omega, by omega, by omega, ?_⟩⟩
    unfold Go.Sk.X.tot
    have : (q.Clauses.map List.length).sum = (q.Clauses.map fun b => b.length).sum := rfl
    omega
def altB : Option Bool → List S_api_Block → Bool
  | _, [] => true
  | o, b :: bs => !b.Vars.isEmpty && (!decide (o = some b.Exists) && altB (some b.Exists) bs)
theorem alt_loop (full : List S_api_Block) (hl : full.length ≤ 60) (K : Unit → Option Bool) :
    (rangeF (fun (j104 : Nat) (x105 : S_api_Block) (s101 : Unit) k103 => (jn (fun (s139 : Bool) => (if s139 = true then (some false) else (k103 ()))) (fun k141 => (if (((x105.Vars.length : Nat) : Int) == (0 : Int)) = true then (k141 true) else (if (decide (((j104 : Nat) : Int) > (0 : Int))) = true then (getI full (IntKind.wrap .i64 (((j104 : Nat) : Int) - (1 : Int))) (fun x145 => (k141 (x145.Exists == x105.Exists)))) else (k141 false)))))) 0 full () K)
      = if altB none full = true then K () else some false := by
  refine rangeF_pre full (fun _ _ => True) (fun pre xs _ => if altB (pre.getLast?.map (·.Exists)) xs = true then K () else some false) (fun s _ => by simp [altB]) ?_ full [] () rfl trivial
  intro pre x xs s kk hf hI hk
  have hlen : pre.length < full.length := by rw [hf]; simp
  have hk' := hk () trivial
  simp only [jn_eq, altB]
  rw [List.getLast?_append, List.getLast?_singleton] at hk'
  simp only [Option.some_or, Option.map_some] at hk'
  by_cases h0 : x.Vars = []
  · simp [h0]
  have h0' : (((x.Vars.length : Nat) : Int) == (0 : Int)) = false := by
    have : x.Vars.length ≠ 0 := fun e => h0 (List.eq_nil_of_length_eq_zero e)
    simp; exact h0
  have h0'' : x.Vars.isEmpty = false := by simpa using h0
  by_cases hp : 0 < pre.length
  · have e : IntKind.wrap .i64 (((pre.length : Nat) : Int) - 1) = ((pre.length - 1 : Nat) : Int) := by rw [wrap_id (by omega) (by omega)]; omega
    obtain ⟨y, hy⟩ : ∃ y, pre.getLast? = some y := by
      cases hh : pre.getLast? with
      | none => rw [List.getLast?_eq_none_iff] at hh; subst hh; simp at hp
      | some y => exact ⟨y, rfl⟩
    have hg : full[pre.length - 1]? = some y := by
      rw [hf, List.getElem?_append_left (by omega), ← List.getLast?_eq_getElem?, hy]
    have hp' : ((pre.length : Nat) : Int) > 0 := by omega
    simp only [h0', h0'', hp', e, getI_nat, hg, hy, hk', decide_true, if_true, Bool.false_eq_true, if_false, Option.map_some, Bool.not_false, Bool.true_and]
    by_cases he : y.Exists = x.Exists
    · simp [he]
    · have e1 : (y.Exists == x.Exists) = false := by simpa using he
      have e2 : ¬ (some y.Exists = some x.Exists) := fun h => he (Option.some.inj h)
      by_cases hA : altB (some x.Exists) xs = true <;> simp [e1, e2, hA]
  · have : pre = [] := List.eq_nil_of_length_eq_zero (by omega)
    subst this
    by_cases hA : altB (some x.Exists) xs = true <;> simp [h0', h0'', hk', h0, hA]
theorem count_eq (p : List S_api_Block) : F_prefix_count p = some (if singB [] (flat p) = true then (((flat p).length : Int), true) else (0, false)) := by
  unfold F_prefix_count
  have := rangeF_flat (fun b : S_api_Block => b.Vars) (fun (x2062 : Int) (s2058 : List (Int × Bool)) (k2060 : List (Int × Bool) → Option (Int × Bool)) => (jn (fun (s2441 : Bool) => (if s2441 = true then (some ((0 : Int), false)) else (k2060 (mset s2058 x2062 true)))) (fun k2443 => (if (decide (x2062 < (1 : Int))) = true then (k2443 true) else (if (decide (x2062 > (65536 : Int))) = true then (k2443 true) else (k2443 ((mget s2058 x2062).getD false))))))) (fun (s1275 : (List (Int × Bool))) => (some (((s1275.length : Nat) : Int), true))) p 0 0 []
  refine this.trans ?_
  change rangeF _ 0 (flat p) [] _ = _
  refine rangeF_pre (flat p) (fun pre s => s = pre.foldl (fun m x => mset m x true) []) (fun pre xs s => some (if singB pre xs = true then ((((pre.foldl (fun m x => mset m x true) ([] : List (Int × Bool))).length + xs.length : Nat) : Int), true) else ((0 : Int), false))) ?_ ?_ (flat p) [] [] rfl rfl |>.trans ?_
  · rintro s rfl; simp [singB]
  · intro pre x xs s kk hf hI hk
    subst hI
    have hk' := hk (mset (pre.foldl (fun m x => mset m x true) []) x true) (by simp)
    have hg : ((mget (pre.foldl (fun m x => mset m x true) ([] : List (Int × Bool))) x).getD false) = decide (x ∈ pre) := by
      rw [mget_fold]; by_cases hx : x ∈ pre <;> simp [hx, mget]
    simp only [jn_eq, singB, hg]
    by_cases h1 : x < 1
    · have : ¬ 1 ≤ x := by omega
      simp [h1, this]
    by_cases h2 : x > 65536
    · have : ¬ x ≤ 65536 := by omega
      simp [h1, h2, this]
    have h3 : x ≤ 65536 := by omega
    have h4 : 1 ≤ x := by omega
    by_cases h5 : x ∈ pre
    · simp [h1, h2, h3, h4, h5]
    · simp only [h1, h2, h3, h4, h5, decide_false, decide_true, Bool.false_eq_true, if_false, Bool.not_false, Bool.true_and, hk']
      by_cases h6 : singB (pre ++ [x]) xs = true
      · simp only [h6, if_true]
        have hs := (sing_iff xs (pre ++ [x])).1 h6
        have e : ∀ l : List Int, (l.foldl (fun m x => mset m x true) ([] : List (Int × Bool))).length + 0 = (l.foldl (fun m x => mset m x true) ([] : List (Int × Bool))).length := fun _ => rfl
        congr 3
        rw [List.foldl_append, List.length_cons]
        have hset : ∀ (m : List (Int × Bool)), (mget m x).isSome = false → (mset m x true).length = m.length + 1 := by
          intro m
          induction m with
          | nil => intro _; rfl
          | cons p m ih =>
            obtain ⟨a, b⟩ := p
            intro hh
            simp only [mget] at hh
            by_cases e : (x == a) = true
            · rw [if_pos e] at hh; simp at hh
            · rw [if_neg e] at hh
              simp only [mset]
              rw [if_neg e, List.length_cons, ih hh, List.length_cons]
        have := hset (pre.foldl (fun m x => mset m x true) []) (by rw [mget_fold, if_neg h5]; rfl)
        simp only [List.foldl_cons, List.foldl_nil, this]
        omega
      · simp [Bool.eq_false_iff.2 h6]
  · simp
end Go.Sk.X
namespace Go.Sk.X
open Go Go.Sk
def MayQ (q : S_api_Qbf) : Bool :=
  altB none q.Prefix && (singB [] (flat q.Prefix) && ((q.Clauses.all (nrmB 0)) && (q.Clauses.all fun c => c.all fun x => decide (av x ∈ flat q.Prefix))))
theorem flat_eq (p : List S_api_Block) (h : (flat p).length ≤ 100) : F_skolemref03_Flat p = some (flat p) := by
  unfold F_skolemref03_Flat
  refine rangeF_pre p (fun pre s => s = flat pre) (fun _ _ _ => some (flat p)) (fun s hs => by rw [hs]) ?_ p [] [] rfl rfl
  intro pre x xs s kk hf hI hk
  have hl : (flat pre).length + x.Vars.length ≤ (flat p).length := by rw [hf, flat_app]; simp [flat]
  subst hI
  rw [capN_eq (by omega), hk _ (by rw [flat_app, flat_one])]
theorem rmay_eq {q : S_api_Qbf} (h : Sq q) : F_skolemref03_MayQbf q = some (MayQ q) := by
  have h1 := h.bl
  have h2 := h.vs
  have h3 := h.tot
  have h4 := h.cl
  unfold F_skolemref03_MayQbf F_skolemref03_May
  rw [alt_loop q.Prefix h1]
  by_cases hA : altB none q.Prefix = true
  case neg => simp [hA, MayQ, Bool.eq_false_iff.2 hA]
  have hl : (((flat q.Prefix).length : Nat) : Int) ≤ 1024 := by omega
  simp only [hA, if_true, flat_eq q.Prefix h2, Option.bind_some, hl, decide_true, single_eq, MayQ, Bool.true_and]
  by_cases hS : singB [] (flat q.Prefix) = true
  case neg => simp [Bool.eq_false_iff.2 hS]
  have c1 : q.Clauses.length ≤ 20000 := by omega
  have c2 : Go.Sk.X.tot q.Clauses ≤ 200000 := by omega
  simp only [hS, if_true, cnf_eq q.Clauses (by omega), Option.bind_some, c1, c2, decide_true, Bool.and_true, Bool.true_and]
  by_cases hN : q.Clauses.all (nrmB 0) = true
  case neg => simp [Bool.eq_false_iff.2 hN]
  rw [hN]
  simp only [if_true, Bool.true_and]
  rw [within_eq q.Clauses _ (List.all_eq_true.1 hN) (by omega)]
  rfl
theorem pmay_eq {q : S_api_Qbf} (h : Sq q) : F_prefix_MayQbf q = some (MayQ q) := by
  have h1 := h.bl
  have h2 := h.vs
  have h3 := h.tot
  have h4 := h.cl
  unfold F_prefix_MayQbf F_prefix_May
  rw [alt_loop q.Prefix h1]
  by_cases hA : altB none q.Prefix = true
  case neg => simp [hA, MayQ, Bool.eq_false_iff.2 hA]
  rw [if_pos hA, count_eq, Option.bind_some]
  by_cases hS : singB [] (flat q.Prefix) = true
  case neg => simp [hA, MayQ, Bool.eq_false_iff.2 hS]
  have hl : (((flat q.Prefix).length : Nat) : Int) ≤ 1024 := by omega
  simp only [hS, if_true, hl, decide_true, Option.bind_some]
  -- where the variables stand
  have hpl := rangeF_ex (Post := fun Y : List (Int × S_prefix_place) => ∀ v, (mget Y v).isSome = decide (v ∈ flat q.Prefix)) (f := (fun (j2750 : Nat) (x2751 : S_api_Block) (s2747 : (List (Int × S_prefix_place))) k2749 => (rangeF (fun (j2885 : Nat) (x2886 : Int) (s2882 : (List (Int × S_prefix_place))) k2884 => (jn (fun (s2943 : (List (Int × S_prefix_place))) => (k2884 s2943)) (fun k2945 => (if (!(mget s2882 x2886).isSome) = true then (k2945 (mset s2882 x2886 (S_prefix_place.mk ((j2750 : Nat) : Int) x2751.Exists))) else (k2945 s2882))))) 0 x2751.Vars s2747 (fun (s2882 : (List (Int × S_prefix_place))) => (k2749 s2882))))) (k := (fun (s2747 : (List (Int × S_prefix_place))) => (some s2747)))
    q.Prefix (fun pre s => ∀ v, (mget s v).isSome = decide (v ∈ flat pre)) (fun s hs => ⟨s, rfl, hs⟩) ?_ q.Prefix [] [] rfl (by intro v; rfl)
  · obtain ⟨Y, hY, hm⟩ := hpl
    rw [List.length_nil] at hY
    rw [hY]
    have c1 : ¬ ((q.Clauses.length : Nat) : Int) > 20000 := by omega
    simp only [Option.bind_some, c1, decide_false, Bool.false_eq_true, if_false, hm]
    have key := rangeF_pre (f := (fun (j3491 : Nat) (x3492 : (List Int)) (s3488 : Int) (k3490 : Int → Option Bool) => (rangeF (fun (j3902 : Nat) (x3903 : Int) (s3899 : Int) k3901 => (jn (fun (s4091 : Bool) => (if s4091 = true then (some false) else ((F_prefix_abs x3903).bind (fun y4095 => (k3901 y4095))))) (fun k4093 => (if (x3903 == (0 : Int)) = true then (k4093 true) else (if (decide (x3903 < (-65536 : Int))) = true then (k4093 true) else (if (decide (x3903 > (65536 : Int))) = true then (k4093 true) else ((F_prefix_abs x3903).bind (fun y4099 => (if (decide (y4099 ≤ s3899)) = true then (k4093 true) else ((F_prefix_abs x3903).bind (fun y4101 => (k4093 (!(decide (y4101 ∈ flat q.Prefix))))))))))))))) 0 x3492 (0 : Int) (fun (s3899 : Int) => (k3490 (IntKind.wrap .i64 (s3488 + ((x3492.length : Nat) : Int)))))))) (k := fun s3488 => some (decide (s3488 ≤ (200000 : Int))))
      q.Clauses (fun pre s => s = (tot pre : Int)) (fun _ xs _ => some (xs.all fun c => nrmB 0 c && c.all fun x => decide (av x ∈ flat q.Prefix))) ?_ ?_ q.Clauses [] 0 rfl rfl
    · rw [List.length_nil] at key
      rw [key]
      simp only [Option.bind_some, MayQ, hA, hS, Bool.true_and]
      congr 1
      rw [Bool.eq_iff_iff]
      simp only [List.all_eq_true, Bool.and_eq_true]
      exact ⟨fun q => ⟨fun c hc => (q c hc).1, fun c hc => (q c hc).2⟩, fun q c hc => ⟨q.1 c hc, q.2 c hc⟩⟩
    · rintro s rfl
      have c2 : (tot q.Clauses : Int) ≤ 200000 := by omega
      simp [c2]
    · intro pre x xs s kk hf hI hk
      have ht : tot pre + x.length ≤ tot q.Clauses := by rw [hf, tot_app, tot_cons]; omega
      have hk' := hk (IntKind.wrap .i64 (s + ((x.length : Nat) : Int))) (by rw [hI, wrap_id (by omega) (by omega), tot_app]; simp [tot])
      rw [lits_in (fun y => decide (y ∈ flat q.Prefix)) _ x _ (fun _ => hk'), List.all_cons]
      by_cases hx : (nrmB 0 x && x.all fun x => decide (av x ∈ flat q.Prefix)) = true
      · rw [if_pos hx, hx, Bool.true_and]
      · rw [if_neg hx, Bool.eq_false_iff.2 hx, Bool.false_and]
  · intro pre x xs s kk hf hI hk
    refine rangeF_ex x.Vars (fun p2 s => ∀ v, (mget s v).isSome = decide (v ∈ flat pre ++ p2)) (fun s hs => ?_) ?_ x.Vars [] s rfl (by simpa using hI)
    · exact hk s (fun v => by rw [hs v, flat_app, flat_one])
    · intro p2 y ys s k2 hf2 hI2 hk2
      simp only [jn_eq]
      by_cases hy : (mget s y).isSome = true
      · rw [hy, Bool.not_true, if_neg (by decide)]
        refine hk2 s (fun v => ?_)
        rw [hI2 v]
        have hy' := hI2 y
        rw [hy] at hy'
        have hm : y ∈ flat pre ++ p2 := by simpa using hy'.symm
        rw [Bool.eq_iff_iff]
        simp only [decide_eq_true_eq, List.mem_append, List.mem_singleton] at hm ⊢
        constructor
        · rintro (a | a)
          · exact .inl a
          · exact .inr (.inl a)
        · rintro (a | a | rfl)
          · exact .inl a
          · exact .inr a
          · exact hm
      · rw [Bool.eq_false_iff.2 hy, Bool.not_false, if_pos rfl]
        refine hk2 _ (fun v => ?_)
        rw [mget_mset]
        by_cases e : v = y
        · subst e; simp
        · rw [if_neg e, hI2 v]
          simp [e]
end Go.Sk.X
namespace Go.Sk.X
open Go Go.Sk
theorem turns_app (a b : List S_api_Block) : turnsP (a ++ b) = turnsP a ++ turnsP b := by simp [turnsP]
theorem turns_len (p : List S_api_Block) : (turnsP p).length = (flat p).length := by rw [← turns_v, List.length_map]
theorem of_eq (q : S_api_Qbf) (h : (flat q.Prefix).length ≤ 100) : F_truth_of q = some ⟨turnsP q.Prefix, q.Clauses⟩ := by
  unfold F_truth_of
  refine rangeF_pre q.Prefix (fun pre s => s = turnsP pre) (fun _ _ _ => some (S_truth_game.mk (turnsP q.Prefix) q.Clauses)) (fun s hs => by rw [hs]) ?_ q.Prefix [] [] rfl rfl
  intro pre x xs s kk hf hI hk
  have hl : (flat pre).length + x.Vars.length ≤ (flat q.Prefix).length := by rw [hf, flat_app]; simp [flat]
  have ht := turns_len pre
  refine rangeF_pre x.Vars (fun p2 s => s = turnsP pre ++ p2.map fun v => ⟨v, x.Exists⟩) (fun _ _ _ => some (S_truth_game.mk (turnsP q.Prefix) q.Clauses)) (fun s hs => hk s ?_) ?_ x.Vars [] s rfl (by simpa using hI)
  · rw [hs, turns_app]; simp [turnsP]
  · intro p2 y ys s k2 hf2 hI2 hk2
    have hl2 : p2.length < x.Vars.length := by rw [hf2]; simp
    subst hI2
    rw [capN_eq (by simp only [List.length_append, List.length_map, List.length_cons, List.length_nil]; omega), hk2 _ (by simp)]
def upd (f : Int → Bool) (v : Int) (b : Bool) : Int → Bool := fun u => if u = v then b else f u
def litF (f : Int → Bool) (x : Int) : Bool := if x < 0 then !f (-x) else f x
def satF (cs : List (List Int)) (f : Int → Bool) : Bool := cs.all fun c => c.any (litF f)
def gameB (cs : List (List Int)) : List S_truth_turn → (Int → Bool) → Bool
  | [], f => satF cs f
  | t :: ts, f => if (gameB cs ts (upd f t.v false) == t.f_exists) = true then t.f_exists else gameB cs ts (upd f t.v true)
theorem game_congr {cs : List (List Int)} (hnz : ∀ c ∈ cs, ∀ x ∈ c, x ≠ 0) : ∀ (ts : List S_truth_turn) (f g : Int → Bool), (∀ u, 1 ≤ u → u ∉ ts.map (·.v) → f u = g u) → gameB cs ts f = gameB cs ts g
  | [], f, g, h => by
    have key : ∀ c ∈ cs, ∀ x ∈ c, litF f x = litF g x := fun c hc x hx => by
      have h0 := hnz c hc x hx
      unfold litF
      by_cases h1 : x < 0
      · rw [if_pos h1, if_pos h1, h (-x) (by omega) (by simp)]
      · rw [if_neg h1, if_neg h1, h x (by omega) (by simp)]
    simp only [gameB, satF]
    rw [Bool.eq_iff_iff]
    simp only [List.all_eq_true, List.any_eq_true]
    constructor
    · intro a c hc
      obtain ⟨x, hx, e⟩ := a c hc
      exact ⟨x, hx, by rw [← key c hc x hx]; exact e⟩
    · intro a c hc
      obtain ⟨x, hx, e⟩ := a c hc
      exact ⟨x, hx, by rw [key c hc x hx]; exact e⟩
  | t :: ts, f, g, h => by
    have key : ∀ b, gameB cs ts (upd f t.v b) = gameB cs ts (upd g t.v b) := fun b => game_congr hnz ts _ _ (fun u h1 h2 => by
      unfold upd
      by_cases e : u = t.v
      · rw [if_pos e, if_pos e]
      · rw [if_neg e, if_neg e]
        exact h u h1 (by simp only [List.map_cons, List.mem_cons, not_or]; exact ⟨e, h2⟩))
    simp only [gameB, key]
theorem lits_found (m : List (Int × Bool)) (c : List Int) (hr : ∀ x ∈ c, -65536 ≤ x ∧ x ≤ 65536) {R : Type} (kk : Int → Option R) (A B : Option R) (hA : ∀ j : Nat, kk (j : Int) = A) (hB : kk (-1) = B) :
    (rangeF (fun (j881 : Nat) (x882 : Int) (s878 : Unit) k880 => (jn (fun (s922 : Bool) => (if s922 = true then (kk ((j881 : Nat) : Int)) else (k880 ()))) (fun k924 => (if (decide (x882 < (0 : Int))) = true then (k924 (!((mget m (IntKind.wrap .i64 (0 - x882))).getD false))) else (k924 ((mget m x882).getD false)))))) 0 c () (fun (s878 : Unit) => (kk (-1 : Int))))
      = if (c.any (litF fun v => (mget m v).getD false)) = true then A else B := by
  refine rangeF_pre c (fun _ _ => True) (fun _ xs _ => if (xs.any (litF fun v => (mget m v).getD false)) = true then A else B) (fun _ _ => by simp [hB]) ?_ c [] () rfl trivial
  intro pre x xs s k2 hf hI h2
  have hx := hr x (by rw [hf]; simp)
  have hw : IntKind.wrap .i64 (0 - x) = -x := by rw [wrap_id (by omega) (by omega)]; omega
  rw [List.any_cons]
  simp only [jn_eq, hw, h2 () trivial, hA, litF]
  by_cases h : x < 0
  · simp only [h, decide_true, if_true]
    cases ((mget m (-x)).getD false) <;> simp
  · simp only [h, decide_false, Bool.false_eq_true, if_false]
    cases ((mget m x).getD false) <;> simp
theorem prog_sat (m : List (Int × Bool)) (cs : List (List Int)) (hr : ∀ c ∈ cs, ∀ x ∈ c, -65536 ≤ x ∧ x ≤ 65536) {R : Type} (kk : Bool → Option R) :
    (rangeF (fun (j519 : Nat) (x520 : (List Int)) (s516 : Unit) k518 => (jn (fun (s874 : Int) => (if (!(decide (s874 ≥ (0 : Int)))) = true then (kk false) else (k518 ()))) (fun k876 => (rangeF (fun (j881 : Nat) (x882 : Int) (s878 : Unit) k880 => (jn (fun (s922 : Bool) => (if s922 = true then (k876 ((j881 : Nat) : Int)) else (k880 ()))) (fun k924 => (if (decide (x882 < (0 : Int))) = true then (k924 (!((mget m (IntKind.wrap .i64 (0 - x882))).getD false))) else (k924 ((mget m x882).getD false)))))) 0 x520 () (fun (s878 : Unit) => (k876 (-1 : Int))))))) 0 cs () (fun (s516 : Unit) => (kk true)))
      = kk (satF cs fun v => (mget m v).getD false) := by
  refine rangeF_pre cs (fun _ _ => True) (fun _ xs _ => kk (satF xs fun v => (mget m v).getD false)) (fun _ _ => rfl) ?_ cs [] () rfl trivial
  intro pre x xs s k2 hf hI h2
  have e := lits_found m x (hr x (by rw [hf]; simp)) (fun (s874 : Int) => (if (!(decide (s874 ≥ (0 : Int)))) = true then (kk false) else (k2 ()))) (k2 ()) (kk false) (fun j => by
    have : ((j : Nat) : Int) ≥ 0 := by omega
    simp [this]) (by simp)
  refine e.trans ?_
  rw [h2 () trivial]
  simp only [satF, List.all_cons]
  by_cases h : (x.any (litF fun v => (mget m v).getD false)) = true
  · rw [if_pos h, h, Bool.true_and]
  · rw [if_neg h, Bool.eq_false_iff.2 h, Bool.false_and]
theorem left_eq (ts : List S_truth_turn) (cs : List (List Int)) (hnz : ∀ c ∈ cs, ∀ x ∈ c, x ≠ 0) (hr : ∀ c ∈ cs, ∀ x ∈ c, -65536 ≤ x ∧ x ≤ 65536) (hl : ts.length ≤ 1000) : ∀ (m n i : Nat) (mp : List (Int × Bool)), i + m = ts.length → m < n →
    ∃ mp', F_truth_game_left_c1 n ts cs (i : Int) mp = some (gameB cs (ts.drop i) (fun v => (mget mp v).getD false), mp') ∧ ∀ v, v ∉ (ts.drop i).map (·.v) → mget mp' v = mget mp v
  | 0, n, i, mp, hi, hn => by
    obtain ⟨n, rfl⟩ : ∃ k, n = k + 1 := ⟨n - 1, by omega⟩
    have hd : ts.drop i = [] := List.drop_eq_nil_of_le (by omega)
    have h1 : (((i : Nat) : Int) == ((ts.length : Nat) : Int)) = true := by simp; omega
    refine ⟨mp, ?_, fun _ _ => rfl⟩
    simp only [F_truth_game_left_c1, h1, if_true, jn_eq]
    rw [hd]
    exact prog_sat mp cs hr (fun s => some (s, mp))
  | m + 1, n, i, mp, hi, hn => by
    obtain ⟨n, rfl⟩ : ∃ k, n = k + 1 := ⟨n - 1, by omega⟩
    have hlt : i < ts.length := by omega
    have hd : ts.drop i = ts[i] :: ts.drop (i + 1) := by rw [List.drop_eq_getElem_cons hlt]
    have h1 : (((i : Nat) : Int) == ((ts.length : Nat) : Int)) = false := by simp; omega
    have hw : IntKind.wrap .i64 (((i : Nat) : Int) + 1) = ((i + 1 : Nat) : Int) := by rw [wrap_id (by omega) (by omega)]; omega
    generalize ht : ts[i] = t at hd
    obtain ⟨m1, e1, u1⟩ := left_eq ts cs hnz hr hl m n (i + 1) (mset mp t.v false) (by omega) (by omega)
    obtain ⟨m2, e2, u2⟩ := left_eq ts cs hnz hr hl m n (i + 1) (mset m1 t.v true) (by omega) (by omega)
    have f1 : (fun v => (mget (mset mp t.v false) v).getD false) = upd (fun v => (mget mp v).getD false) t.v false := by
      funext v
      rw [mget_mset]; unfold upd
      by_cases e : v = t.v <;> simp [e]
    have f2 : gameB cs (ts.drop (i + 1)) (fun v => (mget (mset m1 t.v true) v).getD false) = gameB cs (ts.drop (i + 1)) (upd (fun v => (mget mp v).getD false) t.v true) := by
      refine game_congr hnz _ _ _ (fun u _ hu => ?_)
      rw [mget_mset]; unfold upd
      by_cases e : u = t.v
      · simp [e]
      · rw [if_neg e, if_neg e, u1 u hu, mget_mset, if_neg e]
    rw [f1] at e1
    rw [f2] at e2
    have hg : ts[i]? = some t := by rw [List.getElem?_eq_getElem hlt, ht]
    simp only [F_truth_game_left_c1, h1, Bool.false_eq_true, if_false, getI_nat, hg, hw, e1, Option.bind_some, e2]
    rw [hd]
    simp only [gameB]
    by_cases hb : (gameB cs (ts.drop (i + 1)) (upd (fun v => (mget mp v).getD false) t.v false) == t.f_exists) = true
    · refine ⟨m1, by simp only [hb, if_true], fun v hv => ?_⟩
      simp only [List.map_cons, List.mem_cons, not_or] at hv
      rw [u1 v hv.2, mget_mset, if_neg hv.1]
    · refine ⟨m2, by simp only [hb, Bool.false_eq_true, if_false], fun v hv => ?_⟩
      simp only [List.map_cons, List.mem_cons, not_or] at hv
      rw [u2 v hv.2, mget_mset, if_neg hv.1, u1 v hv.2, mget_mset, if_neg hv.1]
end Go.Sk.X
namespace Go.Sk.X
open Go Go.Sk
structure Gd (q : S_api_Qbf) : Prop where
  one : ∀ v ∈ flat q.Prefix, 1 ≤ v ∧ v ≤ 65536
  nd : (flat q.Prefix).Nodup
  nrm : ∀ c ∈ q.Clauses, nrmB 0 c = true
  wi : ∀ c ∈ q.Clauses, ∀ x ∈ c, av x ∈ flat q.Prefix
theorem gd_of {q : S_api_Qbf} (h : MayQ q = true) : Gd q := by
  unfold MayQ at h
  simp only [Bool.and_eq_true] at h
  obtain ⟨_, h2, h3, h4⟩ := h
  obtain ⟨s1, s2, _⟩ := (sing_iff _ _).1 h2
  exact ⟨s1, s2, List.all_eq_true.1 h3, fun c hc x hx => by
    have := List.all_eq_true.1 (List.all_eq_true.1 h4 c hc) x hx
    simpa using this⟩
theorem Gd.lit {q : S_api_Qbf} (h : Gd q) {c : List Int} (hc : c ∈ q.Clauses) {x : Int} (hx : x ∈ c) : x ≠ 0 ∧ -65536 ≤ x ∧ x ≤ 65536 := by
  obtain ⟨h1, h2⟩ := nrm_mem (h.nrm c hc) x hx
  exact ⟨fun e => by subst e; simp [av] at h1, h2⟩
theorem nodup_inj {α β : Type} (f : α → β) : ∀ {l : List α}, (l.map f).Nodup → ∀ {x y : α}, x ∈ l → y ∈ l → f x = f y → x = y
  | [], _, x, y, hx, _, _ => by simp at hx
  | z :: l, h, x, y, hx, hy, e => by
    rw [List.map_cons, List.nodup_cons] at h
    rcases List.mem_cons.1 hx with rfl | hx' <;> rcases List.mem_cons.1 hy with rfl | hy'
    · rfl
    · exact absurd (e ▸ List.mem_map_of_mem hy') h.1
    · exact absurd (e ▸ List.mem_map_of_mem hx') h.1
    · exact nodup_inj f h.2 hx' hy' e
theorem head_eq : F_skolemlaw04_head = some true := by decide +kernel
theorem qbf_p {q : S_api_Qbf} (h : Sq q) : F_truth_Qbf q = some (if MayQ q = true then (if (flat q.Prefix).length > 16 then (0, 3) else (if gameB q.Clauses (turnsP q.Prefix) (fun _ => false) = true then 1 else 2, 0)) else (0, 2)) := by
  have hvs := h.vs
  unfold F_truth_Qbf F_truth_small
  rw [pmay_eq h, Option.bind_some, of_eq q hvs]
  simp only [Option.bind_some, turns_len]
  by_cases hM : MayQ q = true
  case neg => simp [Bool.eq_false_iff.2 hM]
  have g := gd_of hM
  by_cases h16 : (flat q.Prefix).length > 16
  · have : (((flat q.Prefix).length : Nat) : Int) > 16 := by omega
    simp [hM, h16, this]
  have h16' : ¬ (((flat q.Prefix).length : Nat) : Int) > 16 := by omega
  obtain ⟨mp, e, _⟩ := left_eq (turnsP q.Prefix) q.Clauses (fun c hc x hx => (g.lit hc hx).1) (fun c hc x hx => (g.lit hc hx).2) (by rw [turns_len]; omega) (turnsP q.Prefix).length 1000000 0 [] (by omega) (by rw [turns_len]; omega)
  rw [List.drop_zero] at e
  have e' : F_truth_game_left_c1 1000000 (turnsP q.Prefix) q.Clauses 0 [] = some (gameB q.Clauses (turnsP q.Prefix) (fun _ => false), mp) := e
  simp only [hM, h16, h16', e', Bool.not_true, Bool.false_eq_true, if_true, if_false, decide_false, Option.bind_some, bne_self_eq_false, F_truth_value]
  by_cases hg : gameB q.Clauses (turnsP q.Prefix) (fun _ => false) = true
  · simp [hg]
  · simp [Bool.eq_false_iff.2 hg]
end Go.Sk.X
namespace Go.Sk.X
open Go Go.Sk
def asg (d : S_api_Dqbf) (f : Int → (Int → Bool) → Bool) (σ : Int → Bool) (v : Int) : Bool := if v ∈ d.Univ then σ v else f v σ
def litT (a : Int → Bool) (x : Int) : Bool := if x < 0 then !(a (av x)) else a (av x)
def Dpd (d : S_api_Dqbf) (f : Int → (Int → Bool) → Bool) : Prop := ∀ e ∈ d.Exist, ∀ σ τ : Int → Bool, (∀ u ∈ e.On, σ u = τ u) → f e.Var σ = f e.Var τ
def Sat (d : S_api_Dqbf) (f : Int → (Int → Bool) → Bool) : Prop := ∀ σ, ∀ c ∈ d.Clauses, ∃ x ∈ c, litT (asg d f σ) x = true
def Sem (d : S_api_Dqbf) : Prop := ∃ f, Dpd d f ∧ Sat d f
theorem litT_congr {a b : Int → Bool} {x : Int} (h : a (av x) = b (av x)) : litT a x = litT b x := by unfold litT; rw [h]
end Go.Sk.X
namespace Go.Sk.X
open Go Go.Sk
def sz (es : List S_api_Dep) : Nat := (es.map fun e => 2 ^ e.On.length).sum
theorem sz_app (a b : List S_api_Dep) : sz (a ++ b) = sz a + sz b := by simp [sz]
theorem sz_cons (a : S_api_Dep) (b : List S_api_Dep) : sz (a :: b) = 2 ^ a.On.length + sz b := by simp [sz]
def ixF (σ : Int → Bool) : List Int → Nat
  | [] => 0
  | x :: xs => (if σ x = true then 1 else 0) + 2 * ixF σ xs
theorem ixF_lt (σ : Int → Bool) : ∀ l : List Int, ixF σ l < 2 ^ l.length
  | [] => by simp [ixF]
  | x :: l => by
    have := ixF_lt σ l
    have e : 2 ^ (l.length + 1) = 2 * 2 ^ l.length := by rw [Nat.pow_succ]; omega
    simp only [ixF, List.length_cons, e]
    split <;> omega
theorem ixF_congr {σ τ : Int → Bool} : ∀ {l : List Int}, (∀ u ∈ l, σ u = τ u) → ixF σ l = ixF τ l
  | [], _ => rfl
  | x :: l, h => by
    simp only [ixF]
    rw [h x (by simp), ixF_congr (l := l) (fun u hu => h u (by simp [hu]))]
theorem testBit_cons (b : Bool) (n i : Nat) : ((if b = true then 1 else 0) + 2 * n).testBit i = if i = 0 then b else n.testBit (i - 1) := by
  rcases i with _ | i
  · cases b <;> simp [Nat.testBit_zero] <;> omega
  · rw [Nat.testBit_succ]
    have : ((if b = true then 1 else 0) + 2 * n) / 2 = n := by cases b <;> simp <;> omega
    rw [this]; simp
theorem ixF_bit (σ : Int → Bool) : ∀ (l : List Int) (i : Nat) (x : Int), l[i]? = some x → (ixF σ l).testBit i = σ x
  | [], i, x, h => by simp at h
  | y :: l, i, x, h => by
    simp only [ixF]
    rw [testBit_cons]
    rcases i with _ | i
    · simp at h; subst h; simp
    · simp at h; simpa using ixF_bit σ l i x h
theorem ixF_snoc (σ : Int → Bool) : ∀ (l : List Int) (x : Int), ixF σ (l ++ [x]) = ixF σ l + if σ x = true then 2 ^ l.length else 0
  | [], x => by simp [ixF]
  | y :: l, x => by
    have e : 2 ^ (l.length + 1) = 2 * 2 ^ l.length := by rw [Nat.pow_succ]; omega
    simp only [List.cons_append, ixF, ixF_snoc σ l x, List.length_cons, e]
    by_cases h : σ x = true <;> simp [h] <;> omega
theorem fdiv_pow (m i : Nat) : Int.fdiv (m : Int) (2 ^ i) = ((m >>> i : Nat) : Int) := by
  rw [Nat.shiftRight_eq_div_pow, Int.fdiv_eq_ediv_of_nonneg _ (by have := Nat.two_pow_pos i; exact_mod_cast Nat.zero_le _)]
  rw [Int.natCast_ediv]
  rfl
theorem bit_and (m : Nat) (i : Nat) : ((BitVec.ofInt 64 ((m >>> i : Nat) : Int) &&& BitVec.ofInt 64 (1 : Int)).toNat) = if m.testBit i = true then 1 else 0 := by
  have h1 : BitVec.ofInt 64 (1 : Int) = BitVec.ofNat 64 1 := rfl
  rw [BitVec.ofInt_natCast, h1, BitVec.toNat_and, BitVec.toNat_ofNat, BitVec.toNat_ofNat]
  have : (1 % 2 ^ 64 : Nat) = 1 := rfl
  rw [this, Nat.and_one_is_mod, Nat.testBit_eq_decide_div_mod_eq, Nat.shiftRight_eq_div_pow]
  have : (m / 2 ^ i % 2 ^ 64) % 2 = m / 2 ^ i % 2 := by omega
  rw [this]
  by_cases h : m / 2 ^ i % 2 = 1
  · simp [h]
  · simp [h]; omega
def bitsF (m : Nat) : Nat → Nat → List Bool
  | _, 0 => []
  | l, k + 1 => m.testBit (l - 1) :: bitsF m (l - 1) k
theorem bitsF_len (m : Nat) : ∀ k l, (bitsF m l k).length = k
  | 0, l => rfl
  | k + 1, l => by simp [bitsF, bitsF_len m k (l - 1)]
theorem bitsF_get (m : Nat) : ∀ k l i, i < k → (bitsF m l k)[i]? = some (m.testBit (l - 1 - i))
  | 0, l, i, h => by omega
  | k + 1, l, i, h => by
    rcases i with _ | i
    · simp [bitsF]
    · simp only [bitsF, List.getElem?_cons_succ]
      rw [bitsF_get m k (l - 1) i (by omega)]
      congr 2; omega
def ofB (g : Nat → Bool) : Nat → Nat
  | 0 => 0
  | n + 1 => (if g 0 = true then 1 else 0) + 2 * ofB (fun i => g (i + 1)) n
theorem ofB_lt : ∀ (n : Nat) (g : Nat → Bool), ofB g n < 2 ^ n
  | 0, g => by simp [ofB]
  | n + 1, g => by
    have := ofB_lt n (fun i => g (i + 1))
    have e : 2 ^ (n + 1) = 2 * 2 ^ n := by rw [Nat.pow_succ]; omega
    simp only [ofB, e]
    split <;> omega
theorem ofB_bit : ∀ (n : Nat) (g : Nat → Bool) (i : Nat), i < n → (ofB g n).testBit i = g i
  | 0, g, i, h => by omega
  | n + 1, g, i, h => by
    simp only [ofB]
    rw [testBit_cons]
    rcases i with _ | i
    · simp
    · simpa using ofB_bit n (fun i => g (i + 1)) i (by omega)
def numL (n : Nat) : Nat → List S_api_Dep → List S_api_Table
  | _, [] => []
  | l, e :: es => S_api_Table.mk e.Var e.On (bitsF n l (2 ^ e.On.length)) :: numL n (l - 2 ^ e.On.length) es
theorem bitsF_congr {n m : Nat} : ∀ k l, k ≤ l → (∀ i, i < l → n.testBit i = m.testBit i) → bitsF n l k = bitsF m l k
  | 0, l, _, _ => rfl
  | k + 1, l, hk, h => by
    simp only [bitsF]
    rw [h (l - 1) (by omega), bitsF_congr k (l - 1) (by omega) (fun i hi => h i (by omega))]
theorem numL_congr {n m : Nat} : ∀ (es : List S_api_Dep) (l : Nat), sz es ≤ l → (∀ i, i < l → n.testBit i = m.testBit i) → numL n l es = numL m l es
  | [], l, _, _ => rfl
  | e :: es, l, hl, h => by
    rw [sz_cons] at hl
    simp only [numL]
    rw [bitsF_congr _ l (by omega) h, numL_congr es (l - 2 ^ e.On.length) (by omega) (fun i hi => h i (Nat.lt_of_lt_of_le hi (Nat.sub_le _ _)))]
def TOf (es : List S_api_Dep) (ts : List S_api_Table) : Prop := ts.map (fun t => (t.Var, t.On)) = es.map (fun e => (e.Var, e.On)) ∧ ∀ t ∈ ts, t.Bits.length = 2 ^ t.On.length
theorem numL_of (n : Nat) : ∀ (es : List S_api_Dep) (l : Nat), TOf es (numL n l es)
  | [], l => ⟨rfl, by simp [numL]⟩
  | e :: es, l => by
    obtain ⟨h1, h2⟩ := numL_of n es (l - 2 ^ e.On.length)
    refine ⟨by simp only [numL, List.map_cons, h1], fun t ht => ?_⟩
    simp only [numL, List.mem_cons] at ht
    rcases ht with rfl | ht
    · exact bitsF_len _ _ _
    · exact h2 t ht
theorem numL_all (g : S_api_Dep → Nat → Bool) : ∀ es : List S_api_Dep, ∃ n, n < 2 ^ sz es ∧ ∀ t ∈ numL n (sz es) es, ∃ e ∈ es, t.Var = e.Var ∧ t.On = e.On ∧ ∀ k, k < 2 ^ e.On.length → t.Bits[k]? = some (g e k)
  | [] => ⟨0, Nat.two_pow_pos _, by simp [numL]⟩
  | e :: es => by
    obtain ⟨n, hn, ht⟩ := numL_all g es
    have hK := ofB_lt (2 ^ e.On.length) (fun i => g e (2 ^ e.On.length - 1 - i))
    have hb := ofB_bit (2 ^ e.On.length) (fun i => g e (2 ^ e.On.length - 1 - i))
    revert hK hb
    generalize ofB (fun i => g e (2 ^ e.On.length - 1 - i)) (2 ^ e.On.length) = a
    generalize hKK : 2 ^ e.On.length = K
    intro hK hb
    have hlow : ∀ i, i < sz es → (2 ^ sz es * a + n).testBit i = n.testBit i := fun i hi => by
      rw [Nat.testBit_two_pow_mul_add a hn, if_pos hi]
    refine ⟨2 ^ sz es * a + n, ?_, fun t hm => ?_⟩
    · rw [sz_cons, hKK, Nat.pow_add, Nat.mul_comm (2 ^ K)]
      calc 2 ^ sz es * a + n < 2 ^ sz es * a + 2 ^ sz es := by omega
        _ = 2 ^ sz es * (a + 1) := by rw [Nat.mul_add, Nat.mul_one]
        _ ≤ 2 ^ sz es * 2 ^ K := Nat.mul_le_mul_left _ hK
    · simp only [numL, List.mem_cons] at hm
      rw [sz_cons, hKK, show K + sz es - K = sz es by omega] at hm
      rcases hm with rfl | hm
      · refine ⟨e, by simp, rfl, rfl, fun k hk => ?_⟩
        show (bitsF _ (K + sz es) K)[k]? = _
        rw [hKK] at hk
        rw [bitsF_get _ K _ k hk, Nat.testBit_two_pow_mul_add a hn, if_neg (by omega), hb _ (by omega)]
        congr 2; omega
      · rw [numL_congr es (sz es) (Nat.le_refl _) hlow] at hm
        obtain ⟨e2, h1, h2⟩ := ht t hm
        exact ⟨e2, by simp [h1], h2⟩
def bitT (t : S_api_Table) (σ : Int → Bool) : Bool := t.Bits.getD (ixF σ t.On) false
def fOf (ts : List S_api_Table) (v : Int) (σ : Int → Bool) : Bool := match ts.find? (fun t => decide (t.Var = v)) with | some t => bitT t σ | none => false
def pairL (vs : List (Int × Bool)) : List Int := vs.map fun q => if q.2 = true then q.1 else -q.1
def allP (d : S_api_Dqbf) (ts : List S_api_Table) (σ : Int → Bool) : List (Int × Bool) := d.Univ.map (fun u => (u, σ u)) ++ ts.map fun t => (t.Var, bitT t σ)
theorem pairL_mem {vs : List (Int × Bool)} {a : Int → Bool} (h : ∀ q ∈ vs, 0 < q.1 ∧ a q.1 = q.2) {x : Int} (hx : x ≠ 0) (hin : ∃ q ∈ vs, q.1 = av x) : x ∈ pairL vs ↔ litT a x = true := by
  constructor
  · intro hm
    obtain ⟨⟨v, b⟩, hq, rfl⟩ := List.mem_map.1 hm
    obtain ⟨h0, h1⟩ := h _ hq
    simp only at h0 h1 ⊢
    cases b
    · have : av (-v) = v := by rw [av_neg, av_pos h0]
      simp only [Bool.false_eq_true, if_false, litT, this, h1]
      rw [if_pos (by omega)]; rfl
    · simp only [if_true, litT, av_pos h0, h1]
      rw [if_neg (by omega)]
  · intro hm
    obtain ⟨⟨v, b⟩, hq, hv⟩ := hin
    obtain ⟨h0, h1⟩ := h _ hq
    simp only at h0 h1 hv
    refine List.mem_map.2 ⟨(v, b), hq, ?_⟩
    unfold litT at hm
    rw [← hv, h1] at hm
    by_cases hn : x < 0
    · rw [if_pos hn] at hm
      have hb : b = false := by simpa using hm
      subst hb
      simp only [Bool.false_eq_true, if_false, hv]
      unfold av; rw [if_pos hn]; omega
    · rw [if_neg hn] at hm
      subst hm
      simp only [if_true, hv]
      unfold av; rw [if_neg hn]
theorem find_tab {ts : List S_api_Table} (hn : (ts.map (·.Var)).Nodup) {t : S_api_Table} (h : t ∈ ts) : ts.find? (fun t2 => decide (t2.Var = t.Var)) = some t := by
  induction ts with
  | nil => simp at h
  | cons x xs ih =>
    rw [List.map_cons, List.nodup_cons] at hn
    rw [List.find?_cons]
    rcases List.mem_cons.1 h with rfl | h
    · simp
    · have : x.Var ≠ t.Var := fun e => hn.1 (e ▸ List.mem_map.2 ⟨t, h, rfl⟩)
      simp only [this, decide_false]
      exact ih hn.2 h
theorem TOf.vars {es : List S_api_Dep} {ts : List S_api_Table} (h : TOf es ts) : ts.map (·.Var) = es.map (·.Var) := by
  have := congrArg (List.map Prod.fst) h.1
  simpa [List.map_map, Function.comp_def] using this
theorem TOf.mem {es : List S_api_Dep} {ts : List S_api_Table} (h : TOf es ts) {t : S_api_Table} (ht : t ∈ ts) : ∃ e ∈ es, e.Var = t.Var ∧ e.On = t.On := by
  have : (t.Var, t.On) ∈ es.map fun e => (e.Var, e.On) := by rw [← h.1]; exact List.mem_map.2 ⟨t, ht, rfl⟩
  obtain ⟨e, he, h2⟩ := List.mem_map.1 this
  injection h2 with h2 h3
  exact ⟨e, he, h2, h3⟩
theorem TOf.has {es : List S_api_Dep} {ts : List S_api_Table} (h : TOf es ts) {e : S_api_Dep} (he : e ∈ es) : ∃ t ∈ ts, t.Var = e.Var ∧ t.On = e.On := by
  have : (e.Var, e.On) ∈ ts.map fun t => (t.Var, t.On) := by rw [h.1]; exact List.mem_map.2 ⟨e, he, rfl⟩
  obtain ⟨t, ht, h2⟩ := List.mem_map.1 this
  injection h2 with h2 h3
  exact ⟨t, ht, h2, h3⟩
structure Plain (d : S_api_Dqbf) : Prop where
  upos : ∀ u ∈ d.Univ, 0 < u
  vpos : ∀ v ∈ varsD d, 0 < v
  und : d.Univ.Nodup
  vnd : (varsD d).Nodup
  sep : ∀ {v}, v ∈ d.Univ → v ∉ varsD d
  wi : ∀ c ∈ d.Clauses, ∀ x ∈ c, x ≠ 0 ∧ (av x ∈ d.Univ ∨ av x ∈ varsD d)
  on : ∀ e ∈ d.Exist, e.On.Nodup ∧ ∀ u ∈ e.On, u ∈ d.Univ
theorem allP_asg {d : S_api_Dqbf} (hp : Plain d) {ts : List S_api_Table} (ht : TOf d.Exist ts) (σ : Int → Bool) : ∀ q ∈ allP d ts σ, 0 < q.1 ∧ asg d (fOf ts) σ q.1 = q.2 := by
  intro q hq
  have hvs : ts.map (·.Var) = varsD d := ht.vars
  rcases List.mem_append.1 hq with hq | hq
  · obtain ⟨u, hu, rfl⟩ := List.mem_map.1 hq
    exact ⟨hp.upos u hu, by unfold asg; rw [if_pos hu]⟩
  · obtain ⟨t, hm, rfl⟩ := List.mem_map.1 hq
    have hv : t.Var ∈ varsD d := by rw [← hvs]; exact List.mem_map.2 ⟨t, hm, rfl⟩
    refine ⟨hp.vpos _ hv, ?_⟩
    unfold asg fOf
    rw [if_neg (fun hu => hp.sep hu hv), find_tab (by rw [hvs]; exact hp.vnd) hm]
theorem sat_iff {d : S_api_Dqbf} (hp : Plain d) {ts : List S_api_Table} (ht : TOf d.Exist ts) (σ : Int → Bool) : satB d.Clauses (pairL (allP d ts σ)) = true ↔ ∀ c ∈ d.Clauses, ∃ x ∈ c, litT (asg d (fOf ts) σ) x = true := by
  unfold satB
  rw [List.all_eq_true]
  have hvs : ts.map (·.Var) = varsD d := ht.vars
  have key : ∀ c ∈ d.Clauses, ∀ x ∈ c, (x ∈ pairL (allP d ts σ) ↔ litT (asg d (fOf ts) σ) x = true) := fun c hc x hx => by
    obtain ⟨h0, h1⟩ := hp.wi c hc x hx
    refine pairL_mem (allP_asg hp ht σ) h0 ?_
    rcases h1 with h1 | h1
    · exact ⟨(av x, σ (av x)), List.mem_append.2 (.inl (List.mem_map.2 ⟨_, h1, rfl⟩)), rfl⟩
    · rw [← hvs] at h1
      obtain ⟨t, hm, h2⟩ := List.mem_map.1 h1
      exact ⟨(t.Var, bitT t σ), List.mem_append.2 (.inr (List.mem_map.2 ⟨t, hm, rfl⟩)), h2⟩
  constructor
  · intro h c hc
    have := h c hc
    rw [List.any_eq_true] at this
    obtain ⟨x, hx, hm⟩ := this
    exact ⟨x, hx, (key c hc x hx).1 (by simpa using hm)⟩
  · intro h c hc
    obtain ⟨x, hx, hm⟩ := h c hc
    rw [List.any_eq_true]
    exact ⟨x, hx, by simpa using (key c hc x hx).2 hm⟩
theorem fOf_dpd {d : S_api_Dqbf} {ts : List S_api_Table} (ht : TOf d.Exist ts) (hnd : (varsD d).Nodup) : Dpd d (fOf ts) := by
  intro e he σ τ h
  obtain ⟨t, hm, h1, h2⟩ := ht.has he
  unfold fOf
  rw [← h1, find_tab (by rw [ht.vars]; exact hnd) hm]
  show t.Bits.getD _ _ = t.Bits.getD _ _
  rw [ixF_congr (fun u hu => h u (h2 ▸ hu))]
theorem fOf_all {d : S_api_Dqbf} (hp : Plain d) {f : Int → (Int → Bool) → Bool} (hf : Dpd d f) : ∃ n, n < 2 ^ sz d.Exist ∧ ∀ v ∈ varsD d, ∀ σ, fOf (numL n (sz d.Exist) d.Exist) v σ = f v σ := by
  obtain ⟨n, hn, ht⟩ := numL_all (fun e k => f e.Var (fun u => k.testBit (e.On.idxOf u))) d.Exist
  refine ⟨n, hn, fun v hv σ => ?_⟩
  have hT := numL_of n d.Exist (sz d.Exist)
  rw [show varsD d = _ from hT.vars.symm] at hv
  obtain ⟨t, hm, rfl⟩ := List.mem_map.1 hv
  obtain ⟨e, he, h1, h2, h3⟩ := ht t hm
  unfold fOf
  rw [find_tab (by rw [hT.vars]; exact hp.vnd) hm]
  show t.Bits.getD _ _ = _
  rw [List.getD_eq_getElem?_getD, h2, h3 _ (ixF_lt _ _), h1]
  show f e.Var _ = _
  refine hf e he _ _ (fun u hu => ?_)
  have hi := List.idxOf_lt_length_of_mem hu
  exact ixF_bit σ e.On _ u (by rw [List.getElem?_eq_getElem hi, List.getElem_idxOf])
theorem sem_num {d : S_api_Dqbf} (hp : Plain d) : Sem d ↔ ∃ n, n < 2 ^ sz d.Exist ∧ ∀ σ, satB d.Clauses (pairL (allP d (numL n (sz d.Exist) d.Exist) σ)) = true := by
  constructor
  · rintro ⟨f, hf, hs⟩
    obtain ⟨n, hn, he⟩ := fOf_all hp hf
    refine ⟨n, hn, fun σ => (sat_iff hp (numL_of n _ _) σ).2 (fun c hc => ?_)⟩
    obtain ⟨x, hx, hxt⟩ := hs σ c hc
    refine ⟨x, hx, ?_⟩
    rw [← hxt]
    have : asg d (fOf (numL n (sz d.Exist) d.Exist)) σ (av x) = asg d f σ (av x) := by
      unfold asg
      rcases (hp.wi c hc x hx).2 with h | h
      · rw [if_pos h, if_pos h]
      · rw [if_neg (fun hu => hp.sep hu h), if_neg (fun hu => hp.sep hu h), he _ h]
    unfold litT; rw [this]
  · rintro ⟨n, hn, h⟩
    exact ⟨_, fOf_dpd (numL_of n _ _) hp.vnd, fun σ => (sat_iff hp (numL_of n _ _) σ).1 (h σ)⟩
end Go.Sk.X
namespace Go.Sk.X
open Go Go.Sk
theorem pw_le {n m : Nat} (h : n ≤ m) : 2 ^ n ≤ 2 ^ m := Nat.pow_le_pow_right (by decide) h
theorem pw_eq (n : Nat) (h : n ≤ 62) : IntKind.wrap .i64 ((1 : Int) * 2 ^ (min (IntKind.wrap .u64 ((n : Nat) : Int)).toNat (IntKind.bits .i64))) = ((2 ^ n : Nat) : Int) := by
  have e1 : (IntKind.wrap .u64 ((n : Nat) : Int)).toNat = n := by rw [wrapu]; omega
  have e2 : IntKind.bits .i64 = 64 := rfl
  have e3 : min n 64 = n := by omega
  rw [e1, e2, e3]
  have : 2 ^ n ≤ 2 ^ 62 := pw_le h
  have h4 : (1 : Int) * (2 : Int) ^ n = ((2 ^ n : Nat) : Int) := by simp
  rw [h4]
  generalize 2 ^ n = m at this ⊢
  have h62 : (2 : Nat) ^ 62 = 4611686018427387904 := rfl
  exact wrap_id (by omega) (by omega)
theorem pw_eqT (n : Nat) (h : n ≤ 62) : IntKind.wrap .i64 ((1 : Int) * 2 ^ (min ((n : Nat) : Int).toNat (IntKind.bits .i64))) = ((2 ^ n : Nat) : Int) := by
  have := pw_eq n h
  rwa [show (IntKind.wrap .u64 ((n : Nat) : Int)).toNat = ((n : Nat) : Int).toNat by rw [wrapu]; omega] at this
theorem wi_ok (x : Int) : -9223372036854775808 ≤ (0 : Int) ∧ IntKind.wrap .i64 x ≤ 9223372036854775807 := by
  refine ⟨by decide, ?_⟩
  simp only [IntKind.wrap, IntKind.bits, IntKind.signed]
  simp only [Bool.true_and]
  split <;> rename_i h <;> simp only [ge_iff_le, decide_eq_true_eq] at h <;> omega
theorem bit_val (m i : Nat) (hi : i ≤ 62) : IntKind.wrap .i64 ((BitVec.ofInt (IntKind.bits .i64) (Int.fdiv (m : Int) (2 ^ (min (IntKind.wrap .u64 ((i : Nat) : Int)).toNat (IntKind.bits .i64)))) &&& BitVec.ofInt (IntKind.bits .i64) (1 : Int)).toNat : Int) = if m.testBit i = true then 1 else 0 := by
  have e1 : (IntKind.wrap .u64 ((i : Nat) : Int)).toNat = i := by rw [wrapu]; omega
  have e2 : IntKind.bits .i64 = 64 := rfl
  have e3 : min i 64 = i := by omega
  rw [e1, e2, e3, fdiv_pow, bit_and]
  split <;> rfl
structure Few (d : S_api_Dqbf) : Prop where
  on : ∀ e ∈ d.Exist, e.On.length ≤ 4
  univ : d.Univ.length ≤ 8
  bits : sz d.Exist ≤ 16
end Go.Sk.X
namespace Go.Sk.X
open Go Go.Sk
theorem plain_of {d : S_api_Dqbf} (hm : May d) : Plain d where
  upos u hu := (rsB_mem hm.ru u hu).1
  vpos v hv := (rsB_mem hm.rv v hv).1
  und := rsB_nodup hm.ru
  vnd := rsB_nodup hm.rv
  sep := hm.sep
  wi c hc x hx := ⟨(nrm_lit (hm.nrm c hc) hx).1, hm.wi c hc x hx⟩
  on e he := ⟨rsB_nodup (hm.on e he).1, (hm.on e he).2⟩
def sgM (us : List Int) (m : Nat) (u : Int) : Bool := m.testBit (us.idxOf u)
def winB (d : S_api_Dqbf) (ts : List S_api_Table) : Bool := (List.range' 0 (2 ^ d.Univ.length)).all fun m => satB d.Clauses (pairL (allP d ts (sgM d.Univ m)))
theorem allP_congr {d : S_api_Dqbf} (hp : Plain d) {ts : List S_api_Table} (ht : TOf d.Exist ts) {σ τ : Int → Bool} (h : ∀ u ∈ d.Univ, σ u = τ u) : allP d ts σ = allP d ts τ := by
  unfold allP
  congr 1
  · exact List.map_congr_left (fun u hu => by rw [h u hu])
  · refine List.map_congr_left (fun t hm => ?_)
    obtain ⟨e, he, h1, h2⟩ := ht.mem hm
    have : bitT t σ = bitT t τ := by
      unfold bitT
      rw [ixF_congr (fun u hu => h u ((hp.on e he).2 u (h2 ▸ hu)))]
    rw [this]
theorem winB_iff {d : S_api_Dqbf} (hp : Plain d) {ts : List S_api_Table} (ht : TOf d.Exist ts) : winB d ts = true ↔ ∀ σ, satB d.Clauses (pairL (allP d ts σ)) = true := by
  unfold winB
  rw [List.all_eq_true]
  constructor
  · intro h σ
    have := h (ixF σ d.Univ) (by rw [List.mem_range'_1]; exact ⟨Nat.zero_le _, by have := ixF_lt σ d.Univ; omega⟩)
    rw [← this, allP_congr hp ht (σ := σ) (τ := sgM d.Univ (ixF σ d.Univ)) (fun u hu => ?_)]
    unfold sgM
    have hi := List.idxOf_lt_length_of_mem hu
    exact (ixF_bit σ d.Univ _ u (by rw [List.getElem?_eq_getElem hi, List.getElem_idxOf])).symm
  · intro h m _
    exact h _
theorem upF_allN {R : Type} {f : Int → Unit → (Unit → Option R) → Option R} {k : Unit → Option R} {A : Option R} (p : Nat → Bool) (N : Nat)
    (h : ∀ m, m < N → ∀ kk, f (m : Int) () kk = if p m = true then kk () else A) : ∀ n j, j + n = N → upF f n (j : Int) () k = if ((List.range' j n).all p) = true then k () else A
  | 0, j, _ => by rw [upF_zero]; simp
  | n + 1, j, hj => by
    rw [upF_succ, h j (by omega), List.range'_succ, List.all_cons]
    have := upF_allN (k := k) p N h n (j + 1) (by omega)
    rw [show ((j : Int) + 1) = ((j + 1 : Nat) : Int) by omega, this]
    cases p j
    · simp
    · rw [Bool.true_and, if_pos rfl]
def firstW (w : Nat → Bool) (tn : Nat → List S_api_Table) : Nat → Nat → List S_api_Table × Int
  | 0, _ => ([], 6)
  | k + 1, j => if w j = true then (tn j, 0) else firstW w tn k (j + 1)
theorem firstW_snd (w : Nat → Bool) (tn : Nat → List S_api_Table) : ∀ k j, ((∃ i, i < k ∧ w (j + i) = true) ∧ (firstW w tn k j).2 = 0) ∨ ((∀ i, i < k → w (j + i) = false) ∧ (firstW w tn k j).2 = 6)
  | 0, j => .inr ⟨fun i h => absurd h (Nat.not_lt_zero _), rfl⟩
  | k + 1, j => by
    simp only [firstW]
    cases hw : w j
    · simp only [Bool.false_eq_true, if_false]
      rcases firstW_snd w tn k (j + 1) with ⟨⟨i, hi, h1⟩, h2⟩ | ⟨h1, h2⟩
      · exact .inl ⟨⟨i + 1, by omega, by rw [← h1]; congr 1; omega⟩, h2⟩
      · refine .inr ⟨fun i hi => ?_, h2⟩
        rcases i with _ | i
        · exact hw
        · rw [← h1 i (by omega)]; congr 1; omega
    · exact .inl ⟨⟨0, by omega, hw⟩, by simp⟩
def skV (d : S_api_Dqbf) : List S_api_Table × Int := firstW (fun n => winB d (numL n (sz d.Exist) d.Exist)) (fun n => numL n (sz d.Exist) d.Exist) (2 ^ sz d.Exist) 0
end Go.Sk.X
namespace Go.Sk.X
open Go Go.Sk
theorem sz_nil : sz [] = 0 := rfl
def fewB (d : S_api_Dqbf) : Bool := decide (d.Univ.length ≤ 8) && ((d.Exist.all fun e => decide (e.On.length ≤ 4)) && decide (sz d.Exist ≤ 16))
theorem few_of {d : S_api_Dqbf} (h : fewB d = true) : Few d := by
  simp only [fewB, Bool.and_eq_true, decide_eq_true_eq, List.all_eq_true] at h
  exact ⟨h.2.1, h.1, h.2.2⟩
theorem few_eq {d : S_api_Dqbf} (hl : d.Exist.length ≤ 1024) : F_truth_few d = some (if fewB d = true then 0 else 3) := by
  refine rangeF_pre d.Exist (fun pre s => s = (sz pre : Int) ∧ sz pre ≤ 16 * pre.length ∧ ∀ e ∈ pre, e.On.length ≤ 4) (fun _ _ _ => some (if fewB d = true then 0 else 3)) ?_ ?_ d.Exist [] 0 rfl ⟨rfl, by simp [sz], by simp⟩
  · rintro s ⟨rfl, _, ho⟩
    simp only [jn_eq]
    have hall : (d.Exist.all fun e => decide (e.On.length ≤ 4)) = true := by rw [List.all_eq_true]; exact fun e he => by simpa using ho e he
    unfold fewB
    rw [hall, Bool.true_and]
    by_cases h1 : ((d.Univ.length : Nat) : Int) > 8
    · have : ¬ d.Univ.length ≤ 8 := by omega
      simp [h1, this]
    · have h3 : d.Univ.length ≤ 8 := by omega
      by_cases h2 : (sz d.Exist : Int) > 16
      · have : ¬ sz d.Exist ≤ 16 := by omega
        simp [h1, h2, h3, this]
      · have : sz d.Exist ≤ 16 := by omega
        simp [h1, h2, h3, this]
  · rintro pre x xs s kk hf ⟨rfl, hs, ho⟩ hk
    have hlen : pre.length < d.Exist.length := by rw [hf]; simp
    by_cases h1 : ((x.On.length : Nat) : Int) > 4
    · have : fewB d = false := by
        unfold fewB
        have : (d.Exist.all fun e => decide (e.On.length ≤ 4)) = false := by
          rw [List.all_eq_false]; exact ⟨x, by rw [hf]; simp, by simp; omega⟩
        simp [this]
      simp [h1, this]
    have hp : 2 ^ x.On.length ≤ 2 ^ 4 := pw_le (by omega)
    have hq : (2 : Nat) ^ 4 = 16 := rfl
    have h0 : (0 : Int) ≤ ((x.On.length : Nat) : Int) := Int.natCast_nonneg _
    simp only [h1, decide_false, Bool.false_eq_true, if_false]
    rw [okI_eq h0, pw_eqT _ (by omega)]
    generalize hG : 2 ^ x.On.length = g at hp ⊢
    have hs0 : (0 : Int) ≤ (sz pre : Int) := Int.natCast_nonneg _
    refine hk _ ⟨?_, ?_, ?_⟩
    · rw [wrap_id (by omega) (by omega), sz_app, sz_cons, hG, sz_nil]; omega
    · rw [sz_app, sz_cons, hG, List.length_append, List.length_singleton, sz_nil]; omega
    · intro e he
      rcases List.mem_append.1 he with he | he
      · exact ho e he
      · rw [List.mem_singleton] at he; subst he; omega
theorem ints_eq (a b : List Int) : F_skolemref03_Ints a b = some (decide (a = b)) := by
  unfold F_skolemref03_Ints
  by_cases hl : a.length = b.length
  · have : (((a.length : Nat) : Int) != ((b.length : Nat) : Int)) = false := by simp [hl]
    rw [this, if_neg (by decide)]
    refine rangeF_pre a (fun pre _ => pre = b.take pre.length) (fun pre xs _ => some (decide (pre ++ xs = b))) ?_ ?_ a [] () rfl rfl
    · intro s hI
      rw [hl, List.take_length] at hI
      simp [hI]
    · intro pre x xs s kk hf hI hk
      have hlt : pre.length < b.length := by rw [← hl, hf]; simp
      rw [getI_nat, List.getElem?_eq_getElem hlt]
      simp only
      by_cases hx : x = b[pre.length]
      · have h2 : pre ++ [x] = b.take (pre ++ [x]).length := by
          rw [List.length_append, List.length_singleton, List.take_add_one, List.getElem?_eq_getElem hlt, ← hI, hx]; rfl
        have := hk () h2
        rw [if_neg (by simp [hx]), this]
        simp
      · rw [if_pos (by simpa using hx)]
        have : ¬ pre ++ x :: xs = b := fun e => hx (by
          have h3 : (pre ++ x :: xs)[pre.length]? = b[pre.length]? := by rw [e]
          simpa [List.getElem?_eq_getElem hlt] using h3)
        simp [this]
  · have : (((a.length : Nat) : Int) != ((b.length : Nat) : Int)) = true := by simp; omega
    rw [this, if_pos rfl]
    have : ¬ a = b := fun e => hl (by rw [e])
    simp [this]
theorem equal_eq (a b : List Int) : F_slices_Equal_int_int a b = some (decide (a = b)) := ints_eq a b
def likeB (t u : S_api_Table) : Bool := decide (t.Var = u.Var) && (decide (t.On = u.On) && decide (u.Bits.length = 2 ^ u.On.length))
def alikeB (a l : List S_api_Table) : Bool := decide (a.length = l.length) && (a.zip l).all fun p => likeB p.1 p.2
def LSm (l : List S_api_Table) : Prop := l.length ≤ 60 ∧ ∀ t ∈ l, t.Bits.length ≤ 5000 ∧ t.On.length ≤ 100
theorem zip_all {α β : Type} {p : α × β → Bool} {a : List α} {l : List β} {R : Type} {f : Nat → α → Unit → (Unit → Option R) → Option R} {k : Unit → Option R} {A B : Option R} (hl : a.length = l.length) (hk : k () = A)
    (h : ∀ (j : Nat) x y kk, a[j]? = some x → l[j]? = some y → f j x () kk = if p (x, y) = true then kk () else B) : rangeF f 0 a () k = if (a.zip l).all p = true then A else B := by
  refine rangeF_pre a (fun _ _ => True) (fun pre xs _ => if (xs.zip (l.drop pre.length)).all p = true then A else B) (fun s _ => by simp [hk]) ?_ a [] () rfl trivial
  intro pre x xs s kk hf _ hk2
  have hlt : pre.length < l.length := by rw [← hl, hf]; simp
  rw [h pre.length x l[pre.length] kk (by rw [hf]; simp) (List.getElem?_eq_getElem hlt), hk2 () trivial, List.drop_eq_getElem_cons hlt, List.zip_cons_cons, List.all_cons]
  rw [List.length_append, List.length_singleton]
  cases p (x, l[pre.length])
  · simp
  · rw [Bool.true_and, if_pos rfl]
theorem pow_big {n m : Nat} (h : m = 2 ^ n) (hm : m ≤ 5000) : n ≤ 12 := by
  refine Classical.byContradiction fun hh => ?_
  have : 2 ^ 13 ≤ 2 ^ n := pw_le (by omega)
  have hq : (2 : Nat) ^ 13 = 8192 := rfl
  omega
theorem palike_eq {a l : List S_api_Table} (hl : LSm l) : F_truth_alike a l = some (alikeB a l) := by
  unfold F_truth_alike alikeB
  by_cases hL : a.length = l.length
  · have : (((a.length : Nat) : Int) != ((l.length : Nat) : Int)) = false := by simp [hL]
    simp only [jn_eq, this, Bool.false_eq_true, if_false]
    refine (zip_all (p := fun p => likeB p.1 p.2) (A := some true) (B := some false) hL rfl (fun j x y kk hx hy => ?_)).trans ?_
    · have hm := (hl.2 y (List.mem_of_getElem? hy))
      rw [getI_nat, hy]
      simp only [equal_eq, Option.bind_some, likeB]
      by_cases h1 : x.Var = y.Var
      · by_cases h2 : x.On = y.On
        · by_cases h3 : ((y.On.length : Nat) : Int) < 60
          · have h4 : (0 : Int) ≤ ((y.On.length : Nat) : Int) := Int.natCast_nonneg _
            simp only [h1, h2, h3, beq_self_eq_true, decide_true, if_true, Bool.true_and]
            rw [okI_eq h4, pw_eqT _ (by omega)]
            have : (((y.Bits.length : Nat) : Int) == ((2 ^ y.On.length : Nat) : Int)) = decide (y.Bits.length = 2 ^ y.On.length) := by
              rw [Bool.eq_iff_iff]; simp only [beq_iff_eq, decide_eq_true_eq]; omega
            rw [this]
            by_cases h5 : y.Bits.length = 2 ^ y.On.length <;> simp [h5]
          · have : ¬ y.Bits.length = 2 ^ y.On.length := fun e => by have := pow_big e hm.1; omega
            simp [h1, h2, h3, this]
        · simp [h1, h2]
      · simp [h1]
    · simp only [hL, decide_true, Bool.true_and]
      cases (a.zip l).all fun p => likeB p.1 p.2 <;> simp
  · have : (((a.length : Nat) : Int) != ((l.length : Nat) : Int)) = true := by simp; omega
    simp [jn_eq, this, hL]
end Go.Sk.X
namespace Go.Sk.X
open Go Go.Sk
theorem bit_valT (m i : Nat) (hi : i ≤ 62) : IntKind.wrap .i64 ((BitVec.ofInt (IntKind.bits .i64) (Int.fdiv (m : Int) (2 ^ (min ((i : Nat) : Int).toNat (IntKind.bits .i64)))) &&& BitVec.ofInt (IntKind.bits .i64) (1 : Int)).toNat : Int) = if m.testBit i = true then 1 else 0 := by
  have := bit_val m i hi
  rwa [show (IntKind.wrap .u64 ((i : Nat) : Int)).toNat = ((i : Nat) : Int).toNat by rw [wrapu]; omega] at this
theorem or_val {s j : Nat} (hs : s < 2 ^ j) (hj : j ≤ 60) : IntKind.wrap .i64 ((BitVec.ofInt (IntKind.bits .i64) (s : Int) ||| BitVec.ofInt (IntKind.bits .i64) ((2 ^ j : Nat) : Int)).toNat : Int) = ((s + 2 ^ j : Nat) : Int) := by
  have e2 : IntKind.bits .i64 = 64 := rfl
  have hp : 2 ^ j ≤ 2 ^ 60 := pw_le hj
  have h60 : (2 : Nat) ^ 60 = 1152921504606846976 := rfl
  have h64 : (2 : Nat) ^ 64 = 18446744073709551616 := rfl
  rw [e2, BitVec.ofInt_natCast, BitVec.ofInt_natCast, BitVec.toNat_or, BitVec.toNat_ofNat, BitVec.toNat_ofNat, Nat.mod_eq_of_lt (by omega), Nat.mod_eq_of_lt (by omega)]
  have h1 := Nat.two_pow_add_eq_or_of_lt hs 1
  rw [Nat.mul_one] at h1
  have h2 : s ||| 2 ^ j = s + 2 ^ j := by rw [Nat.or_comm, ← h1, Nat.add_comm]
  rw [h2, wrap_id (by omega) (by omega)]
theorem points_map {us : List Int} (hn : us.Nodup) (hl : us.length ≤ 62) (m : Nat) {R : Type} (K : List (Int × Bool) → Option R) (w : Option R) (hK : ∀ mp, (∀ v, (mget mp v).getD false = (decide (v ∈ us) && sgM us m v)) → K mp = w) :
    (rangeF (fun (j28062 : Nat) (x28063 : Int) (s28059 : (List (Int × Bool))) k28061 => (okI (0 ≤ ((j28062 : Nat) : Int)) (k28061 (mset s28059 x28063 ((IntKind.wrap .i64 ((BitVec.ofInt (IntKind.bits .i64) (Int.fdiv (m : Int) (2 ^ (min ((j28062 : Nat) : Int).toNat (IntKind.bits .i64)))) &&& BitVec.ofInt (IntKind.bits .i64) (1 : Int)).toNat : Int)) == (1 : Int)))))) 0 us ([] : List (Int × Bool)) K) = w := by
  refine rangeF_pre us (fun pre s => ∀ v, (mget s v).getD false = (decide (v ∈ pre) && sgM us m v)) (fun _ _ _ => w) (fun s hI => hK s hI) ?_ us [] [] rfl (by intro v; simp [mget])
  intro pre x xs s kk hf hI hk
  have hlt : pre.length < us.length := by rw [hf]; simp
  have hx : us[pre.length]? = some x := by rw [hf]; simp
  have hix : us.idxOf x = pre.length := by
    obtain ⟨hi, he⟩ := List.getElem?_eq_some_iff.1 hx
    rw [← he, hn.idxOf_getElem]
  rw [okI_eq (Int.natCast_nonneg _), bit_valT m _ (by omega)]
  refine hk _ (fun v => ?_)
  rw [mget_mset]
  by_cases hv : v = x
  · subst hv
    rw [if_pos rfl]
    have : sgM us m v = m.testBit pre.length := by unfold sgM; rw [hix]
    rw [this]
    cases m.testBit pre.length <;> simp
  · rw [if_neg hv, hI v]
    simp [hv]
theorem fOf_snoc_self {pre : List S_api_Table} {t : S_api_Table} (h : t.Var ∉ pre.map (·.Var)) (σ : Int → Bool) : fOf (pre ++ [t]) t.Var σ = bitT t σ := by
  unfold fOf
  rw [List.find?_append]
  have : pre.find? (fun u => decide (u.Var = t.Var)) = none := by
    rw [List.find?_eq_none]
    intro u hu
    have : u.Var ≠ t.Var := fun e => h (e ▸ List.mem_map.2 ⟨u, hu, rfl⟩)
    simpa using this
  rw [this]
  simp
theorem fOf_snoc_ne {pre : List S_api_Table} {t : S_api_Table} {v : Int} (h : v ≠ t.Var) (σ : Int → Bool) : fOf (pre ++ [t]) v σ = fOf pre v σ := by
  unfold fOf
  rw [List.find?_append]
  cases hp : pre.find? (fun u => decide (u.Var = v)) with
  | some u => rfl
  | none =>
    have : ¬ t.Var = v := fun e => h e.symm
    simp [this]
theorem tabs_map {us : List Int} {l : List S_api_Table} {σ : Int → Bool} (hnd : (l.map (·.Var)).Nodup) (hsep : ∀ t ∈ l, t.Var ∉ us) (hon : ∀ t ∈ l, (∀ u ∈ t.On, u ∈ us) ∧ t.On.length ≤ 60 ∧ t.Bits.length = 2 ^ t.On.length)
    (mp : List (Int × Bool)) (hmp : ∀ v, (mget mp v).getD false = (decide (v ∈ us) && σ v)) {R : Type} (K : List (Int × Bool) → Option R) (w : Option R) (hK : ∀ mp, (∀ v, (mget mp v).getD false = if v ∈ us then σ v else fOf l v σ) → K mp = w) :
    (rangeF (fun (j31058 : Nat) (x31059 : S_api_Table) (s31055 : (List (Int × Bool))) k31057 => (Option.bind (rangeF (fun (j31201 : Nat) (x31202 : Int) (s31198 : Int) k31200 => (jn (fun (s31219 : Int) => (k31200 s31219)) (fun k31221 => (if ((mget s31055 x31202).getD false) = true then (okI (0 ≤ ((j31201 : Nat) : Int)) (k31221 (IntKind.wrap .i64 ((BitVec.ofInt (IntKind.bits .i64) s31198 ||| BitVec.ofInt (IntKind.bits .i64) (IntKind.wrap .i64 ((1 : Int) * 2 ^ (min ((j31201 : Nat) : Int).toNat (IntKind.bits .i64))))).toNat : Int)))) else (k31221 s31198))))) 0 x31059.On (0 : Int) (fun (s31198 : Int) => (getI x31059.Bits s31198 (fun x31224 => (some x31224))))) (fun (y31197 : Bool) => (k31057 (mset s31055 x31059.Var y31197))))) 0 l mp K) = w := by
  refine rangeF_pre l (fun pre s => ∀ v, (mget s v).getD false = if v ∈ us then σ v else fOf pre v σ) (fun _ _ _ => w) (fun s hI => hK s hI) ?_ l [] mp rfl (by
    intro v; rw [hmp v]; by_cases hv : v ∈ us <;> simp [hv, fOf])
  intro pre t xs s kk hf hI hk
  have ht : t ∈ l := by rw [hf]; simp
  obtain ⟨ho, hl, hb⟩ := hon t ht
  have hpre : t.Var ∉ pre.map (·.Var) := fun hm => by
    rw [hf, List.map_append, List.map_cons] at hnd
    exact (List.nodup_append.1 hnd).2.2 _ hm _ (by simp) rfl
  have hat : (rangeF (fun (j31201 : Nat) (x31202 : Int) (s31198 : Int) k31200 => (jn (fun (s31219 : Int) => (k31200 s31219)) (fun k31221 => (if ((mget s x31202).getD false) = true then (okI (0 ≤ ((j31201 : Nat) : Int)) (k31221 (IntKind.wrap .i64 ((BitVec.ofInt (IntKind.bits .i64) s31198 ||| BitVec.ofInt (IntKind.bits .i64) (IntKind.wrap .i64 ((1 : Int) * 2 ^ (min ((j31201 : Nat) : Int).toNat (IntKind.bits .i64))))).toNat : Int)))) else (k31221 s31198))))) 0 t.On (0 : Int) (fun (s31198 : Int) => (getI t.Bits s31198 (fun x31224 => (some x31224))))) = some (bitT t σ) := by
    refine rangeF_pre t.On (fun p q => q = (ixF σ p : Int)) (fun _ _ _ => some (bitT t σ)) ?_ ?_ t.On [] 0 rfl rfl
    · rintro q rfl
      have hm : ixF σ t.On < t.Bits.length := by rw [hb]; exact ixF_lt _ _
      rw [getI_nat, List.getElem?_eq_getElem hm]
      simp [bitT, List.getD_eq_getElem?_getD, List.getElem?_eq_getElem hm]
    · rintro p x ys q k2 hf2 rfl hk2
      have hlen : p.length < t.On.length := by rw [hf2]; simp
      have hx := ho x (by rw [hf2]; simp)
      have hm := ixF_lt σ p
      have hk' := hk2 _ rfl
      rw [ixF_snoc] at hk'
      simp only [jn_eq]
      rw [hI x, if_pos hx]
      cases hs : σ x
      · rw [hs] at hk'
        simpa using hk'
      · rw [hs] at hk'
        rw [if_pos rfl, okI_eq (Int.natCast_nonneg _), pw_eqT _ (by omega), or_val hm (by omega)]
        exact hk'
  rw [hat, Option.bind_some]
  refine hk _ (fun v => ?_)
  rw [mget_mset]
  by_cases hv : v = t.Var
  · subst hv
    rw [if_pos rfl, if_neg (hsep t ht), fOf_snoc_self hpre]; rfl
  · rw [if_neg hv, hI v, fOf_snoc_ne hv]
theorem satF_iff {d : S_api_Dqbf} (hp : Plain d) {ts : List S_api_Table} (ht : TOf d.Exist ts) {σ : Int → Bool} {g : Int → Bool} (hg : ∀ v, g v = asg d (fOf ts) σ v) : satF d.Clauses g = satB d.Clauses (pairL (allP d ts σ)) := by
  rw [Bool.eq_iff_iff, sat_iff hp ht]
  unfold satF
  simp only [List.all_eq_true, List.any_eq_true]
  have : ∀ x, litF g x = litT (asg d (fOf ts) σ) x := fun x => by
    unfold litF litT av
    by_cases hx : x < 0
    · simp only [if_pos hx, hg]
    · simp only [if_neg hx, hg]
  simp only [this]
theorem prog_pt {d : S_api_Dqbf} (hp : Plain d) {ts : List S_api_Table} (ht : TOf d.Exist ts) (hl : d.Univ.length ≤ 60) (hr : ∀ c ∈ d.Clauses, ∀ x ∈ c, -65536 ≤ x ∧ x ≤ 65536) (m : Nat) {R : Type} (kk : Bool → Option R) :
    (rangeF (fun (j28062 : Nat) (x28063 : Int) (s28059 : (List (Int × Bool))) k28061 => (okI (0 ≤ ((j28062 : Nat) : Int)) (k28061 (mset s28059 x28063 ((IntKind.wrap .i64 ((BitVec.ofInt (IntKind.bits .i64) (Int.fdiv (m : Int) (2 ^ (min ((j28062 : Nat) : Int).toNat (IntKind.bits .i64)))) &&& BitVec.ofInt (IntKind.bits .i64) (1 : Int)).toNat : Int)) == (1 : Int)))))) 0 d.Univ ([] : List (Int × Bool)) (fun (s28059 : (List (Int × Bool))) => (rangeF (fun (j31058 : Nat) (x31059 : S_api_Table) (s31055 : (List (Int × Bool))) k31057 => (Option.bind (rangeF (fun (j31201 : Nat) (x31202 : Int) (s31198 : Int) k31200 => (jn (fun (s31219 : Int) => (k31200 s31219)) (fun k31221 => (if ((mget s31055 x31202).getD false) = true then (okI (0 ≤ ((j31201 : Nat) : Int)) (k31221 (IntKind.wrap .i64 ((BitVec.ofInt (IntKind.bits .i64) s31198 ||| BitVec.ofInt (IntKind.bits .i64) (IntKind.wrap .i64 ((1 : Int) * 2 ^ (min ((j31201 : Nat) : Int).toNat (IntKind.bits .i64))))).toNat : Int)))) else (k31221 s31198))))) 0 x31059.On (0 : Int) (fun (s31198 : Int) => (getI x31059.Bits s31198 (fun x31224 => (some x31224))))) (fun (y31197 : Bool) => (k31057 (mset s31055 x31059.Var y31197))))) 0 ts s28059 (fun (s31055 : (List (Int × Bool))) =>
      (rangeF (fun (j31643 : Nat) (x31644 : (List Int)) (s31640 : Unit) k31642 => (jn (fun (s31998 : Int) => (if (!(decide (s31998 ≥ (0 : Int)))) = true then (kk false) else (k31642 ()))) (fun k32000 => (rangeF (fun (j32005 : Nat) (x32006 : Int) (s32002 : Unit) k32004 => (jn (fun (s32046 : Bool) => (if s32046 = true then (k32000 ((j32005 : Nat) : Int)) else (k32004 ()))) (fun k32048 => (if (decide (x32006 < (0 : Int))) = true then (k32048 (!((mget s31055 (IntKind.wrap .i64 (0 - x32006))).getD false))) else (k32048 ((mget s31055 x32006).getD false)))))) 0 x31644 () (fun (s32002 : Unit) => (k32000 (-1 : Int))))))) 0 d.Clauses () (fun (s31640 : Unit) => (kk true)))))))
      = kk (satB d.Clauses (pairL (allP d ts (sgM d.Univ m)))) := by
  have hvs : ts.map (·.Var) = varsD d := ht.vars
  refine points_map hp.und (by omega) m _ _ (fun mp hmp => ?_)
  refine tabs_map (σ := sgM d.Univ m) (by rw [hvs]; exact hp.vnd) (fun t hm hu => hp.sep hu (by rw [← hvs]; exact List.mem_map.2 ⟨t, hm, rfl⟩)) (fun t hm => ?_) mp hmp _ _ (fun mp2 hmp2 => ?_)
  · obtain ⟨e, he, h1, h2⟩ := ht.mem hm
    have ho := hp.on e he
    have := nodup_len ho.1 ho.2
    exact ⟨fun u hu => ho.2 u (h2 ▸ hu), by rw [← h2]; omega, ht.2 t hm⟩
  · rw [prog_sat mp2 d.Clauses hr, satF_iff hp ht (σ := sgM d.Univ m) (fun v => ?_)]
    rw [hmp2 v]; rfl
theorem pwins_eq {d : S_api_Dqbf} (hm : May d) (hf : Few d) {ts : List S_api_Table} (ht : TOf d.Exist ts) : F_truth_wins d ts = some (winB d ts) := by
  unfold F_truth_wins
  have hu := hf.univ
  have hp := plain_of hm
  have hN : (((2 ^ d.Univ.length : Nat) : Int) - 0).toNat = 2 ^ d.Univ.length := by rw [Int.sub_zero, Int.toNat_natCast]
  rw [okI_eq (Int.natCast_nonneg _), okI_eq (wi_ok _), pw_eqT _ (by omega), hN]
  refine (upF_allN (A := some false) (fun m => satB d.Clauses (pairL (allP d ts (sgM d.Univ m)))) (2 ^ d.Univ.length) (fun m _ kk => ?_) (2 ^ d.Univ.length) 0 (by omega)).trans ?_
  · simp only [jn_eq]
    refine (prog_pt hp ht (by omega) (fun c hc x hx => (nrm_lit (hm.nrm c hc) hx).2) m (fun s => if (!s) = true then (some false) else (kk ()))).trans ?_
    cases satB d.Clauses (pairL (allP d ts (sgM d.Univ m))) <;> simp
  · unfold winB
    cases (List.range' 0 (2 ^ d.Univ.length)).all fun m => satB d.Clauses (pairL (allP d ts (sgM d.Univ m))) <;> simp
def wantD (d : S_api_Dqbf) : List S_api_Table := d.Exist.map fun e => S_api_Table.mk e.Var e.On []
theorem want_loop {R : Type} {d : S_api_Dqbf} (hl : d.Exist.length ≤ 1024) (K : List S_api_Table → Option R) :
    (rangeF (fun (j106 : Nat) (x107 : S_api_Dep) (s103 : (List S_api_Table)) k105 => (capN (s103.length + ([(S_api_Table.mk x107.Var x107.On ([] : List Bool))]).length) (k105 (s103 ++ ([(S_api_Table.mk x107.Var x107.On ([] : List Bool))]))))) 0 d.Exist ([] : List S_api_Table) K) = K (wantD d) := by
  refine rangeF_pre d.Exist (fun pre s => s = pre.map fun e => S_api_Table.mk e.Var e.On []) (fun _ _ _ => K (wantD d)) (fun s hI => by rw [hI]; rfl) ?_ d.Exist [] [] rfl rfl
  rintro pre x xs s kk hf rfl hk
  have hp : pre.length < d.Exist.length := by rw [hf]; simp
  rw [capN_eq (by simp; omega)]
  exact hk _ (by simp)
theorem tof_alike {es : List S_api_Dep} {l : List S_api_Table} (h : alikeB (es.map fun e => S_api_Table.mk e.Var e.On []) l = true) : TOf es l := by
  unfold alikeB at h
  simp only [Bool.and_eq_true, decide_eq_true_eq, List.length_map] at h
  obtain ⟨hl, h⟩ := h
  induction es generalizing l with
  | nil => cases l with
    | nil => exact ⟨rfl, by simp⟩
    | cons => simp at hl
  | cons e es ih => cases l with
    | nil => simp at hl
    | cons t l =>
      simp only [List.map_cons, List.zip_cons_cons, List.all_cons, Bool.and_eq_true, likeB, decide_eq_true_eq] at h
      obtain ⟨⟨h1, h2, h3⟩, h4⟩ := h
      obtain ⟨g1, g2⟩ := ih (by simpa using hl) h4
      refine ⟨by simp only [List.map_cons, g1, h1, h2], fun u hu => ?_⟩
      rcases List.mem_cons.1 hu with rfl | hu
      · exact h3
      · exact g2 u hu
def winsV (d : S_api_Dqbf) (l : List S_api_Table) : Bool × Int :=
  if MayD d = true then (if alikeB (wantD d) l = true then (if fewB d = true then (winB d l, 0) else (false, 3)) else (false, 2)) else (false, 2)
theorem pW_eq {d : S_api_Dqbf} (h : Sm d) {l : List S_api_Table} (hl : LSm l) : F_truth_Wins d l = some (winsV d l) := by
  unfold F_truth_Wins winsV
  rw [mayp_eq h, Option.bind_some]
  cases hM : MayD d
  · rfl
  have hm := may_of hM
  have hlen := hm.len
  simp only [Bool.not_true, Bool.false_eq_true, if_false, if_true]
  rw [want_loop (by omega), palike_eq hl, Option.bind_some]
  cases ha : alikeB (wantD d) l
  · rfl
  simp only [Bool.not_true, Bool.false_eq_true, if_false, if_true]
  rw [few_eq (by omega), Option.bind_some]
  cases hf : fewB d
  · rfl
  have e0 : ((0 : Int) != 0) = false := rfl
  simp only [if_true, e0, Bool.false_eq_true, if_false, pwins_eq hm (few_of hf) (tof_alike ha), Option.bind_some]
end Go.Sk.X
namespace Go.Sk.X
open Go Go.Sk
theorem asc_ext : ∀ {a b : List Int}, a.Pairwise (· < ·) → b.Pairwise (· < ·) → (∀ x, x ∈ a ↔ x ∈ b) → a = b
  | [], [], _, _, _ => rfl
  | [], y :: b, _, _, h => by have := (h y).2 (by simp); simp at this
  | x :: a, [], _, _, h => by have := (h x).1 (by simp); simp at this
  | x :: a, y :: b, ha, hb, h => by
    rw [List.pairwise_cons] at ha hb
    have hxy : x = y := by
      have h1 := (h x).1 (by simp)
      have h2 := (h y).2 (by simp)
      rcases List.mem_cons.1 h1 with e | h1
      · exact e
      · rcases List.mem_cons.1 h2 with e | h2
        · exact e.symm
        · have := hb.1 x h1; have := ha.1 y h2; omega
    subst hxy
    rw [asc_ext ha.2 hb.2 (fun z => ?_)]
    constructor
    · intro hz
      rcases List.mem_cons.1 ((h z).1 (List.mem_cons_of_mem _ hz)) with e | hz2
      · have := ha.1 z hz; omega
      · exact hz2
    · intro hz
      rcases List.mem_cons.1 ((h z).2 (List.mem_cons_of_mem _ hz)) with e | hz2
      · have := hb.1 z hz; omega
      · exact hz2
theorem srt_len (l : List Int) : (srt l).length = l.length := (List.mergeSort_perm _ _).length_eq
theorem srt_mem {l : List Int} {x : Int} : x ∈ srt l ↔ x ∈ l := (List.mergeSort_perm _ _).mem_iff
theorem srt_nodup {l : List Int} (h : l.Nodup) : (srt l).Nodup := (List.mergeSort_perm _ _).nodup_iff.2 h
theorem srt_asc {l : List Int} (h : l.Nodup) : (srt l).Pairwise (· < ·) := by
  have h1 : (srt l).Pairwise (fun a b => decide (a ≤ b) = true) := List.pairwise_mergeSort (fun a b c h1 h2 => by simp at h1 h2 ⊢; omega) (fun a b => by simp; omega) l
  have h2 := srt_nodup h
  have h3 := List.Pairwise.and h1 h2
  exact h3.imp (fun {a b} hh => by
    have := hh.1; have h4 := hh.2
    simp at this
    omega)
theorem put_eq {a : List Int} (ha : a.Pairwise (· < ·)) (hl : a.length ≤ 1000) {v : Int} (hv : v ∉ a) : F_skolemref03_Put a v = some (a.filter (fun x => decide (x < v)) ++ v :: a.filter (fun x => decide (v < x))) := by
  unfold F_skolemref03_Put
  have hfl : ∀ l : List Int, (∀ x ∈ l, x < v) → l.filter (fun x => decide (x < v)) = l ∧ l.filter (fun x => decide (v < x)) = [] := fun l h => by
    constructor
    · exact List.filter_eq_self.2 (fun x hx => by simpa using h x hx)
    · rw [List.filter_eq_nil_iff]; intro x hx; have := h x hx; simp; omega
  refine rangeF_pre a (fun pre s => s.2.length ≤ pre.length + 1 ∧ ((s.1 = false ∧ (∀ x ∈ pre, x < v) ∧ s.2 = pre) ∨ (s.1 = true ∧ (∃ x ∈ pre, v < x) ∧ s.2 = pre.filter (fun x => decide (x < v)) ++ v :: pre.filter (fun x => decide (v < x))))) (fun _ _ _ => some (a.filter (fun x => decide (x < v)) ++ v :: a.filter (fun x => decide (v < x)))) ?_ ?_ a [] (false, []) rfl ⟨by simp, .inl ⟨rfl, by simp, rfl⟩⟩
  · rintro ⟨s1, s2⟩ ⟨h0, ⟨h1, h2, h3⟩ | ⟨h1, h2, h3⟩⟩
    · simp only at h0 h1 h2 h3 ⊢
      subst h1; subst h3
      rw [(hfl _ h2).1, (hfl _ h2).2, capN_eq (by simp; omega)]
      rfl
    · simp only at h0 h1 h2 h3 ⊢
      subst h1; subst h3; rfl
  · rintro pre x xs ⟨s1, s2⟩ kk hf ⟨h0, hI⟩ hk
    simp only at h0 hI ⊢
    have hlt : pre.length < a.length := by rw [hf]; simp
    have hxv : x ≠ v := fun e => hv (by rw [hf, ← e]; simp)
    have hpx : ∀ y ∈ pre, y < x := fun y hy => by
      rw [hf] at ha
      exact (List.pairwise_append.1 ha).2.2 y hy x (by simp)
    have e1 : (x == v) = false := by simpa using hxv
    simp only [e1, Bool.false_eq_true, if_false, jn_eq]
    rcases hI with ⟨h1, h2, h3⟩ | ⟨h1, h2, h3⟩
    · subst h1; subst h3
      simp only [Bool.not_false, if_true]
      by_cases hx : x > v
      · simp only [hx, decide_true, if_true]
        rw [capN_eq (by simp; omega), capN_eq (by simp; omega)]
        refine hk _ ⟨by simp, .inr ⟨rfl, ⟨x, by simp, hx⟩, ?_⟩⟩
        have n1 : ¬ x < v := by omega
        have n2 : v < x := hx
        simp [List.filter_append, (hfl _ h2).1, (hfl _ h2).2, n1, n2]
      · simp only [hx, decide_false, Bool.false_eq_true, if_false]
        rw [capN_eq (by simp; omega)]
        refine hk _ ⟨by simp, .inl ⟨rfl, fun y hy => ?_, rfl⟩⟩
        rcases List.mem_append.1 hy with hy | hy
        · exact h2 y hy
        · rw [List.mem_singleton] at hy; omega
    · subst h1
      obtain ⟨y, hy, hvy⟩ := h2
      have := hpx y hy
      have n1 : ¬ x < v := by omega
      have n2 : v < x := by omega
      simp only [Bool.not_true, Bool.false_eq_true, if_false]
      rw [capN_eq (by simp; omega)]
      refine hk _ ⟨by simp; omega, .inr ⟨rfl, ⟨y, by simp [hy], hvy⟩, ?_⟩⟩
      rw [h3]
      simp [List.filter_append, n1, n2]
theorem put_srt {b : List Int} (hl : b.length ≤ 1000) {v : Int} (hn : (b ++ [v]).Nodup) : F_skolemref03_Put (srt b) v = some (srt (b ++ [v])) := by
  have h1 := List.nodup_append.1 hn
  have hv : v ∉ b := fun h => h1.2.2 v h v (by simp) rfl
  have ha := srt_asc h1.1
  rw [put_eq ha (by rw [srt_len]; exact hl) (fun h => hv (srt_mem.1 h))]
  congr 1
  refine asc_ext ?_ (srt_asc hn) (fun x => ?_)
  · rw [List.pairwise_append, List.pairwise_cons]
    refine ⟨ha.filter _, ⟨fun y hy => by have := (List.mem_filter.1 hy).2; simpa using this, ha.filter _⟩, fun x hx y hy => ?_⟩
    have h2 : x < v := by have := (List.mem_filter.1 hx).2; simpa using this
    rcases List.mem_cons.1 hy with rfl | hy
    · exact h2
    · have h3 : v < y := by have := (List.mem_filter.1 hy).2; simpa using this
      omega
  · rw [srt_mem]
    simp only [List.mem_append, List.mem_cons, List.mem_filter, srt_mem, decide_eq_true_eq, List.not_mem_nil, or_false]
    constructor
    · rintro (⟨h, _⟩ | rfl | ⟨h, _⟩)
      · exact .inl h
      · exact .inr rfl
      · exact .inl h
    · rintro (h | rfl)
      · have : x ≠ v := fun e => hv (e ▸ h)
        rcases Int.lt_or_gt_of_ne this with h2 | h2
        · exact .inl ⟨h, h2⟩
        · exact .inr (.inr ⟨h, h2⟩)
      · exact .inr (.inl rfl)
def exV (ts : List S_truth_turn) : List Int := (ts.filter (·.f_exists)).map (·.v)
theorem exV_snoc (pre : List S_truth_turn) (t : S_truth_turn) : exV (pre ++ [t]) = exV pre ++ if t.f_exists = true then [t.v] else [] := by
  unfold exV
  cases h : t.f_exists <;> simp [h]
theorem exV_len (ts : List S_truth_turn) : (exV ts).length ≤ ts.length := by unfold exV; rw [List.length_map]; exact List.length_filter_le _ _
def tabsT (b : List Int) : List S_truth_turn → List S_api_Table
  | [] => []
  | t :: ts => if t.f_exists = true then tabsT (b ++ [t.v]) ts else S_api_Table.mk t.v (srt b) [] :: tabsT b ts
def cntT (c : Nat) (b : List Int) : List S_truth_turn → Nat
  | [] => 0
  | t :: ts => if t.f_exists = true then cntT c (b ++ [t.v]) ts else 2 ^ min b.length c + cntT c b ts
theorem cnt_same : ∀ (ts : List S_truth_turn) (b : List Int), (cntT 13 b ts = cntT 20 b ts) ∨ (4096 < cntT 13 b ts ∧ 4096 < cntT 20 b ts)
  | [], b => .inl rfl
  | t :: ts, b => by
    simp only [cntT]
    by_cases h : t.f_exists = true
    · simp only [h, if_true]; exact cnt_same ts _
    · simp only [h, Bool.false_eq_true, if_false]
      by_cases hb : b.length < 13
      · rw [show min b.length 13 = b.length by omega, show min b.length 20 = b.length by omega]
        rcases cnt_same ts b with h1 | ⟨h1, h2⟩
        · exact .inl (by rw [h1])
        · have := Nat.two_pow_pos b.length
          exact .inr ⟨by omega, by omega⟩
      · have h1 : 2 ^ 13 ≤ 2 ^ min b.length 13 := pw_le (by omega)
        have h2 : 2 ^ 13 ≤ 2 ^ min b.length 20 := pw_le (by omega)
        have hq : (2 : Nat) ^ 13 = 8192 := rfl
        exact .inr ⟨by omega, by omega⟩
theorem clone_eq {a : List Int} (hl : a.length ≤ 1000) : F_slices_Clone_int_int a = some a := by
  unfold F_slices_Clone_int_int
  cases a with
  | nil => rfl
  | cons x xs =>
    rw [if_neg (by simp), capN_eq (by simpa using by simp at hl; omega)]
    rfl
theorem univ_eq {q : S_api_Qbf} (h : (flat q.Prefix).length ≤ 100) : F_truth_universal q = some (tabsT [] (turnsP q.Prefix), (cntT 13 [] (turnsP q.Prefix) : Int)) := by
  unfold F_truth_universal
  rw [of_eq q h, Option.bind_some]
  have hlen := turns_len q.Prefix
  simp only
  generalize turnsP q.Prefix = ts at hlen
  refine rangeF_pre ts (fun pre s => s.2.1 = exV pre ∧ s.2.2.length ≤ pre.length ∧ 0 ≤ s.1 ∧ s.1 ≤ 8192 * (pre.length : Int)) (fun pre xs s => some (s.2.2 ++ tabsT (exV pre) xs, s.1 + (cntT 13 (exV pre) xs : Int))) ?_ ?_ ts [] (0, [], []) rfl ⟨rfl, by simp, by simp, by simp⟩ |>.trans ?_
  · rintro ⟨n, b, l⟩ _
    simp [tabsT, cntT]
  · rintro pre t xs ⟨n, b, l⟩ kk hf ⟨h1, h2, h3, h4⟩ hk
    simp only at h1 h2 h3 h4
    subst h1
    have hlt : pre.length < ts.length := by rw [hf]; simp
    have he := exV_len pre
    simp only [jn_eq, tabsT, cntT]
    by_cases hx : t.f_exists = true
    · simp only [hx, if_true]
      rw [capN_eq (by simp; omega)]
      have := hk (n, exV pre ++ [t.v], l) ⟨by rw [exV_snoc, if_pos hx], by simp; omega, h3, by simp; omega⟩
      rw [exV_snoc, if_pos hx] at this
      exact this
    · simp only [hx, Bool.false_eq_true, if_false]
      have hp : 2 ^ min (exV pre).length 13 ≤ 2 ^ 13 := pw_le (by omega)
      have hq : (2 : Nat) ^ 13 = 8192 := rfl
      have hmn : imn (((srt (exV pre)).length : Nat) : Int) 13 = ((min (exV pre).length 13 : Nat) : Int) := by rw [srt_len]; unfold imn; split <;> omega
      rw [clone_eq (by omega), Option.bind_some, okI_eq (by omega), capN_eq (by simp; omega), hmn, okI_eq (Int.natCast_nonneg _), pw_eqT _ (by omega)]
      generalize 2 ^ min (exV pre).length 13 = g at hp ⊢
      rw [wrap_id (by omega) (by omega)]
      have := hk (n + (g : Int), exV pre, l ++ [S_api_Table.mk t.v (srt (exV pre)) []]) ⟨by rw [exV_snoc, if_neg hx, List.append_nil], by simp; omega, by simp only; omega, by simp only [List.length_append, List.length_singleton]; omega⟩
      rw [exV_snoc, if_neg hx, List.append_nil] at this
      refine this.trans ?_
      simp
      omega
  · simp [exV]
end Go.Sk.X
namespace Go.Sk.X
open Go Go.Sk
theorem srt_nil : srt [] = [] := by simp [srt]
theorem exV_sub {ts : List S_truth_turn} (hn : (ts.map (·.v)).Nodup) : (exV ts).Nodup := by
  unfold exV
  exact hn.sublist (List.Sublist.map _ (List.filter_sublist))
end Go.Sk.X
namespace Go.Sk.X
open Go Go.Sk
def unV (ts : List S_truth_turn) : List Int := (ts.filter fun t => !t.f_exists).map (·.v)
theorem tabs_var : ∀ (ts : List S_truth_turn) (b : List Int), (tabsT b ts).map (·.Var) = unV ts
  | [], b => rfl
  | t :: ts, b => by
    unfold tabsT unV
    cases h : t.f_exists
    · simp only [Bool.false_eq_true, if_false, List.map_cons, tabs_var ts b]
      rw [List.filter_cons]; simp [h, unV]
    · simp only [if_true, tabs_var ts _]
      rw [List.filter_cons]; simp [h, unV]
theorem exV_cons (t : S_truth_turn) (ts : List S_truth_turn) : exV (t :: ts) = if t.f_exists = true then t.v :: exV ts else exV ts := by
  unfold exV
  rw [List.filter_cons]
  split <;> rfl
theorem tabs_on : ∀ (ts : List S_truth_turn) (b : List Int), (b ++ exV ts).Nodup → ∀ t ∈ tabsT b ts, t.Bits = [] ∧ t.On.Nodup ∧ ∀ u ∈ t.On, u ∈ b ++ exV ts
  | [], b, _, t, h => by simp [tabsT] at h
  | x :: ts, b, hn, t, h => by
    unfold tabsT at h
    rw [exV_cons] at hn ⊢
    by_cases hx : x.f_exists = true
    · rw [if_pos hx] at h hn ⊢
      have := tabs_on ts (b ++ [x.v]) (by simpa using hn) t h
      simpa using this
    · rw [if_neg hx] at h hn ⊢
      rcases List.mem_cons.1 h with rfl | h
      · exact ⟨rfl, srt_nodup (List.nodup_append.1 hn).1, fun u hu => List.mem_append_left _ (srt_mem.1 hu)⟩
      · exact tabs_on ts b hn t h
def dual (q : S_api_Qbf) : S_api_Dqbf := ⟨exV (turnsP q.Prefix), (tabsT [] (turnsP q.Prefix)).map fun t => ⟨t.Var, t.On⟩, q.Clauses⟩
theorem dual_vars (q : S_api_Qbf) : varsD (dual q) = unV (turnsP q.Prefix) := by
  unfold varsD dual
  rw [List.map_map, ← tabs_var _ []]
  rfl
theorem mem_ex {ts : List S_truth_turn} {v : Int} : v ∈ exV ts ↔ ∃ t ∈ ts, t.f_exists = true ∧ t.v = v := by
  unfold exV
  simp only [List.mem_map, List.mem_filter]
  exact ⟨fun ⟨t, h, e⟩ => ⟨t, h.1, h.2, e⟩, fun ⟨t, h, h2, e⟩ => ⟨t, ⟨h, h2⟩, e⟩⟩
theorem mem_un {ts : List S_truth_turn} {v : Int} : v ∈ unV ts ↔ ∃ t ∈ ts, t.f_exists = false ∧ t.v = v := by
  unfold unV
  simp only [List.mem_map, List.mem_filter, Bool.not_eq_true']
  exact ⟨fun ⟨t, h, e⟩ => ⟨t, h.1, h.2, e⟩, fun ⟨t, h, h2, e⟩ => ⟨t, ⟨h, h2⟩, e⟩⟩
theorem dual_plain {q : S_api_Qbf} (h : Gd q) : Plain (dual q) := by
  have hnd : ((turnsP q.Prefix).map (·.v)).Nodup := by rw [turns_v]; exact h.nd
  have hin : ∀ t ∈ turnsP q.Prefix, t.v ∈ flat q.Prefix := fun t ht => by rw [← turns_v]; exact List.mem_map.2 ⟨t, ht, rfl⟩
  refine ⟨fun u hu => ?_, fun v hv => ?_, exV_sub hnd, ?_, fun {v} hv hv2 => ?_, fun c hc x hx => ⟨(h.lit hc hx).1, ?_⟩, fun e he => ?_⟩
  · obtain ⟨t, ht, _, rfl⟩ := mem_ex.1 hu
    have := (h.one _ (hin t ht)).1; omega
  · rw [dual_vars] at hv
    obtain ⟨t, ht, _, rfl⟩ := mem_un.1 hv
    have := (h.one _ (hin t ht)).1; omega
  · rw [dual_vars]; exact hnd.sublist (List.Sublist.map _ List.filter_sublist)
  · rw [dual_vars] at hv2
    obtain ⟨t, ht, h1, rfl⟩ := mem_ex.1 hv
    obtain ⟨u, hu, h2, h3⟩ := mem_un.1 hv2
    have := nodup_inj (·.v) hnd hu ht h3
    rw [this, h1] at h2; cases h2
  · have := h.wi c hc x hx
    rw [← turns_v] at this
    obtain ⟨t, ht, hv⟩ := List.mem_map.1 this
    rw [dual_vars]
    cases he : t.f_exists
    · exact .inr (mem_un.2 ⟨t, ht, he, hv⟩)
    · exact .inl (mem_ex.2 ⟨t, ht, he, hv⟩)
  · obtain ⟨t, ht, rfl⟩ := List.mem_map.1 he
    have := tabs_on (turnsP q.Prefix) [] (by rw [List.nil_append]; exact exV_sub hnd) t ht
    exact ⟨this.2.1, fun u hu => by simpa [dual] using this.2.2 u hu⟩
theorem dual_tof {q : S_api_Qbf} (h : Gd q) {l : List S_api_Table} (ha : alikeB (tabsT [] (turnsP q.Prefix)) l = true) : TOf (dual q).Exist l := by
  have hnd : ((turnsP q.Prefix).map (·.v)).Nodup := by rw [turns_v]; exact h.nd
  refine tof_alike ?_
  have : (dual q).Exist.map (fun e => S_api_Table.mk e.Var e.On []) = tabsT [] (turnsP q.Prefix) := by
    unfold dual
    rw [List.map_map]
    refine (List.map_congr_left (fun t ht => ?_)).trans (List.map_id _)
    have := (tabs_on (turnsP q.Prefix) [] (by rw [List.nil_append]; exact exV_sub hnd) t ht).1
    obtain ⟨v, o, b⟩ := t
    simp only at this
    subst this
    rfl
  rw [this]; exact ha
end Go.Sk.X
namespace Go.Sk.X
open Go Go.Sk
def loseB (q : S_api_Qbf) (l : List S_api_Table) : Bool := (List.range' 0 (2 ^ (exV (turnsP q.Prefix)).length)).all fun m => !satB q.Clauses (pairL (allP (dual q) l (sgM (exV (turnsP q.Prefix)) m)))
def losesV (q : S_api_Qbf) (l : List S_api_Table) : Bool × Int :=
  if MayQ q = true then (if alikeB (tabsT [] (turnsP q.Prefix)) l = true then (if cntT 20 [] (turnsP q.Prefix) ≤ 4096 ∧ (turnsP q.Prefix).length ≤ 16 then (loseB q l, 0) else (false, 3)) else (false, 2)) else (false, 2)
theorem ex_loop {R : Type} (ts : List S_truth_turn) (hl : ts.length ≤ 1000) (K : List Int → Option R) :
    (rangeF (fun (j121 : Nat) (x122 : S_truth_turn) (s118 : (List Int)) k120 => (jn (fun (s146 : (List Int)) => (k120 s146)) (fun k148 => (if x122.f_exists = true then (capN (s118.length + [x122.v].length) (k148 (s118 ++ [x122.v]))) else (k148 s118))))) 0 ts ([] : List Int) K) = K (exV ts) := by
  refine rangeF_pre ts (fun pre s => s = exV pre) (fun _ _ _ => K (exV ts)) (fun s hI => by rw [hI]) ?_ ts [] [] rfl rfl
  rintro pre t xs s kk hf rfl hk
  have hp : pre.length < ts.length := by rw [hf]; simp
  have he := exV_len pre
  simp only [jn_eq]
  by_cases hx : t.f_exists = true
  · rw [if_pos hx, capN_eq (by simp; omega)]
    exact hk _ (by rw [exV_snoc, if_pos hx])
  · rw [if_neg hx]
    exact hk _ (by rw [exV_snoc, if_neg hx, List.append_nil])
theorem exV_app (a b : List S_truth_turn) : exV (a ++ b) = exV a ++ exV b := by simp [exV]
theorem exV_block (b : S_api_Block) : exV (turnsP [b]) = if b.Exists = true then b.Vars else [] := by
  unfold exV turnsP
  simp only [List.flatMap_cons, List.flatMap_nil, List.append_nil]
  cases h : b.Exists
  · simp [List.filter_map, Function.comp_def]
  · simp [List.filter_map, Function.comp_def]
theorem gd_nd {q : S_api_Qbf} (h : Gd q) : ((turnsP q.Prefix).map (·.v)).Nodup := by rw [turns_v]; exact h.nd
theorem pL_eq {q : S_api_Qbf} (hq : Sq q) {l : List S_api_Table} (hl : LSm l) : F_truth_Loses q l = some (losesV q l) := by
  unfold F_truth_Loses losesV
  rw [pmay_eq hq, Option.bind_some]
  cases hM : MayQ q
  · rfl
  have hg := gd_of hM
  simp only [Bool.not_true, Bool.false_eq_true, if_false, if_true]
  rw [univ_eq hq.vs, Option.bind_some]
  simp only
  rw [palike_eq hl, Option.bind_some]
  cases ha : alikeB (tabsT [] (turnsP q.Prefix)) l
  · rfl
  simp only [Bool.not_true, Bool.false_eq_true, if_false, if_true]
  rw [of_eq q hq.vs, Option.bind_some]
  simp only [jn_eq]
  have hts := turns_len q.Prefix
  have hvs := hq.vs
  by_cases hc : cntT 20 [] (turnsP q.Prefix) ≤ 4096 ∧ (turnsP q.Prefix).length ≤ 16
  · have h13 : ¬ ((cntT 13 [] (turnsP q.Prefix) : Nat) : Int) > 4096 := by
      rcases cnt_same (turnsP q.Prefix) [] with h | ⟨h, h2⟩ <;> omega
    have h16 : ¬ (((turnsP q.Prefix).length : Nat) : Int) > 16 := by omega
    rw [if_pos hc]
    simp only [h13, h16, decide_false, Bool.false_eq_true, if_false]
    have := ex_loop (turnsP q.Prefix) (by omega) (fun (s118 : List Int) => okI (0 ≤ ((s118.length : Nat) : Int)) (okI (-9223372036854775808 ≤ (0 : Int) ∧ (IntKind.wrap .i64 ((1 : Int) * 2 ^ (min ((s118.length : Nat) : Int).toNat (IntKind.bits .i64)))) ≤ 9223372036854775807) (some (true, (0 : Int)))))
    refine (rangeF_pre (turnsP q.Prefix) (fun pre s => s = exV pre) (fun _ _ _ => some (loseB q l, 0)) ?_ ?_ (turnsP q.Prefix) [] [] rfl rfl)
    · rintro s rfl
      have he := exV_len (turnsP q.Prefix)
      have hp := dual_plain hg
      have ht := dual_tof hg ha
      have hN : (((2 ^ (exV (turnsP q.Prefix)).length : Nat) : Int) - 0).toNat = 2 ^ (exV (turnsP q.Prefix)).length := by rw [Int.sub_zero, Int.toNat_natCast]
      rw [okI_eq (Int.natCast_nonneg _), okI_eq (wi_ok _), pw_eqT _ (by omega), hN]
      refine (upF_allN (A := some (false, 0)) (fun m => !satB q.Clauses (pairL (allP (dual q) l (sgM (exV (turnsP q.Prefix)) m)))) (2 ^ (exV (turnsP q.Prefix)).length) (fun m _ kk => ?_) (2 ^ (exV (turnsP q.Prefix)).length) 0 (by omega)).trans ?_
      · refine (prog_pt hp ht (by show (exV _).length ≤ 60; omega) (fun c hc x hx => (hg.lit hc hx).2) m (fun s => if s = true then (some (false, (0 : Int))) else (kk ()))).trans ?_
        show (if satB q.Clauses (pairL (allP (dual q) l (sgM (exV (turnsP q.Prefix)) m))) = true then _ else _) = _
        cases satB q.Clauses (pairL (allP (dual q) l (sgM (exV (turnsP q.Prefix)) m))) <;> simp
      · unfold loseB
        cases (List.range' 0 (2 ^ (exV (turnsP q.Prefix)).length)).all fun m => !satB q.Clauses (pairL (allP (dual q) l (sgM (exV (turnsP q.Prefix)) m))) <;> simp
    · rintro pre t xs s kk hf rfl hk
      have hp : pre.length < (turnsP q.Prefix).length := by rw [hf]; simp
      have he := exV_len pre
      by_cases hx : t.f_exists = true
      · simp only [hx, if_true]
        rw [capN_eq (by simp; omega)]
        exact hk _ (by rw [exV_snoc, if_pos hx])
      · simp only [hx, Bool.false_eq_true, if_false]
        exact hk _ (by rw [exV_snoc, if_neg hx, List.append_nil])
  · rw [if_neg hc]
    by_cases h13 : ((cntT 13 [] (turnsP q.Prefix) : Nat) : Int) > 4096
    · simp [h13]
    · have h16 : (((turnsP q.Prefix).length : Nat) : Int) > 16 := by
        rcases cnt_same (turnsP q.Prefix) [] with h | ⟨h, h2⟩ <;> omega
      simp [h13, h16]
end Go.Sk.X
namespace Go.Sk.X
open Go Go.Sk
def tabB : List S_api_Dep → List Bool → List S_api_Table
  | [], _ => []
  | e :: es, q => S_api_Table.mk e.Var e.On (q.take (2 ^ e.On.length)) :: tabB es (q.drop (2 ^ e.On.length))
theorem tabB_of : ∀ (es : List S_api_Dep) (q : List Bool), q.length = sz es → TOf es (tabB es q)
  | [], q, _ => ⟨rfl, by simp [tabB]⟩
  | e :: es, q, h => by
    rw [sz_cons] at h
    obtain ⟨h1, h2⟩ := tabB_of es (q.drop (2 ^ e.On.length)) (by rw [List.length_drop]; omega)
    refine ⟨by simp only [tabB, List.map_cons, h1], fun t ht => ?_⟩
    simp only [tabB, List.mem_cons] at ht
    rcases ht with rfl | ht
    · simp only [List.length_take]; omega
    · exact h2 t ht
theorem tabB_bits : ∀ (es : List S_api_Dep) (q : List Bool), q.length = sz es → bitsN (tabB es q) = sz es
  | [], q, _ => rfl
  | e :: es, q, h => by
    rw [sz_cons] at h ⊢
    have := tabB_bits es (q.drop (2 ^ e.On.length)) (by rw [List.length_drop]; omega)
    unfold bitsN at this ⊢
    simp only [tabB, List.map_cons, List.sum_cons, this, List.length_take]
    omega
theorem tabB_set : ∀ (es : List S_api_Dep) (q : List Bool) (i : Nat) (v : Bool), q.length = sz es → setB (tabB es q) i v = tabB es (q.set i v)
  | [], q, i, v, _ => rfl
  | e :: es, q, i, v, h => by
    rw [sz_cons] at h
    have hl : (q.take (2 ^ e.On.length)).length = 2 ^ e.On.length := by rw [List.length_take]; omega
    simp only [tabB, setB, hl]
    by_cases hi : i < 2 ^ e.On.length
    · rw [if_pos hi, List.take_set, List.drop_set, if_pos hi]
    · rw [if_neg hi, tabB_set es _ _ v (by rw [List.length_drop]; omega), List.take_set, List.drop_set, if_neg hi]
      congr 1
      rw [List.set_eq_of_length_le (by rw [hl]; omega)]
def numR : List Bool → Nat
  | [] => 0
  | b :: r => (if b = true then 1 else 0) + 2 * numR r
def num (q : List Bool) : Nat := numR q.reverse
theorem num_snoc (q : List Bool) (b : Bool) : num (q ++ [b]) = (if b = true then 1 else 0) + 2 * num q := by simp [num, numR]
theorem numR_bit : ∀ (r : List Bool) (i : Nat), (numR r).testBit i = r.getD i false
  | [], i => by simp [numR]
  | b :: r, i => by
    simp only [numR]
    rw [testBit_cons]
    rcases i with _ | i
    · simp
    · simpa using numR_bit r i
theorem bitsF_num (q : List Bool) : bitsF (num q) q.length q.length = q := by
  refine List.ext_getElem? (fun i => ?_)
  by_cases hi : i < q.length
  · rw [bitsF_get _ _ _ _ hi, num, numR_bit, List.getElem?_eq_getElem hi]
    congr 1
    rw [List.getD_eq_getElem?_getD, List.getElem?_reverse (by omega), show q.length - 1 - (q.length - 1 - i) = i by omega, List.getElem?_eq_getElem hi]
    rfl
  · rw [List.getElem?_eq_none (by rw [bitsF_len]; omega), List.getElem?_eq_none (by omega)]
theorem bitsF_split (n : Nat) : ∀ (a l b : Nat), bitsF n l (a + b) = bitsF n l a ++ bitsF n (l - a) b
  | 0, l, b => by simp [bitsF]
  | a + 1, l, b => by
    rw [show a + 1 + b = (a + b) + 1 by omega]
    simp only [bitsF, List.cons_append, bitsF_split n a (l - 1) b]
    rw [show l - 1 - a = l - (a + 1) by omega]
theorem tabB_num (n : Nat) : ∀ (es : List S_api_Dep) (l : Nat), tabB es (bitsF n l (sz es)) = numL n l es
  | [], l => rfl
  | e :: es, l => by
    rw [sz_cons, bitsF_split]
    have hl := bitsF_len n (2 ^ e.On.length) l
    simp only [tabB, numL]
    rw [List.take_append_of_le_length (by omega), List.take_of_length_le (by omega), List.drop_append_of_le_length (by omega), List.drop_of_length_le (by omega), List.nil_append, tabB_num n es]
theorem tab_q {es : List S_api_Dep} {q : List Bool} (h : q.length = sz es) : numL (num q) (sz es) es = tabB es q := by
  rw [← tabB_num, ← h, bitsF_num]
def leastL (W : List Bool → Bool) : List Bool → Nat → Option (List Bool)
  | p, 0 => if W p = true then some p else none
  | p, k + 1 => (leastL W (p ++ [false]) k).or (leastL W (p ++ [true]) k)
theorem least_none {W : List Bool → Bool} : ∀ (k : Nat) (p : List Bool), (∀ r, r.length = p.length + k → r.take p.length = p → W r = false) → leastL W p k = none
  | 0, p, h => by
    unfold leastL
    rw [h p (by simp) (by simp)]; rfl
  | k + 1, p, h => by
    unfold leastL
    have key : ∀ b, leastL W (p ++ [b]) k = none := fun b => least_none k (p ++ [b]) (fun r hr ht => h r (by simp at hr; omega) (by
      have := congrArg (List.take p.length) ht
      rw [List.take_take, List.take_append_of_le_length (Nat.le_refl _), List.take_of_length_le (Nat.le_refl _)] at this
      rwa [show min p.length (p ++ [b]).length = p.length by simp] at this))
    rw [key, key]; rfl
theorem fw_split (w : Nat → Bool) (tn : Nat → List S_api_Table) : ∀ (a b j : Nat), firstW w tn (a + b) j = if (firstW w tn a j).2 = 0 then firstW w tn a j else firstW w tn b (j + a)
  | 0, b, j => by simp [firstW]
  | a + 1, b, j => by
    rw [show a + 1 + b = (a + b) + 1 by omega]
    simp only [firstW]
    by_cases h : w j = true
    · simp [h]
    · simp only [h, Bool.false_eq_true, if_false]
      rw [fw_split w tn a b (j + 1), show j + 1 + a = j + (a + 1) by omega]
theorem least_fw {d : S_api_Dqbf} : ∀ (k : Nat) (p : List Bool), p.length + k = sz d.Exist → firstW (fun n => winB d (numL n (sz d.Exist) d.Exist)) (fun n => numL n (sz d.Exist) d.Exist) (2 ^ k) (num p * 2 ^ k) =
    match leastL (fun q => winB d (tabB d.Exist q)) p k with | some q => (tabB d.Exist q, 0) | none => ([], 6)
  | 0, p, h => by
    have h1 : p.length = sz d.Exist := by simpa using h
    show firstW _ _ 1 (num p * 1) = _
    rw [Nat.mul_one]
    simp only [firstW, leastL, tab_q h1]
    by_cases hw : winB d (tabB d.Exist p) = true
    · rw [if_pos hw, if_pos hw]
    · rw [if_neg hw, if_neg hw]
  | k + 1, p, h => by
    have e1 : 2 ^ (k + 1) = 2 ^ k + 2 ^ k := by rw [Nat.pow_succ]; omega
    have e2 : num p * 2 ^ (k + 1) = num (p ++ [false]) * 2 ^ k := by
      rw [num_snoc, Nat.pow_succ]; simp only [Bool.false_eq_true, if_false, Nat.zero_add]
      rw [Nat.mul_comm 2 (num p), Nat.mul_assoc, Nat.mul_comm (2 ^ k) 2]
    have e3 : num (p ++ [false]) * 2 ^ k + 2 ^ k = num (p ++ [true]) * 2 ^ k := by
      rw [num_snoc, num_snoc]; simp only [Bool.false_eq_true, if_false, if_true, Nat.zero_add]
      rw [Nat.add_mul, Nat.one_mul, Nat.add_comm]
    rw [e2, e1, fw_split, e3, least_fw k (p ++ [false]) (by simp; omega), least_fw k (p ++ [true]) (by simp; omega)]
    show _ = match (leastL _ (p ++ [false]) k).or (leastL _ (p ++ [true]) k) with | some q => _ | none => _
    cases leastL (fun q => winB d (tabB d.Exist q)) (p ++ [false]) k with
    | some q => rfl
    | none => simp
theorem findP_eq {d : S_api_Dqbf} (hN : sz d.Exist ≤ 1000000) (hB : ∀ (q : List Bool) (i : Nat), q.length = sz d.Exist → i ≤ sz d.Exist → ∃ b, F_truth_least_broken ⟨d, tabB d.Exist q⟩ (i : Int) = some b ∧ (b = true → ∀ r : List Bool, r.length = sz d.Exist → r.take i = q.take i → winB d (tabB d.Exist r) = false) ∧ (b = false → i = sz d.Exist → winB d (tabB d.Exist q) = true)) :
    ∀ (k n : Nat) (p : List Bool), p.length + k = sz d.Exist → k < n → findP d n (tabB d.Exist (p ++ List.replicate k false)) (p.length : Int) =
      some (match leastL (fun q => winB d (tabB d.Exist q)) p k with | some r => (true, tabB d.Exist r) | none => (false, tabB d.Exist (p ++ List.replicate k false)))
  | k, 0, p, _, h => by omega
  | k, n + 1, p, hp, hk => by
    have hql : (p ++ List.replicate k false).length = sz d.Exist := by simp; exact hp
    obtain ⟨b, hb, hb1, hb2⟩ := hB (p ++ List.replicate k false) p.length hql (by omega)
    have htk : (p ++ List.replicate k false).take p.length = p := by rw [List.take_append_of_le_length (Nat.le_refl _), List.take_of_length_le (Nat.le_refl _)]
    unfold findP
    rw [hb, Option.bind_some]
    cases b
    case true =>
      rw [least_none k p (fun r hr ht => hb1 rfl r (by omega) (by rw [ht, htk]))]
      rfl
    simp only [Bool.false_eq_true, if_false, tabB_bits _ _ hql]
    rcases k with _ | k
    · have hps : p.length = sz d.Exist := by simpa using hp
      have hw := hb2 rfl hps
      have e0 : ((p.length : Int) == (sz d.Exist : Int)) = true := by simp [hps]
      rw [if_pos e0]
      simp only [List.replicate_zero, List.append_nil] at hw ⊢
      simp only [leastL, hw, if_true]
    · have e0 : ((p.length : Int) == (sz d.Exist : Int)) = false := by simp; omega
      have hw : IntKind.wrap .i64 ((p.length : Int) + 1) = ((p.length + 1 : Nat) : Int) := by rw [wrap_id (by omega) (by omega)]; omega
      have s1 : ∀ v, (p ++ List.replicate (k + 1) false).set p.length v = p ++ [v] ++ List.replicate k false := fun v => by
        rw [List.set_append_right _ _ (Nat.le_refl _), Nat.sub_self, List.replicate_succ, List.set_cons_zero]; simp
      have s2 : ∀ u v : Bool, (p ++ [u] ++ List.replicate k false).set p.length v = p ++ [v] ++ List.replicate k false := fun u v => by
        rw [List.append_assoc, List.set_append_right _ _ (Nat.le_refl _), Nat.sub_self]; simp
      have l1 : ∀ v : Bool, (p ++ [v] ++ List.replicate k false).length = sz d.Exist := fun v => by simp; omega
      have ih := fun v : Bool => findP_eq hN hB k n (p ++ [v]) (by simp; omega) (by omega)
      simp only [List.length_append, List.length_singleton] at ih
      rw [e0, if_neg (by decide), okI_eq ⟨by omega, by omega⟩, Int.toNat_natCast, tabB_set _ _ _ _ hql, s1, hw, ih false, Option.bind_some]
      simp only [leastL]
      cases h1 : leastL (fun q => winB d (tabB d.Exist q)) (p ++ [false]) k with
      | some r => simp
      | none =>
        simp only [Bool.false_eq_true, if_false, Option.none_or]
        rw [tabB_bits _ _ (l1 false), okI_eq (by omega), tabB_set _ _ _ _ (l1 false), s2, ih true, Option.bind_some]
        cases h2 : leastL (fun q => winB d (tabB d.Exist q)) (p ++ [true]) k with
        | some r => simp
        | none =>
          simp only [Bool.false_eq_true, if_false]
          rw [tabB_bits _ _ (l1 true), okI_eq (by omega), tabB_set _ _ _ _ (l1 true), s2]
          simp [List.replicate_succ]
end Go.Sk.X
namespace Go.Sk.X
open Go Go.Sk
def kpos (σ : Int → Bool) : Nat → List S_api_Table → Int → Option Nat
  | _, [], _ => none
  | b, t :: ts, v => if t.Var = v then some (b + ixF σ t.On) else kpos σ (b + t.Bits.length) ts v
theorem kpos_snoc (σ : Int → Bool) : ∀ (ts : List S_api_Table) (b : Nat) (t : S_api_Table) (v : Int), kpos σ b (ts ++ [t]) v = (kpos σ b ts v).or (if t.Var = v then some (b + bitsN ts + ixF σ t.On) else none)
  | [], b, t, v => by simp [kpos, bitsN]
  | x :: ts, b, t, v => by
    simp only [List.cons_append, kpos]
    by_cases h : x.Var = v
    · simp [h]
    · rw [if_neg h, if_neg h, kpos_snoc σ ts]
      have : b + x.Bits.length + bitsN ts = b + bitsN (x :: ts) := by simp [bitsN]; omega
      rw [this]
theorem kpos_none (σ : Int → Bool) : ∀ (ts : List S_api_Table) (b : Nat) (v : Int), v ∉ ts.map (·.Var) → kpos σ b ts v = none
  | [], _, _, _ => rfl
  | t :: ts, b, v, h => by
    simp only [List.map_cons, List.mem_cons, not_or] at h
    simp only [kpos]
    rw [if_neg (fun e => h.1 e.symm), kpos_none σ ts _ v h.2]
theorem kpos_tab (σ : Int → Bool) : ∀ (es : List S_api_Dep) (q : List Bool) (b : Nat) (v : Int), q.length = sz es →
    (kpos σ b (tabB es q) v = none ∧ v ∉ es.map (·.Var)) ∨ (∃ k, kpos σ b (tabB es q) v = some (b + k) ∧ k < sz es ∧ v ∈ es.map (·.Var) ∧ ∀ r : List Bool, r.length = sz es → fOf (tabB es r) v σ = r.getD k false ∧ kpos σ b (tabB es r) v = some (b + k))
  | [], q, b, v, _ => .inl ⟨rfl, by simp⟩
  | e :: es, q, b, v, h => by
    rw [sz_cons] at h
    have hl : ∀ r : List Bool, r.length = sz (e :: es) → (r.take (2 ^ e.On.length)).length = 2 ^ e.On.length := fun r hr => by rw [sz_cons] at hr; rw [List.length_take]; omega
    have hix := ixF_lt σ e.On
    by_cases hv : e.Var = v
    · refine .inr ⟨ixF σ e.On, by simp [tabB, kpos, hv], by rw [sz_cons]; omega, by simp [hv], fun r hr => ⟨?_, by simp [tabB, kpos, hv]⟩⟩
      unfold fOf
      simp only [tabB, List.find?_cons, hv, decide_true]
      show (r.take (2 ^ e.On.length)).getD (ixF σ e.On) false = _
      rw [List.getD_eq_getElem?_getD, List.getD_eq_getElem?_getD, List.getElem?_take, if_pos hix]
    · have hq : (q.drop (2 ^ e.On.length)).length = sz es := by rw [List.length_drop]; omega
      have hk : ∀ r : List Bool, r.length = sz (e :: es) → kpos σ b (tabB (e :: es) r) v = kpos σ (b + 2 ^ e.On.length) (tabB es (r.drop (2 ^ e.On.length))) v := fun r hr => by
        simp only [tabB, kpos, hl r hr]
        rw [if_neg hv]
      rcases kpos_tab σ es (q.drop (2 ^ e.On.length)) (b + 2 ^ e.On.length) v hq with ⟨h1, h2⟩ | ⟨k, h1, h2, h3, h4⟩
      · exact .inl ⟨by rw [hk q (by rw [sz_cons]; exact h), h1], by simp only [List.map_cons, List.mem_cons, not_or]; exact ⟨fun e => hv e.symm, h2⟩⟩
      · refine .inr ⟨2 ^ e.On.length + k, by rw [hk q (by rw [sz_cons]; exact h), h1, Nat.add_assoc], by rw [sz_cons]; omega, by simp [h3], fun r hr => ?_⟩
        have hr2 : (r.drop (2 ^ e.On.length)).length = sz es := by rw [sz_cons] at hr; rw [List.length_drop]; omega
        obtain ⟨g1, g2⟩ := h4 (r.drop (2 ^ e.On.length)) hr2
        refine ⟨?_, by rw [hk r hr, g2, Nat.add_assoc]⟩
        have : fOf (tabB (e :: es) r) v σ = fOf (tabB es (r.drop (2 ^ e.On.length))) v σ := by
          unfold fOf
          simp only [tabB, List.find?_cons, hv, decide_false]
        rw [this, g1, List.getD_eq_getElem?_getD, List.getD_eq_getElem?_getD, List.getElem?_drop]
def lostB (d : S_api_Dqbf) (ts : List S_api_Table) (i : Nat) (σ : Int → Bool) (x : Int) : Bool := !litT (asg d (fOf ts) σ) x && (match kpos σ 0 ts (av x) with | some k => decide (k < i) | none => true)
theorem lits_lost {R : Type} (lost : Int → Bool) (c : List Int) {f : Nat → Int → Unit → (Unit → Option R) → Option R} {k : Unit → Option R} {A B : Option R} (hk : k () = A) (h : ∀ (j : Nat) x kk, x ∈ c → f j x () kk = if lost x = true then kk () else B) :
    rangeF f 0 c () k = if (c.all lost) = true then A else B := by
  refine rangeF_pre c (fun _ _ => True) (fun _ xs _ => if (xs.all lost) = true then A else B) (fun _ _ => by simp [hk]) ?_ c [] () rfl trivial
  intro pre x xs s kk hf _ hk2
  rw [show s = () from rfl, h pre.length x kk (by rw [hf]; simp), hk2 () trivial, List.all_cons]
  cases lost x
  · simp
  · rw [Bool.true_and, if_pos rfl]
theorem cls_lost {R : Type} (bad : List Int → Bool) (cs : List (List Int)) {f : Nat → List Int → Unit → (Unit → Option R) → Option R} {k : Unit → Option R} {A B : Option R} (hk : k () = B) (h : ∀ (j : Nat) c kk, c ∈ cs → f j c () kk = if bad c = true then A else kk ()) :
    rangeF f 0 cs () k = if (cs.any bad) = true then A else B := by
  refine rangeF_pre cs (fun _ _ => True) (fun _ xs _ => if (xs.any bad) = true then A else B) (fun _ _ => by simp [hk]) ?_ cs [] () rfl trivial
  intro pre x xs s kk hf _ hk2
  rw [show s = () from rfl, h pre.length x kk (by rw [hf]; simp), hk2 () trivial, List.any_cons]
  cases bad x <;> simp
theorem broken_eq {d : S_api_Dqbf} (hm : May d) (hf : Few d) {ts : List S_api_Table} (ht : TOf d.Exist ts) (hb : bitsN ts ≤ 1000) (i : Nat) :
    F_truth_least_broken ⟨d, ts⟩ (i : Int) = some (!((List.range' 0 (2 ^ d.Univ.length)).all fun m => !(d.Clauses.any fun c => c.all (lostB d ts i (sgM d.Univ m))))) := by
  unfold F_truth_least_broken
  have hu := hf.univ
  have hp := plain_of hm
  have hvs : ts.map (·.Var) = varsD d := ht.vars
  have hN : (((2 ^ d.Univ.length : Nat) : Int) - 0).toNat = 2 ^ d.Univ.length := by rw [Int.sub_zero, Int.toNat_natCast]
  dsimp only
  rw [okI_eq (Int.natCast_nonneg _), okI_eq (wi_ok _), pw_eqT _ (by omega), hN]
  refine (upF_allN (A := some true) (fun m => !(d.Clauses.any fun c => c.all (lostB d ts i (sgM d.Univ m)))) (2 ^ d.Univ.length) (fun m _ kk => ?_) (2 ^ d.Univ.length) 0 (by omega)).trans ?_
  · refine points_map hp.und (by omega) m _ _ (fun mp hmp => ?_)
    simp only [jn_eq]
    have hnd : (ts.map (·.Var)).Nodup := by rw [hvs]; exact hp.vnd
    refine rangeF_pre ts (fun pre s => s.1 = (bitsN pre : Int) ∧ (∀ v, (mget s.2.1 v).getD false = if v ∈ d.Univ then sgM d.Univ m v else fOf pre v (sgM d.Univ m)) ∧ ∀ v, mget s.2.2 v = (kpos (sgM d.Univ m) 0 pre v).map fun k => decide (k < i))
      (fun _ _ _ => if (!(d.Clauses.any fun c => c.all (lostB d ts i (sgM d.Univ m)))) = true then kk () else some true) ?_ ?_ ts [] (0, mp, []) rfl ⟨rfl, fun v => by rw [hmp v]; by_cases hv : v ∈ d.Univ <;> simp [hv, fOf], fun v => rfl⟩
    · rintro ⟨n, v1, kn⟩ ⟨-, h1, h2⟩
      simp only at h1 h2 ⊢
      refine (cls_lost (fun c => c.all (lostB d ts i (sgM d.Univ m))) d.Clauses (A := some true) (B := kk ()) rfl (fun j c k2 hc => ?_)).trans ?_
      · refine lits_lost (lostB d ts i (sgM d.Univ m)) c (by rfl) (fun j2 x k3 hx => ?_)
        have hxr := (nrm_lit (hm.nrm c hc) hx).2
        have hav : imx x (IntKind.wrap .i64 (0 - x)) = av x := by
          rw [wrap_id (by omega) (by omega)]
          unfold imx av
          by_cases hn : x < 0
          · rw [if_pos hn]; split <;> omega
          · rw [if_neg hn]; split <;> omega
        have hg : (if x < 0 then !(mget v1 (IntKind.wrap .i64 (0 - x))).getD false else (mget v1 x).getD false) = litT (asg d (fOf ts) (sgM d.Univ m)) x := by
          unfold litT
          have e : ∀ v, (mget v1 v).getD false = asg d (fOf ts) (sgM d.Univ m) v := fun v => by rw [h1 v]; rfl
          by_cases hn : x < 0
          · rw [if_pos hn, if_pos hn, e, wrap_id (by omega) (by omega), show av x = 0 - x by unfold av; rw [if_pos hn]; omega]
          · rw [if_neg hn, if_neg hn, e, show av x = x by unfold av; rw [if_neg hn]]
        rw [hav, h2 (av x)]
        unfold lostB
        rw [← hg]
        by_cases hn : x < 0
        · simp only [hn, decide_true, if_true]
          cases (mget v1 (IntKind.wrap .i64 (0 - x))).getD false <;> cases kpos (sgM d.Univ m) 0 ts (av x) with
          | none => simp
          | some k => by_cases hk : k < i <;> simp [hk]
        · simp only [hn, decide_false, Bool.false_eq_true, if_false]
          cases (mget v1 x).getD false <;> cases kpos (sgM d.Univ m) 0 ts (av x) with
          | none => simp
          | some k => by_cases hk : k < i <;> simp [hk]
      · cases d.Clauses.any fun c => c.all (lostB d ts i (sgM d.Univ m)) <;> simp
    · rintro pre t xs ⟨n, v1, kn⟩ k2 hfu ⟨h0, h1, h2⟩ hk
      simp only at h0 h1 h2 ⊢
      subst h0
      have hmt : t ∈ ts := by rw [hfu]; simp
      obtain ⟨e, he, g1, g2⟩ := ht.mem hmt
      have ho := hp.on e he
      have hol : t.On.length ≤ 4 := by rw [← g2]; exact hf.on e he
      have hbl := ht.2 t hmt
      have hpre : t.Var ∉ pre.map (·.Var) := fun hm2 => by
        rw [hfu, List.map_append, List.map_cons] at hnd
        exact (List.nodup_append.1 hnd).2.2 _ hm2 _ (by simp) rfl
      have htu : t.Var ∉ d.Univ := fun hu2 => hp.sep hu2 (by rw [← hvs]; exact List.mem_map.2 ⟨t, hmt, rfl⟩)
      have hbp : bitsN pre + t.Bits.length ≤ bitsN ts := by rw [hfu]; simp [bitsN]
      refine rangeF_pre t.On (fun p q => q = (ixF (sgM d.Univ m) p : Int)) (fun _ _ _ => if (!(d.Clauses.any fun c => c.all (lostB d ts i (sgM d.Univ m)))) = true then kk () else some true) ?_ ?_ t.On [] 0 rfl rfl
      · rintro q rfl
        have hix := ixF_lt (sgM d.Univ m) t.On
        have hlt : ixF (sgM d.Univ m) t.On < t.Bits.length := by rw [hbl]; exact hix
        rw [getI_nat, List.getElem?_eq_getElem hlt]
        simp only
        have hbit : t.Bits[ixF (sgM d.Univ m) t.On] = bitT t (sgM d.Univ m) := by unfold bitT; rw [List.getD_eq_getElem?_getD, List.getElem?_eq_getElem hlt]; rfl
        rw [hbit, wrap_id (by omega) (by omega), wrap_id (by omega) (by omega)]
        refine hk _ ⟨by simp [bitsN], fun v => ?_, fun v => ?_⟩
        · rw [mget_mset]
          by_cases hv : v = t.Var
          · subst hv
            rw [if_pos rfl, if_neg htu, fOf_snoc_self hpre]; rfl
          · rw [if_neg hv, h1 v, fOf_snoc_ne hv]
        · rw [mget_mset, kpos_snoc]
          by_cases hv : v = t.Var
          · subst hv
            rw [if_pos rfl, kpos_none _ _ _ _ hpre, if_pos rfl]
            have : decide (((bitsN pre : Nat) : Int) + (ixF (sgM d.Univ m) t.On : Int) < (i : Int)) = decide (0 + bitsN pre + ixF (sgM d.Univ m) t.On < i) := decide_eq_decide.2 (by omega)
            simp [this]
          · rw [if_neg hv, h2 v, if_neg (fun e => hv e.symm)]
            simp
      · rintro p x ys q k3 hf2 rfl hk3
        have hlen : p.length < t.On.length := by rw [hf2]; simp
        have hx : x ∈ d.Univ := ho.2 x (by rw [g2, hf2]; simp)
        have hm3 := ixF_lt (sgM d.Univ m) p
        have hk' := hk3 _ rfl
        rw [ixF_snoc] at hk'
        rw [h1 x, if_pos hx]
        cases hs : sgM d.Univ m x
        · rw [hs] at hk'
          simpa using hk'
        · rw [hs] at hk'
          rw [if_pos rfl, okI_eq (Int.natCast_nonneg _), pw_eqT _ (by omega), or_val hm3 (by omega)]
          exact hk'
  · cases (List.range' 0 (2 ^ d.Univ.length)).all fun m => !(d.Clauses.any fun c => c.all (lostB d ts i (sgM d.Univ m))) <;> simp
end Go.Sk.X
namespace Go.Sk.X
open Go Go.Sk
theorem broken_says {d : S_api_Dqbf} (hm : May d) (hf : Few d) (q : List Bool) (i : Nat) (hq : q.length = sz d.Exist) (hi : i ≤ sz d.Exist) :
    ∃ b, F_truth_least_broken ⟨d, tabB d.Exist q⟩ (i : Int) = some b ∧ (b = true → ∀ r : List Bool, r.length = sz d.Exist → r.take i = q.take i → winB d (tabB d.Exist r) = false) ∧ (b = false → i = sz d.Exist → winB d (tabB d.Exist q) = true) := by
  have hp := plain_of hm
  have hb := hf.bits
  refine ⟨_, broken_eq hm hf (tabB_of _ _ hq) (by rw [tabB_bits _ _ hq]; omega) i, fun h r hr ht => ?_, fun h hi2 => ?_⟩
  · rw [Bool.not_eq_true'] at h
    obtain ⟨m, hmm, hc⟩ := List.all_eq_false.1 h
    rw [Bool.not_eq_true, Bool.not_eq_false'] at hc
    obtain ⟨c, hc1, hc2⟩ := List.any_eq_true.1 hc
    rw [List.all_eq_true] at hc2
    refine Bool.eq_false_iff.2 (fun hw => ?_)
    obtain ⟨x, hx, hl⟩ := (sat_iff hp (tabB_of _ _ hr) _).1 ((winB_iff hp (tabB_of _ _ hr)).1 hw (sgM d.Univ m)) c hc1
    have h2 := hc2 x hx
    unfold lostB at h2
    simp only [Bool.and_eq_true, Bool.not_eq_true'] at h2
    have hag : asg d (fOf (tabB d.Exist r)) (sgM d.Univ m) (av x) = asg d (fOf (tabB d.Exist q)) (sgM d.Univ m) (av x) := by
      unfold asg
      by_cases hu : av x ∈ d.Univ
      · rw [if_pos hu, if_pos hu]
      · rw [if_neg hu, if_neg hu]
        have hv := ((hp.wi c hc1 x hx).2).resolve_left hu
        rcases kpos_tab (sgM d.Univ m) d.Exist q 0 (av x) hq with ⟨_, h3⟩ | ⟨k, h3, h4, h5, h6⟩
        · exact absurd hv h3
        · rw [(h6 r hr).1, (h6 q hq).1]
          have h7 := h2.2
          rw [h3] at h7
          have h8 : k < i := by simpa using h7
          have h9 : (r.take i)[k]? = (q.take i)[k]? := by rw [ht]
          rw [List.getElem?_take, List.getElem?_take, if_pos h8, if_pos h8] at h9
          rw [List.getD_eq_getElem?_getD, List.getD_eq_getElem?_getD, h9]
    rw [litT_congr hag, h2.1] at hl
    exact absurd hl (by decide)
  · rw [Bool.not_eq_false'] at h
    unfold winB
    rw [List.all_eq_true] at h ⊢
    intro m hmm
    rw [sat_iff hp (tabB_of _ _ hq)]
    intro c hc
    have h1 := h m hmm
    rw [Bool.not_eq_true'] at h1
    have h2 := List.any_eq_false.1 h1 c hc
    rw [Bool.not_eq_true] at h2
    obtain ⟨x, hx, hl⟩ := List.all_eq_false.1 h2
    refine ⟨x, hx, ?_⟩
    refine Classical.byContradiction fun hn => hl ?_
    unfold lostB
    rw [Bool.not_eq_true] at hn
    rw [hn]
    rcases kpos_tab (sgM d.Univ m) d.Exist q 0 (av x) hq with ⟨h3, _⟩ | ⟨k, h3, h4, _⟩
    · rw [h3]; rfl
    · rw [h3]
      have : k < i := by omega
      simp [this]
theorem tabB_new : ∀ es : List S_api_Dep, tabB es (List.replicate (sz es) false) = es.map fun e => S_api_Table.mk e.Var e.On (List.replicate (2 ^ e.On.length) false)
  | [] => rfl
  | e :: es => by
    rw [sz_cons, List.map_cons, ← tabB_new es]
    simp only [tabB, List.take_replicate, List.drop_replicate]
    rw [show min (2 ^ e.On.length) (2 ^ e.On.length + sz es) = 2 ^ e.On.length by omega, show 2 ^ e.On.length + sz es - 2 ^ e.On.length = sz es by omega]
theorem newF_eq {d : S_api_Dqbf} (hm : May d) (hf : Few d) : newF d = some (tabB d.Exist (List.replicate (sz d.Exist) false)) := by
  have hl := hm.len
  have hb := hf.bits
  unfold newF
  refine rangeF_pre d.Exist (fun pre s => s = pre.map fun e => S_api_Table.mk e.Var e.On (List.replicate (2 ^ e.On.length) false)) (fun _ _ _ => some (tabB d.Exist (List.replicate (sz d.Exist) false))) ?_ ?_ d.Exist [] [] rfl rfl
  · rintro s rfl
    rw [← tabB_new, tabB_bits _ _ (by simp)]
    have h2 : (tabB d.Exist (List.replicate (sz d.Exist) false)).length = d.Exist.length := by rw [tabB_new, List.length_map]
    rw [okI_eq ⟨by omega, by omega⟩]
  · rintro pre x xs s kk hfu rfl hk
    have hx : x ∈ d.Exist := by rw [hfu]; simp
    have ho := hf.on x hx
    have hlen : pre.length < d.Exist.length := by rw [hfu]; simp
    have hp : 2 ^ x.On.length ≤ 2 ^ 4 := pw_le ho
    have hq : (2 : Nat) ^ 4 = 16 := rfl
    have hc : cntI x = ((2 ^ x.On.length : Nat) : Int) := pw_eqT _ (by omega)
    rw [clone_eq (by omega), Option.bind_some, okI_eq (Int.natCast_nonneg _), hc, Int.toNat_natCast, okI_eq ⟨Int.natCast_nonneg _, by omega⟩, okI_eq (by rw [List.length_map]; omega)]
    exact hk _ (by simp)
def skR (d : S_api_Dqbf) : List S_api_Table × Int := if MayD d = true then (if fewB d = true then skV d else ([], 3)) else ([], 2)
theorem pskol {d : S_api_Dqbf} (h : Sm d) : F_truth_Skolem d = some (skR d) := by
  unfold F_truth_Skolem skR
  rw [mayp_eq h, Option.bind_some]
  cases hM : MayD d
  · rfl
  have hm := may_of hM
  have hl := hm.len
  rw [few_eq (by omega)]
  cases hF : fewB d
  · rfl
  have hf := few_of hF
  have hb := hf.bits
  have e1 := findP_eq (d := d) (by omega) (broken_says hm hf) (sz d.Exist) 1000000 [] (by simp) (by omega)
  rw [List.nil_append] at e1
  have e2 := least_fw (d := d) (sz d.Exist) [] (by simp)
  have e3 : num [] = 0 := rfl
  rw [e3, Nat.zero_mul] at e2
  simp only [Option.bind_some, newF_eq hm hf, Bool.not_true, Bool.false_eq_true, if_false, if_true]
  have h00 : ((0 : Int) != 0) = false := rfl
  rw [h00, if_neg (by decide)]
  have e4 : findP d 1000000 (tabB d.Exist (List.replicate (sz d.Exist) false)) 0 = _ := e1
  rw [e4]
  unfold skV
  rw [e2]
  cases leastL (fun q => winB d (tabB d.Exist q)) [] (sz d.Exist) <;> rfl
end Go.Sk.X
namespace Go.Sk.X
open Go Go.Sk
theorem rs_iff : ∀ {l : List Int} {c : Int}, rsB c l = true ↔ l.Pairwise (· < ·) ∧ ∀ x ∈ l, c < x ∧ x ≤ 65536
  | [], c => by simp [rsB]
  | x :: xs, c => by
    rw [rsB_cons, rs_iff (l := xs), List.pairwise_cons]
    constructor
    · rintro ⟨h1, h2, h3, h4⟩
      refine ⟨⟨fun y hy => (h4 y hy).1, h3⟩, fun y hy => ?_⟩
      rcases List.mem_cons.1 hy with rfl | hy
      · exact ⟨h1, h2⟩
      · have := h4 y hy; omega
    · rintro ⟨⟨h1, h2⟩, h3⟩
      exact ⟨(h3 x (by simp)).1, (h3 x (by simp)).2, h2, fun y hy => ⟨h1 y hy, (h3 y (by simp [hy])).2⟩⟩
end Go.Sk.X
namespace Go.Sk.X
open Go Go.Sk
def dqV (d : S_api_Dqbf) : Int × Int := if ((skR d).2 == (0 : Int)) = true then (1, 0) else if ((skR d).2 == (6 : Int)) = true then (2, 0) else (0, (skR d).2)
theorem pdq {d : S_api_Dqbf} (h : Sm d) : F_truth_Dqbf d = some (dqV d) := by
  unfold F_truth_Dqbf dqV
  rw [pskol h, Option.bind_some]
  by_cases c1 : ((skR d).2 == (0 : Int)) = true
  · rw [if_pos c1, if_pos c1]
  by_cases c2 : ((skR d).2 == (6 : Int)) = true
  · rw [if_neg c1, if_pos c2, if_neg c1, if_pos c2]
  · rw [if_neg c1, if_neg c2, if_neg c1, if_neg c2]
theorem skV_sem {d : S_api_Dqbf} (hm : May d) : ((skV d).2 = 0 ∧ Sem d) ∨ ((skV d).2 = 6 ∧ ¬ Sem d) := by
  have hp := plain_of hm
  rcases firstW_snd (fun n => winB d (numL n (sz d.Exist) d.Exist)) (fun n => numL n (sz d.Exist) d.Exist) (2 ^ sz d.Exist) 0 with ⟨⟨i, hi, hw⟩, h2⟩ | ⟨h1, h2⟩
  · exact .inl ⟨h2, (sem_num hp).2 ⟨0 + i, by omega, (winB_iff hp (numL_of _ _ _)).1 hw⟩⟩
  · refine .inr ⟨h2, fun hs => ?_⟩
    obtain ⟨n, hn, hh⟩ := (sem_num hp).1 hs
    have := h1 n hn
    rw [Nat.zero_add, (winB_iff hp (numL_of n _ _)).2 hh] at this
    exact absurd this (by decide)
theorem dqV_may {d : S_api_Dqbf} (hM : MayD d = true) : (fewB d = true ∧ ((dqV d = (1, 0) ∧ Sem d) ∨ (dqV d = (2, 0) ∧ ¬ Sem d))) ∨ (fewB d = false ∧ dqV d = (0, 3)) := by
  cases hF : fewB d
  · refine .inr ⟨rfl, ?_⟩
    unfold dqV skR
    rw [if_pos hM, hF]
    rfl
  · refine .inl ⟨rfl, ?_⟩
    unfold dqV skR
    rw [if_pos hM, if_pos hF]
    rcases skV_sem (may_of hM) with ⟨h1, h2⟩ | ⟨h1, h2⟩
    · exact .inl ⟨by rw [h1]; rfl, h2⟩
    · exact .inr ⟨by rw [h1]; rfl, h2⟩
end Go.Sk.X
namespace Go.Sk.X
open Go Go.Sk
def flatT (ts : List S_api_Table) : List Bool := (ts.map (·.Bits)).flatten
theorem flatT_cons (t : S_api_Table) (ts : List S_api_Table) : flatT (t :: ts) = t.Bits ++ flatT ts := rfl
theorem tof_cons {e : S_api_Dep} {es : List S_api_Dep} {t : S_api_Table} {ts : List S_api_Table} : TOf (e :: es) (t :: ts) ↔ (t.Var = e.Var ∧ t.On = e.On ∧ t.Bits.length = 2 ^ e.On.length) ∧ TOf es ts := by
  constructor
  · rintro ⟨h1, h2⟩
    simp only [List.map_cons, List.cons.injEq, Prod.mk.injEq] at h1
    have := h2 t (by simp)
    rw [h1.1.2] at this
    exact ⟨⟨h1.1.1, h1.1.2, this⟩, h1.2, fun x hx => h2 x (by simp [hx])⟩
  · rintro ⟨⟨h1, h2, h3⟩, h4, h5⟩
    refine ⟨by simp [h1, h2, h4], fun x hx => ?_⟩
    rcases List.mem_cons.1 hx with rfl | hx
    · rw [h3, h2]
    · exact h5 x hx
theorem tof_flat : ∀ {es : List S_api_Dep} {ts : List S_api_Table}, TOf es ts → (flatT ts).length = sz es ∧ tabB es (flatT ts) = ts
  | [], [], _ => ⟨rfl, rfl⟩
  | [], t :: ts, h => by have := h.1; simp at this
  | e :: es, [], h => by have := h.1; simp at this
  | e :: es, t :: ts, h => by
    obtain ⟨⟨h1, h2, h3⟩, h4⟩ := tof_cons.1 h
    obtain ⟨g1, g2⟩ := tof_flat h4
    rw [flatT_cons]
    refine ⟨by rw [List.length_append, sz_cons, h3, g1], ?_⟩
    simp only [tabB]
    rw [List.take_append_of_le_length (by omega), List.take_of_length_le (by omega), List.drop_append_of_le_length (by omega), List.drop_of_length_le (by omega), List.nil_append, g2, ← h1, ← h2]
theorem flat_tab : ∀ {es : List S_api_Dep} {q : List Bool}, q.length = sz es → flatT (tabB es q) = q
  | [], q, h => by
    have : q = [] := List.eq_nil_of_length_eq_zero h
    subst this; rfl
  | e :: es, q, h => by
    rw [sz_cons] at h
    simp only [tabB, flatT_cons]
    rw [flat_tab (by rw [List.length_drop]; omega), List.take_append_drop]
theorem sz_ge : ∀ es : List S_api_Dep, es.length ≤ sz es
  | [] => by simp
  | e :: es => by
    rw [sz_cons, List.length_cons]
    have := sz_ge es
    have := Nat.two_pow_pos e.On.length
    omega
theorem least_lost {W : List Bool → Bool} : ∀ (k : Nat) (p : List Bool), leastL W p k = none → ∀ s : List Bool, s.length = k → W (p ++ s) = false
  | 0, p, h, s, hs => by
    have : s = [] := List.eq_nil_of_length_eq_zero hs
    subst this
    unfold leastL at h
    split at h
    · simp at h
    · rename_i hw
      rw [List.append_nil]
      exact Bool.eq_false_iff.2 hw
  | k + 1, p, h, s, hs => by
    unfold leastL at h
    rw [Option.or_eq_none_iff] at h
    cases s with
    | nil => simp at hs
    | cons b s =>
      have hs2 : s.length = k := by simpa using hs
      have e : p ++ b :: s = (p ++ [b]) ++ s := by simp
      rw [e]
      cases b
      · exact least_lost k _ h.1 s hs2
      · exact least_lost k _ h.2 s hs2
theorem least_min {W : List Bool → Bool} : ∀ (k : Nat) (p r : List Bool), leastL W p k = some r → W r = true ∧ ∃ s, r = p ++ s ∧ s.length = k ∧ ∀ c a b : List Bool, s = c ++ true :: a → b.length = a.length → W (p ++ (c ++ false :: b)) = false
  | 0, p, r, h => by
    unfold leastL at h
    split at h
    · rename_i hw
      injection h with h; subst h
      exact ⟨hw, [], by simp, rfl, fun c a b h _ => by simp at h⟩
    · simp at h
  | k + 1, p, r, h => by
    unfold leastL at h
    cases h1 : leastL W (p ++ [false]) k with
    | some x =>
      rw [h1, Option.some_or] at h
      injection h with h; subst h
      obtain ⟨g1, s, g2, g3, g4⟩ := least_min k _ _ h1
      refine ⟨g1, false :: s, by rw [g2]; simp, by simp [g3], fun c a b hc hb => ?_⟩
      cases c with
      | nil => simp at hc
      | cons y c =>
        rw [List.cons_append, List.cons.injEq] at hc
        have := g4 c a b hc.2 hb
        rw [← hc.1]
        simpa using this
    | none =>
      rw [h1, Option.none_or] at h
      obtain ⟨g1, s, g2, g3, g4⟩ := least_min k _ _ h
      refine ⟨g1, true :: s, by rw [g2]; simp, by simp [g3], fun c a b hc hb => ?_⟩
      cases c with
      | nil =>
        simp only [List.nil_append, List.cons.injEq, true_and] at hc
        have := least_lost k _ h1 b (by rw [hb, ← hc]; exact g3)
        simpa using this
      | cons y c =>
        rw [List.cons_append, List.cons.injEq] at hc
        have := g4 c a b hc.2 hb
        rw [← hc.1]
        simpa using this
def LInv (f : Int) (P Q : List Bool) : Prop := P.length = Q.length ∧ ((f = 0 ∧ P = Q) ∨ (f = 1 ∧ ∃ c a b, P = c ++ true :: a ∧ Q = c ++ false :: b) ∨ f = 2)
theorem LInv.step {f : Int} {P Q : List Bool} (h : LInv f P Q) (p b : Bool) : LInv (if (f == (0 : Int)) = true then (if (!(b == p)) = true then (if b = true then 2 else 1) else f) else f) (P ++ [p]) (Q ++ [b]) := by
  obtain ⟨h0, h⟩ := h
  refine ⟨by simp [h0], ?_⟩
  rcases h with ⟨rfl, rfl⟩ | ⟨rfl, c, x, y, rfl, rfl⟩ | rfl
  · cases b <;> cases p
    · exact .inl ⟨rfl, rfl⟩
    · exact .inr (.inl ⟨rfl, P, [], [], rfl, rfl⟩)
    · exact .inr (.inr rfl)
    · exact .inl ⟨rfl, rfl⟩
  · exact .inr (.inl ⟨rfl, c, x ++ [p], y ++ [b], by simp, by simp⟩)
  · exact .inr (.inr rfl)
theorem skV_least {d : S_api_Dqbf} {l : List S_api_Table} (h : skV d = (l, 0)) : winB d l = true ∧ TOf d.Exist l ∧ ∀ M, TOf d.Exist M → LInv 1 (flatT l) (flatT M) → winB d M = false := by
  have e := least_fw (d := d) (sz d.Exist) [] (by simp)
  have e3 : num [] = 0 := rfl
  rw [e3, Nat.zero_mul] at e
  unfold skV at h
  rw [e] at h
  cases hL : leastL (fun q => winB d (tabB d.Exist q)) [] (sz d.Exist) with
  | none => rw [hL] at h; simp at h
  | some r =>
    rw [hL] at h
    simp only [Prod.mk.injEq] at h
    obtain ⟨g1, s, g2, g3, g4⟩ := least_min _ _ _ hL
    rw [List.nil_append] at g2; subst g2
    have hl := h.1
    subst hl
    refine ⟨g1, tabB_of _ _ g3, fun M hM hI => ?_⟩
    obtain ⟨f1, f2⟩ := tof_flat hM
    rw [flat_tab g3] at hI
    obtain ⟨h0, h | ⟨_, c, a, b, h1, h2⟩ | h⟩ := hI
    · exact absurd h.1 (by decide)
    · have := g4 c a b h1 (by rw [h1, h2] at h0; simp at h0; omega)
      rw [List.nil_append, ← h2, f2] at this
      exact this
    · exact absurd h (by decide)
theorem alike_tof {d : S_api_Dqbf} {M : List S_api_Table} (h : TOf d.Exist M) : alikeB (wantD d) M = true := by
  unfold alikeB wantD
  obtain ⟨h1, h2⟩ := h
  have hl : M.length = d.Exist.length := by have := congrArg List.length h1; simpa using this
  rw [Bool.and_eq_true]
  refine ⟨by simp [hl], ?_⟩
  rw [List.all_eq_true]
  rintro ⟨a, b⟩ hm
  obtain ⟨i, hi⟩ := List.mem_iff_getElem?.1 hm
  rw [List.getElem?_zip_eq_some] at hi
  obtain ⟨ha, hb⟩ := hi
  rw [List.getElem?_map] at ha
  cases he : d.Exist[i]? with
  | none => rw [he] at ha; simp at ha
  | some e =>
    rw [he] at ha
    simp only [Option.map_some, Option.some.injEq] at ha
    subst ha
    have h3 : (M.map fun t => (t.Var, t.On))[i]? = (d.Exist.map fun e => (e.Var, e.On))[i]? := by rw [h1]
    rw [List.getElem?_map, List.getElem?_map, he, hb] at h3
    simp only [Option.map_some, Option.some.injEq, Prod.mk.injEq] at h3
    have h4 := h2 b (List.mem_of_getElem? hb)
    simp [likeB, h3.1, h3.2, h4]
end Go.Sk.X
namespace Go.Sk.X
open Go Go.Sk
theorem lsm_of {d : S_api_Dqbf} (hf : Few d) {M : List S_api_Table} (h : TOf d.Exist M) : LSm M := by
  have hb := hf.bits
  have hge := sz_ge d.Exist
  have hl : M.length = d.Exist.length := by have := congrArg List.length h.1; simpa using this
  refine ⟨by omega, fun t ht => ?_⟩
  obtain ⟨e, he, g1, g2⟩ := h.mem ht
  have ho := hf.on e he
  have hp : 2 ^ t.On.length ≤ 2 ^ 4 := pw_le (by rw [← g2]; exact ho)
  have hq : (2 : Nat) ^ 4 = 16 := rfl
  rw [h.2 t ht, ← g2] at *
  omega
end Go.Sk.X
namespace Go.Sk.X
open Go Go.Sk
def hval (q : S_api_Qbf) (l : List S_api_Table) (t : S_api_Table) (m : Nat) : Bool :=
  gameB q.Clauses ((turnsP q.Prefix).drop (((turnsP q.Prefix).map (·.v)).idxOf t.Var + 1)) (fun v => if v ∈ t.On then sgM t.On m v else fOf l v (sgM t.On m))
def hTab (q : S_api_Qbf) (l : List S_api_Table) (t : S_api_Table) : S_api_Table := ⟨t.Var, t.On, (List.range (2 ^ t.On.length)).map (hval q l t)⟩
def hA (q : S_api_Qbf) : List S_api_Table → List S_api_Table → List S_api_Table
  | d, [] => d
  | d, t :: l => hA q (d ++ [hTab q d t]) l
def hD (q : S_api_Qbf) (l : List S_api_Table) : List S_api_Table := hA q [] l
theorem hA_snoc (q : S_api_Qbf) (t : S_api_Table) : ∀ (l d : List S_api_Table), hA q d (l ++ [t]) = hA q d l ++ [hTab q (hA q d l) t]
  | [], d => rfl
  | x :: l, d => hA_snoc q t l _
theorem hD_snoc (q : S_api_Qbf) (l : List S_api_Table) (t : S_api_Table) : hD q (l ++ [t]) = hD q l ++ [hTab q (hD q l) t] := hA_snoc q t l []
theorem hA_vars (q : S_api_Qbf) : ∀ (l d : List S_api_Table), (hA q d l).map (fun t => (t.Var, t.On)) = d.map (fun t => (t.Var, t.On)) ++ l.map (fun t => (t.Var, t.On))
  | [], d => by simp [hA]
  | x :: l, d => by simp [hA, hA_vars q l, hTab]
theorem hD_vars (q : S_api_Qbf) (l : List S_api_Table) : (hD q l).map (fun t => (t.Var, t.On)) = l.map (fun t => (t.Var, t.On)) := hA_vars q l []
theorem hD_var (q : S_api_Qbf) (l : List S_api_Table) : (hD q l).map (·.Var) = l.map (·.Var) := by
  have := congrArg (List.map Prod.fst) (hD_vars q l)
  simpa [List.map_map, Function.comp_def] using this
theorem hD_len (q : S_api_Qbf) (l : List S_api_Table) : (hD q l).length = l.length := by
  have := congrArg List.length (hD_var q l)
  simpa using this
theorem hD_on {q : S_api_Qbf} {l : List S_api_Table} {t : S_api_Table} (h : t ∈ hD q l) : ∃ u ∈ l, u.Var = t.Var ∧ u.On = t.On := by
  have : (t.Var, t.On) ∈ l.map (fun t => (t.Var, t.On)) := by rw [← hD_vars q l]; exact List.mem_map.2 ⟨t, h, rfl⟩
  obtain ⟨u, hu, e⟩ := List.mem_map.1 this
  injection e with e1 e2
  exact ⟨u, hu, e1, e2⟩
theorem hA_bits (q : S_api_Qbf) : ∀ (l d : List S_api_Table), (∀ t ∈ d, t.Bits.length = 2 ^ t.On.length) → ∀ t ∈ hA q d l, t.Bits.length = 2 ^ t.On.length
  | [], d, h, t, ht => h t ht
  | x :: l, d, h, t, ht => hA_bits q l _ (fun u hu => by
      rcases List.mem_append.1 hu with hu | hu
      · exact h u hu
      · rw [List.mem_singleton.1 hu]; simp [hTab]) t ht
theorem hD_bits {q : S_api_Qbf} {l : List S_api_Table} {t : S_api_Table} (h : t ∈ hD q l) : t.Bits.length = 2 ^ t.On.length := hA_bits q l [] (by simp) t h
theorem tabs_split : ∀ (ts : List S_truth_turn) (b : List Int) (p : List S_api_Table) (t : S_api_Table) (x : List S_api_Table), tabsT b ts = p ++ t :: x →
    ∃ pre u xs, ts = pre ++ u :: xs ∧ u.f_exists = false ∧ t = S_api_Table.mk u.v (srt (b ++ exV pre)) [] ∧ p = tabsT b pre
  | [], b, p, t, x, h => by simp [tabsT] at h
  | u :: ts, b, p, t, x, h => by
    unfold tabsT at h
    by_cases hx : u.f_exists = true
    · rw [if_pos hx] at h
      obtain ⟨pre, w, xs, h1, h2, h3, h4⟩ := tabs_split ts _ p t x h
      refine ⟨u :: pre, w, xs, by rw [h1]; rfl, h2, ?_, ?_⟩
      · rw [h3, exV_cons, if_pos hx]; simp
      · rw [h4]; conv => rhs; unfold tabsT
        rw [if_pos hx]
    · rw [if_neg hx] at h
      cases p with
      | nil =>
        rw [List.nil_append] at h
        injection h with h1 h2
        exact ⟨[], u, ts, rfl, by simpa using hx, by rw [← h1]; simp [exV], rfl⟩
      | cons y p =>
        rw [List.cons_append] at h
        injection h with h0 h
        obtain ⟨pre, w, xs, h1, h2, h3, h4⟩ := tabs_split ts _ p t x h
        refine ⟨u :: pre, w, xs, by rw [h1]; rfl, h2, ?_, ?_⟩
        · rw [h3, exV_cons, if_neg hx]
        · rw [h4, ← h0]; conv => rhs; unfold tabsT
          rw [if_neg hx]
theorem up_map_go {R α : Type} {f : Int → List α → (List α → Option R) → Option R} {K : List α → Option R} (g : Nat → α) (N : Nat)
    (h : ∀ m s kk, m < N → s.length = m → f (m : Int) s kk = kk (s ++ [g m])) : ∀ n j, j + n = N → upF f n (j : Int) ((List.range j).map g) K = K ((List.range N).map g)
  | 0, j, hj => by rw [upF_zero, show j = N by omega]
  | n + 1, j, hj => by
    rw [upF_succ, h j _ _ (by omega) (by simp)]
    have := up_map_go g N h n (j + 1) (by omega) (K := K)
    rw [List.range_succ, List.map_append] at this
    rw [show ((j : Int) + 1) = ((j + 1 : Nat) : Int) by omega]
    exact this
theorem up_map {R α : Type} {f : Int → List α → (List α → Option R) → Option R} {K : List α → Option R} (g : Nat → α) (N : Nat)
    (h : ∀ m s kk, m < N → s.length = m → f (m : Int) s kk = kk (s ++ [g m])) : upF f N 0 [] K = K ((List.range N).map g) := up_map_go g N h N 0 (by omega)
theorem up_take_go {α S R : Type} (xs : List α) (i : Nat) (hi : i ≤ xs.length) (G : α → S → (S → Option R) → Option R) (K : S → Option R) : ∀ (n j a : Nat) (s : S), j + n = i →
    upF (fun (j : Int) s k => okI (j.toNat < i ∧ j.toNat ≠ i) (getI xs j (fun x => G x s k))) n (j : Int) s K = rangeF (fun _ x s k => G x s k) a ((xs.take i).drop j) s K
  | 0, j, a, s, h => by rw [upF_zero, List.drop_eq_nil_of_le (by simp; omega)]; rfl
  | n + 1, j, a, s, h => by
    have hj : j < (xs.take i).length := by simp; omega
    rw [upF_succ, okI_eq (by rw [Int.toNat_natCast]; omega), getI_nat, List.drop_eq_getElem_cons hj]
    have : xs[j]? = some (xs.take i)[j] := by
      rw [← List.getElem?_eq_getElem hj, List.getElem?_take, if_pos (by omega)]
    rw [this]
    show _ = G _ s _
    simp only
    congr 1
    funext s'
    rw [show ((j : Int) + 1) = ((j + 1 : Nat) : Int) by omega]
    exact up_take_go xs i hi G K n (j + 1) (a + 1) s' (by omega)
theorem up_take {α S R : Type} {xs : List α} {i : Nat} (hi : i ≤ xs.length) {G : α → S → (S → Option R) → Option R} {K : S → Option R} {s : S} :
    upF (fun (j : Int) s k => okI (j.toNat < i ∧ j.toNat ≠ i) (getI xs j (fun x => G x s k))) i 0 s K = rangeF (fun _ x s k => G x s k) 0 (xs.take i) s K := by
  have := up_take_go xs i hi G K i 0 0 s (by omega)
  simpa using this
theorem find_ix {R : Type} (V : Int) (kk : Nat → Option R) (k0 : Unit → Option R) : ∀ (pre : List S_truth_turn) (u : S_truth_turn) (xs : List S_truth_turn) (a : Nat), V ∉ pre.map (·.v) → u.v = V →
    (rangeF (fun (j : Nat) (x : S_truth_turn) (s : Unit) k => (if (x.v == V) = true then (kk j) else (k ()))) a (pre ++ u :: xs) () k0) = kk (a + pre.length)
  | [], u, xs, a, h, e => by
    show (if (u.v == V) = true then _ else _) = _
    rw [if_pos (by simpa using e)]; rfl
  | t :: pre, u, xs, a, h, e => by
    simp only [List.map_cons, List.mem_cons, not_or] at h
    show (if (t.v == V) = true then _ else _) = _
    rw [if_neg (by simpa using fun e' => h.1 e'.symm)]
    have := find_ix V kk k0 pre u xs (a + 1) h.2 e
    refine this.trans ?_
    congr 1
    simp only [List.length_cons]; omega
theorem fOf_mem {l : List S_api_Table} (hn : (l.map (·.Var)).Nodup) {w : S_api_Table} (hw : w ∈ l) (σ : Int → Bool) : fOf l w.Var σ = bitT w σ := by
  unfold fOf
  have : l.find? (fun t => decide (t.Var = w.Var)) = some w := by
    rw [List.find?_eq_some_iff_append]
    obtain ⟨a, b, e⟩ := List.append_of_mem hw
    refine ⟨by simp, a, b, e, fun y hy => ?_⟩
    have : y.Var ≠ w.Var := fun h2 => by
      rw [e, List.map_append, List.map_cons] at hn
      exact (List.nodup_append.1 hn).2.2 _ (List.mem_map.2 ⟨y, hy, rfl⟩) _ (by simp) h2
    simpa using this
  rw [this]
theorem fOf_none {l : List S_api_Table} {v : Int} (h : v ∉ l.map (·.Var)) (σ : Int → Bool) : fOf l v σ = false := by
  unfold fOf
  have : l.find? (fun t => decide (t.Var = v)) = none := by
    rw [List.find?_eq_none]
    intro y hy h2
    exact h (List.mem_map.2 ⟨y, hy, by simpa using h2⟩)
  rw [this]
end Go.Sk.X
namespace Go.Sk.X
open Go Go.Sk
theorem left3 : ∀ (n : Nat) (a : List S_truth_turn) (b : List (List Int)) (c : Int) (d : List (Int × Bool)), F_truth_game_left_c1_3 n a b c d = F_truth_game_left_c1 n a b c d
  | 0, a, b, c, d => rfl
  | n + 1, a, b, c, d => by
    have ih : F_truth_game_left_c1_3 n = F_truth_game_left_c1 n := by funext a b c d; exact left3 n a b c d
    simp only [F_truth_game_left_c1_3, F_truth_game_left_c1, ih]
theorem left5 : ∀ (n : Nat) (a : List S_truth_turn) (b : List (List Int)) (c : Int) (d : List (Int × Bool)), F_truth_game_left_c1_5 n a b c d = F_truth_game_left_c1 n a b c d
  | 0, a, b, c, d => rfl
  | n + 1, a, b, c, d => by
    have ih : F_truth_game_left_c1_5 n = F_truth_game_left_c1 n := by funext a b c d; exact left5 n a b c d
    simp only [F_truth_game_left_c1_5, F_truth_game_left_c1, ih]
theorem small_eq {q : S_api_Qbf} (h : Sq q) : F_truth_small q = some (if MayQ q = true then (if (flat q.Prefix).length > 16 then 3 else 0) else 2) := by
  unfold F_truth_small
  rw [pmay_eq h, Option.bind_some, of_eq q h.vs]
  simp only [Option.bind_some, turns_len]
  by_cases hM : MayQ q = true
  case neg => simp [Bool.eq_false_iff.2 hM]
  by_cases h16 : (flat q.Prefix).length > 16
  · have : (((flat q.Prefix).length : Nat) : Int) > 16 := by omega
    simp [hM, h16, this]
  · have h16' : ¬ (((flat q.Prefix).length : Nat) : Int) > 16 := by omega
    simp [hM, h16, h16']
theorem univ_loop {R : Type} (ts : List S_truth_turn) (hlen : ts.length ≤ 100) (K : (Int × (List Int) × (List S_api_Table)) → Option R) (w : Option R) (hK : ∀ b, K ((cntT 13 [] ts : Int), b, tabsT [] ts) = w) :
    (rangeF (fun (j173 : Nat) (x174 : S_truth_turn) (s170 : (Int × (List Int) × (List S_api_Table))) k172 => (jn (fun (s226 : (Int × (List Int) × (List S_api_Table))) => (k172 (s226.1, s226.2.1, s226.2.2))) (fun k228 => (if x174.f_exists = true then (capN (s170.2.1.length + [x174.v].length) (k228 (s170.1, (s170.2.1 ++ [x174.v]), s170.2.2))) else ((F_slices_Clone_int_int s170.2.1).bind (fun y231 => (okI (y231.length ≤ 1099511627776) (capN (s170.2.2.length + ([(S_api_Table.mk x174.v (srt y231) ([] : List Bool))]).length) (okI (0 ≤ (imn (((srt y231).length : Nat) : Int) (13 : Int))) (k228 ((IntKind.wrap .i64 (s170.1 + (IntKind.wrap .i64 ((1 : Int) * 2 ^ (min (imn (((srt y231).length : Nat) : Int) (13 : Int)).toNat (IntKind.bits .i64)))))), s170.2.1, (s170.2.2 ++ ([(S_api_Table.mk x174.v (srt y231) ([] : List Bool))]))))))))))))) 0 ts ((0 : Int), ([] : List Int), ([] : List S_api_Table)) K) = w := by
  refine rangeF_pre ts (fun pre s => (s.2.1 = exV pre ∧ s.2.2.length ≤ pre.length ∧ 0 ≤ s.1 ∧ s.1 ≤ 8192 * (pre.length : Int)) ∧ ∀ xs, ts = pre ++ xs → s.2.2 ++ tabsT (exV pre) xs = tabsT [] ts ∧ s.1 + (cntT 13 (exV pre) xs : Int) = cntT 13 [] ts) (fun pre xs s => w) ?_ ?_ ts [] (0, [], []) rfl ⟨⟨rfl, by simp, by simp, by simp⟩, fun xs h => by rw [List.nil_append] at h; subst h; simp [exV]⟩
  · rintro ⟨n, b, l⟩ ⟨_, h⟩
    obtain ⟨h1, h2⟩ := h [] (by simp)
    simp only [tabsT, cntT, List.append_nil] at h1 h2
    rw [← hK b]
    congr 1
    rw [h1, ← h2]; simp
  · rintro pre t xs ⟨n, b, l⟩ kk hf ⟨⟨h1, h2, h3, h4⟩, h5⟩ hk
    simp only at h1 h2 h3 h4
    subst h1
    have hlt : pre.length < ts.length := by rw [hf]; simp
    have he := exV_len pre
    obtain ⟨h6, h7⟩ := h5 (t :: xs) hf
    simp only [tabsT, cntT] at h6 h7
    have hun : ∀ ys, ts = pre ++ [t] ++ ys → ys = xs := fun ys hy => by
      rw [hf, List.append_assoc] at hy
      have := List.append_cancel_left hy
      simpa using this.symm
    simp only [jn_eq]
    by_cases hx : t.f_exists = true
    · simp only [hx, if_true] at h6 h7 ⊢
      rw [capN_eq (by simp; omega)]
      refine hk (n, exV pre ++ [t.v], l) ⟨⟨by rw [exV_snoc, if_pos hx], by simp; omega, h3, by simp; omega⟩, fun ys hy => ?_⟩
      rw [hun ys hy, exV_snoc, if_pos hx]
      exact ⟨h6, h7⟩
    · simp only [hx, Bool.false_eq_true, if_false] at h6 h7 ⊢
      have hp : 2 ^ min (exV pre).length 13 ≤ 2 ^ 13 := pw_le (by omega)
      have hq : (2 : Nat) ^ 13 = 8192 := rfl
      have hsl := srt_len (exV pre)
      have hmn : imn (((srt (exV pre)).length : Nat) : Int) 13 = ((min (exV pre).length 13 : Nat) : Int) := by rw [srt_len]; unfold imn; split <;> omega
      rw [clone_eq (by omega), Option.bind_some, okI_eq (by omega), capN_eq (by simp; omega), hmn, okI_eq (Int.natCast_nonneg _), pw_eqT _ (by omega)]
      generalize 2 ^ min (exV pre).length 13 = g at hp h7 ⊢
      rw [wrap_id (by omega) (by omega)]
      refine hk (n + (g : Int), exV pre, l ++ [S_api_Table.mk t.v (srt (exV pre)) []]) ⟨⟨by rw [exV_snoc, if_neg hx, List.append_nil], by simp; omega, by simp only; omega, by simp only [List.length_append, List.length_singleton]; omega⟩, fun ys hy => ?_⟩
      rw [hun ys hy, exV_snoc, if_neg hx, List.append_nil]
      simp only
      refine ⟨by rw [← h6]; simp, by rw [← h7]; simp; omega⟩
structure At (q : S_api_Qbf) (p : List S_api_Table) (t : S_api_Table) (pre : List S_truth_turn) (u : S_truth_turn) (xs : List S_truth_turn) : Prop where
  ts : turnsP q.Prefix = pre ++ u :: xs
  un : u.f_exists = false
  t : t = S_api_Table.mk u.v (srt (exV pre)) []
  p : p = tabsT [] pre
theorem at_of {q : S_api_Qbf} {p : List S_api_Table} {t : S_api_Table} {x : List S_api_Table} (h : tabsT [] (turnsP q.Prefix) = p ++ t :: x) : ∃ pre u xs, At q p t pre u xs := by
  obtain ⟨pre, u, xs, h1, h2, h3, h4⟩ := tabs_split _ _ _ _ _ h
  exact ⟨pre, u, xs, h1, h2, by rw [h3]; simp, h4⟩
section
variable {q : S_api_Qbf} {p : List S_api_Table} {t : S_api_Table} {pre : List S_truth_turn} {u : S_truth_turn} {xs : List S_truth_turn}
theorem At.nd (h : At q p t pre u xs) (hg : Gd q) : ((pre ++ u :: xs).map (·.v)).Nodup := by rw [← h.ts, turns_v]; exact hg.nd
theorem At.uv (h : At q p t pre u xs) (hg : Gd q) : u.v ∉ pre.map (·.v) := fun hm => by
  have := h.nd hg
  rw [List.map_append, List.map_cons] at this
  exact (List.nodup_append.1 this).2.2 _ hm _ (by simp) rfl
theorem At.ex (h : At q p t pre u xs) (hg : Gd q) : (exV pre).Nodup := exV_sub (by
  have := h.nd hg
  rw [List.map_append] at this
  exact (List.nodup_append.1 this).1)
theorem At.uex (h : At q p t pre u xs) (hg : Gd q) : u.v ∉ exV pre := fun hm => by
  obtain ⟨w, hw, _, e⟩ := mem_ex.1 hm
  exact h.uv hg (List.mem_map.2 ⟨w, hw, e⟩)
theorem At.vars (h : At q p t pre u xs) : (hD q p).map (·.Var) = unV pre := by rw [hD_var, h.p, tabs_var]
theorem At.vnd (h : At q p t pre u xs) (hg : Gd q) : ((hD q p).map (·.Var)).Nodup := by
  rw [h.vars]
  unfold unV
  have := h.nd hg
  rw [List.map_append] at this
  exact (List.nodup_append.1 this).1.sublist (List.Sublist.map _ (List.filter_sublist))
theorem At.idx (h : At q p t pre u xs) (hg : Gd q) : ((turnsP q.Prefix).map (·.v)).idxOf u.v = pre.length := by
  rw [h.ts, List.map_append, List.idxOf_append, if_neg (h.uv hg), List.map_cons, List.idxOf_cons_self]; simp
theorem At.len (h : At q p t pre u xs) : pre.length + 1 + xs.length = (flat q.Prefix).length := by rw [← turns_len, h.ts]; simp; omega
theorem At.uno (h : At q p t pre u xs) (hg : Gd q) : u.v ∉ (hD q p).map (·.Var) := by
  rw [h.vars]; intro hm
  obtain ⟨w, hw, _, e⟩ := mem_un.1 hm
  exact h.uv hg (List.mem_map.2 ⟨w, hw, e⟩)
theorem At.on (h : At q p t pre u xs) (hg : Gd q) {w : S_api_Table} (hw : w ∈ hD q p) : w.On.Nodup ∧ ∀ v ∈ w.On, v ∈ exV pre := by
  obtain ⟨z, hz, _, e⟩ := hD_on hw
  rw [h.p] at hz
  have := tabs_on pre [] (by rw [List.nil_append]; exact h.ex hg) z hz
  rw [← e]
  exact ⟨this.2.1, by simpa using this.2.2⟩
theorem At.sep (h : At q p t pre u xs) (hg : Gd q) {w : S_api_Table} (hw : w ∈ hD q p) : w.Var ∉ exV pre := fun hm => by
  have : w.Var ∈ unV pre := by rw [← h.vars]; exact List.mem_map.2 ⟨w, hw, rfl⟩
  obtain ⟨a, ha, ha2, ha3⟩ := mem_un.1 this
  obtain ⟨b, hb, hb2, hb3⟩ := mem_ex.1 hm
  have hn : (pre.map (·.v)).Nodup := by
    have := h.nd hg
    rw [List.map_append] at this
    exact (List.nodup_append.1 this).1
  have := nodup_inj _ hn ha hb (ha3.trans hb3.symm)
  rw [this, hb2] at ha2; cases ha2
end
end Go.Sk.X
namespace Go.Sk.X
open Go Go.Sk
def herbV (q : S_api_Qbf) : List S_api_Table × Int :=
  if MayQ q = true then (if (flat q.Prefix).length > 16 then ([], 3) else if cntT 20 [] (turnsP q.Prefix) ≤ 4096 then (if gameB q.Clauses (turnsP q.Prefix) (fun _ => false) = true then ([], 6) else (hD q (tabsT [] (turnsP q.Prefix)), 0)) else ([], 3)) else ([], 2)
theorem hbit {q : S_api_Qbf} (hg : Gd q) (hl : (flat q.Prefix).length ≤ 16) {p : List S_api_Table} {t : S_api_Table} {pre : List S_truth_turn} {u : S_truth_turn} {xs : List S_truth_turn} (h : At q p t pre u xs) (m : Nat) (mp : List (Int × Bool))
    (hmp : ∀ v, (mget mp v).getD false = if v ∈ srt (exV pre) then sgM (srt (exV pre)) m v else fOf (hD q p) v (sgM (srt (exV pre)) m)) :
    ∃ mp', F_truth_game_left_c1_5 1000000 (turnsP q.Prefix) q.Clauses (IntKind.wrap .i64 (((pre.length : Nat) : Int) + 1)) (mset mp u.v false) = some (hval q (hD q p) t m, mp') := by
  have hlen := h.len
  have htl := turns_len q.Prefix
  have hw : IntKind.wrap .i64 (((pre.length : Nat) : Int) + 1) = ((pre.length + 1 : Nat) : Int) := by rw [wrap_id (by omega) (by omega)]; omega
  obtain ⟨mp', e, _⟩ := left_eq (turnsP q.Prefix) q.Clauses (fun c hc x hx => (hg.lit hc hx).1) (fun c hc x hx => (hg.lit hc hx).2) (by omega) xs.length 1000000 (pre.length + 1) (mset mp u.v false) (by omega) (by omega)
  refine ⟨mp', ?_⟩
  rw [left5, hw, e]
  congr 2
  unfold hval
  have ht := h.t
  have hv : t.Var = u.v := by rw [ht]
  have ho : t.On = srt (exV pre) := by rw [ht]
  rw [hv, h.idx hg, ho]
  congr 1
  funext v
  rw [mget_mset]
  by_cases e : v = u.v
  · subst e
    rw [if_pos rfl, if_neg (fun hm => h.uex hg (srt_mem.1 hm)), fOf_none (h.uno hg)]
    rfl
  · rw [if_neg e, hmp v]
theorem pherb_eq {q : S_api_Qbf} (hq : Sq q) : F_truth_Herbrand q = some (herbV q) := by
  unfold F_truth_Herbrand herbV
  rw [small_eq hq, Option.bind_some]
  by_cases hM : MayQ q = true
  case neg => simp [Bool.eq_false_iff.2 hM]
  have hg := gd_of hM
  by_cases h16 : (flat q.Prefix).length > 16
  · simp [hM, h16]
  have hvs := hq.vs
  have htl := turns_len q.Prefix
  simp only [hM, h16, if_true, if_false, bne_self_eq_false, Bool.false_eq_true]
  rw [of_eq q hvs, Option.bind_some]
  refine univ_loop (turnsP q.Prefix) (by omega) _ _ (fun b => ?_)
  simp only
  by_cases hc : cntT 20 [] (turnsP q.Prefix) ≤ 4096
  · have h13 : ¬ ((cntT 13 [] (turnsP q.Prefix) : Nat) : Int) > 4096 := by
      rcases cnt_same (turnsP q.Prefix) [] with h | ⟨h, h2⟩ <;> omega
    simp only [h13, hc, decide_false, Bool.false_eq_true, if_false, if_true]
    rw [Option.bind_some]
    obtain ⟨mp, e, _⟩ := left_eq (turnsP q.Prefix) q.Clauses (fun c hc x hx => (hg.lit hc hx).1) (fun c hc x hx => (hg.lit hc hx).2) (by omega) (turnsP q.Prefix).length 1000000 0 [] (by omega) (by omega)
    rw [List.drop_zero] at e
    have e' : F_truth_game_left_c1_3 1000000 (turnsP q.Prefix) q.Clauses 0 [] = some (gameB q.Clauses (turnsP q.Prefix) (fun _ => false), mp) := by rw [left3]; exact e
    simp only [e', Option.bind_some]
    cases hgm : gameB q.Clauses (turnsP q.Prefix) (fun _ => false)
    case true => simp
    simp only [Bool.false_eq_true, if_false]
    refine rangeF_pre (tabsT [] (turnsP q.Prefix)) (fun p s => ∀ x, tabsT [] (turnsP q.Prefix) = p ++ x → s = hD q p ++ x) (fun _ _ _ => some (hD q (tabsT [] (turnsP q.Prefix)), 0)) ?_ ?_ (tabsT [] (turnsP q.Prefix)) [] _ rfl (fun x hx => by rw [List.nil_append] at hx; rw [hx]; rfl)
    · intro s hs
      have := hs [] (by simp)
      rw [this, List.append_nil]
    · intro p t x s kk hf hI hk
      have hs := hI _ hf
      obtain ⟨pre, u, xs, hat⟩ := at_of hf
      have hlen := hat.len
      have hle := hD_len q p
      have hget : s[p.length]? = some t := by rw [hs, List.getElem?_append_right (by omega), hle]; simp
      have hpl : p.length ≤ pre.length := by
        have h1 := congrArg List.length (tabs_var pre [])
        rw [List.length_map, ← hat.p] at h1
        rw [h1]; unfold unV; rw [List.length_map]; exact List.length_filter_le _ _
      have hexl := exV_len pre
      have hsl := srt_len (exV pre)
      have htv : t.Var = u.v := by rw [hat.t]
      have hto : t.On = srt (exV pre) := by rw [hat.t]
      have htb : t.Bits = [] := by rw [hat.t]
      have hkk := hk (hD q p ++ hTab q (hD q p) t :: x) (fun y hy => by
        rw [hf, List.append_assoc] at hy
        have := List.append_cancel_left hy
        rw [hD_snoc, List.append_assoc]
        congr 1
        simp only [List.singleton_append, List.cons.injEq, true_and] at this ⊢
        exact this)
      rw [getI_nat, hget]
      simp only [jn_eq, htb, htv, hto, List.length_nil, okI_eq, hsl]
      rw [hat.ts, ← hat.ts]
      have hfind := fun (kk : Nat → Option (List S_api_Table × Int)) k0 => find_ix u.v kk k0 pre u xs 0 (hat.uv hg) rfl
      rw [← hat.ts] at hfind
      refine (hfind _ _).trans ?_
      rw [Nat.zero_add, okI_eq (Int.natCast_nonneg _), okI_eq (wi_ok _), pw_eqT _ (by omega), Int.sub_zero, Int.toNat_natCast]
      refine (up_map (fun m => hval q (hD q p) t m) (2 ^ (exV pre).length) (fun m s2 k2 hm hs2 => ?_)).trans ?_
      · refine points_map (srt_nodup (hat.ex hg)) (by omega) m _ _ (fun mp hmp => ?_)
        have hp62 : 2 ^ (exV pre).length ≤ 2 ^ 16 := pw_le (by omega)
        rw [okI_eq ⟨Int.natCast_nonneg _, by rw [hs, List.length_append]; omega⟩, okI_eq (by constructor <;> omega)]
        simp only [Int.toNat_natCast, Int.sub_zero]
        refine (up_take (by rw [hs, List.length_append]; omega)).trans ?_
        have htk : s.take p.length = hD q p := by rw [hs, ← hle, List.take_left']; rfl
        rw [htk]
        refine tabs_map (us := srt (exV pre)) (σ := sgM (srt (exV pre)) m) (hat.vnd hg) (fun w hw hm2 => hat.sep hg hw (srt_mem.1 hm2)) (fun w hw => ?_) mp hmp _ _ (fun mp2 hmp2 => ?_)
        · obtain ⟨o1, o2⟩ := hat.on hg hw
          have := nodup_len o1 o2
          exact ⟨fun v hv => srt_mem.2 (o2 v hv), by omega, hD_bits hw⟩
        · obtain ⟨mp3, e3⟩ := hbit hg (by omega) hat m mp2 hmp2
          rw [e3]
          simp only [Option.bind_some]
          rw [capN_eq (by simp; omega)]
      · have h0 : 0 < (List.map (fun m => hval q (hD q p) t m) (List.range (2 ^ (exV pre).length))).length := by simp; exact Nat.two_pow_pos _
        rw [okI_eq h0]
        have hset : s.set p.length (S_api_Table.mk u.v (srt (exV pre)) (List.map (fun m => hval q (hD q p) t m) (List.range (2 ^ (exV pre).length)))) = hD q p ++ hTab q (hD q p) t :: x := by
          rw [hs, List.set_append_right _ _ (by omega), hle, Nat.sub_self, List.set_cons_zero]
          unfold hTab
          rw [htv, hto, hsl]
        rw [hset]
        exact hkk
  · have h13 : ((cntT 13 [] (turnsP q.Prefix) : Nat) : Int) > 4096 := by
      rcases cnt_same (turnsP q.Prefix) [] with h | ⟨h, h2⟩ <;> omega
    simp [h13, hc]
end Go.Sk.X
namespace Go.Sk.X
open Go Go.Sk
theorem tabs_app : ∀ (pre r : List S_truth_turn) (b : List Int), tabsT b (pre ++ r) = tabsT b pre ++ tabsT (b ++ exV pre) r
  | [], r, b => by simp [tabsT, exV]
  | t :: pre, r, b => by
    rw [List.cons_append]
    simp only [tabsT, exV_cons]
    by_cases h : t.f_exists = true
    · simp only [h, if_true, tabs_app pre r]; simp
    · simp only [h, Bool.false_eq_true, if_false, tabs_app pre r]; simp
theorem hA_app (q : S_api_Qbf) : ∀ (a b d : List S_api_Table), hA q d (a ++ b) = hA q (hA q d a) b
  | [], b, d => rfl
  | x :: a, b, d => hA_app q a b _
theorem hA_pre (q : S_api_Qbf) : ∀ (l d : List S_api_Table), ∃ y, hA q d l = d ++ y
  | [], d => ⟨[], by simp [hA]⟩
  | x :: l, d => by
    obtain ⟨y, e⟩ := hA_pre q l (d ++ [hTab q d x])
    exact ⟨[hTab q d x] ++ y, by rw [show hA q d (x :: l) = hA q (d ++ [hTab q d x]) l from rfl, e]; simp⟩
theorem hD_split (q : S_api_Qbf) (p x : List S_api_Table) (t : S_api_Table) : ∃ y, hD q (p ++ t :: x) = hD q p ++ hTab q (hD q p) t :: y := by
  unfold hD
  rw [hA_app]
  obtain ⟨y, e⟩ := hA_pre q x (hA q [] p ++ [hTab q (hA q [] p) t])
  exact ⟨y, by rw [show hA q (hA q [] p) (t :: x) = hA q (hA q [] p ++ [hTab q (hA q [] p) t]) x from rfl, e]; simp⟩
theorem sgM_ix {l : List Int} (hn : l.Nodup) (σ : Int → Bool) {v : Int} (hv : v ∈ l) : sgM l (ixF σ l) v = σ v := by
  unfold sgM
  have hlt := List.idxOf_lt_length_of_mem hv
  exact ixF_bit σ l _ v (by rw [List.getElem?_eq_getElem hlt, List.getElem_idxOf])
theorem bitT_congr {t : S_api_Table} {σ τ : Int → Bool} (h : ∀ v ∈ t.On, σ v = τ v) : bitT t σ = bitT t τ := by unfold bitT; rw [ixF_congr h]
theorem upd_self (f : Int → Bool) (v : Int) : upd f v (f v) = f := by
  funext u; unfold upd
  by_cases h : u = v
  · rw [if_pos h, h]
  · rw [if_neg h]
theorem herb_wins {q : S_api_Qbf} (hg : Gd q) (hgm : gameB q.Clauses (turnsP q.Prefix) (fun _ => false) = false) (σ : Int → Bool) :
    ∀ n, n ≤ (turnsP q.Prefix).length → gameB q.Clauses ((turnsP q.Prefix).drop n) (asg (dual q) (fOf (hD q (tabsT [] (turnsP q.Prefix)))) σ) = false := by
  have hnz : ∀ c ∈ q.Clauses, ∀ x ∈ c, x ≠ 0 := fun c hc x hx => (hg.lit hc hx).1
  have hnd := gd_nd hg
  have hvars : (hD q (tabsT [] (turnsP q.Prefix))).map (·.Var) = unV (turnsP q.Prefix) := by rw [hD_var, tabs_var]
  have hvnd : ((hD q (tabsT [] (turnsP q.Prefix))).map (·.Var)).Nodup := by
    rw [hvars]; unfold unV
    exact hnd.sublist (List.Sublist.map _ (List.filter_sublist))
  intro n
  induction n with
  | zero =>
    intro _
    rw [List.drop_zero, ← hgm]
    refine game_congr hnz _ _ _ (fun u _ hu => ?_)
    have h1 : u ∉ exV (turnsP q.Prefix) := fun hm => by
      obtain ⟨t, ht, _, e⟩ := mem_ex.1 hm
      exact hu (List.mem_map.2 ⟨t, ht, e⟩)
    have h2 : u ∉ (hD q (tabsT [] (turnsP q.Prefix))).map (·.Var) := fun hm => by
      rw [hvars] at hm
      obtain ⟨t, ht, _, e⟩ := mem_un.1 hm
      exact hu (List.mem_map.2 ⟨t, ht, e⟩)
    unfold asg
    rw [if_neg (show ¬ u ∈ (dual q).Univ from h1), fOf_none h2]
  | succ n ih =>
    intro hn
    have h := ih (by omega)
    have hd : (turnsP q.Prefix).drop n = (turnsP q.Prefix)[n] :: (turnsP q.Prefix).drop (n + 1) := List.drop_eq_getElem_cons (by omega)
    have hts : turnsP q.Prefix = (turnsP q.Prefix).take n ++ (turnsP q.Prefix)[n] :: (turnsP q.Prefix).drop (n + 1) := by rw [← hd, List.take_append_drop]
    rw [hd] at h
    generalize (turnsP q.Prefix)[n] = t at h hts
    generalize (turnsP q.Prefix).take n = pre at hts
    generalize hxs : (turnsP q.Prefix).drop (n + 1) = xs at h hts
    generalize hfp : asg (dual q) (fOf (hD q (tabsT [] (turnsP q.Prefix)))) σ = fp at h
    have hself := upd_self fp t.v
    simp only [gameB] at h
    by_cases hx : t.f_exists = true
    · rw [hx] at h
      have h0 : gameB q.Clauses xs (upd fp t.v false) = false := by
        cases hc : gameB q.Clauses xs (upd fp t.v false)
        · rfl
        · rw [hc] at h; simp at h
      rw [h0] at h
      have h1 : gameB q.Clauses xs (upd fp t.v true) = false := by simpa using h
      rw [← hself]
      cases fp t.v
      · exact h0
      · exact h1
    · have hx' : t.f_exists = false := by simpa using hx
      have hT : tabsT [] (turnsP q.Prefix) = tabsT [] pre ++ S_api_Table.mk t.v (srt (exV pre)) [] :: tabsT (exV pre) xs := by
        rw [hts, tabs_app, List.nil_append]
        conv => lhs; rhs; unfold tabsT
        rw [if_neg hx]
      have hat : At q (tabsT [] pre) (S_api_Table.mk t.v (srt (exV pre)) []) pre t xs := ⟨hts, hx', rfl, rfl⟩
      obtain ⟨y, hy⟩ := hD_split q (tabsT [] pre) (tabsT (exV pre) xs) (S_api_Table.mk t.v (srt (exV pre)) [])
      rw [← hT] at hy
      have hnu : ∀ {v}, v ∈ unV (turnsP q.Prefix) → v ∉ exV (turnsP q.Prefix) := fun {v} h1 h2 => by
        obtain ⟨a, ha, ha2, ha3⟩ := mem_un.1 h1
        obtain ⟨b, hb, hb2, hb3⟩ := mem_ex.1 h2
        have := nodup_inj _ hnd ha hb (ha3.trans hb3.symm)
        rw [this, hb2] at ha2; cases ha2
      have hsn := srt_nodup (hat.ex hg)
      have hval_eq : fp t.v = gameB q.Clauses xs (upd fp t.v false) := by
        have htm : t.v ∈ unV (turnsP q.Prefix) := by rw [hts]; exact mem_un.2 ⟨t, by simp, hx', rfl⟩
        have hw : hTab q (hD q (tabsT [] pre)) (S_api_Table.mk t.v (srt (exV pre)) []) ∈ hD q (tabsT [] (turnsP q.Prefix)) := by rw [hy]; simp
        have e1 : fp t.v = bitT (hTab q (hD q (tabsT [] pre)) (S_api_Table.mk t.v (srt (exV pre)) [])) σ := by
          rw [← hfp]; unfold asg
          rw [if_neg (show ¬ t.v ∈ (dual q).Univ from hnu htm)]
          exact fOf_mem hvnd hw σ
        rw [e1]
        have hlt := ixF_lt σ (srt (exV pre))
        have e2 : bitT (hTab q (hD q (tabsT [] pre)) (S_api_Table.mk t.v (srt (exV pre)) [])) σ = hval q (hD q (tabsT [] pre)) (S_api_Table.mk t.v (srt (exV pre)) []) (ixF σ (srt (exV pre))) := by
          unfold bitT hTab
          simp only [List.getD_eq_getElem?_getD, List.getElem?_map]
          rw [List.getElem?_range hlt]
          rfl
        rw [e2]
        unfold hval
        simp only
        rw [hat.idx hg, hts]
        have hdr : (pre ++ t :: xs).drop (pre.length + 1) = xs := by
          rw [show pre ++ t :: xs = (pre ++ [t]) ++ xs by simp]
          exact List.drop_left' (by simp)
        rw [hdr]
        refine game_congr hnz _ _ _ (fun v _ hv => ?_)
        unfold upd
        by_cases e : v = t.v
        · subst e
          rw [if_pos rfl, if_neg (fun hm => hat.uex hg (srt_mem.1 hm)), fOf_none (hat.uno hg)]
        · rw [if_neg e, ← hfp]
          by_cases hm : v ∈ srt (exV pre)
          · rw [if_pos hm, sgM_ix hsn σ hm]
            obtain ⟨a, ha, ha2, ha3⟩ := mem_ex.1 (srt_mem.1 hm)
            unfold asg
            rw [if_pos (show v ∈ (dual q).Univ from mem_ex.2 ⟨a, by rw [hts]; simp [ha], ha2, ha3⟩)]
          · rw [if_neg hm]
            by_cases hu : v ∈ unV pre
            · rw [← hat.vars] at hu
              obtain ⟨w, hw2, rfl⟩ := List.mem_map.1 hu
              have hw3 : w ∈ hD q (tabsT [] (turnsP q.Prefix)) := by rw [hy]; simp [hw2]
              rw [hat.vars] at hu
              obtain ⟨a, ha, ha2, ha3⟩ := mem_un.1 hu
              have hwu : w.Var ∈ unV (turnsP q.Prefix) := mem_un.2 ⟨a, by rw [hts]; simp [ha], ha2, ha3⟩
              rw [fOf_mem (hat.vnd hg) hw2]
              unfold asg
              rw [if_neg (show ¬ w.Var ∈ (dual q).Univ from hnu hwu), fOf_mem hvnd hw3]
              exact bitT_congr (fun z hz => sgM_ix hsn σ (srt_mem.2 ((hat.on hg hw2).2 z hz)))
            · have hnone : v ∉ (turnsP q.Prefix).map (·.v) := by
                rw [hts, List.map_append, List.map_cons]
                simp only [List.mem_append, List.mem_cons, not_or]
                refine ⟨fun hm2 => ?_, e, hv⟩
                obtain ⟨a, ha, ha3⟩ := List.mem_map.1 hm2
                cases hae : a.f_exists
                · exact hu (mem_un.2 ⟨a, ha, hae, ha3⟩)
                · exact hm (srt_mem.2 (mem_ex.2 ⟨a, ha, hae, ha3⟩))
              have h1 : v ∉ exV (turnsP q.Prefix) := fun hm2 => by
                obtain ⟨a, ha, _, ha3⟩ := mem_ex.1 hm2
                exact hnone (List.mem_map.2 ⟨a, ha, ha3⟩)
              have h2 : v ∉ (hD q (tabsT [] (turnsP q.Prefix))).map (·.Var) := fun hm2 => by
                rw [hvars] at hm2
                obtain ⟨a, ha, _, ha3⟩ := mem_un.1 hm2
                exact hnone (List.mem_map.2 ⟨a, ha, ha3⟩)
              rw [fOf_none (by rw [hat.vars]; exact hu)]
              unfold asg
              rw [if_neg (show ¬ v ∈ (dual q).Univ from h1), fOf_none h2]
      rw [hx'] at h
      cases hc : gameB q.Clauses xs (upd fp t.v false)
      · rw [hc] at hval_eq
        rw [← hself, hval_eq]; exact hc
      · rw [hc] at hval_eq h
        have h1 : gameB q.Clauses xs (upd fp t.v true) = false := by simpa using h
        rw [← hself, hval_eq]; exact h1
theorem herb_loses {q : S_api_Qbf} (hg : Gd q) (hgm : gameB q.Clauses (turnsP q.Prefix) (fun _ => false) = false) (ht : TOf (dual q).Exist (hD q (tabsT [] (turnsP q.Prefix)))) : loseB q (hD q (tabsT [] (turnsP q.Prefix))) = true := by
  unfold loseB
  rw [List.all_eq_true]
  intro m _
  have h := herb_wins hg hgm (sgM (exV (turnsP q.Prefix)) m) (turnsP q.Prefix).length (Nat.le_refl _)
  rw [List.drop_length] at h
  have e := satF_iff (dual_plain hg) ht (σ := sgM (exV (turnsP q.Prefix)) m) (g := asg (dual q) (fOf (hD q (tabsT [] (turnsP q.Prefix)))) (sgM (exV (turnsP q.Prefix)) m)) (fun _ => rfl)
  have h2 : satF q.Clauses (asg (dual q) (fOf (hD q (tabsT [] (turnsP q.Prefix)))) (sgM (exV (turnsP q.Prefix)) m)) = false := h
  have e3 : satB q.Clauses (pairL (allP (dual q) (hD q (tabsT [] (turnsP q.Prefix))) (sgM (exV (turnsP q.Prefix)) m))) = false := by rw [← h2]; exact e.symm
  rw [e3]; rfl
end Go.Sk.X
namespace Go.Sk.X
open Go Go.Sk
structure DqOf (q : S_api_Qbf) (d : S_api_Dqbf) : Prop where
  cls : d.Clauses = q.Clauses
  un : ∀ v, v ∈ d.Univ ↔ v ∈ unV (turnsP q.Prefix)
  ex : ∀ v, v ∈ exV (turnsP q.Prefix) → ∃ e ∈ d.Exist, e.Var = v
  on : ∀ e ∈ d.Exist, e.Var ∈ exV (turnsP q.Prefix) ∧ ∀ u, u ∈ e.On ↔ u ∈ unV (turnsP q.Prefix) ∧ (flat q.Prefix).idxOf u < (flat q.Prefix).idxOf e.Var
theorem idx_mid {l pre xs : List Int} {v : Int} (hn : l.Nodup) (h : l = pre ++ v :: xs) : l.idxOf v = pre.length ∧ (∀ u ∈ pre, l.idxOf u < pre.length) ∧ ∀ u ∈ xs, pre.length < l.idxOf u := by
  subst h
  have h1 := List.nodup_append.1 hn
  refine ⟨?_, fun u hu => ?_, fun u hu => ?_⟩
  · rw [List.idxOf_append, if_neg (fun hm => h1.2.2 _ hm _ (by simp) rfl), List.idxOf_cons_self]; simp
  · rw [List.idxOf_append, if_pos hu]; exact List.idxOf_lt_length_of_mem hu
  · have hne : (v == u) = false := by
      have := (List.nodup_cons.1 h1.2.1).1
      simpa using fun (e : v = u) => this (e ▸ hu)
    rw [List.idxOf_append, if_neg (fun hm => h1.2.2 _ hm _ (by simp [hu]) rfl), List.idxOf_cons, hne]
    simp only [cond_false]; omega
theorem litT_F {f : Int → Bool} {x : Int} : litT f x = litF f x := by
  unfold litT litF av
  by_cases h : x < 0
  · simp only [if_pos h]
  · simp only [if_neg h]
section
variable {q : S_api_Qbf} {d : S_api_Dqbf}
theorem asg_un (h : DqOf q d) (f : Int → (Int → Bool) → Bool) (σ : Int → Bool) {v : Int} (hv : v ∈ unV (turnsP q.Prefix)) : asg d f σ v = σ v := by unfold asg; rw [if_pos ((h.un v).2 hv)]
theorem un_ex (hg : Gd q) {v : Int} (h1 : v ∈ unV (turnsP q.Prefix)) : v ∉ exV (turnsP q.Prefix) := fun h2 => by
  obtain ⟨a, ha, ha2, ha3⟩ := mem_un.1 h1
  obtain ⟨b, hb, hb2, hb3⟩ := mem_ex.1 h2
  have := nodup_inj _ (gd_nd hg) ha hb (ha3.trans hb3.symm)
  rw [this, hb2] at ha2; cases ha2
theorem asg_ex (hg : Gd q) (h : DqOf q d) (f : Int → (Int → Bool) → Bool) (σ : Int → Bool) {v : Int} (hv : v ∈ exV (turnsP q.Prefix)) : asg d f σ v = f v σ := by
  unfold asg; rw [if_neg (fun hm => un_ex hg ((h.un v).1 hm) hv)]
theorem mem_flat {v : Int} (hv : v ∈ flat q.Prefix) : v ∈ unV (turnsP q.Prefix) ∨ v ∈ exV (turnsP q.Prefix) := by
  rw [← turns_v] at hv
  obtain ⟨a, ha, e⟩ := List.mem_map.1 hv
  cases h : a.f_exists
  · exact .inl (mem_un.2 ⟨a, ha, h, e⟩)
  · exact .inr (mem_ex.2 ⟨a, ha, h, e⟩)
theorem game_of_sem (hg : Gd q) (h : DqOf q d) {f : Int → (Int → Bool) → Bool} (hd : Dpd d f) (hs : Sat d f) : ∀ (xs pre : List S_truth_turn) (σ g : Int → Bool), turnsP q.Prefix = pre ++ xs → (∀ a ∈ pre, g a.v = if a.f_exists = true then f a.v σ else σ a.v) → gameB q.Clauses xs g = true
  | [], pre, σ, g, hts, hI => by
    rw [List.append_nil] at hts
    simp only [gameB, satF]
    rw [List.all_eq_true]
    intro c hc
    rw [← h.cls] at hc
    obtain ⟨x, hx, e⟩ := hs σ c hc
    rw [List.any_eq_true]
    refine ⟨x, hx, ?_⟩
    rw [h.cls] at hc
    rw [litT_F] at e
    rw [← e]
    have hm := hg.wi c hc x hx
    have key : g (av x) = asg d f σ (av x) := by
      rcases mem_flat hm with hu | hu
      · rw [asg_un h f σ hu]
        obtain ⟨a, ha, ha2, ha3⟩ := mem_un.1 hu
        rw [← ha3, hI a (hts ▸ ha), if_neg (by simp [ha2])]
      · rw [asg_ex hg h f σ hu]
        obtain ⟨a, ha, ha2, ha3⟩ := mem_ex.1 hu
        rw [← ha3, hI a (hts ▸ ha), if_pos ha2]
    unfold litF
    unfold av at key
    by_cases h0 : x < 0
    · simp only [if_pos h0] at key ⊢; rw [key]
    · simp only [if_neg h0] at key ⊢; rw [key]
  | t :: xs, pre, σ, g, hts, hI => by
    have hnd := gd_nd hg
    have hfl : flat q.Prefix = pre.map (·.v) ++ t.v :: xs.map (·.v) := by rw [← turns_v, hts]; simp
    obtain ⟨i1, i2, i3⟩ := idx_mid hg.nd hfl
    have hnp : ∀ a ∈ pre, a.v ≠ t.v := fun a ha e => by
      have := i2 a.v (List.mem_map.2 ⟨a, ha, rfl⟩)
      rw [e] at this; omega
    have hts2 : turnsP q.Prefix = (pre ++ [t]) ++ xs := by rw [hts]; simp
    simp only [gameB]
    by_cases hx : t.f_exists = true
    · have hstep := game_of_sem hg h hd hs xs (pre ++ [t]) σ (upd g t.v (f t.v σ)) hts2 (fun a ha => by
        unfold upd
        rcases List.mem_append.1 ha with ha | ha
        · rw [if_neg (hnp a ha), hI a ha]
        · rw [List.mem_singleton.1 ha, if_pos rfl, if_pos hx])
      rw [hx]
      cases hc : f t.v σ
      · rw [hc] at hstep
        rw [hstep]; simp
      · rw [hc] at hstep
        rw [hstep]
        cases gameB q.Clauses xs (upd g t.v false) <;> simp
    · have hx' : t.f_exists = false := by simpa using hx
      have hstep := fun b => game_of_sem hg h hd hs xs (pre ++ [t]) (upd σ t.v b) (upd g t.v b) hts2 (fun a ha => by
        rcases List.mem_append.1 ha with ha | ha
        · have hne := hnp a ha
          have e1 : upd g t.v b a.v = g a.v := by unfold upd; rw [if_neg hne]
          have e2 : upd σ t.v b a.v = σ a.v := by unfold upd; rw [if_neg hne]
          rw [e1, e2, hI a ha]
          by_cases hae : a.f_exists = true
          · rw [if_pos hae, if_pos hae]
            have hae2 : a.v ∈ exV (turnsP q.Prefix) := mem_ex.2 ⟨a, by rw [hts]; simp [ha], hae, rfl⟩
            obtain ⟨e, he, hev⟩ := h.ex _ hae2
            have ho := (h.on e he).2
            rw [← hev]
            refine hd e he _ _ (fun u hu => ?_)
            have h2 := ((ho u).1 hu).2
            have h3 := i2 a.v (List.mem_map.2 ⟨a, ha, rfl⟩)
            unfold upd
            rw [if_neg (fun e' => by rw [e', hev, i1] at h2; omega)]
          · rw [if_neg hae, if_neg hae]
        · rw [List.mem_singleton.1 ha, if_neg hx]
          unfold upd; rw [if_pos rfl, if_pos rfl])
      rw [hx', hstep false, hstep true]; simp
def pl (cs : List (List Int)) : List S_truth_turn → (Int → Bool) → (Int → Bool) → Int → Bool
  | [], f, _ => f
  | t :: ts, f, σ => pl cs ts (upd f t.v (if t.f_exists = true then !gameB cs ts (upd f t.v false) else σ t.v)) σ
theorem pl_win (cs : List (List Int)) (σ : Int → Bool) : ∀ (ts : List S_truth_turn) (f : Int → Bool), gameB cs ts f = true → satF cs (pl cs ts f σ) = true
  | [], f, h => h
  | t :: ts, f, h => by
    simp only [gameB] at h
    refine pl_win cs σ ts _ ?_
    by_cases hx : t.f_exists = true
    · rw [if_pos hx]
      rw [hx] at h
      cases hc : gameB cs ts (upd f t.v false)
      · rw [hc] at h; simpa using h
      · rw [Bool.not_true]; exact hc
    · rw [if_neg hx]
      have hx' : t.f_exists = false := by simpa using hx
      rw [hx'] at h
      have h0 : gameB cs ts (upd f t.v false) = true := by
        cases hc : gameB cs ts (upd f t.v false)
        · rw [hc] at h; simp at h
        · rfl
      rw [h0] at h
      have h1 : gameB cs ts (upd f t.v true) = true := by simpa using h
      cases σ t.v
      · exact h0
      · exact h1
theorem pl_out (cs : List (List Int)) (σ : Int → Bool) : ∀ (ts : List S_truth_turn) (f : Int → Bool) (v : Int), v ∉ ts.map (·.v) → pl cs ts f σ v = f v
  | [], f, v, _ => rfl
  | t :: ts, f, v, h => by
    simp only [List.map_cons, List.mem_cons, not_or] at h
    unfold pl
    rw [pl_out cs σ ts _ v h.2]
    unfold upd; rw [if_neg h.1]
theorem pl_un (cs : List (List Int)) (σ : Int → Bool) : ∀ (ts : List S_truth_turn) (f : Int → Bool) (t : S_truth_turn), (ts.map (·.v)).Nodup → t ∈ ts → t.f_exists = false → pl cs ts f σ t.v = σ t.v
  | [], f, t, _, h, _ => by simp at h
  | x :: ts, f, t, hn, h, hx => by
    rw [List.map_cons, List.nodup_cons] at hn
    unfold pl
    rcases List.mem_cons.1 h with rfl | h
    · rw [pl_out cs σ ts _ _ hn.1]
      unfold upd; rw [if_pos rfl, if_neg (by simp [hx])]
    · exact pl_un cs σ ts _ t hn.2 h hx
theorem pl_dep (cs : List (List Int)) (σ τ : Int → Bool) : ∀ (ts : List S_truth_turn) (f : Int → Bool) (t : S_truth_turn), (ts.map (·.v)).Nodup → t ∈ ts → t.f_exists = true →
    (∀ a ∈ ts, a.f_exists = false → (ts.map (·.v)).idxOf a.v < (ts.map (·.v)).idxOf t.v → σ a.v = τ a.v) → pl cs ts f σ t.v = pl cs ts f τ t.v
  | [], f, t, _, h, _, _ => by simp at h
  | x :: ts, f, t, hn, h, hx, hI => by
    rw [List.map_cons, List.nodup_cons] at hn
    unfold pl
    rcases List.mem_cons.1 h with rfl | h
    · rw [pl_out cs σ ts _ _ hn.1, pl_out cs τ ts _ _ hn.1]
      unfold upd; rw [if_pos rfl, if_pos rfl, if_pos hx, if_pos hx]
    · have hne : x.v ≠ t.v := fun e => hn.1 (e ▸ List.mem_map.2 ⟨t, h, rfl⟩)
      have hib : ∀ a ∈ ts, (x.v == a.v) = false := fun a ha => by
        simpa using fun e : x.v = a.v => hn.1 (e ▸ List.mem_map.2 ⟨a, ha, rfl⟩)
      have e : (if x.f_exists = true then !gameB cs ts (upd f x.v false) else σ x.v) = (if x.f_exists = true then !gameB cs ts (upd f x.v false) else τ x.v) := by
        by_cases hxe : x.f_exists = true
        · rw [if_pos hxe, if_pos hxe]
        · rw [if_neg hxe, if_neg hxe]
          refine hI x (by simp) (by simpa using hxe) ?_
          rw [List.map_cons, List.idxOf_cons_self, List.idxOf_cons, hib t h]
          simp
      rw [e]
      refine pl_dep cs σ τ ts _ t hn.2 h hx (fun a ha hae hlt => ?_)
      refine hI a (by simp [ha]) hae ?_
      rw [List.map_cons, List.idxOf_cons, List.idxOf_cons, hib a ha, hib t h]
      simp only [cond_false]
      omega
theorem sem_of_game (hg : Gd q) (h : DqOf q d) (hgm : gameB q.Clauses (turnsP q.Prefix) (fun _ => false) = true) : Sem d := by
  have hnd := gd_nd hg
  refine ⟨fun v σ => pl q.Clauses (turnsP q.Prefix) (fun _ => false) σ v, fun e he σ τ ho => ?_, fun σ c hc => ?_⟩
  · obtain ⟨h1, h2⟩ := h.on e he
    obtain ⟨t, ht, hte, htv⟩ := mem_ex.1 h1
    simp only
    rw [← htv]
    refine pl_dep _ σ τ _ _ t hnd ht hte (fun a ha hae hlt => ?_)
    refine ho a.v ((h2 a.v).2 ⟨mem_un.2 ⟨a, ha, hae, rfl⟩, ?_⟩)
    rw [← htv, ← turns_v]
    exact hlt
  · have hw := pl_win q.Clauses σ (turnsP q.Prefix) (fun _ => false) hgm
    unfold satF at hw
    rw [h.cls] at hc
    have := List.all_eq_true.1 hw c hc
    obtain ⟨x, hx, e⟩ := List.any_eq_true.1 this
    refine ⟨x, hx, ?_⟩
    rw [litT_F, ← e]
    have hm := hg.wi c hc x hx
    have key : asg d (fun v σ => pl q.Clauses (turnsP q.Prefix) (fun _ => false) σ v) σ (av x) = pl q.Clauses (turnsP q.Prefix) (fun _ => false) σ (av x) := by
      rcases mem_flat hm with hu | hu
      · rw [asg_un h _ σ hu]
        obtain ⟨a, ha, ha2, ha3⟩ := mem_un.1 hu
        rw [← ha3, pl_un _ σ _ _ a hnd ha ha2]
      · rw [asg_ex hg h _ σ hu]
    unfold litF
    unfold av at key
    by_cases h0 : x < 0
    · simp only [if_pos h0] at key ⊢; rw [key]
    · simp only [if_neg h0] at key ⊢; rw [key]
theorem sem_game (hg : Gd q) (h : DqOf q d) : Sem d ↔ gameB q.Clauses (turnsP q.Prefix) (fun _ => false) = true :=
  ⟨fun ⟨f, hd, hs⟩ => game_of_sem hg h hd hs _ [] (fun _ => false) _ rfl (fun a ha => by simp at ha), sem_of_game hg h⟩
end
end Go.Sk.X
namespace Go.Sk.X
open Go Go.Sk
theorem may_true {q : S_api_Qbf} (h : Sq q) (hM : MayQ q = true) : F_skolemref03_May q.Prefix = some true := by
  have h2 := h.vs
  unfold F_skolemref03_May
  rw [alt_loop q.Prefix h.bl]
  simp only [MayQ, Bool.and_eq_true] at hM
  have hl : (((flat q.Prefix).length : Nat) : Int) ≤ 1024 := by omega
  simp only [hM.1, hM.2.1, if_true, flat_eq q.Prefix h2, Option.bind_some, hl, decide_true, single_eq]
theorem vars_eq {p : List S_api_Block} (hl : (flat p).length ≤ 100) (hn : (flat p).Nodup) : F_skolemref03_Vars p = some (srt (flat p)) := by
  unfold F_skolemref03_Vars
  rw [flat_eq p hl, Option.bind_some]
  generalize flat p = l at hl hn
  refine rangeF_pre l (fun pre s => s = srt pre) (fun _ _ _ => some (srt l)) (fun s hs => by rw [hs]) ?_ l [] [] rfl srt_nil.symm
  rintro pre x xs s kk hf rfl hk
  have hlt : pre.length < l.length := by rw [hf]; simp
  have hn2 : (pre ++ [x]).Nodup := hn.sublist (by rw [hf]; exact List.Sublist.append_left (by simp) pre)
  rw [put_srt (by omega) hn2, Option.bind_some]
  exact hk _ rfl
theorem find_go (v : Int) {b : S_api_Block} {post : List S_api_Block} (hb : v ∈ b.Vars) (K : Unit → Option (Int × Bool × Bool)) : ∀ (pre : List S_api_Block) (i : Nat), (∀ x ∈ pre, v ∉ x.Vars) →
    (rangeF (fun (j104 : Nat) (x105 : S_api_Block) (s101 : Unit) k103 => ((F_skolemref03_Has x105.Vars v).bind (fun y108 => (if y108 = true then (some (((j104 : Nat) : Int), x105.Exists, true)) else (k103 ()))))) i (pre ++ b :: post) () K) = some (((i + pre.length : Nat) : Int), b.Exists, true)
  | [], i, _ => by
    show (F_skolemref03_Has b.Vars v).bind _ = _
    rw [has_eq, Option.bind_some]
    simp [hb]
  | x :: pre, i, h => by
    show (F_skolemref03_Has x.Vars v).bind _ = _
    rw [has_eq, Option.bind_some]
    have hx := h x (by simp)
    simp only [hx, decide_false, Bool.false_eq_true, if_false]
    have := find_go v hb K pre (i + 1) (fun y hy => h y (by simp [hy])) (post := post)
    refine this.trans ?_
    simp only [List.length_cons]
    congr 2
    omega
theorem find_eq {p pre post : List S_api_Block} {b : S_api_Block} {v : Int} (hp : p = pre ++ b :: post) (hb : v ∈ b.Vars) (h : ∀ x ∈ pre, v ∉ x.Vars) : F_skolemref03_Find p v = some ((pre.length : Int), b.Exists, true) := by
  subst hp
  have := find_go v hb (fun _ => some ((0 : Int), false, false)) pre 0 h (post := post)
  rw [Nat.zero_add] at this
  exact this
def blkB (p : List S_api_Block) (v : Int) : List S_api_Block := p.takeWhile (fun b => !decide (v ∈ b.Vars))
theorem blk_split {v : Int} : ∀ (p : List S_api_Block), v ∈ flat p → ∃ b post, p = blkB p v ++ b :: post ∧ v ∈ b.Vars ∧ ∀ x ∈ blkB p v, v ∉ x.Vars
  | [], h => by simp [flat] at h
  | c :: p, h => by
    unfold blkB
    by_cases hc : v ∈ c.Vars
    · exact ⟨c, p, by simp [List.takeWhile_cons, hc], hc, by simp [List.takeWhile_cons, hc]⟩
    · have hm : v ∈ flat p := by
        unfold flat at h ⊢
        rw [List.flatMap_cons] at h
        rcases List.mem_append.1 h with h | h
        · exact absurd h hc
        · exact h
      obtain ⟨b, post, h1, h2, h3⟩ := blk_split p hm
      unfold blkB at h1 h3
      refine ⟨b, post, ?_, h2, ?_⟩
      · rw [List.takeWhile_cons, if_pos (by simp [hc]), List.cons_append, ← h1]
      · rw [List.takeWhile_cons, if_pos (by simp [hc])]
        intro x hx
        rcases List.mem_cons.1 hx with rfl | hx
        · exact hc
        · exact h3 x hx
theorem up_inv {S R : Type} {f : Int → S → (S → Option R) → Option R} {K : S → Option R} {w : Option R} (N : Nat) (I : Nat → S → Prop) (hK : ∀ s, I N s → K s = w)
    (h : ∀ j s kk, j < N → I j s → (∀ s', I (j + 1) s' → kk s' = w) → f (j : Int) s kk = w) : ∀ n j s, j + n = N → I j s → upF f n (j : Int) s K = w
  | 0, j, s, hj, hI => by rw [upF_zero]; exact hK s (by rwa [show j = N by omega] at hI)
  | n + 1, j, s, hj, hI => by
    rw [upF_succ]
    refine h j s _ (by omega) hI (fun s' hs' => ?_)
    rw [show ((j : Int) + 1) = ((j + 1 : Nat) : Int) by omega]
    exact up_inv N I hK h n (j + 1) s' (by omega) hs'
theorem unV_app (a b : List S_truth_turn) : unV (a ++ b) = unV a ++ unV b := by simp [unV]
theorem unV_block (b : S_api_Block) : unV (turnsP [b]) = if b.Exists = true then [] else b.Vars := by
  unfold unV turnsP
  simp only [List.flatMap_cons, List.flatMap_nil, List.append_nil]
  cases h : b.Exists
  · simp [List.filter_map, Function.comp_def]
  · simp [List.filter_map, Function.comp_def]
theorem unV_len (ts : List S_truth_turn) : (unV ts).length ≤ ts.length := by unfold unV; rw [List.length_map]; exact List.length_filter_le _ _
theorem unV_sub {ts : List S_truth_turn} (hn : (ts.map (·.v)).Nodup) : (unV ts).Nodup := by
  unfold unV
  exact hn.sublist (List.Sublist.map _ (List.filter_sublist))
theorem on_eq {p pre post : List S_api_Block} {b : S_api_Block} {v : Int} (hl : (flat p).length ≤ 100) (hn : (flat p).Nodup) (hm : F_skolemref03_May p = some true) (hp : p = pre ++ b :: post) (hb : v ∈ b.Vars) (hbe : b.Exists = true) (h : ∀ x ∈ pre, v ∉ x.Vars) (hpl : p.length ≤ 100) :
    F_skolemref03_On p v = some (srt (unV (turnsP pre)), 0) := by
  unfold F_skolemref03_On
  rw [hm, Option.bind_some, find_eq hp hb h, Option.bind_some, hbe]
  have hlp : pre.length < p.length := by rw [hp]; simp
  simp only [Bool.not_true, Bool.false_eq_true, if_false]
  rw [okI_eq (by constructor <;> omega), Int.sub_zero, Int.toNat_natCast]
  refine up_inv pre.length (fun j s => s = srt (unV (turnsP (pre.take j)))) (fun s hs => by rw [hs, List.take_length]) ?_ pre.length 0 [] (by omega) (by simp [turnsP, unV, srt_nil])
  rintro j s kk hj rfl hk
  have hgp : pre[j]? = some pre[j] := List.getElem?_eq_getElem hj
  have hpj : p[j]? = some pre[j] := by rw [hp, List.getElem?_append_left hj, hgp]
  have htk : pre.take (j + 1) = pre.take j ++ [pre[j]] := by rw [List.take_add_one, hgp]; rfl
  have hun : unV (turnsP (pre.take (j + 1))) = unV (turnsP (pre.take j)) ++ (if pre[j].Exists = true then [] else pre[j].Vars) := by
    rw [htk, turns_app, unV_app, unV_block]
  have hfl : flat p = flat (pre.take j) ++ (pre[j].Vars ++ flat (pre.drop (j + 1) ++ b :: post)) := by
    rw [← flat_one pre[j], ← flat_app, ← flat_app, hp, ← List.append_assoc, ← List.append_assoc, ← htk, List.append_assoc]
    rw [← List.append_assoc, List.take_append_drop]
  have hb1 := unV_len (turnsP (pre.take j))
  have hb2 := turns_len (pre.take j)
  have hb3 := congrArg List.length hfl
  rw [List.length_append, List.length_append] at hb3
  generalize pre[j] = x at hpj hun hfl hb3
  rw [hun] at hk
  have hslen := srt_len (unV (turnsP (pre.take j)))
  have hsubU : ∀ k, (unV (turnsP (pre.take j)) ++ x.Vars.take k).Nodup := fun k => by
    have h1 : (flat (pre.take j) ++ x.Vars).Nodup := hn.sublist (by rw [hfl]; exact List.Sublist.append_left (List.sublist_append_left ..) _)
    refine h1.sublist ?_
    refine List.Sublist.append ?_ (List.take_sublist ..)
    rw [← turns_v]; unfold unV
    exact List.Sublist.map _ (List.filter_sublist)
  generalize unV (turnsP (pre.take j)) = U at hk hb1 hslen hsubU
  refine (whileF_by (fun s : List Int × Int => x.Vars.length - s.2.toNat) (fun s => 0 ≤ s.2 ∧ s.2 ≤ x.Vars.length ∧ s.1 = srt (U ++ if x.Exists = true then [] else x.Vars.take s.2.toNat)) (fun _ => some (srt (unV (turnsP pre)), 0)) ?_ 1000000000000 (srt U, 0) ⟨by simp, by simp, by simp⟩ (by simp; omega))
  rintro ⟨l, i⟩ k ⟨h0, h1, h2⟩ hs
  simp only at h0 h1 h2 hs ⊢
  obtain ⟨n, rfl⟩ : ∃ n : Nat, i = n := ⟨i.toNat, by omega⟩
  rw [Int.toNat_natCast] at h2
  simp only [jn_eq, getI_nat, hpj]
  by_cases hlt : ((n : Nat) : Int) < ((x.Vars.length : Nat) : Int)
  · have hn1 : n < x.Vars.length := by omega
    simp only [hlt, decide_true, if_true]
    by_cases hx : x.Exists = true
    · simp only [hx, beq_self_eq_true, Bool.not_true, Bool.false_eq_true, if_false]
      rw [hx] at h2 hk
      simp only [if_true] at h2 hk
      exact hk l (by rw [h2])
    · have hx' : x.Exists = false := by simpa using hx
      simp only [hx', Bool.false_eq_true, if_false] at h2 hk hs ⊢
      have hw : IntKind.wrap .i64 (((n : Nat) : Int) + 1) = ((n + 1 : Nat) : Int) := by rw [wrap_id (by omega) (by omega)]; omega
      have hg : x.Vars[n]? = some x.Vars[n] := List.getElem?_eq_getElem hn1
      have htk2 : x.Vars.take (n + 1) = x.Vars.take n ++ [x.Vars[n]] := by rw [List.take_add_one, hg]; rfl
      have hnd2 := hsubU (n + 1)
      rw [htk2, ← List.append_assoc] at hnd2
      have e2 : (!(false == true)) = true := rfl
      simp only [e2, if_true, hg, hw]
      rw [h2, put_srt (by simp; omega) hnd2, Option.bind_some]
      refine hs _ ⟨by simp only; omega, by simp only; omega, ?_⟩ (by simp only [Int.toNat_natCast]; omega)
      simp only [Int.toNat_natCast]
      rw [htk2, List.append_assoc]
  · have hn1 : n = x.Vars.length := by omega
    simp only [hlt, decide_false, Bool.false_eq_true, if_false]
    rw [hn1, List.take_length] at h2
    exact hk l h2
end Go.Sk.X
namespace Go.Sk.X
open Go Go.Sk
def onL (p : List S_api_Block) (v : Int) : List Int := srt (unV (turnsP (blkB p v)))
def dq (q : S_api_Qbf) : S_api_Dqbf :=
  ⟨(srt (flat q.Prefix)).filter (fun v => !decide (v ∈ exV (turnsP q.Prefix))), ((srt (flat q.Prefix)).filter (fun v => decide (v ∈ exV (turnsP q.Prefix)))).map (fun v => S_api_Dep.mk v (onL q.Prefix v)), q.Clauses⟩
section
variable {q : S_api_Qbf}
theorem ex_block (hg : Gd q) {pre post : List S_api_Block} {b : S_api_Block} {v : Int} (hp : q.Prefix = pre ++ b :: post) (hb : v ∈ b.Vars) : b.Exists = decide (v ∈ exV (turnsP q.Prefix)) := by
  have hts : turnsP q.Prefix = turnsP pre ++ turnsP [b] ++ turnsP post := by rw [hp, ← turns_app, ← turns_app]; simp
  cases he : b.Exists
  · have h1 : v ∈ unV (turnsP q.Prefix) := by
      rw [hts, unV_app, unV_app, unV_block, he]; simp [hb]
    have h2 := un_ex hg h1
    simp [h2]
  · have h1 : v ∈ exV (turnsP q.Prefix) := by
      rw [hts, exV_app, exV_app, exV_block, he]; simp [hb]
    simp [h1]
theorem dq_eq (hq : Sq q) (hM : MayQ q = true) : F_skolemref03_Dqbf q = some (dq q, 0) := by
  have hg := gd_of hM
  have hvs := hq.vs
  have hbl := hq.bl
  unfold F_skolemref03_Dqbf
  rw [rmay_eq hq, hM, Option.bind_some, vars_eq hvs hg.nd]
  simp only [Bool.not_true, Bool.false_eq_true, if_false, Option.bind_some]
  refine rangeF_pre (srt (flat q.Prefix)) (fun pre s => s.1 = pre.filter (fun v => !decide (v ∈ exV (turnsP q.Prefix))) ∧ s.2 = (pre.filter (fun v => decide (v ∈ exV (turnsP q.Prefix)))).map (fun v => S_api_Dep.mk v (onL q.Prefix v))) (fun _ _ _ => some (dq q, 0)) ?_ ?_ (srt (flat q.Prefix)) [] ([], []) rfl ⟨rfl, rfl⟩
  · rintro ⟨a, b⟩ ⟨h1, h2⟩
    simp only at h1 h2
    subst h1; subst h2
    rfl
  · rintro pre v xs ⟨a, b⟩ kk hf ⟨h1, h2⟩ hk
    simp only at h1 h2
    subst h1; subst h2
    have hsl := srt_len (flat q.Prefix)
    have hlp : pre.length < (srt (flat q.Prefix)).length := by rw [hf]; simp
    have hvm : v ∈ flat q.Prefix := srt_mem.1 (by rw [hf]; simp)
    obtain ⟨blk, post, g1, g2, g3⟩ := blk_split q.Prefix hvm
    have he := ex_block hg g1 g2
    have f1 := List.length_filter_le (fun v => !decide (v ∈ exV (turnsP q.Prefix))) pre
    have f2 := List.length_filter_le (fun v => decide (v ∈ exV (turnsP q.Prefix))) pre
    simp only [jn_eq]
    rw [find_eq g1 g2 g3, Option.bind_some]
    by_cases hx : v ∈ exV (turnsP q.Prefix)
    · have hbe : blk.Exists = true := by rw [he]; simp [hx]
      simp only [hbe, if_true]
      rw [on_eq hvs hg.nd (may_true hq hM) g1 g2 hbe g3 (by omega), Option.bind_some, capN_eq (by simp; omega)]
      exact hk _ ⟨by simp [hx], by simp [hx, onL]⟩
    · have hbe : blk.Exists = false := by rw [he]; simp [hx]
      simp only [hbe, Bool.false_eq_true, if_false]
      rw [capN_eq (by simp; omega)]
      exact hk _ ⟨by simp [hx], by simp [hx]⟩
theorem ex_flat {v : Int} (h : v ∈ exV (turnsP q.Prefix)) : v ∈ flat q.Prefix := by
  obtain ⟨t, ht, _, e⟩ := mem_ex.1 h
  rw [← turns_v]; exact List.mem_map.2 ⟨t, ht, e⟩
theorem un_flat {p : List S_api_Block} {v : Int} (h : v ∈ unV (turnsP p)) : v ∈ flat p := by
  obtain ⟨t, ht, _, e⟩ := mem_un.1 h
  rw [← turns_v]; exact List.mem_map.2 ⟨t, ht, e⟩
theorem onL_mem (hg : Gd q) {v : Int} (hv : v ∈ exV (turnsP q.Prefix)) (u : Int) : u ∈ onL q.Prefix v ↔ u ∈ unV (turnsP q.Prefix) ∧ (flat q.Prefix).idxOf u < (flat q.Prefix).idxOf v := by
  obtain ⟨b, post, g1, g2, g3⟩ := blk_split q.Prefix (ex_flat hv)
  have he := ex_block hg g1 g2
  have hbe : b.Exists = true := by rw [he]; simp [hv]
  unfold onL
  rw [srt_mem]
  generalize hpr : blkB q.Prefix v = pre at g1 g3
  have hts : turnsP q.Prefix = turnsP pre ++ turnsP [b] ++ turnsP post := by rw [g1, ← turns_app, ← turns_app]; simp
  have hfl : flat q.Prefix = flat pre ++ (b.Vars ++ flat post) := by rw [g1, flat_app]; simp [flat]
  have hnv : v ∉ flat pre := fun hm => by
    unfold flat at hm
    obtain ⟨x, hx, hxv⟩ := List.mem_flatMap.1 hm
    exact g3 x hx hxv
  have hiv : (flat q.Prefix).idxOf v = (flat pre).length + b.Vars.idxOf v := by
    rw [hfl, List.idxOf_append, if_neg hnv, List.idxOf_append, if_pos g2]; omega
  have hbl := List.idxOf_lt_length_of_mem g2
  constructor
  · intro hu
    have hm := un_flat hu
    refine ⟨by rw [hts, unV_app, unV_app]; simp [hu], ?_⟩
    rw [hiv, hfl, List.idxOf_append, if_pos hm]
    have := List.idxOf_lt_length_of_mem hm
    omega
  · rintro ⟨hu, hlt⟩
    have hu2 := hu
    rw [hts, unV_app, unV_app, unV_block, hbe, if_pos rfl, List.append_nil] at hu2
    rcases List.mem_append.1 hu2 with h | h
    · exact h
    · exfalso
      have hm := un_flat h
      have hn := hg.nd
      rw [hfl] at hn
      have h1 := List.nodup_append.1 hn
      have h2 := List.nodup_append.1 h1.2.1
      have n1 : u ∉ flat pre := fun hm2 => h1.2.2 _ hm2 _ (by simp [hm]) rfl
      have n2 : u ∉ b.Vars := fun hm2 => h2.2.2 _ hm2 _ hm rfl
      rw [hiv, hfl, List.idxOf_append, if_neg n1, List.idxOf_append, if_neg n2] at hlt
      omega
theorem dq_of (hg : Gd q) : DqOf q (dq q) := by
  refine ⟨rfl, fun v => ?_, fun v hv => ?_, fun e he => ?_⟩
  · unfold dq
    simp only [List.mem_filter, srt_mem, Bool.not_eq_true', decide_eq_false_iff_not]
    constructor
    · rintro ⟨h1, h2⟩
      rcases mem_flat h1 with h | h
      · exact h
      · exact absurd h h2
    · intro h
      exact ⟨un_flat h, un_ex hg h⟩
  · refine ⟨S_api_Dep.mk v (onL q.Prefix v), List.mem_map.2 ⟨v, List.mem_filter.2 ⟨srt_mem.2 (ex_flat hv), by simp [hv]⟩, rfl⟩, rfl⟩
  · obtain ⟨v, hv, rfl⟩ := List.mem_map.1 he
    have hx : v ∈ exV (turnsP q.Prefix) := by simpa using (List.mem_filter.1 hv).2
    exact ⟨hx, onL_mem hg hx⟩
theorem blk_sub (p : List S_api_Block) (v : Int) : (turnsP (blkB p v)).Sublist (turnsP p) := by
  have := List.takeWhile_append_dropWhile (p := fun b : S_api_Block => !decide (v ∈ b.Vars)) (l := p)
  conv => rhs; rw [← this, turns_app]
  exact List.sublist_append_left ..
theorem onL_nd (hg : Gd q) (v : Int) : (unV (turnsP (blkB q.Prefix v))).Nodup := by
  refine unV_sub ?_
  have h1 := gd_nd hg
  exact h1.sublist (List.Sublist.map _ (blk_sub _ _))
theorem onL_len (hl : (flat q.Prefix).length ≤ 100) (v : Int) : (onL q.Prefix v).length ≤ 100 := by
  unfold onL
  rw [srt_len]
  have h1 := unV_len (turnsP (blkB q.Prefix v))
  have h2 : (turnsP (blkB q.Prefix v)).length ≤ (turnsP q.Prefix).length := (blk_sub _ _).length_le
  have := turns_len q.Prefix
  omega
theorem dq_vars : varsD (dq q) = (srt (flat q.Prefix)).filter (fun v => decide (v ∈ exV (turnsP q.Prefix))) := by
  unfold varsD dq
  simp [List.map_map, Function.comp_def]
theorem dq_len : (dq q).Univ.length + (dq q).Exist.length = (flat q.Prefix).length := by
  unfold dq
  simp only [List.length_map]
  rw [← srt_len (flat q.Prefix)]
  generalize srt (flat q.Prefix) = l
  induction l with
  | nil => rfl
  | cons x l ih =>
    rw [List.filter_cons, List.filter_cons]
    by_cases h : x ∈ exV (turnsP q.Prefix)
    · simp only [h, decide_true, Bool.not_true, Bool.false_eq_true, if_false, if_true, List.length_cons]; omega
    · simp only [h, decide_false, Bool.not_false, Bool.false_eq_true, if_false, if_true, List.length_cons]; omega
end
end Go.Sk.X
namespace Go.Sk.X
open Go Go.Sk
section
variable {q : S_api_Qbf}
theorem dq_may (hq : Sq q) (hg : Gd q) : MayD (dq q) = true := by
  have hvs := hq.vs
  have hcl := hq.cl
  have htot := hq.tot
  have hof := dq_of hg
  have hasc := srt_asc hg.nd
  have hone : ∀ x ∈ srt (flat q.Prefix), 0 < x ∧ x ≤ 65536 := fun x hx => by
    have := hg.one x (srt_mem.1 hx); omega
  simp only [MayD, Bool.and_eq_true, decide_eq_true_eq]
  refine ⟨?_, ?_, ?_, ?_, ?_, ?_, ?_⟩
  · rw [List.all_eq_true]
    intro e he
    obtain ⟨h1, h2⟩ := hof.on e he
    obtain ⟨v, hv, rfl⟩ := List.mem_map.1 he
    have hno : v ∉ (dq q).Univ := fun hm => un_ex hg ((hof.un v).1 hm) h1
    simp only [Bool.and_eq_true, Bool.not_eq_true', decide_eq_false_iff_not, depB]
    refine ⟨hno, ?_, ?_⟩
    · refine rs_iff.2 ⟨srt_asc (onL_nd hg v), fun x hx => ?_⟩
      have := hg.one x (un_flat ((h2 x).1 hx).1); omega
    · rw [List.all_eq_true]
      intro x hx
      exact decide_eq_true ((hof.un x).2 ((h2 x).1 hx).1)
  · exact rs_iff.2 ⟨hasc.filter _, fun x hx => hone x (List.mem_filter.1 hx).1⟩
  · rw [dq_vars]
    exact rs_iff.2 ⟨hasc.filter _, fun x hx => hone x (List.mem_filter.1 hx).1⟩
  · have := dq_len (q := q); omega
  · show q.Clauses.length ≤ 20000
    omega
  · rw [List.all_eq_true]
    intro c hc
    have hc : c ∈ q.Clauses := hc
    simp only [Bool.and_eq_true]
    refine ⟨hg.nrm c hc, ?_⟩
    rw [List.all_eq_true]
    intro x hx
    refine decide_eq_true (List.mem_append.2 ?_)
    rcases mem_flat (hg.wi c hc x hx) with h | h
    · exact .inl ((hof.un _).2 h)
    · right
      rw [dq_vars]
      exact List.mem_filter.2 ⟨srt_mem.2 (ex_flat h), by simp [h]⟩
  · show tot q.Clauses ≤ 200000
    omega
theorem sum_on {l : List S_api_Dep} {n : Nat} (h : ∀ e ∈ l, e.On.length ≤ n) : (l.map fun e => e.On.length).sum ≤ n * l.length := by
  induction l with
  | nil => simp
  | cons e l ih =>
    have h1 := h e (by simp)
    have h2 := ih (fun x hx => h x (by simp [hx]))
    simp only [List.map_cons, List.sum_cons, List.length_cons, Nat.mul_add]
    omega
theorem dq_sm (hq : Sq q) : Sm (dq q) := by
  have hvs := hq.vs
  have hcl := hq.cl
  have htot := hq.tot
  have hl := dq_len (q := q)
  refine ⟨by omega, by omega, by show q.Clauses.length ≤ _; omega, by show Go.Sk.X.tot q.Clauses ≤ _; omega, ?_⟩
  have h1 := sum_on (l := (dq q).Exist) (n := 100) (fun e he => by
    obtain ⟨v, _, rfl⟩ := List.mem_map.1 he
    exact onL_len hvs v)
  have : 100 * (dq q).Exist.length ≤ 100 * 100 := Nat.mul_le_mul_left _ (by omega)
  omega
theorem zip_all_self {α : Type} {p : α → α → Bool} : ∀ {a b : List α}, a.length = b.length → (∀ (i : Nat) (x y : α), a[i]? = some x → b[i]? = some y → p x y = true) → ((a.zip b).all fun z => p z.1 z.2) = true
  | [], [], _, _ => rfl
  | x :: a, y :: b, hl, h => by
    rw [List.zip_cons_cons, List.all_cons, h 0 x y rfl rfl, zip_all_self (by simpa using hl) (fun i u v h1 h2 => h (i + 1) u v (by simpa using h1) (by simpa using h2))]
    rfl
  | [], _ :: _, hl, _ => by simp at hl
  | _ :: _, [], hl, _ => by simp at hl
theorem hD_alike (q : S_api_Qbf) (T : List S_api_Table) : alikeB T (hD q T) = true := by
  unfold alikeB
  have hlen := hD_len q T
  rw [Bool.and_eq_true]
  refine ⟨decide_eq_true hlen.symm, ?_⟩
  refine zip_all_self hlen.symm (fun i x y hx hy => ?_)
  have h1 := congrArg (fun l => l[i]?) (hD_vars q T)
  simp only [List.getElem?_map, hx, hy, Option.map_some, Option.some.injEq, Prod.mk.injEq] at h1
  unfold likeB
  simp only [Bool.and_eq_true, decide_eq_true_eq]
  exact ⟨h1.1.symm, h1.2.symm, hD_bits (List.mem_of_getElem? hy)⟩
theorem hD_lsm (hg : Gd q) (hl : (flat q.Prefix).length ≤ 10) : LSm (hD q (tabsT [] (turnsP q.Prefix))) := by
  have htl := turns_len q.Prefix
  constructor
  · rw [hD_len]
    have h1 := congrArg List.length (tabs_var (turnsP q.Prefix) [])
    rw [List.length_map] at h1
    rw [h1]
    have := unV_len (turnsP q.Prefix)
    omega
  · intro t ht
    obtain ⟨u, hu, _, e⟩ := hD_on ht
    have hex : (exV (turnsP q.Prefix)).Nodup := exV_sub (gd_nd hg)
    have ho := tabs_on (turnsP q.Prefix) [] (by rw [List.nil_append]; exact hex) u hu
    have hn := nodup_len (ho.2.1) (by simpa using ho.2.2)
    have hle := exV_len (turnsP q.Prefix)
    rw [e] at hn
    have hp : 2 ^ t.On.length ≤ 2 ^ 10 := pw_le (by omega)
    have : (2 : Nat) ^ 10 = 1024 := rfl
    have hb := hD_bits ht
    omega
end
theorem law_TruthGames {a0 : S_api_Qbf} (h0 : Z_S_api_Qbf a0) : F_skolemlaw04_TruthGames a0 = some true := by
  obtain ⟨b, hb, hs⟩ := great_eq h0
  unfold F_skolemlaw04_TruthGames
  simp only [jn_eq]
  rw [hb, Option.bind_some]
  cases b
  case true => simp [head_eq]
  have hq := hs rfl
  rw [rmay_eq hq, Option.bind_some]
  cases hM : MayQ a0
  case false => simp [head_eq]
  have hg := gd_of hM
  have hvs := hq.vs
  simp only [Bool.not_true, Bool.false_eq_true, if_false]
  rw [dq_eq hq hM, Option.bind_some]
  simp only
  have hdl := dq_len (q := a0)
  have hw : IntKind.wrap .i64 ((((dq a0).Univ.length : Nat) : Int) + (((dq a0).Exist.length : Nat) : Int)) = (((flat a0.Prefix).length : Nat) : Int) := by rw [wrap_id (by omega) (by omega)]; omega
  rw [hw]
  by_cases h10 : (((flat a0.Prefix).length : Nat) : Int) > 10
  · simp [h10, head_eq]
  have h10' : (flat a0.Prefix).length ≤ 10 := by omega
  have h16 : ¬ (flat a0.Prefix).length > 16 := by omega
  have hsm := dq_sm hq
  have hMd := dq_may hq hg
  have hsem := sem_game hg (dq_of hg)
  have htl := turns_len a0.Prefix
  have htof := dual_tof hg (hD_alike a0 (tabsT [] (turnsP a0.Prefix)))
  simp only [h10, decide_false, Bool.false_eq_true, if_false]
  rw [qbf_p hq, Option.bind_some, pdq hsm, Option.bind_some]
  simp only [hM, h16, if_true, if_false]
  rw [pherb_eq hq]
  simp only [Option.bind_some]
  have hL : F_truth_Loses a0 (herbV a0).1 = some (losesV a0 (herbV a0).1) ∨ (herbV a0).2 ≠ 0 := by
    unfold herbV
    simp only [hM, h16, if_true, if_false]
    by_cases hc : cntT 20 [] (turnsP a0.Prefix) ≤ 4096
    · simp only [hc, if_true]
      by_cases hgm : gameB a0.Clauses (turnsP a0.Prefix) (fun _ => false) = true
      · simp [hgm]
      · simp only [hgm, Bool.false_eq_true, if_false]
        exact .inl (pL_eq hq (hD_lsm hg h10'))
    · simp [hc]
  have hV : (herbV a0).2 = if cntT 20 [] (turnsP a0.Prefix) ≤ 4096 then (if gameB a0.Clauses (turnsP a0.Prefix) (fun _ => false) = true then 6 else 0) else 3 := by
    unfold herbV
    simp only [hM, h16, if_true, if_false]
    by_cases hc : cntT 20 [] (turnsP a0.Prefix) ≤ 4096
    · simp only [hc, if_true]
      by_cases hgm : gameB a0.Clauses (turnsP a0.Prefix) (fun _ => false) = true
      · simp [hgm]
      · simp [hgm]
    · simp [hc]
  have hLv : cntT 20 [] (turnsP a0.Prefix) ≤ 4096 → gameB a0.Clauses (turnsP a0.Prefix) (fun _ => false) = false → losesV a0 (herbV a0).1 = (true, 0) := fun hc hgm => by
    have e : (herbV a0).1 = hD a0 (tabsT [] (turnsP a0.Prefix)) := by
      unfold herbV
      simp [hM, h16, hc, hgm]
    rw [e]
    unfold losesV
    rw [if_pos hM, if_pos (hD_alike _ _), if_pos ⟨hc, by omega⟩, herb_loses hg hgm htof]
  have hfew : fewB (dq a0) = true → gameB a0.Clauses (turnsP a0.Prefix) (fun _ => false) = true → dqV (dq a0) = (1, 0) ∧ ∃ l, F_truth_Skolem (dq a0) = some (l, 0) ∧ F_truth_Wins (dq a0) l = some (true, 0) := fun hF hgm => by
    have s2 := hsem.2 hgm
    refine ⟨?_, ?_⟩
    · rcases dqV_may hMd with ⟨_, ⟨h, _⟩ | ⟨_, h⟩⟩ | ⟨h, _⟩
      · exact h
      · exact absurd s2 h
      · rw [hF] at h; cases h
    · have hsk : skR (dq a0) = skV (dq a0) := by unfold skR; rw [if_pos hMd, if_pos hF]
      have s1 : (skV (dq a0)).2 = 0 := by
        rcases skV_sem (may_of hMd) with ⟨h, _⟩ | ⟨_, h⟩
        · exact h
        · exact absurd s2 h
      obtain ⟨l, hl⟩ : ∃ l, skV (dq a0) = (l, 0) := ⟨(skV (dq a0)).1, by rw [← s1]⟩
      obtain ⟨w1, w2, _⟩ := skV_least hl
      refine ⟨l, by rw [pskol hsm, hsk, hl], ?_⟩
      rw [pW_eq hsm (lsm_of (few_of hF) w2)]
      unfold winsV
      rw [if_pos hMd, if_pos (alike_tof w2), if_pos hF, w1]
  have hlost : fewB (dq a0) = true → gameB a0.Clauses (turnsP a0.Prefix) (fun _ => false) = false → dqV (dq a0) = (2, 0) ∧ ∃ l, F_truth_Skolem (dq a0) = some (l, 6) := fun hF hgm => by
    have s2 : ¬ Sem (dq a0) := fun h => by rw [hsem.1 h] at hgm; cases hgm
    refine ⟨?_, ?_⟩
    · rcases dqV_may hMd with ⟨_, ⟨_, h⟩ | ⟨h, _⟩⟩ | ⟨h, _⟩
      · exact absurd h s2
      · exact h
      · rw [hF] at h; cases h
    · have hsk : skR (dq a0) = skV (dq a0) := by unfold skR; rw [if_pos hMd, if_pos hF]
      have s1 : (skV (dq a0)).2 = 6 := by
        rcases skV_sem (may_of hMd) with ⟨_, h⟩ | ⟨h, _⟩
        · exact absurd h s2
        · exact h
      exact ⟨(skV (dq a0)).1, by rw [pskol hsm, hsk, ← s1]⟩
  have hmany : fewB (dq a0) = false → dqV (dq a0) = (0, 3) := fun hF => by
    rcases dqV_may hMd with ⟨h, _⟩ | ⟨_, h⟩
    · rw [hF] at h; cases h
    · exact h
  cases hgm : gameB a0.Clauses (turnsP a0.Prefix) (fun _ => false)
  · rw [hgm] at hV hLv
    have hL2 : cntT 20 [] (turnsP a0.Prefix) ≤ 4096 → F_truth_Loses a0 (herbV a0).1 = some (true, 0) := fun hc => by
      rw [if_pos hc] at hV
      rcases hL with h | h
      · rw [h, hLv hc rfl]
      · exact absurd (by simpa using hV) h
    cases hF : fewB (dq a0)
    · have d1 := hmany hF
      by_cases hc : cntT 20 [] (turnsP a0.Prefix) ≤ 4096
      · have e1 := hL2 hc
        rw [if_pos hc] at hV
        simp [hV, e1, d1, head_eq]
      · rw [if_neg hc] at hV
        simp [hV, d1, head_eq]
    · obtain ⟨d1, l, d2⟩ := hlost hF hgm
      by_cases hc : cntT 20 [] (turnsP a0.Prefix) ≤ 4096
      · have e1 := hL2 hc
        rw [if_pos hc] at hV
        simp [hV, e1, d1, d2, head_eq]
      · rw [if_neg hc] at hV
        simp [hV, d1, d2, head_eq]
  · rw [hgm] at hV
    cases hF : fewB (dq a0)
    · have d1 := hmany hF
      by_cases hc : cntT 20 [] (turnsP a0.Prefix) ≤ 4096
      · rw [if_pos hc] at hV
        simp [hV, d1, head_eq]
      · rw [if_neg hc] at hV
        simp [hV, d1, head_eq]
    · obtain ⟨d1, l, d2, d3⟩ := hfew hF hgm
      by_cases hc : cntT 20 [] (turnsP a0.Prefix) ≤ 4096
      · rw [if_pos hc] at hV
        simp [hV, d1, d2, d3, head_eq]
      · rw [if_neg hc] at hV
        simp [hV, d1, d2, d3, head_eq]
end Go.Sk.X