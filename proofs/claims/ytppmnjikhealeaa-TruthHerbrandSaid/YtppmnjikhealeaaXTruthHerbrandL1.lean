/- The plain law of TruthHerbrand: about numbers and lists alone. It has no conditions. -/
import Derived.Test.YtppmnjikhealeaaXTruthHerbrandF
set_option linter.unusedVariables false
set_option linter.unusedSimpArgs false
namespace Go.Sk
open Go
theorem jn_eq {S R : Type} (f : S → Option R) (g : (S → Option R) → Option R) : jn f g = g f := rfl
theorem rangeF_nil {α S R : Type} (f : Nat → α → S → (S → Option R) → Option R) (i : Nat) (s : S) (k : S → Option R) : rangeF f i [] s k = k s := rfl
theorem rangeF_cons {α S R : Type} (f : Nat → α → S → (S → Option R) → Option R) (i : Nat) (x : α) (xs : List α) (s : S) (k : S → Option R) : rangeF f i (x :: xs) s k = f i x s (fun s' => rangeF f (i + 1) xs s' k) := rfl
theorem upF_zero {S R : Type} (f : Int → S → (S → Option R) → Option R) (i : Int) (s : S) (k : S → Option R) : upF f 0 i s k = k s := rfl
theorem upF_succ {S R : Type} (f : Int → S → (S → Option R) → Option R) (n : Nat) (i : Int) (s : S) (k : S → Option R) : upF f (n + 1) i s k = f i s (fun s' => upF f n (i + 1) s' k) := rfl
theorem whileF_succ {S R : Type} (n : Nat) (b : (S → Option R) → S → Option R) (s : S) : whileF (n + 1) b s = b (whileF n b) s := rfl
theorem whileF_by {S R : Type} {b : (S → Option R) → S → Option R} (μ : S → Nat) (I : S → Prop) (g : S → Option R)
    (step : ∀ s k, I s → (∀ s', I s' → μ s' < μ s → k s' = g s') → b k s = g s) : ∀ n s, I s → μ s < n → whileF n b s = g s
  | 0, s, _, h => absurd h (Nat.not_lt_zero _)
  | n + 1, s, hI, h => by
    rw [whileF_succ]
    exact step s _ hI (fun s' h1 h2 => whileF_by μ I g step n s' h1 (by omega))
theorem rangeF_eq {α S R : Type} {f : Nat → α → S → (S → Option R) → Option R} {k : S → Option R} (g : Nat → List α → S → Option R) (h0 : ∀ j s, g j [] s = k s)
    (h1 : ∀ j x xs s kk, (∀ s', kk s' = g (j + 1) xs s') → f j x s kk = g j (x :: xs) s) : ∀ xs j s, rangeF f j xs s k = g j xs s
  | [], j, s => (h0 j s).symm
  | x :: xs, j, s => h1 j x xs s _ (fun s' => rangeF_eq g h0 h1 xs (j + 1) s')
theorem rangeF_pre {α S R : Type} {f : Nat → α → S → (S → Option R) → Option R} {k : S → Option R} (full : List α) (I : List α → S → Prop) (g : List α → List α → S → Option R) (h0 : ∀ s, I full s → k s = g full [] s)
    (h1 : ∀ pre x xs s kk, full = pre ++ x :: xs → I pre s → (∀ s', I (pre ++ [x]) s' → kk s' = g (pre ++ [x]) xs s') → f pre.length x s kk = g pre (x :: xs) s) : ∀ xs pre s, full = pre ++ xs → I pre s → rangeF f pre.length xs s k = g pre xs s
  | [], pre, s, hf, hI => by
    rw [List.append_nil] at hf; subst hf
    exact h0 s hI
  | x :: xs, pre, s, hf, hI => by
    refine h1 pre x xs s _ hf hI (fun s' hs' => ?_)
    have := rangeF_pre full I g h0 h1 xs (pre ++ [x]) s' (by simp [hf]) hs'
    rw [List.length_append] at this
    exact this
theorem wrap_id {n : Int} (h0 : -9223372036854775808 ≤ n) (h1 : n ≤ 9223372036854775807) : IntKind.wrap .i64 n = n := by
  simp only [IntKind.wrap, IntKind.bits, IntKind.signed]
  simp only [Bool.true_and]
  split <;> rename_i h <;> simp only [ge_iff_le, decide_eq_true_eq] at h <;> omega
def av (x : Int) : Int := if x < 0 then -x else x
def nrmB (last : Int) : List Int → Bool
  | [] => true
  | x :: xs => decide (-65536 ≤ x) && decide (x ≤ 65536) && decide (last < av x) && nrmB (av x) xs
theorem av_nonneg (x : Int) : 0 ≤ av x := by unfold av; split <;> omega
theorem av_neg (x : Int) : av (-x) = av x := by unfold av; split <;> split <;> omega
theorem av_eq {x y : Int} (h : av x = av y) : x = y ∨ x = -y := by unfold av at h; split at h <;> split at h <;> omega
theorem nrm_cons {c x : Int} {xs : List Int} : nrmB c (x :: xs) = true ↔ -65536 ≤ x ∧ x ≤ 65536 ∧ c < av x ∧ nrmB (av x) xs = true := by
  simp [nrmB, and_assoc]
theorem nrm_mem : ∀ {c : Int} {l : List Int}, nrmB c l = true → ∀ x ∈ l, c < av x ∧ -65536 ≤ x ∧ x ≤ 65536
  | c, [], _, x, h => by simp at h
  | c, y :: ys, h, x, hx => by
    rw [nrm_cons] at h
    rcases List.mem_cons.1 hx with rfl | hx
    · exact ⟨h.2.2.1, h.1, h.2.1⟩
    · have := nrm_mem h.2.2.2 x hx
      exact ⟨by omega, this.2⟩
end Go.Sk
namespace Go.Sk
open Go
def Has1 {R : Type} (Post : R → Prop) (x : Option R) : Prop := ∃ r, x = some r ∧ Post r
theorem rangeF_ex {α S R : Type} {Post : R → Prop} {f : Nat → α → S → (S → Option R) → Option R} {k : S → Option R} (full : List α) (I : List α → S → Prop) (h0 : ∀ s, I full s → Has1 Post (k s))
    (h1 : ∀ pre x xs s kk, full = pre ++ x :: xs → I pre s → (∀ s', I (pre ++ [x]) s' → Has1 Post (kk s')) → Has1 Post (f pre.length x s kk)) : ∀ xs pre s, full = pre ++ xs → I pre s → Has1 Post (rangeF f pre.length xs s k)
  | [], pre, s, hf, hI => by
    rw [List.append_nil] at hf; subst hf
    exact h0 s hI
  | x :: xs, pre, s, hf, hI => by
    refine h1 pre x xs s _ hf hI (fun s' hs' => ?_)
    have := rangeF_ex full I h0 h1 xs (pre ++ [x]) s' (by simp [hf]) hs'
    rw [List.length_append] at this
    exact this
theorem rangeF_fold {α S R : Type} (g : S → α → S) (k : S → Option R) : ∀ (xs : List α) (j : Nat) (s : S), rangeF (fun _ x s k => k (g s x)) j xs s k = k (xs.foldl g s)
  | [], _, _ => rfl
  | x :: xs, j, s => by rw [rangeF_cons]; exact rangeF_fold g k xs (j + 1) (g s x)
def rsB (c : Int) : List Int → Bool
  | [] => true
  | x :: xs => decide (c < x) && (decide (x ≤ 65536) && rsB x xs)
def lastD (l : List Int) : Int := (l.getLast?).getD 0
theorem lastD_app (l : List Int) (x : Int) : lastD (l ++ [x]) = x := by simp [lastD]
theorem lastD_get {l : List Int} (h : 0 < l.length) : l[l.length - 1]? = some (lastD l) := by
  unfold lastD
  rw [List.getLast?_eq_getElem?]
  have : l.length - 1 < l.length := by omega
  rw [List.getElem?_eq_getElem this]; rfl
theorem mget_fold {β : Type} (v : β) : ∀ (xs : List Int) (m : List (Int × β)) (k : Int), mget (xs.foldl (fun m x => mset m x v) m) k = if k ∈ xs then some v else mget m k
  | [], m, k => by simp
  | x :: xs, m, k => by
    rw [List.foldl_cons, mget_fold v xs, mget_mset]
    by_cases h1 : k ∈ xs
    · simp [h1]
    · by_cases h2 : k = x <;> simp [h1, h2]
end Go.Sk
namespace Go.Sk.X
open Go Go.Sk
theorem abs3_eq {x : Int} (h0 : -9223372036854775807 ≤ x) (h1 : x ≤ 9223372036854775807) : F_skolemref03_Abs x = some (av x) := by
  unfold F_skolemref03_Abs av
  by_cases h : x < 0
  · have e : IntKind.wrap .i64 (0 - x) = -x := by rw [wrap_id (by omega) (by omega)]; omega
    simp only [h, decide_true, if_true, e]
  · simp [h]
theorem absp_eq {x : Int} (h0 : -9223372036854775807 ≤ x) (h1 : x ≤ 9223372036854775807) : F_prefix_abs x = some (av x) := by
  unfold F_prefix_abs av imx
  have e : IntKind.wrap .i64 (0 - x) = -x := by rw [wrap_id (by omega) (by omega)]; omega
  rw [e]
  by_cases h : x < 0
  · rw [if_pos (by omega), if_pos h]
  · rw [if_neg (by omega), if_neg h]
theorem normal_eq (a : List Int) (hl : a.length ≤ 4194304) : F_skolemref03_Normal a = some (nrmB 0 a) := by
  refine rangeF_pre a (fun pre _ => pre = [] ∨ (-65536 ≤ lastD pre ∧ lastD pre ≤ 65536)) (fun pre xs _ => some (nrmB (if pre = [] then 0 else av (lastD pre)) xs)) (fun _ _ => rfl) ?_ a [] () rfl (.inl rfl)
  intro pre x xs s kk hf hI hk
  have hlen : pre.length < a.length := by rw [hf]; simp
  simp only [jn_eq, nrmB]
  have av0 := av_nonneg (lastD pre)
  by_cases h0 : x = 0
  · subst h0
    have : av 0 = 0 := rfl
    have h5 : ¬ (if pre = [] then 0 else av (lastD pre)) < av 0 := by rw [this]; split <;> omega
    simp [h5]
  have h0' : (x == 0) = false := by simp [h0]
  by_cases h1 : x < -65536
  · have : ¬ -65536 ≤ x := by omega
    simp [h0', h1, this]
  by_cases h2 : x > 65536
  · have : ¬ x ≤ 65536 := by omega
    simp [h0', h1, h2, this]
  have hk' := hk () (.inr (by rw [lastD_app]; omega))
  rw [lastD_app] at hk'
  simp only [List.append_eq_nil_iff, List.cons_ne_self, and_false, if_false, reduceCtorEq] at hk'
  have h3 : x ≤ 65536 := by omega
  have h3' : -65536 ≤ x := by omega
  by_cases hp : 0 < pre.length
  · have e : IntKind.wrap .i64 (((pre.length : Nat) : Int) - 1) = ((pre.length - 1 : Nat) : Int) := by rw [wrap_id (by omega) (by omega)]; omega
    have hg : a[pre.length - 1]? = some (lastD pre) := by
      rw [hf, List.getElem?_append_left (by omega)]
      exact lastD_get hp
    have hp' : ((pre.length : Nat) : Int) > 0 := by omega
    have hne : pre ≠ [] := by intro e; subst e; simp at hp
    rcases hI with rfl | ⟨i1, i2⟩
    · exact absurd rfl hne
    simp only [h0', h1, h2, hp', e, getI_nat, hg, abs3_eq (x := x) (by omega) (by omega), abs3_eq (x := lastD pre) (by omega) (by omega), Option.bind_some, decide_false, decide_true, if_true, if_false, Bool.false_eq_true, hne]
    by_cases h4 : av (lastD pre) ≥ av x
    · have : ¬ av (lastD pre) < av x := by omega
      simp [h4, this]
    · have : av (lastD pre) < av x := by omega
      simp [h4, this, h3, h3', hk']
  · have : pre = [] := List.eq_nil_of_length_eq_zero (by omega)
    subst this
    have h4 : 0 < av x := by unfold av; split <;> omega
    simp [h0', h1, h2, h3, h3', h4, hk']
theorem has_eq (l : List Int) (v : Int) : F_skolemref03_Has l v = some (decide (v ∈ l)) := by
  refine rangeF_eq (fun _ xs _ => some (decide (v ∈ xs))) (fun _ _ => by simp) ?_ l 0 ()
  intro j x xs s kk hk
  by_cases h : x = v
  · subst h; simp
  · have : ¬ v = x := fun e => h e.symm
    simp [h, hk, this]
def singB (pre : List Int) : List Int → Bool
  | [] => true
  | x :: xs => decide (1 ≤ x) && (decide (x ≤ 65536) && (!decide (x ∈ pre) && singB (pre ++ [x]) xs))
theorem single_eq (a : List Int) : F_skolemref03_single a = some (singB [] a) := by
  refine rangeF_pre a (fun pre _ => True) (fun pre xs _ => some (singB pre xs)) (fun _ _ => rfl) ?_ a [] () rfl trivial
  intro pre x xs s kk hf hI hk
  have hlen : pre.length < a.length := by rw [hf]; simp
  have hk' := hk () trivial
  simp only [jn_eq, singB]
  by_cases h1 : x < 1
  · have : ¬ 1 ≤ x := by omega
    simp [h1, this]
  by_cases h2 : x > 65536
  · have : ¬ x ≤ 65536 := by omega
    simp [h1, h2, this]
  have h3 : x ≤ 65536 := by omega
  have h4 : 1 ≤ x := by omega
  have ht : a.take (((pre.length : Nat) : Int)).toNat = pre := by rw [hf]; simp
  have ho : 0 ≤ ((pre.length : Nat) : Int) ∧ ((pre.length : Nat) : Int).toNat ≤ a.length := ⟨by omega, by omega⟩
  rw [okI_eq ho, ht, has_eq]
  by_cases h5 : x ∈ pre <;> simp [h1, h2, h3, h4, h5, hk']
theorem sing_iff : ∀ (l pre : List Int), singB pre l = true ↔ (∀ x ∈ l, 1 ≤ x ∧ x ≤ 65536) ∧ l.Nodup ∧ ∀ x ∈ l, x ∉ pre
  | [], pre => by simp [singB]
  | y :: l, pre => by
    simp only [singB, Bool.and_eq_true, decide_eq_true_eq, Bool.not_eq_true', decide_eq_false_iff_not, sing_iff l (pre ++ [y]), List.mem_append, List.mem_singleton, not_or, List.mem_cons, List.not_mem_nil, or_false, forall_eq_or_imp, List.nodup_cons]
    constructor
    · rintro ⟨a, b, c, d, e, f⟩
      exact ⟨⟨⟨a, b⟩, d⟩, ⟨fun hm => (f y hm).2 rfl, e⟩, c, fun x hx => (f x hx).1⟩
    · rintro ⟨⟨⟨a, b⟩, d⟩, ⟨f, e⟩, c, g⟩
      exact ⟨a, b, c, d, e, fun x hx => ⟨g x hx, fun e => f (e ▸ hx)⟩⟩
def varsD (d : S_api_Dqbf) : List Int := d.Exist.map (·.Var)
def tot (cs : List (List Int)) : Nat := (cs.map List.length).sum
theorem tot_app (a b : List (List Int)) : tot (a ++ b) = tot a + tot b := by simp [tot]
theorem tot_cons (a : List Int) (b : List (List Int)) : tot (a :: b) = a.length + tot b := by simp [tot]
theorem tot_mem {cs : List (List Int)} {c : List Int} (h : c ∈ cs) : c.length ≤ tot cs := by
  obtain ⟨a, b, rfl⟩ := List.append_of_mem h
  rw [tot_app, tot_cons]; omega
theorem cnf_eq (cs : List (List Int)) (h : tot cs ≤ 4194304) : F_skolemref03_Cnf cs = some (cs.all (nrmB 0) && (decide (cs.length ≤ 20000) && decide (tot cs ≤ 200000))) := by
  refine rangeF_pre cs (fun pre s => s = (tot pre : Int)) (fun pre xs s => some (xs.all (nrmB 0) && (decide (cs.length ≤ 20000) && decide (tot cs ≤ 200000)))) ?_ ?_ cs [] 0 rfl rfl
  · rintro s rfl
    by_cases h1 : cs.length ≤ 20000
    · have : ((cs.length : Nat) : Int) ≤ 20000 := by omega
      by_cases h2 : tot cs ≤ 200000
      · have h3 : (tot cs : Int) ≤ 200000 := by omega
        simp [this, h1, h2, h3]
      · have h3 : ¬ (tot cs : Int) ≤ 200000 := by omega
        simp [this, h1, h2, h3]
    · have : ¬ ((cs.length : Nat) : Int) ≤ 20000 := by omega
      simp [this, h1]
  · intro pre x xs s kk hf hI hk
    have ht : tot pre + x.length ≤ tot cs := by rw [hf, tot_app, tot_cons]; omega
    rw [normal_eq x (by omega), Option.bind_some]
    have hk' := hk (IntKind.wrap .i64 (s + ((x.length : Nat) : Int))) (by rw [hI, wrap_id (by omega) (by omega), tot_app]; simp [tot])
    by_cases hx : nrmB 0 x = true
    · simp [hx, hk']
    · simp [hx]
theorem within_in (u : List Int) (kk : Unit → Option Bool) (c : List Int) (hr : ∀ x ∈ c, -65536 ≤ x ∧ x ≤ 65536) (hl : c.length ≤ 4194304) (R : Option Bool) (hk : kk () = R) :
    whileF 1000000000000 (fun k130 (s128 : Int) => (if (decide (s128 < ((c.length : Nat) : Int))) = true then (getI c s128 (fun x146 => ((F_skolemref03_Abs x146).bind (fun y147 => ((F_skolemref03_Has u y147).bind (fun y148 => (if (!y148) = true then (some false) else (k130 (IntKind.wrap .i64 (s128 + (1 : Int))))))))))) else (kk ()))) (0 : Int)
      = if (c.all fun x => decide (av x ∈ u)) = true then R else some false := by
  have := whileF_by (b := (fun k130 (s128 : Int) => (if (decide (s128 < ((c.length : Nat) : Int))) = true then (getI c s128 (fun x146 => ((F_skolemref03_Abs x146).bind (fun y147 => ((F_skolemref03_Has u y147).bind (fun y148 => (if (!y148) = true then (some false) else (k130 (IntKind.wrap .i64 (s128 + (1 : Int))))))))))) else (kk ())))) (fun s : Int => c.length - s.toNat) (fun s => 0 ≤ s ∧ s ≤ c.length) (fun s => if ((c.drop s.toNat).all fun x => decide (av x ∈ u)) = true then R else some false) ?_ 1000000000000 0 (by simp) (by simp; omega)
  · simpa using this
  · intro s k ⟨h0, h1⟩ hs
    by_cases h2 : s < ((c.length : Nat) : Int)
    · obtain ⟨n, rfl⟩ : ∃ n : Nat, s = n := ⟨s.toNat, by omega⟩
      have hn : n < c.length := by omega
      have hd : c.drop n = c[n] :: c.drop (n + 1) := by rw [List.drop_eq_getElem_cons hn]
      have hm := hr c[n] (List.getElem_mem hn)
      have hw : IntKind.wrap .i64 (((n : Nat) : Int) + 1) = ((n + 1 : Nat) : Int) := by rw [wrap_id (by omega) (by omega)]; omega
      have hs' := hs ((n + 1 : Nat) : Int) ⟨by omega, by omega⟩ (by simp; omega)
      simp only [h2, decide_true, if_true, getI_nat, List.getElem?_eq_getElem hn, abs3_eq (x := c[n]) (by omega) (by omega), has_eq, Option.bind_some, hw, hs', Int.toNat_natCast, hd, List.all_cons]
      by_cases h3 : av c[n] ∈ u <;> simp [h3]
    · have : s.toNat = c.length := by omega
      simp [h2, this, hk]
theorem within_eq (cs : List (List Int)) (u : List Int) (hr : ∀ c ∈ cs, nrmB 0 c = true) (hl : tot cs ≤ 4194304) : F_skolemref03_within cs u = some (cs.all fun c => c.all fun x => decide (av x ∈ u)) := by
  refine rangeF_pre cs (fun pre _ => True) (fun _ xs _ => some (xs.all fun c => c.all fun x => decide (av x ∈ u))) (fun _ _ => rfl) ?_ cs [] () rfl trivial
  intro pre x xs s kk hf hI hk
  have hx : x ∈ cs := by rw [hf]; simp
  rw [within_in u kk x (fun y hy => (nrm_mem (hr x hx) y hy).2) (Nat.le_trans (tot_mem hx) hl) _ (hk () trivial)]
  by_cases h : (x.all fun x => decide (av x ∈ u)) = true
  · rw [if_pos h]; simp only [List.all_cons, h, Bool.true_and]
  · rw [if_neg h]; simp only [List.all_cons, Bool.eq_false_iff.2 h, Bool.false_and]
end Go.Sk.X
namespace Go.Sk.X
open Go Go.Sk
structure Sm (d : S_api_Dqbf) : Prop where
  univ : d.Univ.length ≤ 2097152
  exist : d.Exist.length ≤ 2097152
  cls : d.Clauses.length ≤ 2097152
  tot : tot d.Clauses ≤ 2097152
  on : (d.Exist.map fun e => e.On.length).sum ≤ 2097152
theorem lits_in (m : Int → Bool) (kk : Int → Option Bool) (l : List Int) (R : Option Bool) (hk : ∀ s, kk s = R) :
    rangeF (fun (j3902 : Nat) (x3903 : Int) (s3899 : Int) k3901 => (jn (fun (s4091 : Bool) => (if s4091 = true then (some false) else ((F_prefix_abs x3903).bind (fun y4095 => (k3901 y4095))))) (fun k4093 => (if (x3903 == (0 : Int)) = true then (k4093 true) else (if (decide (x3903 < (-65536 : Int))) = true then (k4093 true) else (if (decide (x3903 > (65536 : Int))) = true then (k4093 true) else ((F_prefix_abs x3903).bind (fun y4099 => (if (decide (y4099 ≤ s3899)) = true then (k4093 true) else ((F_prefix_abs x3903).bind (fun y4101 => (k4093 (!(m y4101)))))))))))))) 0 l (0 : Int) kk
      = if (nrmB 0 l && l.all fun x => m (av x)) = true then R else some false := by
  refine rangeF_pre l (fun _ s => 0 ≤ s) (fun _ xs s => if (nrmB s xs && xs.all fun x => m (av x)) = true then R else some false) (fun s _ => by simp [nrmB, hk]) ?_ l [] 0 rfl (by decide)
  intro pre x xs s k2 hf hI h2
  simp only [jn_eq]
  by_cases h0 : x = 0
  · subst h0
    have h5 : ¬ s < av 0 := by show ¬ s < 0; omega
    simp [h5, nrmB]
  have h0' : (x == 0) = false := by simp [h0]
  by_cases h1 : x < -65536
  · have : ¬ -65536 ≤ x := by omega
    simp [h0', h1, this, nrmB]
  by_cases h3 : x > 65536
  · have : ¬ x ≤ 65536 := by omega
    simp [h0', h1, h3, this, nrmB]
  have e1 : -65536 ≤ x := by omega
  have e2 : x ≤ 65536 := by omega
  rw [absp_eq (x := x) (by omega) (by omega)]
  simp only [h0', h1, h3, decide_false, Bool.false_eq_true, if_false, Option.bind_some, nrmB, e1, e2, decide_true, Bool.true_and, List.all_cons]
  by_cases h4 : av x ≤ s
  · have : ¬ s < av x := by omega
    simp [h4, this]
  · have h5 : s < av x := by omega
    rw [h2 (av x) (av_nonneg x)]
    cases h6 : m (av x) <;> simp [h4, h5, h6]
end Go.Sk.X
namespace Go.Sk.X
open Go Go.Sk
structure May (d : S_api_Dqbf) : Prop where
  dj : ∀ e ∈ d.Exist, e.Var ∉ d.Univ
  on : ∀ e ∈ d.Exist, rsB 0 e.On = true ∧ ∀ x ∈ e.On, x ∈ d.Univ
  ru : rsB 0 d.Univ = true
  rv : rsB 0 (varsD d) = true
  len : d.Univ.length + d.Exist.length ≤ 1024
  nrm : ∀ c ∈ d.Clauses, nrmB 0 c = true
  wi : ∀ c ∈ d.Clauses, ∀ x ∈ c, av x ∈ d.Univ ∨ av x ∈ varsD d
theorem May.sep {d : S_api_Dqbf} (h : May d) {x : Int} (h1 : x ∈ d.Univ) : x ∉ varsD d := fun hm => by
  obtain ⟨e, he, rfl⟩ := List.mem_map.1 hm
  exact h.dj e he h1
theorem wrapu (n : Int) : IntKind.wrap .u64 n = n % 18446744073709551616 := by
  simp only [IntKind.wrap, IntKind.bits, IntKind.signed]
  simp
end Go.Sk.X
namespace Go.Sk.X
open Go Go.Sk
end Go.Sk.X
namespace Go.Sk.X
open Go Go.Sk
end Go.Sk.X
namespace Go.Sk.X
open Go Go.Sk
theorem nodup_len : ∀ {l m : List Int}, l.Nodup → (∀ x ∈ l, x ∈ m) → l.length ≤ m.length
  | [], m, _, _ => Nat.zero_le _
  | x :: l, m, h, hm => by
    rw [List.nodup_cons] at h
    obtain ⟨a, b, rfl⟩ := List.append_of_mem (hm x (by simp))
    have := nodup_len (l := l) (m := a ++ b) h.2 (fun y hy => by
      have := hm y (by simp [hy])
      simp only [List.mem_append, List.mem_cons] at this ⊢
      rcases this with h1 | h1 | h1
      · exact .inl h1
      · subst h1; exact absurd hy h.1
      · exact .inr h1)
    simp only [List.length_append, List.length_cons] at this ⊢
    omega
end Go.Sk.X
namespace Go.Sk.X
open Go Go.Sk
def satB (cs : List (List Int)) (a : List Int) : Bool := cs.all fun c => c.any fun x => decide (x ∈ a)
theorem satLoop (a c : List Int) (hl : c.length ≤ 4194304) (R : Option Bool) (kk : Unit → Option Bool) (hk : kk () = R) :
    whileF 1000000000000 (fun k142 (s140 : (Bool × Int)) => (if (decide (s140.2 < ((c.length : Nat) : Int))) = true then (jn (fun (s167 : Bool) => (k142 (s167, (IntKind.wrap .i64 (s140.2 + (1 : Int)))))) (fun k169 => (if s140.1 = true then (k169 true) else (getI c s140.2 (fun x171 => ((F_skolemref03_Has a x171).bind (fun y172 => (k169 y172)))))))) else (if (!s140.1) = true then (some false) else (kk ())))) (false, (0 : Int))
      = if (c.any fun x => decide (x ∈ a)) = true then R else some false := by
  have := whileF_by (b := (fun k142 (s140 : (Bool × Int)) => (if (decide (s140.2 < ((c.length : Nat) : Int))) = true then (jn (fun (s167 : Bool) => (k142 (s167, (IntKind.wrap .i64 (s140.2 + (1 : Int)))))) (fun k169 => (if s140.1 = true then (k169 true) else (getI c s140.2 (fun x171 => ((F_skolemref03_Has a x171).bind (fun y172 => (k169 y172)))))))) else (if (!s140.1) = true then (some false) else (kk ()))))) (fun s : Bool × Int => c.length - s.2.toNat) (fun s => 0 ≤ s.2 ∧ s.2 ≤ c.length) (fun s => if (s.1 || (c.drop s.2.toNat).any fun x => decide (x ∈ a)) = true then R else some false) ?_ 1000000000000 (false, 0) (by simp) (by simp; omega)
  · simpa using this
  · rintro ⟨f, i⟩ k ⟨h0, h1⟩ hs
    simp only [jn_eq] at h0 h1 hs ⊢
    by_cases h2 : i < ((c.length : Nat) : Int)
    · obtain ⟨n, rfl⟩ : ∃ n : Nat, i = n := ⟨i.toNat, by omega⟩
      have hlt : n < c.length := by omega
      have hd : c.drop n = c[n] :: c.drop (n + 1) := by rw [List.drop_eq_getElem_cons hlt]
      have hw : IntKind.wrap .i64 (((n : Nat) : Int) + 1) = ((n + 1 : Nat) : Int) := by rw [wrap_id (by omega) (by omega)]; omega
      have hs' := fun b => hs (b, ((n + 1 : Nat) : Int)) ⟨by show (0 : Int) ≤ ((n + 1 : Nat) : Int); omega, by show ((n + 1 : Nat) : Int) ≤ (c.length : Int); omega⟩ (by simp; omega)
      cases f
      · simp only [h2, decide_true, if_true, Bool.false_eq_true, if_false, getI_nat, List.getElem?_eq_getElem hlt, has_eq, Option.bind_some, hw, hs', Int.toNat_natCast, hd, List.any_cons, Bool.false_or]
      · simp only [h2, decide_true, if_true, hw, hs', Bool.true_or]
    · have : i.toNat = c.length := by omega
      cases f <;> simp [h2, this, hk]
theorem sat_eq (cs : List (List Int)) (a : List Int) (h : tot cs ≤ 2097152) : F_skolemref04_Satisfied cs a = some (satB cs a) := by
  refine rangeF_pre cs (fun _ _ => True) (fun _ xs _ => some (satB xs a)) (fun _ _ => rfl) ?_ cs [] () rfl trivial
  intro pre x xs s kk hf hI hk
  have hx : x ∈ cs := by rw [hf]; simp
  rw [satLoop a x (Nat.le_trans (tot_mem hx) (Nat.le_trans h (by decide))) _ kk (hk () trivial)]
  by_cases hs : (x.any fun y => decide (y ∈ a)) = true
  · rw [if_pos hs]; simp only [satB, List.all_cons, hs, Bool.true_and]
  · rw [if_neg hs]; simp only [satB, List.all_cons, Bool.eq_false_iff.2 hs, Bool.false_and]
end Go.Sk.X
namespace Go.Sk.X
open Go Go.Sk
def flat (p : List S_api_Block) : List Int := p.flatMap (·.Vars)
def turnsP (p : List S_api_Block) : List S_truth_turn := p.flatMap fun b => b.Vars.map fun v => ⟨v, b.Exists⟩
theorem flat_app (a b : List S_api_Block) : flat (a ++ b) = flat a ++ flat b := by simp [flat]
theorem flat_one (a : S_api_Block) : flat [a] = a.Vars := by simp [flat]
theorem turns_v (p : List S_api_Block) : (turnsP p).map (·.v) = flat p := by
  induction p with
  | nil => rfl
  | cons b p ih =>
    simp only [turnsP, flat, List.flatMap_cons, List.map_append, List.map_map] at *
    rw [ih]; congr 1
    exact List.map_id _
theorem rangeF_app {α S R : Type} (g : α → S → (S → Option R) → Option R) (k : S → Option R) : ∀ (xs ys : List α) (i j : Nat) (s : S),
    rangeF (fun _ x s k => g x s k) i (xs ++ ys) s k = rangeF (fun _ x s k => g x s k) i xs s (fun s' => rangeF (fun _ x s k => g x s k) j ys s' k)
  | [], ys, i, j, s => by
    rw [List.nil_append, rangeF_nil]
    induction ys generalizing i j s with
    | nil => rfl
    | cons y ys ih => rw [rangeF_cons, rangeF_cons]; congr 1; funext s'; exact ih (i + 1) (j + 1) s'
  | x :: xs, ys, i, j, s => by
    rw [List.cons_append, rangeF_cons, rangeF_cons]; congr 1; funext s'; exact rangeF_app g k xs ys (i + 1) j s'
theorem rangeF_flat {α β S R : Type} (h : α → List β) (g : β → S → (S → Option R) → Option R) (k : S → Option R) : ∀ (xs : List α) (i j : Nat) (s : S),
    rangeF (fun _ x s k => rangeF (fun _ y s k => g y s k) 0 (h x) s (fun s => k s)) i xs s k = rangeF (fun _ y s k => g y s k) j (xs.flatMap h) s k
  | [], i, j, s => rfl
  | x :: xs, i, j, s => by
    rw [rangeF_cons, List.flatMap_cons, rangeF_app g k _ _ j 0]
    have e : (fun s => rangeF (fun _ x s k => rangeF (fun _ y s k => g y s k) 0 (h x) s (fun s => k s)) (i + 1) xs s k) = fun s => rangeF (fun _ y s k => g y s k) 0 (xs.flatMap h) s k := by
      funext s'; exact rangeF_flat h g k xs (i + 1) 0 s'
    rw [e]
    have := rangeF_app g (fun s => rangeF (fun _ y s k => g y s k) 0 (xs.flatMap h) s k) [] (h x) j 0 s
    rw [List.nil_append, rangeF_nil] at this
    exact this.symm
theorem rangeF_map {α β S R : Type} (f : α → β) (g : β → S → (S → Option R) → Option R) (k : S → Option R) : ∀ (xs : List α) (i : Nat) (s : S),
    rangeF (fun _ x s k => g (f x) s k) i xs s k = rangeF (fun _ y s k => g y s k) i (xs.map f) s k
  | [], i, s => rfl
  | x :: xs, i, s => by rw [rangeF_cons, List.map_cons, rangeF_cons]; congr 1; funext s'; exact rangeF_map f g k xs (i + 1) s'
theorem sumFold {α : Type} (f : α → Nat) (M : Nat) (hM : M = 140737488351232) : ∀ (ls : List α) (s : Nat), (∀ l ∈ ls, f l ≤ M) → s + ls.length * M ≤ 9223372036854775807 →
    ls.foldl (fun s (x : α) => IntKind.wrap .i64 (s + ((f x : Nat) : Int))) (s : Int) = ((s + (ls.map f).sum : Nat) : Int)
  | [], s, _, _ => by rw [List.foldl_nil, List.map_nil, List.sum_nil, Nat.add_zero]
  | l :: ls, s, h, hb => by
    have hl := h l (by simp)
    rw [List.length_cons, Nat.add_mul, Nat.one_mul] at hb
    have e : IntKind.wrap .i64 ((s : Int) + ((f l : Nat) : Int)) = ((s + f l : Nat) : Int) := by rw [wrap_id (by omega) (by omega)]; omega
    rw [List.foldl_cons, e, sumFold f M hM ls (s + f l) (fun x hx => h x (by simp [hx])) (by omega), List.map_cons, List.sum_cons, Nat.add_assoc]
structure Sq (q : S_api_Qbf) : Prop where
  bl : q.Prefix.length ≤ 60
  vs : (flat q.Prefix).length ≤ 100
  cl : q.Clauses.length ≤ 60
  tot : tot q.Clauses ≤ 300
theorem flat_len (p : List S_api_Block) : (flat p).length = (p.map fun b => b.Vars.length).sum := by
  induction p with
  | nil => rfl
  | cons b p ih => simp only [flat, List.flatMap_cons, List.length_append, List.map_cons, List.sum_cons] at *; omega
theorem great_eq {q : S_api_Qbf} (hz : Z_S_api_Qbf q) : ∃ b, F_skolemlaw04_great q = some b ∧ (b = false → Sq q) := by
  unfold F_skolemlaw04_great F_skolemlaw04_wide
  by_cases h1 : ((q.Prefix.length : Nat) : Int) > 60
  · exact ⟨true, by simp only [h1, decide_true, if_true], by simp⟩
  have hs1 := sumFold (fun b : S_api_Block => b.Vars.length) 140737488351232 rfl q.Prefix 0 (fun b hb => (hz.1.2 b hb).2.1) (by omega)
  rw [rangeF_fold (fun s (x : S_api_Block) => IntKind.wrap .i64 (s + ((x.Vars.length : Nat) : Int)))]
  rw [show ((0 : Nat) : Int) = 0 from rfl] at hs1
  rw [hs1, Nat.zero_add, ← flat_len]
  simp only [h1, decide_false, Bool.false_eq_true, if_false, jn_eq]
  by_cases h2 : ((q.Clauses.length : Nat) : Int) > 60
  · exact ⟨true, by simp [h2], by simp⟩
  by_cases h3 : (((flat q.Prefix).length : Nat) : Int) > 100
  · exact ⟨true, by simp [h2, h3], by simp⟩
  have hs2 := sumFold (fun b : List Int => b.length) 140737488351232 rfl q.Clauses 0 (fun b hb => (hz.2.2 b hb).1) (by omega)
  rw [rangeF_fold (fun s (x : List Int) => IntKind.wrap .i64 (s + ((x.length : Nat) : Int)))]
  rw [show ((0 : Nat) : Int) = 0 from rfl] at hs2
  rw [hs2, Nat.zero_add]
  simp only [h2, h3, decide_false, Bool.false_eq_true, if_false, Option.bind_some]
  by_cases h4 : (((q.Clauses.map fun b => b.length).sum : Nat) : Int) > 300
  · exact ⟨true, by simp [h4], by simp⟩
  · refine ⟨_, by simp only [h4, decide_false, Bool.false_eq_true, if_false]; exact (apply_ite some _ _ _).symm, fun _ => ⟨by omega, by omega, by omega, ?_⟩⟩
    unfold Go.Sk.X.tot
    have : (q.Clauses.map List.length).sum = (q.Clauses.map fun b => b.length).sum := rfl
    omega
def altB : Option Bool → List S_api_Block → Bool
  | _, [] => true
  | o, b :: bs => !b.Vars.isEmpty && (!decide (o = some b.Exists) && altB (some b.Exists) bs)
theorem alt_loop (full : List S_api_Block) (hl : full.length ≤ 60) (K : Unit → Option Bool) :
    (rangeF (fun (j104 : Nat) (x105 : S_api_Block) (s101 : Unit) k103 => (jn (fun (s139 : Bool) => (if s139 = true then (some false) else (k103 ()))) (fun k141 => (if (((x105.Vars.length : Nat) : Int) == (0 : Int)) = true then (k141 true) else (if (decide (((j104 : Nat) : Int) > (0 : Int))) = true then (getI full (IntKind.wrap .i64 (((j104 : Nat) : Int) - (1 : Int))) (fun x145 => (k141 (x145.Exists == x105.Exists)))) else (k141 false)))))) 0 full () K)
      = if altB none full = true then K () else some false := by
  refine rangeF_pre full (fun _ _ => True) (fun pre xs _ => if altB (pre.getLast?.map (·.Exists)) xs = true then K () else some false) (fun s _ => by simp [altB]) ?_ full [] () rfl trivial
  intro pre x xs s kk hf hI hk
  have hlen : pre.length < full.length := by rw [hf]; simp
  have hk' := hk () trivial
  simp only [jn_eq, altB]
  rw [List.getLast?_append, List.getLast?_singleton] at hk'
  simp only [Option.some_or, Option.map_some] at hk'
  by_cases h0 : x.Vars = []
  · simp [h0]
  have h0' : (((x.Vars.length : Nat) : Int) == (0 : Int)) = false := by
    have : x.Vars.length ≠ 0 := fun e => h0 (List.eq_nil_of_length_eq_zero e)
    simp; exact h0
  have h0'' : x.Vars.isEmpty = false := by simpa using h0
  by_cases hp : 0 < pre.length
  · have e : IntKind.wrap .i64 (((pre.length : Nat) : Int) - 1) = ((pre.length - 1 : Nat) : Int) := by rw [wrap_id (by omega) (by omega)]; omega
    obtain ⟨y, hy⟩ : ∃ y, pre.getLast? = some y := by
      cases hh : pre.getLast? with
      | none => rw [List.getLast?_eq_none_iff] at hh; subst hh; simp at hp
      | some y => exact ⟨y, rfl⟩
    have hg : full[pre.length - 1]? = some y := by
      rw [hf, List.getElem?_append_left (by omega), ← List.getLast?_eq_getElem?, hy]
    have hp' : ((pre.length : Nat) : Int) > 0 := by omega
    simp only [h0', h0'', hp', e, getI_nat, hg, hy, hk', decide_true, if_true, Bool.false_eq_true, if_false, Option.map_some, Bool.not_false, Bool.true_and]
    by_cases he : y.Exists = x.Exists
    · simp [he]
    · have e1 : (y.Exists == x.Exists) = false := by simpa using he
      have e2 : ¬ (some y.Exists = some x.Exists) := fun h => he (Option.some.inj h)
      by_cases hA : altB (some x.Exists) xs = true <;> simp [e1, e2, hA]
  · have : pre = [] := List.eq_nil_of_length_eq_zero (by omega)
    subst this
    by_cases hA : altB (some x.Exists) xs = true <;> simp [h0', h0'', hk', h0, hA]
theorem count_eq (p : List S_api_Block) : F_prefix_count p = some (if singB [] (flat p) = true then (((flat p).length : Int), true) else (0, false)) := by
  unfold F_prefix_count
  have := rangeF_flat (fun b : S_api_Block => b.Vars) (fun (x2062 : Int) (s2058 : List (Int × Bool)) (k2060 : List (Int × Bool) → Option (Int × Bool)) => (jn (fun (s2441 : Bool) => (if s2441 = true then (some ((0 : Int), false)) else (k2060 (mset s2058 x2062 true)))) (fun k2443 => (if (decide (x2062 < (1 : Int))) = true then (k2443 true) else (if (decide (x2062 > (65536 : Int))) = true then (k2443 true) else (k2443 ((mget s2058 x2062).getD false))))))) (fun (s1275 : (List (Int × Bool))) => (some (((s1275.length : Nat) : Int), true))) p 0 0 []
  refine this.trans ?_
  change rangeF _ 0 (flat p) [] _ = _
  refine rangeF_pre (flat p) (fun pre s => s = pre.foldl (fun m x => mset m x true) []) (fun pre xs s => some (if singB pre xs = true then ((((pre.foldl (fun m x => mset m x true) ([] : List (Int × Bool))).length + xs.length : Nat) : Int), true) else ((0 : Int), false))) ?_ ?_ (flat p) [] [] rfl rfl |>.trans ?_
  · rintro s rfl; simp [singB]
  · intro pre x xs s kk hf hI hk
    subst hI
    have hk' := hk (mset (pre.foldl (fun m x => mset m x true) []) x true) (by simp)
    have hg : ((mget (pre.foldl (fun m x => mset m x true) ([] : List (Int × Bool))) x).getD false) = decide (x ∈ pre) := by
      rw [mget_fold]; by_cases hx : x ∈ pre <;> simp [hx, mget]
    simp only [jn_eq, singB, hg]
    by_cases h1 : x < 1
    · have : ¬ 1 ≤ x := by omega
      simp [h1, this]
    by_cases h2 : x > 65536
    · have : ¬ x ≤ 65536 := by omega
      simp [h1, h2, this]
    have h3 : x ≤ 65536 := by omega
    have h4 : 1 ≤ x := by omega
    by_cases h5 : x ∈ pre
    · simp [h1, h2, h3, h4, h5]
    · simp only [h1, h2, h3, h4, h5, decide_false, decide_true, Bool.false_eq_true, if_false, Bool.not_false, Bool.true_and, hk']
      by_cases h6 : singB (pre ++ [x]) xs = true
      · simp only [h6, if_true]
        have hs := (sing_iff xs (pre ++ [x])).1 h6
        have e : ∀ l : List Int, (l.foldl (fun m x => mset m x true) ([] : List (Int × Bool))).length + 0 = (l.foldl (fun m x => mset m x true) ([] : List (Int × Bool))).length := fun _ => rfl
        congr 3
        rw [List.foldl_append, List.length_cons]
        have hset : ∀ (m : List (Int × Bool)), (mget m x).isSome = false → (mset m x true).length = m.length + 1 := by
          intro m
          induction m with
          | nil => intro _; rfl
          | cons p m ih =>
            obtain ⟨a, b⟩ := p
            intro hh
            simp only [mget] at hh
            by_cases e : (x == a) = true
            · rw [if_pos e] at hh; simp at hh
            · rw [if_neg e] at hh
              simp only [mset]
              rw [if_neg e, List.length_cons, ih hh, List.length_cons]
        have := hset (pre.foldl (fun m x => mset m x true) []) (by rw [mget_fold, if_neg h5]; rfl)
        simp only [List.foldl_cons, List.foldl_nil, this]
        omega
      · simp [Bool.eq_false_iff.2 h6]
  · simp
end Go.Sk.X
namespace Go.Sk.X
open Go Go.Sk
def MayQ (q : S_api_Qbf) : Bool :=
  altB none q.Prefix && (singB [] (flat q.Prefix) && ((q.Clauses.all (nrmB 0)) && (q.Clauses.all fun c => c.all fun x => decide (av x ∈ flat q.Prefix))))
theorem flat_eq (p : List S_api_Block) (h : (flat p).length ≤ 100) : F_skolemref03_Flat p = some (flat p) := by
  unfold F_skolemref03_Flat
  refine rangeF_pre p (fun pre s => s = flat pre) (fun _ _ _ => some (flat p)) (fun s hs => by rw [hs]) ?_ p [] [] rfl rfl
  intro pre x xs s kk hf hI hk
  have hl : (flat pre).length + x.Vars.length ≤ (flat p).length := by rw [hf, flat_app]; simp [flat]
  subst hI
  rw [capN_eq (by omega), hk _ (by rw [flat_app, flat_one])]
theorem rmay_eq {q : S_api_Qbf} (h : Sq q) : F_skolemref03_MayQbf q = some (MayQ q) := by
  have h1 := h.bl
  have h2 := h.vs
  have h3 := h.tot
  have h4 := h.cl
  unfold F_skolemref03_MayQbf F_skolemref03_May
  rw [alt_loop q.Prefix h1]
  by_cases hA : altB none q.Prefix = true
  case neg => simp [hA, MayQ, Bool.eq_false_iff.2 hA]
  have hl : (((flat q.Prefix).length : Nat) : Int) ≤ 1024 := by omega
  simp only [hA, if_true, flat_eq q.Prefix h2, Option.bind_some, hl, decide_true, single_eq, MayQ, Bool.true_and]
  by_cases hS : singB [] (flat q.Prefix) = true
  case neg => simp [Bool.eq_false_iff.2 hS]
  have c1 : q.Clauses.length ≤ 20000 := by omega
  have c2 : Go.Sk.X.tot q.Clauses ≤ 200000 := by omega
  simp only [hS, if_true, cnf_eq q.Clauses (by omega), Option.bind_some, c1, c2, decide_true, Bool.and_true, Bool.true_and]
  by_cases hN : q.Clauses.all (nrmB 0) = true
  case neg => simp [Bool.eq_false_iff.2 hN]
  rw [hN]
  simp only [if_true, Bool.true_and]
  rw [within_eq q.Clauses _ (List.all_eq_true.1 hN) (by omega)]
  rfl
theorem pmay_eq {q : S_api_Qbf} (h : Sq q) : F_prefix_MayQbf q = some (MayQ q) := by
  have h1 := h.bl
  have h2 := h.vs
  have h3 := h.tot
  have h4 := h.cl
  unfold F_prefix_MayQbf F_prefix_May
  rw [alt_loop q.Prefix h1]
  by_cases hA : altB none q.Prefix = true
  case neg => simp [hA, MayQ, Bool.eq_false_iff.2 hA]
  rw [if_pos hA, count_eq, Option.bind_some]
  by_cases hS : singB [] (flat q.Prefix) = true
  case neg => simp [hA, MayQ, Bool.eq_false_iff.2 hS]
  have hl : (((flat q.Prefix).length : Nat) : Int) ≤ 1024 := by omega
  simp only [hS, if_true, hl, decide_true, Option.bind_some]
  -- where the variables stand
  have hpl := rangeF_ex (Post := fun Y : List (Int × S_prefix_place) => ∀ v, (mget Y v).isSome = decide (v ∈ flat q.Prefix)) (f := (fun (j2750 : Nat) (x2751 : S_api_Block) (s2747 : (List (Int × S_prefix_place))) k2749 => (rangeF (fun (j2885 : Nat) (x2886 : Int) (s2882 : (List (Int × S_prefix_place))) k2884 => (jn (fun (s2943 : (List (Int × S_prefix_place))) => (k2884 s2943)) (fun k2945 => (if (!(mget s2882 x2886).isSome) = true then (k2945 (mset s2882 x2886 (S_prefix_place.mk ((j2750 : Nat) : Int) x2751.Exists))) else (k2945 s2882))))) 0 x2751.Vars s2747 (fun (s2882 : (List (Int × S_prefix_place))) => (k2749 s2882))))) (k := (fun (s2747 : (List (Int × S_prefix_place))) => (some s2747)))
    q.Prefix (fun pre s => ∀ v, (mget s v).isSome = decide (v ∈ flat pre)) (fun s hs => ⟨s, rfl, hs⟩) ?_ q.Prefix [] [] rfl (by intro v; rfl)
  · obtain ⟨Y, hY, hm⟩ := hpl
    rw [List.length_nil] at hY
    rw [hY]
    have c1 : ¬ ((q.Clauses.length : Nat) : Int) > 20000 := by omega
    simp only [Option.bind_some, c1, decide_false, Bool.false_eq_true, if_false, hm]
    have key := rangeF_pre (f := (fun (j3491 : Nat) (x3492 : (List Int)) (s3488 : Int) (k3490 : Int → Option Bool) => (rangeF (fun (j3902 : Nat) (x3903 : Int) (s3899 : Int) k3901 => (jn (fun (s4091 : Bool) => (if s4091 = true then (some false) else ((F_prefix_abs x3903).bind (fun y4095 => (k3901 y4095))))) (fun k4093 => (if (x3903 == (0 : Int)) = true then (k4093 true) else (if (decide (x3903 < (-65536 : Int))) = true then (k4093 true) else (if (decide (x3903 > (65536 : Int))) = true then (k4093 true) else ((F_prefix_abs x3903).bind (fun y4099 => (if (decide (y4099 ≤ s3899)) = true then (k4093 true) else ((F_prefix_abs x3903).bind (fun y4101 => (k4093 (!(decide (y4101 ∈ flat q.Prefix))))))))))))))) 0 x3492 (0 : Int) (fun (s3899 : Int) => (k3490 (IntKind.wrap .i64 (s3488 + ((x3492.length : Nat) : Int)))))))) (k := fun s3488 => some (decide (s3488 ≤ (200000 : Int))))
      q.Clauses (fun pre s => s = (tot pre : Int)) (fun _ xs _ => some (xs.all fun c => nrmB 0 c && c.all fun x => decide (av x ∈ flat q.Prefix))) ?_ ?_ q.Clauses [] 0 rfl rfl
    · rw [List.length_nil] at key
      rw [key]
      simp only [Option.bind_some, MayQ, hA, hS, Bool.true_and]
      congr 1
      rw [Bool.eq_iff_iff]
      simp only [List.all_eq_true, Bool.and_eq_true]
      exact ⟨fun q => ⟨fun c hc => (q c hc).1, fun c hc => (q c hc).2⟩, fun q c hc => ⟨q.1 c hc, q.2 c hc⟩⟩
    · rintro s rfl
      have c2 : (tot q.Clauses : Int) ≤ 200000 := by omega
      simp [c2]
    · intro pre x xs s kk hf hI hk
      have ht : tot pre + x.length ≤ tot q.Clauses := by rw [hf, tot_app, tot_cons]; omega
      have hk' := hk (IntKind.wrap .i64 (s + ((x.length : Nat) : Int))) (by rw [hI, wrap_id (by omega) (by omega), tot_app]; simp [tot])
      rw [lits_in (fun y => decide (y ∈ flat q.Prefix)) _ x _ (fun _ => hk'), List.all_cons]
      by_cases hx : (nrmB 0 x && x.all fun x => decide (av x ∈ flat q.Prefix)) = true
      · rw [if_pos hx, hx, Bool.true_and]
      · rw [if_neg hx, Bool.eq_false_iff.2 hx, Bool.false_and]
  · intro pre x xs s kk hf hI hk
    refine rangeF_ex x.Vars (fun p2 s => ∀ v, (mget s v).isSome = decide (v ∈ flat pre ++ p2)) (fun s hs => ?_) ?_ x.Vars [] s rfl (by simpa using hI)
    · exact hk s (fun v => by rw [hs v, flat_app, flat_one])
    · intro p2 y ys s k2 hf2 hI2 hk2
      simp only [jn_eq]
      by_cases hy : (mget s y).isSome = true
      · rw [hy, Bool.not_true, if_neg (by decide)]
        refine hk2 s (fun v => ?_)
        rw [hI2 v]
        have hy' := hI2 y
        rw [hy] at hy'
        have hm : y ∈ flat pre ++ p2 := by simpa using hy'.symm
        rw [Bool.eq_iff_iff]
        simp only [decide_eq_true_eq, List.mem_append, List.mem_singleton] at hm ⊢
        constructor
        · rintro (a | a)
          · exact .inl a
          · exact .inr (.inl a)
        · rintro (a | a | rfl)
          · exact .inl a
          · exact .inr a
          · exact hm
      · rw [Bool.eq_false_iff.2 hy, Bool.not_false, if_pos rfl]
        refine hk2 _ (fun v => ?_)
        rw [mget_mset]
        by_cases e : v = y
        · subst e; simp
        · rw [if_neg e, hI2 v]
          simp [e]
end Go.Sk.X
namespace Go.Sk.X
open Go Go.Sk
theorem turns_app (a b : List S_api_Block) : turnsP (a ++ b) = turnsP a ++ turnsP b := by simp [turnsP]
theorem turns_len (p : List S_api_Block) : (turnsP p).length = (flat p).length := by rw [← turns_v, List.length_map]
def exs (p : List S_api_Block) : List Bool := (turnsP p).map (·.f_exists)
theorem of_eq (q : S_api_Qbf) (h : (flat q.Prefix).length ≤ 100) : F_truth_of q = some ⟨turnsP q.Prefix, q.Clauses⟩ := by
  unfold F_truth_of
  refine rangeF_pre q.Prefix (fun pre s => s = turnsP pre) (fun _ _ _ => some (S_truth_game.mk (turnsP q.Prefix) q.Clauses)) (fun s hs => by rw [hs]) ?_ q.Prefix [] [] rfl rfl
  intro pre x xs s kk hf hI hk
  have hl : (flat pre).length + x.Vars.length ≤ (flat q.Prefix).length := by rw [hf, flat_app]; simp [flat]
  have ht := turns_len pre
  refine rangeF_pre x.Vars (fun p2 s => s = turnsP pre ++ p2.map fun v => ⟨v, x.Exists⟩) (fun _ _ _ => some (S_truth_game.mk (turnsP q.Prefix) q.Clauses)) (fun s hs => hk s ?_) ?_ x.Vars [] s rfl (by simpa using hI)
  · rw [hs, turns_app]; simp [turnsP]
  · intro p2 y ys s k2 hf2 hI2 hk2
    have hl2 : p2.length < x.Vars.length := by rw [hf2]; simp
    subst hI2
    rw [capN_eq (by simp only [List.length_append, List.length_map, List.length_cons, List.length_nil]; omega), hk2 _ (by simp)]
theorem order_in (x : S_api_Block) (hl : x.Vars.length ≤ 1000) (kk : (List Int × List Bool) → Option (List Int × List Bool)) (l : List Int) (e : List Bool) (h1 : l.length ≤ 1000) (h2 : e.length ≤ 1000) :
    whileF 1000000000000 (fun k170 (s168 : (Int × (List Int) × (List Bool))) => (if (decide (s168.1 < ((x.Vars.length : Nat) : Int))) = true then (getI x.Vars s168.1 (fun x184 => (capN (s168.2.1.length + [x184].length) (capN (s168.2.2.length + [x.Exists].length) (k170 ((IntKind.wrap .i64 (s168.1 + (1 : Int))), (s168.2.1 ++ [x184]), (s168.2.2 ++ [x.Exists]))))))) else (kk (s168.2.1, s168.2.2)))) ((0 : Int), l, e)
      = kk (l ++ x.Vars, e ++ x.Vars.map fun _ => x.Exists) := by
  have := whileF_by (b := (fun k170 (s168 : (Int × (List Int) × (List Bool))) => (if (decide (s168.1 < ((x.Vars.length : Nat) : Int))) = true then (getI x.Vars s168.1 (fun x184 => (capN (s168.2.1.length + [x184].length) (capN (s168.2.2.length + [x.Exists].length) (k170 ((IntKind.wrap .i64 (s168.1 + (1 : Int))), (s168.2.1 ++ [x184]), (s168.2.2 ++ [x.Exists]))))))) else (kk (s168.2.1, s168.2.2)))))
    (fun s => x.Vars.length - s.1.toNat) (fun s => 0 ≤ s.1 ∧ s.1 ≤ x.Vars.length ∧ s.2.1 = l ++ x.Vars.take s.1.toNat ∧ s.2.2 = e ++ (x.Vars.take s.1.toNat).map fun _ => x.Exists) (fun _ => kk (l ++ x.Vars, e ++ x.Vars.map fun _ => x.Exists)) ?_ 1000000000000 (0, l, e) (by simp) (by simp; omega)
  · exact this
  · rintro ⟨i, l2, e2⟩ k ⟨h3, h4, h5, h6⟩ hs
    simp only [] at h3 h4 h5 h6 hs ⊢
    subst h5; subst h6
    by_cases h7 : i < ((x.Vars.length : Nat) : Int)
    · obtain ⟨n, rfl⟩ : ∃ n : Nat, i = n := ⟨i.toNat, by omega⟩
      have hlt : n < x.Vars.length := by omega
      have hw : IntKind.wrap .i64 (((n : Nat) : Int) + 1) = ((n + 1 : Nat) : Int) := by rw [wrap_id (by omega) (by omega)]; omega
      simp only [h7, decide_true, if_true, getI_nat, List.getElem?_eq_getElem hlt, hw, Int.toNat_natCast]
      rw [capN_eq (by simp only [List.length_append, List.length_take, List.length_cons, List.length_nil]; omega), capN_eq (by simp only [List.length_append, List.length_map, List.length_take, List.length_cons, List.length_nil]; omega)]
      refine hs _ ⟨by simp only []; omega, by simp only []; omega, ?_, ?_⟩ (by simp only [Int.toNat_natCast]; omega)
      · simp only [Int.toNat_natCast]
        rw [List.append_assoc, List.take_succ_eq_append_getElem hlt]
      · simp only [Int.toNat_natCast]
        rw [List.append_assoc, List.take_succ_eq_append_getElem hlt, List.map_append]; rfl
    · have : i.toNat = x.Vars.length := by omega
      simp [h7, this]
theorem order_eq (p : List S_api_Block) (h : (flat p).length ≤ 100) : F_skolemref04_order p = some (flat p, exs p) := by
  unfold F_skolemref04_order
  refine rangeF_pre p (fun pre s => s = (flat pre, exs pre)) (fun _ _ _ => some (flat p, exs p)) (fun s hs => by rw [hs]) ?_ p [] ([], []) rfl rfl
  intro pre x xs s kk hf hI hk
  have hl : (flat pre).length + x.Vars.length ≤ (flat p).length := by rw [hf, flat_app]; simp [flat]
  have ht := turns_len pre
  subst hI
  rw [order_in x (by omega) kk _ _ (by simp only []; omega) (by simp only [exs, List.length_map]; omega)]
  refine hk _ ?_
  rw [flat_app, flat_one]
  simp only [exs, turns_app, List.map_append]
  simp [turnsP]
def upd (f : Int → Bool) (v : Int) (b : Bool) : Int → Bool := fun u => if u = v then b else f u
def litF (f : Int → Bool) (x : Int) : Bool := if x < 0 then !f (-x) else f x
def satF (cs : List (List Int)) (f : Int → Bool) : Bool := cs.all fun c => c.any (litF f)
def gameB (cs : List (List Int)) : List S_truth_turn → (Int → Bool) → Bool
  | [], f => satF cs f
  | t :: ts, f => if (gameB cs ts (upd f t.v false) == t.f_exists) = true then t.f_exists else gameB cs ts (upd f t.v true)
theorem game_congr {cs : List (List Int)} (hnz : ∀ c ∈ cs, ∀ x ∈ c, x ≠ 0) : ∀ (ts : List S_truth_turn) (f g : Int → Bool), (∀ u, 1 ≤ u → u ∉ ts.map (·.v) → f u = g u) → gameB cs ts f = gameB cs ts g
  | [], f, g, h => by
    have key : ∀ c ∈ cs, ∀ x ∈ c, litF f x = litF g x := fun c hc x hx => by
      have h0 := hnz c hc x hx
      unfold litF
      by_cases h1 : x < 0
      · rw [if_pos h1, if_pos h1, h (-x) (by omega) (by simp)]
      · rw [if_neg h1, if_neg h1, h x (by omega) (by simp)]
    simp only [gameB, satF]
    rw [Bool.eq_iff_iff]
    simp only [List.all_eq_true, List.any_eq_true]
    constructor
    · intro a c hc
      obtain ⟨x, hx, e⟩ := a c hc
      exact ⟨x, hx, by rw [← key c hc x hx]; exact e⟩
    · intro a c hc
      obtain ⟨x, hx, e⟩ := a c hc
      exact ⟨x, hx, by rw [key c hc x hx]; exact e⟩
  | t :: ts, f, g, h => by
    have key : ∀ b, gameB cs ts (upd f t.v b) = gameB cs ts (upd g t.v b) := fun b => game_congr hnz ts _ _ (fun u h1 h2 => by
      unfold upd
      by_cases e : u = t.v
      · rw [if_pos e, if_pos e]
      · rw [if_neg e, if_neg e]
        exact h u h1 (by simp only [List.map_cons, List.mem_cons, not_or]; exact ⟨e, h2⟩))
    simp only [gameB, key]
theorem lits_found (m : List (Int × Bool)) (c : List Int) (hr : ∀ x ∈ c, -65536 ≤ x ∧ x ≤ 65536) {R : Type} (kk : Int → Option R) (A B : Option R) (hA : ∀ j : Nat, kk (j : Int) = A) (hB : kk (-1) = B) :
    (rangeF (fun (j881 : Nat) (x882 : Int) (s878 : Unit) k880 => (jn (fun (s922 : Bool) => (if s922 = true then (kk ((j881 : Nat) : Int)) else (k880 ()))) (fun k924 => (if (decide (x882 < (0 : Int))) = true then (k924 (!((mget m (IntKind.wrap .i64 (0 - x882))).getD false))) else (k924 ((mget m x882).getD false)))))) 0 c () (fun (s878 : Unit) => (kk (-1 : Int))))
      = if (c.any (litF fun v => (mget m v).getD false)) = true then A else B := by
  refine rangeF_pre c (fun _ _ => True) (fun _ xs _ => if (xs.any (litF fun v => (mget m v).getD false)) = true then A else B) (fun _ _ => by simp [hB]) ?_ c [] () rfl trivial
  intro pre x xs s k2 hf hI h2
  have hx := hr x (by rw [hf]; simp)
  have hw : IntKind.wrap .i64 (0 - x) = -x := by rw [wrap_id (by omega) (by omega)]; omega
  rw [List.any_cons]
  simp only [jn_eq, hw, h2 () trivial, hA, litF]
  by_cases h : x < 0
  · simp only [h, decide_true, if_true]
    cases ((mget m (-x)).getD false) <;> simp
  · simp only [h, decide_false, Bool.false_eq_true, if_false]
    cases ((mget m x).getD false) <;> simp
theorem prog_sat (m : List (Int × Bool)) (cs : List (List Int)) (hr : ∀ c ∈ cs, ∀ x ∈ c, -65536 ≤ x ∧ x ≤ 65536) {R : Type} (kk : Bool → Option R) :
    (rangeF (fun (j519 : Nat) (x520 : (List Int)) (s516 : Unit) k518 => (jn (fun (s874 : Int) => (if (!(decide (s874 ≥ (0 : Int)))) = true then (kk false) else (k518 ()))) (fun k876 => (rangeF (fun (j881 : Nat) (x882 : Int) (s878 : Unit) k880 => (jn (fun (s922 : Bool) => (if s922 = true then (k876 ((j881 : Nat) : Int)) else (k880 ()))) (fun k924 => (if (decide (x882 < (0 : Int))) = true then (k924 (!((mget m (IntKind.wrap .i64 (0 - x882))).getD false))) else (k924 ((mget m x882).getD false)))))) 0 x520 () (fun (s878 : Unit) => (k876 (-1 : Int))))))) 0 cs () (fun (s516 : Unit) => (kk true)))
      = kk (satF cs fun v => (mget m v).getD false) := by
  refine rangeF_pre cs (fun _ _ => True) (fun _ xs _ => kk (satF xs fun v => (mget m v).getD false)) (fun _ _ => rfl) ?_ cs [] () rfl trivial
  intro pre x xs s k2 hf hI h2
  have e := lits_found m x (hr x (by rw [hf]; simp)) (fun (s874 : Int) => (if (!(decide (s874 ≥ (0 : Int)))) = true then (kk false) else (k2 ()))) (k2 ()) (kk false) (fun j => by
    have : ((j : Nat) : Int) ≥ 0 := by omega
    simp [this]) (by simp)
  refine e.trans ?_
  rw [h2 () trivial]
  simp only [satF, List.all_cons]
  by_cases h : (x.any (litF fun v => (mget m v).getD false)) = true
  · rw [if_pos h, h, Bool.true_and]
  · rw [if_neg h, Bool.eq_false_iff.2 h, Bool.false_and]
theorem left_eq (ts : List S_truth_turn) (cs : List (List Int)) (hnz : ∀ c ∈ cs, ∀ x ∈ c, x ≠ 0) (hr : ∀ c ∈ cs, ∀ x ∈ c, -65536 ≤ x ∧ x ≤ 65536) (hl : ts.length ≤ 1000) : ∀ (m n i : Nat) (mp : List (Int × Bool)), i + m = ts.length → m < n →
    ∃ mp', F_truth_game_left_c1 n ts cs (i : Int) mp = some (gameB cs (ts.drop i) (fun v => (mget mp v).getD false), mp') ∧ ∀ v, v ∉ (ts.drop i).map (·.v) → mget mp' v = mget mp v
  | 0, n, i, mp, hi, hn => by
    obtain ⟨n, rfl⟩ : ∃ k, n = k + 1 := ⟨n - 1, by omega⟩
    have hd : ts.drop i = [] := List.drop_eq_nil_of_le (by omega)
    have h1 : (((i : Nat) : Int) == ((ts.length : Nat) : Int)) = true := by simp; omega
    refine ⟨mp, ?_, fun _ _ => rfl⟩
    simp only [F_truth_game_left_c1, h1, if_true, jn_eq]
    rw [hd]
    exact prog_sat mp cs hr (fun s => some (s, mp))
  | m + 1, n, i, mp, hi, hn => by
    obtain ⟨n, rfl⟩ : ∃ k, n = k + 1 := ⟨n - 1, by omega⟩
    have hlt : i < ts.length := by omega
    have hd : ts.drop i = ts[i] :: ts.drop (i + 1) := by rw [List.drop_eq_getElem_cons hlt]
    have h1 : (((i : Nat) : Int) == ((ts.length : Nat) : Int)) = false := by simp; omega
    have hw : IntKind.wrap .i64 (((i : Nat) : Int) + 1) = ((i + 1 : Nat) : Int) := by rw [wrap_id (by omega) (by omega)]; omega
    generalize ht : ts[i] = t at hd
    obtain ⟨m1, e1, u1⟩ := left_eq ts cs hnz hr hl m n (i + 1) (mset mp t.v false) (by omega) (by omega)
    obtain ⟨m2, e2, u2⟩ := left_eq ts cs hnz hr hl m n (i + 1) (mset m1 t.v true) (by omega) (by omega)
    have f1 : (fun v => (mget (mset mp t.v false) v).getD false) = upd (fun v => (mget mp v).getD false) t.v false := by
      funext v
      rw [mget_mset]; unfold upd
      by_cases e : v = t.v <;> simp [e]
    have f2 : gameB cs (ts.drop (i + 1)) (fun v => (mget (mset m1 t.v true) v).getD false) = gameB cs (ts.drop (i + 1)) (upd (fun v => (mget mp v).getD false) t.v true) := by
      refine game_congr hnz _ _ _ (fun u _ hu => ?_)
      rw [mget_mset]; unfold upd
      by_cases e : u = t.v
      · simp [e]
      · rw [if_neg e, if_neg e, u1 u hu, mget_mset, if_neg e]
    rw [f1] at e1
    rw [f2] at e2
    have hg : ts[i]? = some t := by rw [List.getElem?_eq_getElem hlt, ht]
    simp only [F_truth_game_left_c1, h1, Bool.false_eq_true, if_false, getI_nat, hg, hw, e1, Option.bind_some, e2]
    rw [hd]
    simp only [gameB]
    by_cases hb : (gameB cs (ts.drop (i + 1)) (upd (fun v => (mget mp v).getD false) t.v false) == t.f_exists) = true
    · refine ⟨m1, by simp only [hb, if_true], fun v hv => ?_⟩
      simp only [List.map_cons, List.mem_cons, not_or] at hv
      rw [u1 v hv.2, mget_mset, if_neg hv.1]
    · refine ⟨m2, by simp only [hb, Bool.false_eq_true, if_false], fun v hv => ?_⟩
      simp only [List.map_cons, List.mem_cons, not_or] at hv
      rw [u2 v hv.2, mget_mset, if_neg hv.1, u1 v hv.2, mget_mset, if_neg hv.1]
end Go.Sk.X
namespace Go.Sk.X
open Go Go.Sk
structure Gd (q : S_api_Qbf) : Prop where
  one : ∀ v ∈ flat q.Prefix, 1 ≤ v ∧ v ≤ 65536
  nd : (flat q.Prefix).Nodup
  nrm : ∀ c ∈ q.Clauses, nrmB 0 c = true
  wi : ∀ c ∈ q.Clauses, ∀ x ∈ c, av x ∈ flat q.Prefix
theorem gd_of {q : S_api_Qbf} (h : MayQ q = true) : Gd q := by
  unfold MayQ at h
  simp only [Bool.and_eq_true] at h
  obtain ⟨_, h2, h3, h4⟩ := h
  obtain ⟨s1, s2, _⟩ := (sing_iff _ _).1 h2
  exact ⟨s1, s2, List.all_eq_true.1 h3, fun c hc x hx => by
    have := List.all_eq_true.1 (List.all_eq_true.1 h4 c hc) x hx
    simpa using this⟩
theorem Gd.lit {q : S_api_Qbf} (h : Gd q) {c : List Int} (hc : c ∈ q.Clauses) {x : Int} (hx : x ∈ c) : x ≠ 0 ∧ -65536 ≤ x ∧ x ≤ 65536 := by
  obtain ⟨h1, h2⟩ := nrm_mem (h.nrm c hc) x hx
  exact ⟨fun e => by subst e; simp [av] at h1, h2⟩
theorem nodup_inj {α β : Type} (f : α → β) : ∀ {l : List α}, (l.map f).Nodup → ∀ {x y : α}, x ∈ l → y ∈ l → f x = f y → x = y
  | [], _, x, y, hx, _, _ => by simp at hx
  | z :: l, h, x, y, hx, hy, e => by
    rw [List.map_cons, List.nodup_cons] at h
    rcases List.mem_cons.1 hx with rfl | hx' <;> rcases List.mem_cons.1 hy with rfl | hy'
    · rfl
    · exact absurd (e ▸ List.mem_map_of_mem hy') h.1
    · exact absurd (e ▸ List.mem_map_of_mem hx') h.1
    · exact nodup_inj f h.2 hx' hy' e
theorem sat_same {q : S_api_Qbf} (h : Gd q) {a : List Int} (ha : a.map av = flat q.Prefix) : satB q.Clauses a = satF q.Clauses (fun u => decide (u ∈ a)) := by
  have nd : (a.map av).Nodup := by rw [ha]; exact h.nd
  have key : ∀ c ∈ q.Clauses, ∀ x ∈ c, decide (x ∈ a) = litF (fun u => decide (u ∈ a)) x := by
    intro c hc x hx
    unfold litF
    by_cases h0 : x < 0
    · rw [if_pos h0, Bool.eq_iff_iff]
      simp only [decide_eq_true_eq, Bool.not_eq_true', decide_eq_false_iff_not]
      have hm := h.wi c hc x hx
      rw [← ha] at hm
      obtain ⟨y, hy, hyx⟩ := List.mem_map.1 hm
      constructor
      · intro h1 h2
        have := nodup_inj av nd h1 h2 (av_neg x).symm
        omega
      · intro h1
        rcases av_eq hyx with e | e
        · exact e ▸ hy
        · exact absurd (e ▸ hy) h1
    · rw [if_neg h0]
  simp only [satB, satF]
  rw [Bool.eq_iff_iff]
  simp only [List.all_eq_true, List.any_eq_true]
  constructor
  · intro b c hc
    obtain ⟨x, hx, e⟩ := b c hc
    exact ⟨x, hx, by rw [← key c hc x hx]; exact e⟩
  · intro b c hc
    obtain ⟨x, hx, e⟩ := b c hc
    exact ⟨x, hx, by rw [key c hc x hx]; exact e⟩
theorem rleft_eq {q : S_api_Qbf} (hq : Sq q) (h : Gd q) : ∀ (m n : Nat) (a : List Int), a.length + m = (flat q.Prefix).length → m < n → a.map av = (flat q.Prefix).take a.length →
    F_skolemref04_Left n q a = some (gameB q.Clauses ((turnsP q.Prefix).drop a.length) (fun u => decide (u ∈ a)))
  | 0, n, a, hi, hn, ha => by
    obtain ⟨n, rfl⟩ : ∃ k, n = k + 1 := ⟨n - 1, by omega⟩
    have hvs := hq.vs
    have htot := hq.tot
    have hd : (turnsP q.Prefix).drop a.length = [] := List.drop_eq_nil_of_le (by rw [turns_len]; omega)
    have h1 : (((a.length : Nat) : Int) == (((flat q.Prefix).length : Nat) : Int)) = true := by simp; omega
    simp only [F_skolemref04_Left, order_eq q.Prefix hvs, Option.bind_some, h1, if_true]
    rw [sat_eq q.Clauses a (by omega), Option.bind_some, hd, gameB, sat_same h]
    rw [ha, List.take_of_length_le (by omega)]
  | m + 1, n, a, hi, hn, ha => by
    obtain ⟨n, rfl⟩ : ∃ k, n = k + 1 := ⟨n - 1, by omega⟩
    have hvs := hq.vs
    have hlt : a.length < (flat q.Prefix).length := by omega
    have hlt' : a.length < (turnsP q.Prefix).length := by rw [turns_len]; exact hlt
    have h1 : (((a.length : Nat) : Int) == (((flat q.Prefix).length : Nat) : Int)) = false := by simp; omega
    have hd : (turnsP q.Prefix).drop a.length = (turnsP q.Prefix)[a.length] :: (turnsP q.Prefix).drop (a.length + 1) := by rw [List.drop_eq_getElem_cons hlt']
    generalize ht : (turnsP q.Prefix)[a.length] = t at hd
    have hg0 : (turnsP q.Prefix)[a.length]? = some t := by rw [List.getElem?_eq_getElem hlt', ht]
    have hgv : (flat q.Prefix)[a.length]? = some t.v := by rw [← turns_v, List.getElem?_map, hg0]; rfl
    have hge : (exs q.Prefix)[a.length]? = some t.f_exists := by rw [exs, List.getElem?_map, hg0]; rfl
    have hvm : t.v ∈ flat q.Prefix := List.mem_of_getElem? hgv
    have hv := h.one _ hvm
    have hw : IntKind.wrap .i64 (0 - t.v) = -t.v := by rw [wrap_id (by omega) (by omega)]; omega
    have hav1 : av t.v = t.v := by unfold av; rw [if_neg (by omega)]
    have hav2 : av (-t.v) = t.v := by rw [av_neg, hav1]
    have htake : (flat q.Prefix).take (a.length + 1) = (flat q.Prefix).take a.length ++ [t.v] := by
      rw [List.take_add_one, hgv]; rfl
    have hnot : t.v ∉ (flat q.Prefix).take a.length := by
      intro hm
      have hnd : ((flat q.Prefix).take (a.length + 1)).Nodup := h.nd.sublist (List.take_sublist ..)
      rw [htake, List.nodup_append] at hnd
      exact hnd.2.2 _ hm _ (by simp) rfl
    have hna : ∀ y ∈ a, av y ≠ t.v := fun y hy e => hnot (ha ▸ e ▸ List.mem_map_of_mem hy)
    have e1 := rleft_eq hq h m n (a ++ [-t.v]) (by simp; omega) (by omega) (by rw [List.map_append, List.map_cons, List.map_nil, hav2, ha, List.length_append, List.length_cons, List.length_nil, Nat.zero_add, htake])
    have e2 := rleft_eq hq h m n (a ++ [t.v]) (by simp; omega) (by omega) (by rw [List.map_append, List.map_cons, List.map_nil, hav1, ha, List.length_append, List.length_cons, List.length_nil, Nat.zero_add, htake])
    rw [List.length_append, List.length_cons, List.length_nil, Nat.zero_add] at e1 e2
    have hnz : ∀ c ∈ q.Clauses, ∀ x ∈ c, x ≠ 0 := fun c hc x hx => (h.lit hc hx).1
    have f1 : gameB q.Clauses ((turnsP q.Prefix).drop (a.length + 1)) (fun u => decide (u ∈ a ++ [-t.v])) = gameB q.Clauses ((turnsP q.Prefix).drop (a.length + 1)) (upd (fun u => decide (u ∈ a)) t.v false) := by
      refine game_congr hnz _ _ _ (fun u h1 _ => ?_)
      unfold upd
      by_cases e : u = t.v
      · rw [if_pos e]
        have h3 : u ∉ a := fun hm => hna u hm (by rw [e, hav1])
        have h4 : ¬ u = -t.v := by omega
        simp [h3, h4]
      · rw [if_neg e]
        have h4 : ¬ u = -t.v := by omega
        simp [h4]
    have f2 : gameB q.Clauses ((turnsP q.Prefix).drop (a.length + 1)) (fun u => decide (u ∈ a ++ [t.v])) = gameB q.Clauses ((turnsP q.Prefix).drop (a.length + 1)) (upd (fun u => decide (u ∈ a)) t.v true) := by
      refine game_congr hnz _ _ _ (fun u h1 _ => ?_)
      unfold upd
      by_cases e : u = t.v
      · simp [e]
      · simp [e]
    rw [f1] at e1
    rw [f2] at e2
    simp only [F_skolemref04_Left, order_eq q.Prefix hvs, Option.bind_some, h1, Bool.false_eq_true, if_false, getI_nat, hgv, hge, hw, List.nil_append]
    rw [capN_eq (by simp; omega)]
    rw [capN_eq (by simp; omega), e1, Option.bind_some, hd]
    simp only [gameB]
    by_cases hb : (gameB q.Clauses ((turnsP q.Prefix).drop (a.length + 1)) (upd (fun u => decide (u ∈ a)) t.v false) == t.f_exists) = true
    · rw [if_pos hb, if_pos hb]
      congr 1
      simpa using hb
    · rw [if_neg hb, if_neg hb]
      rw [capN_eq (by simp; omega), capN_eq (by simp; omega), e2]; rfl
theorem head_eq : F_skolemlaw04_head = some true := by decide +kernel
theorem qbf_r {q : S_api_Qbf} (h : Sq q) : F_skolemref04_Qbf q = some (if MayQ q = true then (if (flat q.Prefix).length > 16 then (0, 3) else (if gameB q.Clauses (turnsP q.Prefix) (fun _ => false) = true then 1 else 2, 0)) else (0, 2)) := by
  have hvs := h.vs
  unfold F_skolemref04_Qbf
  rw [rmay_eq h, Option.bind_some, order_eq q.Prefix hvs]
  simp only [Option.bind_some]
  by_cases hM : MayQ q = true
  case neg => simp [Bool.eq_false_iff.2 hM]
  have g := gd_of hM
  by_cases h16 : (flat q.Prefix).length > 16
  · have : (((flat q.Prefix).length : Nat) : Int) > 16 := by omega
    simp [hM, h16, this]
  have h16' : ¬ (((flat q.Prefix).length : Nat) : Int) > 16 := by omega
  have e := rleft_eq h g (flat q.Prefix).length 1000000 [] (by simp) (by omega) (by simp)
  rw [List.length_nil, List.drop_zero] at e
  have e' : F_skolemref04_Left 1000000 q [] = some (gameB q.Clauses (turnsP q.Prefix) (fun _ => false)) := by rw [e]; congr 2
  simp only [hM, h16, h16', e', Bool.not_true, Bool.false_eq_true, if_true, if_false, decide_false, Option.bind_some]
  by_cases hg : gameB q.Clauses (turnsP q.Prefix) (fun _ => false) = true
  · simp [hg]
  · simp [Bool.eq_false_iff.2 hg]
end Go.Sk.X
namespace Go.Sk.X
open Go Go.Sk
def asg (d : S_api_Dqbf) (f : Int → (Int → Bool) → Bool) (σ : Int → Bool) (v : Int) : Bool := if v ∈ d.Univ then σ v else f v σ
def litT (a : Int → Bool) (x : Int) : Bool := if x < 0 then !(a (av x)) else a (av x)
def Dpd (d : S_api_Dqbf) (f : Int → (Int → Bool) → Bool) : Prop := ∀ e ∈ d.Exist, ∀ σ τ : Int → Bool, (∀ u ∈ e.On, σ u = τ u) → f e.Var σ = f e.Var τ
def Sat (d : S_api_Dqbf) (f : Int → (Int → Bool) → Bool) : Prop := ∀ σ, ∀ c ∈ d.Clauses, ∃ x ∈ c, litT (asg d f σ) x = true
def Sem (d : S_api_Dqbf) : Prop := ∃ f, Dpd d f ∧ Sat d f
end Go.Sk.X
namespace Go.Sk.X
open Go Go.Sk
def sz (es : List S_api_Dep) : Nat := (es.map fun e => 2 ^ e.On.length).sum
def ixF (σ : Int → Bool) : List Int → Nat
  | [] => 0
  | x :: xs => (if σ x = true then 1 else 0) + 2 * ixF σ xs
theorem ixF_lt (σ : Int → Bool) : ∀ l : List Int, ixF σ l < 2 ^ l.length
  | [] => by simp [ixF]
  | x :: l => by
    have := ixF_lt σ l
    have e : 2 ^ (l.length + 1) = 2 * 2 ^ l.length := by rw [Nat.pow_succ]; omega
    simp only [ixF, List.length_cons, e]
    split <;> omega
theorem ixF_snoc (σ : Int → Bool) : ∀ (l : List Int) (x : Int), ixF σ (l ++ [x]) = ixF σ l + if σ x = true then 2 ^ l.length else 0
  | [], x => by simp [ixF]
  | y :: l, x => by
    have e : 2 ^ (l.length + 1) = 2 * 2 ^ l.length := by rw [Nat.pow_succ]; omega
    simp only [List.cons_append, ixF, ixF_snoc σ l x, List.length_cons, e]
    by_cases h : σ x = true <;> simp [h] <;> omega
theorem fdiv_pow (m i : Nat) : Int.fdiv (m : Int) (2 ^ i) = ((m >>> i : Nat) : Int) := by
  rw [Nat.shiftRight_eq_div_pow, Int.fdiv_eq_ediv_of_nonneg _ (by have := Nat.two_pow_pos i; exact_mod_cast Nat.zero_le _)]
  rw [Int.natCast_ediv]
  rfl
theorem bit_and (m : Nat) (i : Nat) : ((BitVec.ofInt 64 ((m >>> i : Nat) : Int) &&& BitVec.ofInt 64 (1 : Int)).toNat) = if m.testBit i = true then 1 else 0 := by
  have h1 : BitVec.ofInt 64 (1 : Int) = BitVec.ofNat 64 1 := rfl
  rw [BitVec.ofInt_natCast, h1, BitVec.toNat_and, BitVec.toNat_ofNat, BitVec.toNat_ofNat]
  have : (1 % 2 ^ 64 : Nat) = 1 := rfl
  rw [this, Nat.and_one_is_mod, Nat.testBit_eq_decide_div_mod_eq, Nat.shiftRight_eq_div_pow]
  have : (m / 2 ^ i % 2 ^ 64) % 2 = m / 2 ^ i % 2 := by omega
  rw [this]
  by_cases h : m / 2 ^ i % 2 = 1
  · simp [h]
  · simp [h]; omega
def TOf (es : List S_api_Dep) (ts : List S_api_Table) : Prop := ts.map (fun t => (t.Var, t.On)) = es.map (fun e => (e.Var, e.On)) ∧ ∀ t ∈ ts, t.Bits.length = 2 ^ t.On.length
def bitT (t : S_api_Table) (σ : Int → Bool) : Bool := t.Bits.getD (ixF σ t.On) false
def fOf (ts : List S_api_Table) (v : Int) (σ : Int → Bool) : Bool := match ts.find? (fun t => decide (t.Var = v)) with | some t => bitT t σ | none => false
theorem TOf.vars {es : List S_api_Dep} {ts : List S_api_Table} (h : TOf es ts) : ts.map (·.Var) = es.map (·.Var) := by
  have := congrArg (List.map Prod.fst) h.1
  simpa [List.map_map, Function.comp_def] using this
theorem TOf.has {es : List S_api_Dep} {ts : List S_api_Table} (h : TOf es ts) {e : S_api_Dep} (he : e ∈ es) : ∃ t ∈ ts, t.Var = e.Var ∧ t.On = e.On := by
  have : (e.Var, e.On) ∈ ts.map fun t => (t.Var, t.On) := by rw [h.1]; exact List.mem_map.2 ⟨e, he, rfl⟩
  obtain ⟨t, ht, h2⟩ := List.mem_map.1 this
  injection h2 with h2 h3
  exact ⟨t, ht, h2, h3⟩
structure Plain (d : S_api_Dqbf) : Prop where
  upos : ∀ u ∈ d.Univ, 0 < u
  vpos : ∀ v ∈ varsD d, 0 < v
  und : d.Univ.Nodup
  vnd : (varsD d).Nodup
  sep : ∀ {v}, v ∈ d.Univ → v ∉ varsD d
  wi : ∀ c ∈ d.Clauses, ∀ x ∈ c, x ≠ 0 ∧ (av x ∈ d.Univ ∨ av x ∈ varsD d)
  on : ∀ e ∈ d.Exist, e.On.Nodup ∧ ∀ u ∈ e.On, u ∈ d.Univ
def ptL (σ : Int → Bool) (us : List Int) : List Int := us.map fun u => if σ u = true then u else -u
def pointN (m : Nat) : Nat → List Int → List Int
  | _, [] => []
  | j, x :: xs => (if m.testBit j = true then x else -x) :: pointN m (j + 1) xs
theorem pointN_eq (σ : Int → Bool) (us : List Int) (m : Nat) : ∀ (xs : List Int) (pre : List Int), us = pre ++ xs → (∀ i x, us[i]? = some x → σ x = m.testBit i) → pointN m pre.length xs = ptL σ xs
  | [], pre, _, _ => rfl
  | x :: xs, pre, hf, h => by
    have h1 : σ x = m.testBit pre.length := h _ _ (by rw [hf]; simp)
    have := pointN_eq σ us m xs (pre ++ [x]) (by simp [hf]) h
    rw [List.length_append, List.length_singleton] at this
    simp only [pointN, ptL, List.map_cons]
    rw [h1, this]; rfl
end Go.Sk.X
namespace Go.Sk.X
open Go Go.Sk
theorem wu0 (n : Int) : 0 ≤ IntKind.wrap .u64 n := by rw [wrapu]; omega
theorem pw_le {n m : Nat} (h : n ≤ m) : 2 ^ n ≤ 2 ^ m := Nat.pow_le_pow_right (by decide) h
theorem pw_eq (n : Nat) (h : n ≤ 62) : IntKind.wrap .i64 ((1 : Int) * 2 ^ (min (IntKind.wrap .u64 ((n : Nat) : Int)).toNat (IntKind.bits .i64))) = ((2 ^ n : Nat) : Int) := by
  have e1 : (IntKind.wrap .u64 ((n : Nat) : Int)).toNat = n := by rw [wrapu]; omega
  have e2 : IntKind.bits .i64 = 64 := rfl
  have e3 : min n 64 = n := by omega
  rw [e1, e2, e3]
  have : 2 ^ n ≤ 2 ^ 62 := pw_le h
  have h4 : (1 : Int) * (2 : Int) ^ n = ((2 ^ n : Nat) : Int) := by simp
  rw [h4]
  generalize 2 ^ n = m at this ⊢
  have h62 : (2 : Nat) ^ 62 = 4611686018427387904 := rfl
  exact wrap_id (by omega) (by omega)
theorem pw_eqT (n : Nat) (h : n ≤ 62) : IntKind.wrap .i64 ((1 : Int) * 2 ^ (min ((n : Nat) : Int).toNat (IntKind.bits .i64))) = ((2 ^ n : Nat) : Int) := by
  have := pw_eq n h
  rwa [show (IntKind.wrap .u64 ((n : Nat) : Int)).toNat = ((n : Nat) : Int).toNat by rw [wrapu]; omega] at this
theorem wi_ok (x : Int) : -9223372036854775808 ≤ (0 : Int) ∧ IntKind.wrap .i64 x ≤ 9223372036854775807 := by
  refine ⟨by decide, ?_⟩
  simp only [IntKind.wrap, IntKind.bits, IntKind.signed]
  simp only [Bool.true_and]
  split <;> rename_i h <;> simp only [ge_iff_le, decide_eq_true_eq] at h <;> omega
def pbit (n : Int) (i : Nat) : Bool := (IntKind.wrap .i64 ((BitVec.ofInt (IntKind.bits .i64) (Int.fdiv n (2 ^ (min (IntKind.wrap .u64 ((i : Nat) : Int)).toNat (IntKind.bits .i64)))) &&& BitVec.ofInt (IntKind.bits .i64) (1 : Int)).toNat : Int)) == (0 : Int)
theorem bit_val (m i : Nat) (hi : i ≤ 62) : IntKind.wrap .i64 ((BitVec.ofInt (IntKind.bits .i64) (Int.fdiv (m : Int) (2 ^ (min (IntKind.wrap .u64 ((i : Nat) : Int)).toNat (IntKind.bits .i64)))) &&& BitVec.ofInt (IntKind.bits .i64) (1 : Int)).toNat : Int) = if m.testBit i = true then 1 else 0 := by
  have e1 : (IntKind.wrap .u64 ((i : Nat) : Int)).toNat = i := by rw [wrapu]; omega
  have e2 : IntKind.bits .i64 = 64 := rfl
  have e3 : min i 64 = i := by omega
  rw [e1, e2, e3, fdiv_pow, bit_and]
  split <;> rfl
theorem pbit_eq (m i : Nat) (hi : i ≤ 62) : pbit (m : Int) i = !m.testBit i := by
  unfold pbit
  rw [bit_val m i hi]
  cases m.testBit i <;> rfl
theorem point_eq (u : List Int) (m : Nat) (hu : ∀ x ∈ u, 0 < x ∧ x ≤ 65536) (hl : u.length ≤ 62) : F_skolemref04_Point u m = some (pointN m 0 u) := by
  refine rangeF_pre u (fun pre s => s.length = pre.length) (fun pre xs s => some (s ++ pointN m pre.length xs)) (fun s _ => by simp [pointN]) ?_ u [] [] rfl rfl
  intro pre x xs s kk hf hI hk
  have hx := hu x (by rw [hf]; simp)
  have hlen : pre.length < u.length := by rw [hf]; simp
  have hw : IntKind.wrap .i64 (0 - x) = -x := by rw [wrap_id (by omega) (by omega)]; omega
  have hc : ∀ y : Int, s.length + [y].length ≤ 1099511627776 := fun y => by rw [hI]; simp; omega
  have hk' : ∀ y : Int, kk (s ++ [y]) = some (s ++ [y] ++ pointN m (pre.length + 1) xs) := fun y => by
    have := hk (s ++ [y]) (by simp [hI])
    simpa using this
  simp only [jn_eq]
  rw [okI_eq (wu0 _), pointN]
  show (if pbit m pre.length = true then _ else _) = _
  rw [pbit_eq m _ (by omega)]
  cases h : m.testBit pre.length
  · simp only [Bool.not_false, if_true, Bool.false_eq_true, if_false]
    rw [capN_eq (hc _), hw, hk']; simp
  · simp only [Bool.not_true, Bool.false_eq_true, if_false, if_true]
    rw [capN_eq (hc _), hk']; simp
theorem at_eq {t : S_api_Table} {p : List Int} (h : t.Bits.length = 2 ^ t.On.length) (hl : t.On.length ≤ 60) {σ : Int → Bool} (hσ : ∀ u ∈ t.On, decide (u ∈ p) = σ u) : F_skolemref04_At t p = some (bitT t σ) := by
  refine rangeF_pre t.On (fun pre s => s = (ixF σ pre : Int)) (fun _ _ _ => some (bitT t σ)) ?_ ?_ t.On [] 0 rfl rfl
  · rintro s rfl
    have hm : ixF σ t.On < t.Bits.length := by rw [h]; exact ixF_lt _ _
    show getI t.Bits ((ixF σ t.On : Nat) : Int) _ = _
    rw [getI_nat, List.getElem?_eq_getElem hm]
    simp [bitT, List.getD_eq_getElem?_getD, List.getElem?_eq_getElem hm]
  · rintro pre x xs s kk hf rfl hk
    have hlen : pre.length < t.On.length := by rw [hf]; simp
    have hx := hσ x (by rw [hf]; simp)
    have hp : 2 ^ pre.length ≤ 2 ^ 60 := pw_le (by omega)
    have hm := ixF_lt σ pre
    have h60 : (2 : Nat) ^ 60 = 1152921504606846976 := rfl
    have hk' := hk _ rfl
    rw [ixF_snoc] at hk'
    simp only [jn_eq]
    rw [has_eq, hx, Option.bind_some]
    cases hs : σ x
    · rw [hs] at hk'
      simpa using hk'
    · rw [hs] at hk'
      rw [if_pos rfl, okI_eq (wu0 _), pw_eq _ (by omega), wrap_id (by omega) (by omega)]
      rw [← hk']
      congr 1
theorem lit_eq (v : Int) (h0 : 0 < v) (h1 : v ≤ 65536) (b : Bool) : F_skolemref04_Lit v b = some (if b = true then v else -v) := by
  unfold F_skolemref04_Lit
  cases b
  · simp only [Bool.false_eq_true, if_false]; rw [wrap_id (by omega) (by omega)]; congr 1; omega
  · simp
structure Few (d : S_api_Dqbf) : Prop where
  on : ∀ e ∈ d.Exist, e.On.length ≤ 4
  univ : d.Univ.length ≤ 8
  bits : sz d.Exist ≤ 16
end Go.Sk.X
namespace Go.Sk.X
open Go Go.Sk
def sgM (us : List Int) (m : Nat) (u : Int) : Bool := m.testBit (us.idxOf u)
theorem sgM_pt {us : List Int} (hn : us.Nodup) (m : Nat) : pointN m 0 us = ptL (sgM us m) us := by
  refine pointN_eq _ us m us [] rfl (fun i x h => ?_)
  obtain ⟨hi, rfl⟩ := List.getElem?_eq_some_iff.1 h
  unfold sgM
  rw [hn.idxOf_getElem]
end Go.Sk.X
namespace Go.Sk.X
open Go Go.Sk
theorem ints_eq (a b : List Int) : F_skolemref03_Ints a b = some (decide (a = b)) := by
  unfold F_skolemref03_Ints
  by_cases hl : a.length = b.length
  · have : (((a.length : Nat) : Int) != ((b.length : Nat) : Int)) = false := by simp [hl]
    rw [this, if_neg (by decide)]
    refine rangeF_pre a (fun pre _ => pre = b.take pre.length) (fun pre xs _ => some (decide (pre ++ xs = b))) ?_ ?_ a [] () rfl rfl
    · intro s hI
      rw [hl, List.take_length] at hI
      simp [hI]
    · intro pre x xs s kk hf hI hk
      have hlt : pre.length < b.length := by rw [← hl, hf]; simp
      rw [getI_nat, List.getElem?_eq_getElem hlt]
      simp only
      by_cases hx : x = b[pre.length]
      · have h2 : pre ++ [x] = b.take (pre ++ [x]).length := by
          rw [List.length_append, List.length_singleton, List.take_add_one, List.getElem?_eq_getElem hlt, ← hI, hx]; rfl
        have := hk () h2
        rw [if_neg (by simp [hx]), this]
        simp
      · rw [if_pos (by simpa using hx)]
        have : ¬ pre ++ x :: xs = b := fun e => hx (by
          have h3 : (pre ++ x :: xs)[pre.length]? = b[pre.length]? := by rw [e]
          simpa [List.getElem?_eq_getElem hlt] using h3)
        simp [this]
  · have : (((a.length : Nat) : Int) != ((b.length : Nat) : Int)) = true := by simp; omega
    rw [this, if_pos rfl]
    have : ¬ a = b := fun e => hl (by rw [e])
    simp [this]
end Go.Sk.X
namespace Go.Sk.X
open Go Go.Sk
theorem bit_valT (m i : Nat) (hi : i ≤ 62) : IntKind.wrap .i64 ((BitVec.ofInt (IntKind.bits .i64) (Int.fdiv (m : Int) (2 ^ (min ((i : Nat) : Int).toNat (IntKind.bits .i64)))) &&& BitVec.ofInt (IntKind.bits .i64) (1 : Int)).toNat : Int) = if m.testBit i = true then 1 else 0 := by
  have := bit_val m i hi
  rwa [show (IntKind.wrap .u64 ((i : Nat) : Int)).toNat = ((i : Nat) : Int).toNat by rw [wrapu]; omega] at this
theorem or_val {s j : Nat} (hs : s < 2 ^ j) (hj : j ≤ 60) : IntKind.wrap .i64 ((BitVec.ofInt (IntKind.bits .i64) (s : Int) ||| BitVec.ofInt (IntKind.bits .i64) ((2 ^ j : Nat) : Int)).toNat : Int) = ((s + 2 ^ j : Nat) : Int) := by
  have e2 : IntKind.bits .i64 = 64 := rfl
  have hp : 2 ^ j ≤ 2 ^ 60 := pw_le hj
  have h60 : (2 : Nat) ^ 60 = 1152921504606846976 := rfl
  have h64 : (2 : Nat) ^ 64 = 18446744073709551616 := rfl
  rw [e2, BitVec.ofInt_natCast, BitVec.ofInt_natCast, BitVec.toNat_or, BitVec.toNat_ofNat, BitVec.toNat_ofNat, Nat.mod_eq_of_lt (by omega), Nat.mod_eq_of_lt (by omega)]
  have h1 := Nat.two_pow_add_eq_or_of_lt hs 1
  rw [Nat.mul_one] at h1
  have h2 : s ||| 2 ^ j = s + 2 ^ j := by rw [Nat.or_comm, ← h1, Nat.add_comm]
  rw [h2, wrap_id (by omega) (by omega)]
theorem points_map {us : List Int} (hn : us.Nodup) (hl : us.length ≤ 62) (m : Nat) {R : Type} (K : List (Int × Bool) → Option R) (w : Option R) (hK : ∀ mp, (∀ v, (mget mp v).getD false = (decide (v ∈ us) && sgM us m v)) → K mp = w) :
    (rangeF (fun (j28062 : Nat) (x28063 : Int) (s28059 : (List (Int × Bool))) k28061 => (okI (0 ≤ ((j28062 : Nat) : Int)) (k28061 (mset s28059 x28063 ((IntKind.wrap .i64 ((BitVec.ofInt (IntKind.bits .i64) (Int.fdiv (m : Int) (2 ^ (min ((j28062 : Nat) : Int).toNat (IntKind.bits .i64)))) &&& BitVec.ofInt (IntKind.bits .i64) (1 : Int)).toNat : Int)) == (1 : Int)))))) 0 us ([] : List (Int × Bool)) K) = w := by
  refine rangeF_pre us (fun pre s => ∀ v, (mget s v).getD false = (decide (v ∈ pre) && sgM us m v)) (fun _ _ _ => w) (fun s hI => hK s hI) ?_ us [] [] rfl (by intro v; simp [mget])
  intro pre x xs s kk hf hI hk
  have hlt : pre.length < us.length := by rw [hf]; simp
  have hx : us[pre.length]? = some x := by rw [hf]; simp
  have hix : us.idxOf x = pre.length := by
    obtain ⟨hi, he⟩ := List.getElem?_eq_some_iff.1 hx
    rw [← he, hn.idxOf_getElem]
  rw [okI_eq (Int.natCast_nonneg _), bit_valT m _ (by omega)]
  refine hk _ (fun v => ?_)
  rw [mget_mset]
  by_cases hv : v = x
  · subst hv
    rw [if_pos rfl]
    have : sgM us m v = m.testBit pre.length := by unfold sgM; rw [hix]
    rw [this]
    cases m.testBit pre.length <;> simp
  · rw [if_neg hv, hI v]
    simp [hv]
theorem fOf_snoc_self {pre : List S_api_Table} {t : S_api_Table} (h : t.Var ∉ pre.map (·.Var)) (σ : Int → Bool) : fOf (pre ++ [t]) t.Var σ = bitT t σ := by
  unfold fOf
  rw [List.find?_append]
  have : pre.find? (fun u => decide (u.Var = t.Var)) = none := by
    rw [List.find?_eq_none]
    intro u hu
    have : u.Var ≠ t.Var := fun e => h (e ▸ List.mem_map.2 ⟨u, hu, rfl⟩)
    simpa using this
  rw [this]
  simp
theorem fOf_snoc_ne {pre : List S_api_Table} {t : S_api_Table} {v : Int} (h : v ≠ t.Var) (σ : Int → Bool) : fOf (pre ++ [t]) v σ = fOf pre v σ := by
  unfold fOf
  rw [List.find?_append]
  cases hp : pre.find? (fun u => decide (u.Var = v)) with
  | some u => rfl
  | none =>
    have : ¬ t.Var = v := fun e => h e.symm
    simp [this]
theorem tabs_map {us : List Int} {l : List S_api_Table} {σ : Int → Bool} (hnd : (l.map (·.Var)).Nodup) (hsep : ∀ t ∈ l, t.Var ∉ us) (hon : ∀ t ∈ l, (∀ u ∈ t.On, u ∈ us) ∧ t.On.length ≤ 60 ∧ t.Bits.length = 2 ^ t.On.length)
    (mp : List (Int × Bool)) (hmp : ∀ v, (mget mp v).getD false = (decide (v ∈ us) && σ v)) {R : Type} (K : List (Int × Bool) → Option R) (w : Option R) (hK : ∀ mp, (∀ v, (mget mp v).getD false = if v ∈ us then σ v else fOf l v σ) → K mp = w) :
    (rangeF (fun (j31058 : Nat) (x31059 : S_api_Table) (s31055 : (List (Int × Bool))) k31057 => (Option.bind (rangeF (fun (j31201 : Nat) (x31202 : Int) (s31198 : Int) k31200 => (jn (fun (s31219 : Int) => (k31200 s31219)) (fun k31221 => (if ((mget s31055 x31202).getD false) = true then (okI (0 ≤ ((j31201 : Nat) : Int)) (k31221 (IntKind.wrap .i64 ((BitVec.ofInt (IntKind.bits .i64) s31198 ||| BitVec.ofInt (IntKind.bits .i64) (IntKind.wrap .i64 ((1 : Int) * 2 ^ (min ((j31201 : Nat) : Int).toNat (IntKind.bits .i64))))).toNat : Int)))) else (k31221 s31198))))) 0 x31059.On (0 : Int) (fun (s31198 : Int) => (getI x31059.Bits s31198 (fun x31224 => (some x31224))))) (fun (y31197 : Bool) => (k31057 (mset s31055 x31059.Var y31197))))) 0 l mp K) = w := by
  refine rangeF_pre l (fun pre s => ∀ v, (mget s v).getD false = if v ∈ us then σ v else fOf pre v σ) (fun _ _ _ => w) (fun s hI => hK s hI) ?_ l [] mp rfl (by
    intro v; rw [hmp v]; by_cases hv : v ∈ us <;> simp [hv, fOf])
  intro pre t xs s kk hf hI hk
  have ht : t ∈ l := by rw [hf]; simp
  obtain ⟨ho, hl, hb⟩ := hon t ht
  have hpre : t.Var ∉ pre.map (·.Var) := fun hm => by
    rw [hf, List.map_append, List.map_cons] at hnd
    exact (List.nodup_append.1 hnd).2.2 _ hm _ (by simp) rfl
  have hat : (rangeF (fun (j31201 : Nat) (x31202 : Int) (s31198 : Int) k31200 => (jn (fun (s31219 : Int) => (k31200 s31219)) (fun k31221 => (if ((mget s x31202).getD false) = true then (okI (0 ≤ ((j31201 : Nat) : Int)) (k31221 (IntKind.wrap .i64 ((BitVec.ofInt (IntKind.bits .i64) s31198 ||| BitVec.ofInt (IntKind.bits .i64) (IntKind.wrap .i64 ((1 : Int) * 2 ^ (min ((j31201 : Nat) : Int).toNat (IntKind.bits .i64))))).toNat : Int)))) else (k31221 s31198))))) 0 t.On (0 : Int) (fun (s31198 : Int) => (getI t.Bits s31198 (fun x31224 => (some x31224))))) = some (bitT t σ) := by
    refine rangeF_pre t.On (fun p q => q = (ixF σ p : Int)) (fun _ _ _ => some (bitT t σ)) ?_ ?_ t.On [] 0 rfl rfl
    · rintro q rfl
      have hm : ixF σ t.On < t.Bits.length := by rw [hb]; exact ixF_lt _ _
      rw [getI_nat, List.getElem?_eq_getElem hm]
      simp [bitT, List.getD_eq_getElem?_getD, List.getElem?_eq_getElem hm]
    · rintro p x ys q k2 hf2 rfl hk2
      have hlen : p.length < t.On.length := by rw [hf2]; simp
      have hx := ho x (by rw [hf2]; simp)
      have hm := ixF_lt σ p
      have hk' := hk2 _ rfl
      rw [ixF_snoc] at hk'
      simp only [jn_eq]
      rw [hI x, if_pos hx]
      cases hs : σ x
      · rw [hs] at hk'
        simpa using hk'
      · rw [hs] at hk'
        rw [if_pos rfl, okI_eq (Int.natCast_nonneg _), pw_eqT _ (by omega), or_val hm (by omega)]
        exact hk'
  rw [hat, Option.bind_some]
  refine hk _ (fun v => ?_)
  rw [mget_mset]
  by_cases hv : v = t.Var
  · subst hv
    rw [if_pos rfl, if_neg (hsep t ht), fOf_snoc_self hpre]; rfl
  · rw [if_neg hv, hI v, fOf_snoc_ne hv]
end Go.Sk.X
namespace Go.Sk.X
open Go Go.Sk
theorem asc_ext : ∀ {a b : List Int}, a.Pairwise (· < ·) → b.Pairwise (· < ·) → (∀ x, x ∈ a ↔ x ∈ b) → a = b
  | [], [], _, _, _ => rfl
  | [], y :: b, _, _, h => by have := (h y).2 (by simp); simp at this
  | x :: a, [], _, _, h => by have := (h x).1 (by simp); simp at this
  | x :: a, y :: b, ha, hb, h => by
    rw [List.pairwise_cons] at ha hb
    have hxy : x = y := by
      have h1 := (h x).1 (by simp)
      have h2 := (h y).2 (by simp)
      rcases List.mem_cons.1 h1 with e | h1
      · exact e
      · rcases List.mem_cons.1 h2 with e | h2
        · exact e.symm
        · have := hb.1 x h1; have := ha.1 y h2; omega
    subst hxy
    rw [asc_ext ha.2 hb.2 (fun z => ?_)]
    constructor
    · intro hz
      rcases List.mem_cons.1 ((h z).1 (List.mem_cons_of_mem _ hz)) with e | hz2
      · have := ha.1 z hz; omega
      · exact hz2
    · intro hz
      rcases List.mem_cons.1 ((h z).2 (List.mem_cons_of_mem _ hz)) with e | hz2
      · have := hb.1 z hz; omega
      · exact hz2
theorem srt_len (l : List Int) : (srt l).length = l.length := (List.mergeSort_perm _ _).length_eq
theorem srt_mem {l : List Int} {x : Int} : x ∈ srt l ↔ x ∈ l := (List.mergeSort_perm _ _).mem_iff
theorem srt_nodup {l : List Int} (h : l.Nodup) : (srt l).Nodup := (List.mergeSort_perm _ _).nodup_iff.2 h
theorem srt_asc {l : List Int} (h : l.Nodup) : (srt l).Pairwise (· < ·) := by
  have h1 : (srt l).Pairwise (fun a b => decide (a ≤ b) = true) := List.pairwise_mergeSort (fun a b c h1 h2 => by simp at h1 h2 ⊢; omega) (fun a b => by simp; omega) l
  have h2 := srt_nodup h
  have h3 := List.Pairwise.and h1 h2
  exact h3.imp (fun {a b} hh => by
    have := hh.1; have h4 := hh.2
    simp at this
    omega)
theorem put_eq {a : List Int} (ha : a.Pairwise (· < ·)) (hl : a.length ≤ 1000) {v : Int} (hv : v ∉ a) : F_skolemref03_Put a v = some (a.filter (fun x => decide (x < v)) ++ v :: a.filter (fun x => decide (v < x))) := by
  unfold F_skolemref03_Put
  have hfl : ∀ l : List Int, (∀ x ∈ l, x < v) → l.filter (fun x => decide (x < v)) = l ∧ l.filter (fun x => decide (v < x)) = [] := fun l h => by
    constructor
    · exact List.filter_eq_self.2 (fun x hx => by simpa using h x hx)
    · rw [List.filter_eq_nil_iff]; intro x hx; have := h x hx; simp; omega
  refine rangeF_pre a (fun pre s => s.2.length ≤ pre.length + 1 ∧ ((s.1 = false ∧ (∀ x ∈ pre, x < v) ∧ s.2 = pre) ∨ (s.1 = true ∧ (∃ x ∈ pre, v < x) ∧ s.2 = pre.filter (fun x => decide (x < v)) ++ v :: pre.filter (fun x => decide (v < x))))) (fun _ _ _ => some (a.filter (fun x => decide (x < v)) ++ v :: a.filter (fun x => decide (v < x)))) ?_ ?_ a [] (false, []) rfl ⟨by simp, .inl ⟨rfl, by simp, rfl⟩⟩
  · rintro ⟨s1, s2⟩ ⟨h0, ⟨h1, h2, h3⟩ | ⟨h1, h2, h3⟩⟩
    · simp only at h0 h1 h2 h3 ⊢
      subst h1; subst h3
      rw [(hfl _ h2).1, (hfl _ h2).2, capN_eq (by simp; omega)]
      rfl
    · simp only at h0 h1 h2 h3 ⊢
      subst h1; subst h3; rfl
  · rintro pre x xs ⟨s1, s2⟩ kk hf ⟨h0, hI⟩ hk
    simp only at h0 hI ⊢
    have hlt : pre.length < a.length := by rw [hf]; simp
    have hxv : x ≠ v := fun e => hv (by rw [hf, ← e]; simp)
    have hpx : ∀ y ∈ pre, y < x := fun y hy => by
      rw [hf] at ha
      exact (List.pairwise_append.1 ha).2.2 y hy x (by simp)
    have e1 : (x == v) = false := by simpa using hxv
    simp only [e1, Bool.false_eq_true, if_false, jn_eq]
    rcases hI with ⟨h1, h2, h3⟩ | ⟨h1, h2, h3⟩
    · subst h1; subst h3
      simp only [Bool.not_false, if_true]
      by_cases hx : x > v
      · simp only [hx, decide_true, if_true]
        rw [capN_eq (by simp; omega), capN_eq (by simp; omega)]
        refine hk _ ⟨by simp, .inr ⟨rfl, ⟨x, by simp, hx⟩, ?_⟩⟩
        have n1 : ¬ x < v := by omega
        have n2 : v < x := hx
        simp [List.filter_append, (hfl _ h2).1, (hfl _ h2).2, n1, n2]
      · simp only [hx, decide_false, Bool.false_eq_true, if_false]
        rw [capN_eq (by simp; omega)]
        refine hk _ ⟨by simp, .inl ⟨rfl, fun y hy => ?_, rfl⟩⟩
        rcases List.mem_append.1 hy with hy | hy
        · exact h2 y hy
        · rw [List.mem_singleton] at hy; omega
    · subst h1
      obtain ⟨y, hy, hvy⟩ := h2
      have := hpx y hy
      have n1 : ¬ x < v := by omega
      have n2 : v < x := by omega
      simp only [Bool.not_true, Bool.false_eq_true, if_false]
      rw [capN_eq (by simp; omega)]
      refine hk _ ⟨by simp; omega, .inr ⟨rfl, ⟨y, by simp [hy], hvy⟩, ?_⟩⟩
      rw [h3]
      simp [List.filter_append, n1, n2]
theorem put_srt {b : List Int} (hl : b.length ≤ 1000) {v : Int} (hn : (b ++ [v]).Nodup) : F_skolemref03_Put (srt b) v = some (srt (b ++ [v])) := by
  have h1 := List.nodup_append.1 hn
  have hv : v ∉ b := fun h => h1.2.2 v h v (by simp) rfl
  have ha := srt_asc h1.1
  rw [put_eq ha (by rw [srt_len]; exact hl) (fun h => hv (srt_mem.1 h))]
  congr 1
  refine asc_ext ?_ (srt_asc hn) (fun x => ?_)
  · rw [List.pairwise_append, List.pairwise_cons]
    refine ⟨ha.filter _, ⟨fun y hy => by have := (List.mem_filter.1 hy).2; simpa using this, ha.filter _⟩, fun x hx y hy => ?_⟩
    have h2 : x < v := by have := (List.mem_filter.1 hx).2; simpa using this
    rcases List.mem_cons.1 hy with rfl | hy
    · exact h2
    · have h3 : v < y := by have := (List.mem_filter.1 hy).2; simpa using this
      omega
  · rw [srt_mem]
    simp only [List.mem_append, List.mem_cons, List.mem_filter, srt_mem, decide_eq_true_eq, List.not_mem_nil, or_false]
    constructor
    · rintro (⟨h, _⟩ | rfl | ⟨h, _⟩)
      · exact .inl h
      · exact .inr rfl
      · exact .inl h
    · rintro (h | rfl)
      · have : x ≠ v := fun e => hv (e ▸ h)
        rcases Int.lt_or_gt_of_ne this with h2 | h2
        · exact .inl ⟨h, h2⟩
        · exact .inr (.inr ⟨h, h2⟩)
      · exact .inr (.inl rfl)
def exV (ts : List S_truth_turn) : List Int := (ts.filter (·.f_exists)).map (·.v)
theorem exV_snoc (pre : List S_truth_turn) (t : S_truth_turn) : exV (pre ++ [t]) = exV pre ++ if t.f_exists = true then [t.v] else [] := by
  unfold exV
  cases h : t.f_exists <;> simp [h]
theorem exV_len (ts : List S_truth_turn) : (exV ts).length ≤ ts.length := by unfold exV; rw [List.length_map]; exact List.length_filter_le _ _
def tabsT (b : List Int) : List S_truth_turn → List S_api_Table
  | [] => []
  | t :: ts => if t.f_exists = true then tabsT (b ++ [t.v]) ts else S_api_Table.mk t.v (srt b) [] :: tabsT b ts
def cntT (c : Nat) (b : List Int) : List S_truth_turn → Nat
  | [] => 0
  | t :: ts => if t.f_exists = true then cntT c (b ++ [t.v]) ts else 2 ^ min b.length c + cntT c b ts
theorem cnt_same : ∀ (ts : List S_truth_turn) (b : List Int), (cntT 13 b ts = cntT 20 b ts) ∨ (4096 < cntT 13 b ts ∧ 4096 < cntT 20 b ts)
  | [], b => .inl rfl
  | t :: ts, b => by
    simp only [cntT]
    by_cases h : t.f_exists = true
    · simp only [h, if_true]; exact cnt_same ts _
    · simp only [h, Bool.false_eq_true, if_false]
      by_cases hb : b.length < 13
      · rw [show min b.length 13 = b.length by omega, show min b.length 20 = b.length by omega]
        rcases cnt_same ts b with h1 | ⟨h1, h2⟩
        · exact .inl (by rw [h1])
        · have := Nat.two_pow_pos b.length
          exact .inr ⟨by omega, by omega⟩
      · have h1 : 2 ^ 13 ≤ 2 ^ min b.length 13 := pw_le (by omega)
        have h2 : 2 ^ 13 ≤ 2 ^ min b.length 20 := pw_le (by omega)
        have hq : (2 : Nat) ^ 13 = 8192 := rfl
        exact .inr ⟨by omega, by omega⟩
theorem clone_eq {a : List Int} (hl : a.length ≤ 1000) : F_slices_Clone_int_int a = some a := by
  unfold F_slices_Clone_int_int
  cases a with
  | nil => rfl
  | cons x xs =>
    rw [if_neg (by simp), capN_eq (by simpa using by simp at hl; omega)]
    rfl
theorem turns_loop {S R : Type} (g : S_truth_turn → S → (S → Option R) → Option R) (k : S → Option R) (p : List S_api_Block) (s : S) :
    rangeF (fun _ (x : S_api_Block) s k => rangeF (fun _ (y : Int) s k => g ⟨y, x.Exists⟩ s k) 0 x.Vars s (fun s => k s)) 0 p s k = rangeF (fun _ t s k => g t s k) 0 (turnsP p) s k := by
  unfold turnsP
  rw [← rangeF_flat (fun b : S_api_Block => b.Vars.map fun v => (⟨v, b.Exists⟩ : S_truth_turn)) g k p 0 0 s]
  congr 1
  funext j x s k
  exact rangeF_map (fun v => (⟨v, x.Exists⟩ : S_truth_turn)) g (fun s => k s) x.Vars 0 s
end Go.Sk.X
namespace Go.Sk.X
open Go Go.Sk
theorem srt_nil : srt [] = [] := by simp [srt]
theorem exV_sub {ts : List S_truth_turn} (hn : (ts.map (·.v)).Nodup) : (exV ts).Nodup := by
  unfold exV
  exact hn.sublist (List.Sublist.map _ (List.filter_sublist))
theorem put_turn {ts pre xs : List S_truth_turn} {t : S_truth_turn} (hf : ts = pre ++ t :: xs) (hn : (ts.map (·.v)).Nodup) (hl : ts.length ≤ 100) (hx : t.f_exists = true) : F_skolemref03_Put (srt (exV pre)) t.v = some (srt (exV pre ++ [t.v])) := by
  have he := exV_len pre
  have hlt : pre.length < ts.length := by rw [hf]; simp
  have h2 : (exV (pre ++ [t])).Nodup := exV_sub (by
    refine hn.sublist ?_
    rw [hf]
    exact List.Sublist.map _ (by simp))
  rw [exV_snoc, if_pos hx] at h2
  exact put_srt (by omega) h2
end Go.Sk.X
namespace Go.Sk.X
open Go Go.Sk
def unV (ts : List S_truth_turn) : List Int := (ts.filter fun t => !t.f_exists).map (·.v)
theorem tabs_var : ∀ (ts : List S_truth_turn) (b : List Int), (tabsT b ts).map (·.Var) = unV ts
  | [], b => rfl
  | t :: ts, b => by
    unfold tabsT unV
    cases h : t.f_exists
    · simp only [Bool.false_eq_true, if_false, List.map_cons, tabs_var ts b]
      rw [List.filter_cons]; simp [h, unV]
    · simp only [if_true, tabs_var ts _]
      rw [List.filter_cons]; simp [h, unV]
theorem exV_cons (t : S_truth_turn) (ts : List S_truth_turn) : exV (t :: ts) = if t.f_exists = true then t.v :: exV ts else exV ts := by
  unfold exV
  rw [List.filter_cons]
  split <;> rfl
theorem tabs_on : ∀ (ts : List S_truth_turn) (b : List Int), (b ++ exV ts).Nodup → ∀ t ∈ tabsT b ts, t.Bits = [] ∧ t.On.Nodup ∧ ∀ u ∈ t.On, u ∈ b ++ exV ts
  | [], b, _, t, h => by simp [tabsT] at h
  | x :: ts, b, hn, t, h => by
    unfold tabsT at h
    rw [exV_cons] at hn ⊢
    by_cases hx : x.f_exists = true
    · rw [if_pos hx] at h hn ⊢
      have := tabs_on ts (b ++ [x.v]) (by simpa using hn) t h
      simpa using this
    · rw [if_neg hx] at h hn ⊢
      rcases List.mem_cons.1 h with rfl | h
      · exact ⟨rfl, srt_nodup (List.nodup_append.1 hn).1, fun u hu => List.mem_append_left _ (srt_mem.1 hu)⟩
      · exact tabs_on ts b hn t h
theorem mem_ex {ts : List S_truth_turn} {v : Int} : v ∈ exV ts ↔ ∃ t ∈ ts, t.f_exists = true ∧ t.v = v := by
  unfold exV
  simp only [List.mem_map, List.mem_filter]
  exact ⟨fun ⟨t, h, e⟩ => ⟨t, h.1, h.2, e⟩, fun ⟨t, h, h2, e⟩ => ⟨t, ⟨h, h2⟩, e⟩⟩
theorem mem_un {ts : List S_truth_turn} {v : Int} : v ∈ unV ts ↔ ∃ t ∈ ts, t.f_exists = false ∧ t.v = v := by
  unfold unV
  simp only [List.mem_map, List.mem_filter, Bool.not_eq_true']
  exact ⟨fun ⟨t, h, e⟩ => ⟨t, h.1, h.2, e⟩, fun ⟨t, h, h2, e⟩ => ⟨t, ⟨h, h2⟩, e⟩⟩
def playT (l : List S_api_Table) (σ : Int → Bool) (t : S_truth_turn) : List Int :=
  if t.f_exists = true then [if σ t.v = true then t.v else -t.v] else (l.filter fun u => decide (u.Var = t.v)).map fun u => if bitT u σ = true then t.v else -t.v
theorem playT_len (l : List S_api_Table) (σ : Int → Bool) (t : S_truth_turn) : (playT l σ t).length ≤ l.length + 1 := by
  unfold playT
  split
  · simp
  · rw [List.length_map]; have := List.length_filter_le (fun u => decide (u.Var = t.v)) l; omega
theorem exs_get {p : List S_api_Block} {i : Nat} {t : S_truth_turn} (h : (turnsP p)[i]? = some t) : (flat p)[i]? = some t.v ∧ (exs p)[i]? = some t.f_exists := by
  constructor
  · rw [← turns_v, List.getElem?_map, h]; rfl
  · unfold exs; rw [List.getElem?_map, h]; rfl
end Go.Sk.X
namespace Go.Sk.X
open Go Go.Sk
def hval (q : S_api_Qbf) (l : List S_api_Table) (t : S_api_Table) (m : Nat) : Bool :=
  gameB q.Clauses ((turnsP q.Prefix).drop (((turnsP q.Prefix).map (·.v)).idxOf t.Var + 1)) (fun v => if v ∈ t.On then sgM t.On m v else fOf l v (sgM t.On m))
def hTab (q : S_api_Qbf) (l : List S_api_Table) (t : S_api_Table) : S_api_Table := ⟨t.Var, t.On, (List.range (2 ^ t.On.length)).map (hval q l t)⟩
def hA (q : S_api_Qbf) : List S_api_Table → List S_api_Table → List S_api_Table
  | d, [] => d
  | d, t :: l => hA q (d ++ [hTab q d t]) l
def hD (q : S_api_Qbf) (l : List S_api_Table) : List S_api_Table := hA q [] l
theorem hA_snoc (q : S_api_Qbf) (t : S_api_Table) : ∀ (l d : List S_api_Table), hA q d (l ++ [t]) = hA q d l ++ [hTab q (hA q d l) t]
  | [], d => rfl
  | x :: l, d => hA_snoc q t l _
theorem hD_snoc (q : S_api_Qbf) (l : List S_api_Table) (t : S_api_Table) : hD q (l ++ [t]) = hD q l ++ [hTab q (hD q l) t] := hA_snoc q t l []
theorem hA_vars (q : S_api_Qbf) : ∀ (l d : List S_api_Table), (hA q d l).map (fun t => (t.Var, t.On)) = d.map (fun t => (t.Var, t.On)) ++ l.map (fun t => (t.Var, t.On))
  | [], d => by simp [hA]
  | x :: l, d => by simp [hA, hA_vars q l, hTab]
theorem hD_vars (q : S_api_Qbf) (l : List S_api_Table) : (hD q l).map (fun t => (t.Var, t.On)) = l.map (fun t => (t.Var, t.On)) := hA_vars q l []
theorem hD_var (q : S_api_Qbf) (l : List S_api_Table) : (hD q l).map (·.Var) = l.map (·.Var) := by
  have := congrArg (List.map Prod.fst) (hD_vars q l)
  simpa [List.map_map, Function.comp_def] using this
theorem hD_len (q : S_api_Qbf) (l : List S_api_Table) : (hD q l).length = l.length := by
  have := congrArg List.length (hD_var q l)
  simpa using this
theorem hD_on {q : S_api_Qbf} {l : List S_api_Table} {t : S_api_Table} (h : t ∈ hD q l) : ∃ u ∈ l, u.Var = t.Var ∧ u.On = t.On := by
  have : (t.Var, t.On) ∈ l.map (fun t => (t.Var, t.On)) := by rw [← hD_vars q l]; exact List.mem_map.2 ⟨t, h, rfl⟩
  obtain ⟨u, hu, e⟩ := List.mem_map.1 this
  injection e with e1 e2
  exact ⟨u, hu, e1, e2⟩
theorem hA_bits (q : S_api_Qbf) : ∀ (l d : List S_api_Table), (∀ t ∈ d, t.Bits.length = 2 ^ t.On.length) → ∀ t ∈ hA q d l, t.Bits.length = 2 ^ t.On.length
  | [], d, h, t, ht => h t ht
  | x :: l, d, h, t, ht => hA_bits q l _ (fun u hu => by
      rcases List.mem_append.1 hu with hu | hu
      · exact h u hu
      · rw [List.mem_singleton.1 hu]; simp [hTab]) t ht
theorem hD_bits {q : S_api_Qbf} {l : List S_api_Table} {t : S_api_Table} (h : t ∈ hD q l) : t.Bits.length = 2 ^ t.On.length := hA_bits q l [] (by simp) t h
theorem tabs_split : ∀ (ts : List S_truth_turn) (b : List Int) (p : List S_api_Table) (t : S_api_Table) (x : List S_api_Table), tabsT b ts = p ++ t :: x →
    ∃ pre u xs, ts = pre ++ u :: xs ∧ u.f_exists = false ∧ t = S_api_Table.mk u.v (srt (b ++ exV pre)) [] ∧ p = tabsT b pre
  | [], b, p, t, x, h => by simp [tabsT] at h
  | u :: ts, b, p, t, x, h => by
    unfold tabsT at h
    by_cases hx : u.f_exists = true
    · rw [if_pos hx] at h
      obtain ⟨pre, w, xs, h1, h2, h3, h4⟩ := tabs_split ts _ p t x h
      refine ⟨u :: pre, w, xs, by rw [h1]; rfl, h2, ?_, ?_⟩
      · rw [h3, exV_cons, if_pos hx]; simp
      · rw [h4]; conv => rhs; unfold tabsT
        rw [if_pos hx]
    · rw [if_neg hx] at h
      cases p with
      | nil =>
        rw [List.nil_append] at h
        injection h with h1 h2
        exact ⟨[], u, ts, rfl, by simpa using hx, by rw [← h1]; simp [exV], rfl⟩
      | cons y p =>
        rw [List.cons_append] at h
        injection h with h0 h
        obtain ⟨pre, w, xs, h1, h2, h3, h4⟩ := tabs_split ts _ p t x h
        refine ⟨u :: pre, w, xs, by rw [h1]; rfl, h2, ?_, ?_⟩
        · rw [h3, exV_cons, if_neg hx]
        · rw [h4, ← h0]; conv => rhs; unfold tabsT
          rw [if_neg hx]
theorem up_map_go {R α : Type} {f : Int → List α → (List α → Option R) → Option R} {K : List α → Option R} (g : Nat → α) (N : Nat)
    (h : ∀ m s kk, m < N → s.length = m → f (m : Int) s kk = kk (s ++ [g m])) : ∀ n j, j + n = N → upF f n (j : Int) ((List.range j).map g) K = K ((List.range N).map g)
  | 0, j, hj => by rw [upF_zero, show j = N by omega]
  | n + 1, j, hj => by
    rw [upF_succ, h j _ _ (by omega) (by simp)]
    have := up_map_go g N h n (j + 1) (by omega) (K := K)
    rw [List.range_succ, List.map_append] at this
    rw [show ((j : Int) + 1) = ((j + 1 : Nat) : Int) by omega]
    exact this
theorem up_map {R α : Type} {f : Int → List α → (List α → Option R) → Option R} {K : List α → Option R} (g : Nat → α) (N : Nat)
    (h : ∀ m s kk, m < N → s.length = m → f (m : Int) s kk = kk (s ++ [g m])) : upF f N 0 [] K = K ((List.range N).map g) := up_map_go g N h N 0 (by omega)
theorem up_take_go {α S R : Type} (xs : List α) (i : Nat) (hi : i ≤ xs.length) (G : α → S → (S → Option R) → Option R) (K : S → Option R) : ∀ (n j a : Nat) (s : S), j + n = i →
    upF (fun (j : Int) s k => okI (j.toNat < i ∧ j.toNat ≠ i) (getI xs j (fun x => G x s k))) n (j : Int) s K = rangeF (fun _ x s k => G x s k) a ((xs.take i).drop j) s K
  | 0, j, a, s, h => by rw [upF_zero, List.drop_eq_nil_of_le (by simp; omega)]; rfl
  | n + 1, j, a, s, h => by
    have hj : j < (xs.take i).length := by simp; omega
    rw [upF_succ, okI_eq (by rw [Int.toNat_natCast]; omega), getI_nat, List.drop_eq_getElem_cons hj]
    have : xs[j]? = some (xs.take i)[j] := by
      rw [← List.getElem?_eq_getElem hj, List.getElem?_take, if_pos (by omega)]
    rw [this]
    show _ = G _ s _
    simp only
    congr 1
    funext s'
    rw [show ((j : Int) + 1) = ((j + 1 : Nat) : Int) by omega]
    exact up_take_go xs i hi G K n (j + 1) (a + 1) s' (by omega)
theorem up_take {α S R : Type} {xs : List α} {i : Nat} (hi : i ≤ xs.length) {G : α → S → (S → Option R) → Option R} {K : S → Option R} {s : S} :
    upF (fun (j : Int) s k => okI (j.toNat < i ∧ j.toNat ≠ i) (getI xs j (fun x => G x s k))) i 0 s K = rangeF (fun _ x s k => G x s k) 0 (xs.take i) s K := by
  have := up_take_go xs i hi G K i 0 0 s (by omega)
  simpa using this
theorem find_ix {R : Type} (V : Int) (kk : Nat → Option R) (k0 : Unit → Option R) : ∀ (pre : List S_truth_turn) (u : S_truth_turn) (xs : List S_truth_turn) (a : Nat), V ∉ pre.map (·.v) → u.v = V →
    (rangeF (fun (j : Nat) (x : S_truth_turn) (s : Unit) k => (if (x.v == V) = true then (kk j) else (k ()))) a (pre ++ u :: xs) () k0) = kk (a + pre.length)
  | [], u, xs, a, h, e => by
    show (if (u.v == V) = true then _ else _) = _
    rw [if_pos (by simpa using e)]; rfl
  | t :: pre, u, xs, a, h, e => by
    simp only [List.map_cons, List.mem_cons, not_or] at h
    show (if (t.v == V) = true then _ else _) = _
    rw [if_neg (by simpa using fun e' => h.1 e'.symm)]
    have := find_ix V kk k0 pre u xs (a + 1) h.2 e
    refine this.trans ?_
    congr 1
    simp only [List.length_cons]; omega
theorem fOf_mem {l : List S_api_Table} (hn : (l.map (·.Var)).Nodup) {w : S_api_Table} (hw : w ∈ l) (σ : Int → Bool) : fOf l w.Var σ = bitT w σ := by
  unfold fOf
  have : l.find? (fun t => decide (t.Var = w.Var)) = some w := by
    rw [List.find?_eq_some_iff_append]
    obtain ⟨a, b, e⟩ := List.append_of_mem hw
    refine ⟨by simp, a, b, e, fun y hy => ?_⟩
    have : y.Var ≠ w.Var := fun h2 => by
      rw [e, List.map_append, List.map_cons] at hn
      exact (List.nodup_append.1 hn).2.2 _ (List.mem_map.2 ⟨y, hy, rfl⟩) _ (by simp) h2
    simpa using this
  rw [this]
theorem fOf_none {l : List S_api_Table} {v : Int} (h : v ∉ l.map (·.Var)) (σ : Int → Bool) : fOf l v σ = false := by
  unfold fOf
  have : l.find? (fun t => decide (t.Var = v)) = none := by
    rw [List.find?_eq_none]
    intro y hy h2
    exact h (List.mem_map.2 ⟨y, hy, by simpa using h2⟩)
  rw [this]
theorem filter_single {l : List S_api_Table} (hn : (l.map (·.Var)).Nodup) {w : S_api_Table} (hw : w ∈ l) : l.filter (fun t => decide (t.Var = w.Var)) = [w] := by
  obtain ⟨a, b, rfl⟩ := List.append_of_mem hw
  rw [List.map_append, List.map_cons] at hn
  have h1 : ∀ y ∈ a, ¬ y.Var = w.Var := fun y hy h2 => (List.nodup_append.1 hn).2.2 _ (List.mem_map.2 ⟨y, hy, rfl⟩) _ (by simp) h2
  have h2 : ∀ y ∈ b, ¬ y.Var = w.Var := fun y hy h2 => (List.nodup_cons.1 (List.nodup_append.1 hn).2.1).1 (h2 ▸ List.mem_map.2 ⟨y, hy, rfl⟩)
  rw [List.filter_append, List.filter_cons, if_pos (by simp), List.filter_eq_nil_iff.2 (by simpa using h1), List.filter_eq_nil_iff.2 (by simpa using h2)]
  rfl
end Go.Sk.X
namespace Go.Sk.X
open Go Go.Sk
theorem left3 : ∀ (n : Nat) (a : List S_truth_turn) (b : List (List Int)) (c : Int) (d : List (Int × Bool)), F_truth_game_left_c1_3 n a b c d = F_truth_game_left_c1 n a b c d
  | 0, a, b, c, d => rfl
  | n + 1, a, b, c, d => by
    have ih : F_truth_game_left_c1_3 n = F_truth_game_left_c1 n := by funext a b c d; exact left3 n a b c d
    simp only [F_truth_game_left_c1_3, F_truth_game_left_c1, ih]
theorem left5 : ∀ (n : Nat) (a : List S_truth_turn) (b : List (List Int)) (c : Int) (d : List (Int × Bool)), F_truth_game_left_c1_5 n a b c d = F_truth_game_left_c1 n a b c d
  | 0, a, b, c, d => rfl
  | n + 1, a, b, c, d => by
    have ih : F_truth_game_left_c1_5 n = F_truth_game_left_c1 n := by funext a b c d; exact left5 n a b c d
    simp only [F_truth_game_left_c1_5, F_truth_game_left_c1, ih]
theorem small_eq {q : S_api_Qbf} (h : Sq q) : F_truth_small q = some (if MayQ q = true then (if (flat q.Prefix).length > 16 then 3 else 0) else 2) := by
  unfold F_truth_small
  rw [pmay_eq h, Option.bind_some, of_eq q h.vs]
  simp only [Option.bind_some, turns_len]
  by_cases hM : MayQ q = true
  case neg => simp [Bool.eq_false_iff.2 hM]
  by_cases h16 : (flat q.Prefix).length > 16
  · have : (((flat q.Prefix).length : Nat) : Int) > 16 := by omega
    simp [hM, h16, this]
  · have h16' : ¬ (((flat q.Prefix).length : Nat) : Int) > 16 := by omega
    simp [hM, h16, h16']
theorem univ_loop {R : Type} (ts : List S_truth_turn) (hlen : ts.length ≤ 100) (K : (Int × (List Int) × (List S_api_Table)) → Option R) (w : Option R) (hK : ∀ b, K ((cntT 13 [] ts : Int), b, tabsT [] ts) = w) :
    (rangeF (fun (j173 : Nat) (x174 : S_truth_turn) (s170 : (Int × (List Int) × (List S_api_Table))) k172 => (jn (fun (s226 : (Int × (List Int) × (List S_api_Table))) => (k172 (s226.1, s226.2.1, s226.2.2))) (fun k228 => (if x174.f_exists = true then (capN (s170.2.1.length + [x174.v].length) (k228 (s170.1, (s170.2.1 ++ [x174.v]), s170.2.2))) else ((F_slices_Clone_int_int s170.2.1).bind (fun y231 => (okI (y231.length ≤ 1099511627776) (capN (s170.2.2.length + ([(S_api_Table.mk x174.v (srt y231) ([] : List Bool))]).length) (okI (0 ≤ (imn (((srt y231).length : Nat) : Int) (13 : Int))) (k228 ((IntKind.wrap .i64 (s170.1 + (IntKind.wrap .i64 ((1 : Int) * 2 ^ (min (imn (((srt y231).length : Nat) : Int) (13 : Int)).toNat (IntKind.bits .i64)))))), s170.2.1, (s170.2.2 ++ ([(S_api_Table.mk x174.v (srt y231) ([] : List Bool))]))))))))))))) 0 ts ((0 : Int), ([] : List Int), ([] : List S_api_Table)) K) = w := by
  refine rangeF_pre ts (fun pre s => (s.2.1 = exV pre ∧ s.2.2.length ≤ pre.length ∧ 0 ≤ s.1 ∧ s.1 ≤ 8192 * (pre.length : Int)) ∧ ∀ xs, ts = pre ++ xs → s.2.2 ++ tabsT (exV pre) xs = tabsT [] ts ∧ s.1 + (cntT 13 (exV pre) xs : Int) = cntT 13 [] ts) (fun pre xs s => w) ?_ ?_ ts [] (0, [], []) rfl ⟨⟨rfl, by simp, by simp, by simp⟩, fun xs h => by rw [List.nil_append] at h; subst h; simp [exV]⟩
  · rintro ⟨n, b, l⟩ ⟨_, h⟩
    obtain ⟨h1, h2⟩ := h [] (by simp)
    simp only [tabsT, cntT, List.append_nil] at h1 h2
    rw [← hK b]
    congr 1
    rw [h1, ← h2]; simp
  · rintro pre t xs ⟨n, b, l⟩ kk hf ⟨⟨h1, h2, h3, h4⟩, h5⟩ hk
    simp only at h1 h2 h3 h4
    subst h1
    have hlt : pre.length < ts.length := by rw [hf]; simp
    have he := exV_len pre
    obtain ⟨h6, h7⟩ := h5 (t :: xs) hf
    simp only [tabsT, cntT] at h6 h7
    have hun : ∀ ys, ts = pre ++ [t] ++ ys → ys = xs := fun ys hy => by
      rw [hf, List.append_assoc] at hy
      have := List.append_cancel_left hy
      simpa using this.symm
    simp only [jn_eq]
    by_cases hx : t.f_exists = true
    · simp only [hx, if_true] at h6 h7 ⊢
      rw [capN_eq (by simp; omega)]
      refine hk (n, exV pre ++ [t.v], l) ⟨⟨by rw [exV_snoc, if_pos hx], by simp; omega, h3, by simp; omega⟩, fun ys hy => ?_⟩
      rw [hun ys hy, exV_snoc, if_pos hx]
      exact ⟨h6, h7⟩
    · simp only [hx, Bool.false_eq_true, if_false] at h6 h7 ⊢
      have hp : 2 ^ min (exV pre).length 13 ≤ 2 ^ 13 := pw_le (by omega)
      have hq : (2 : Nat) ^ 13 = 8192 := rfl
      have hsl := srt_len (exV pre)
      have hmn : imn (((srt (exV pre)).length : Nat) : Int) 13 = ((min (exV pre).length 13 : Nat) : Int) := by rw [srt_len]; unfold imn; split <;> omega
      rw [clone_eq (by omega), Option.bind_some, okI_eq (by omega), capN_eq (by simp; omega), hmn, okI_eq (Int.natCast_nonneg _), pw_eqT _ (by omega)]
      generalize 2 ^ min (exV pre).length 13 = g at hp h7 ⊢
      rw [wrap_id (by omega) (by omega)]
      refine hk (n + (g : Int), exV pre, l ++ [S_api_Table.mk t.v (srt (exV pre)) []]) ⟨⟨by rw [exV_snoc, if_neg hx, List.append_nil], by simp; omega, by simp only; omega, by simp only [List.length_append, List.length_singleton]; omega⟩, fun ys hy => ?_⟩
      rw [hun ys hy, exV_snoc, if_neg hx, List.append_nil]
      simp only
      refine ⟨by rw [← h6]; simp, by rw [← h7]; simp; omega⟩
structure At (q : S_api_Qbf) (p : List S_api_Table) (t : S_api_Table) (pre : List S_truth_turn) (u : S_truth_turn) (xs : List S_truth_turn) : Prop where
  ts : turnsP q.Prefix = pre ++ u :: xs
  un : u.f_exists = false
  t : t = S_api_Table.mk u.v (srt (exV pre)) []
  p : p = tabsT [] pre
theorem at_of {q : S_api_Qbf} {p : List S_api_Table} {t : S_api_Table} {x : List S_api_Table} (h : tabsT [] (turnsP q.Prefix) = p ++ t :: x) : ∃ pre u xs, At q p t pre u xs := by
  obtain ⟨pre, u, xs, h1, h2, h3, h4⟩ := tabs_split _ _ _ _ _ h
  exact ⟨pre, u, xs, h1, h2, by rw [h3]; simp, h4⟩
section
variable {q : S_api_Qbf} {p : List S_api_Table} {t : S_api_Table} {pre : List S_truth_turn} {u : S_truth_turn} {xs : List S_truth_turn}
theorem At.nd (h : At q p t pre u xs) (hg : Gd q) : ((pre ++ u :: xs).map (·.v)).Nodup := by rw [← h.ts, turns_v]; exact hg.nd
theorem At.uv (h : At q p t pre u xs) (hg : Gd q) : u.v ∉ pre.map (·.v) := fun hm => by
  have := h.nd hg
  rw [List.map_append, List.map_cons] at this
  exact (List.nodup_append.1 this).2.2 _ hm _ (by simp) rfl
theorem At.ex (h : At q p t pre u xs) (hg : Gd q) : (exV pre).Nodup := exV_sub (by
  have := h.nd hg
  rw [List.map_append] at this
  exact (List.nodup_append.1 this).1)
theorem At.uex (h : At q p t pre u xs) (hg : Gd q) : u.v ∉ exV pre := fun hm => by
  obtain ⟨w, hw, _, e⟩ := mem_ex.1 hm
  exact h.uv hg (List.mem_map.2 ⟨w, hw, e⟩)
theorem At.vars (h : At q p t pre u xs) : (hD q p).map (·.Var) = unV pre := by rw [hD_var, h.p, tabs_var]
theorem At.vnd (h : At q p t pre u xs) (hg : Gd q) : ((hD q p).map (·.Var)).Nodup := by
  rw [h.vars]
  unfold unV
  have := h.nd hg
  rw [List.map_append] at this
  exact (List.nodup_append.1 this).1.sublist (List.Sublist.map _ (List.filter_sublist))
theorem At.idx (h : At q p t pre u xs) (hg : Gd q) : ((turnsP q.Prefix).map (·.v)).idxOf u.v = pre.length := by
  rw [h.ts, List.map_append, List.idxOf_append, if_neg (h.uv hg), List.map_cons, List.idxOf_cons_self]; simp
theorem At.len (h : At q p t pre u xs) : pre.length + 1 + xs.length = (flat q.Prefix).length := by rw [← turns_len, h.ts]; simp; omega
theorem At.uno (h : At q p t pre u xs) (hg : Gd q) : u.v ∉ (hD q p).map (·.Var) := by
  rw [h.vars]; intro hm
  obtain ⟨w, hw, _, e⟩ := mem_un.1 hm
  exact h.uv hg (List.mem_map.2 ⟨w, hw, e⟩)
theorem At.on (h : At q p t pre u xs) (hg : Gd q) {w : S_api_Table} (hw : w ∈ hD q p) : w.On.Nodup ∧ ∀ v ∈ w.On, v ∈ exV pre := by
  obtain ⟨z, hz, _, e⟩ := hD_on hw
  rw [h.p] at hz
  have := tabs_on pre [] (by rw [List.nil_append]; exact h.ex hg) z hz
  rw [← e]
  exact ⟨this.2.1, by simpa using this.2.2⟩
theorem At.sep (h : At q p t pre u xs) (hg : Gd q) {w : S_api_Table} (hw : w ∈ hD q p) : w.Var ∉ exV pre := fun hm => by
  have : w.Var ∈ unV pre := by rw [← h.vars]; exact List.mem_map.2 ⟨w, hw, rfl⟩
  obtain ⟨a, ha, ha2, ha3⟩ := mem_un.1 this
  obtain ⟨b, hb, hb2, hb3⟩ := mem_ex.1 hm
  have hn : (pre.map (·.v)).Nodup := by
    have := h.nd hg
    rw [List.map_append] at this
    exact (List.nodup_append.1 this).1
  have := nodup_inj _ hn ha hb (ha3.trans hb3.symm)
  rw [this, hb2] at ha2; cases ha2
end
end Go.Sk.X
namespace Go.Sk.X
open Go Go.Sk
def herbV (q : S_api_Qbf) : List S_api_Table × Int :=
  if MayQ q = true then (if (flat q.Prefix).length > 16 then ([], 3) else if cntT 20 [] (turnsP q.Prefix) ≤ 4096 then (if gameB q.Clauses (turnsP q.Prefix) (fun _ => false) = true then ([], 6) else (hD q (tabsT [] (turnsP q.Prefix)), 0)) else ([], 3)) else ([], 2)
theorem hbit {q : S_api_Qbf} (hg : Gd q) (hl : (flat q.Prefix).length ≤ 16) {p : List S_api_Table} {t : S_api_Table} {pre : List S_truth_turn} {u : S_truth_turn} {xs : List S_truth_turn} (h : At q p t pre u xs) (m : Nat) (mp : List (Int × Bool))
    (hmp : ∀ v, (mget mp v).getD false = if v ∈ srt (exV pre) then sgM (srt (exV pre)) m v else fOf (hD q p) v (sgM (srt (exV pre)) m)) :
    ∃ mp', F_truth_game_left_c1_5 1000000 (turnsP q.Prefix) q.Clauses (IntKind.wrap .i64 (((pre.length : Nat) : Int) + 1)) (mset mp u.v false) = some (hval q (hD q p) t m, mp') := by
  have hlen := h.len
  have htl := turns_len q.Prefix
  have hw : IntKind.wrap .i64 (((pre.length : Nat) : Int) + 1) = ((pre.length + 1 : Nat) : Int) := by rw [wrap_id (by omega) (by omega)]; omega
  obtain ⟨mp', e, _⟩ := left_eq (turnsP q.Prefix) q.Clauses (fun c hc x hx => (hg.lit hc hx).1) (fun c hc x hx => (hg.lit hc hx).2) (by omega) xs.length 1000000 (pre.length + 1) (mset mp u.v false) (by omega) (by omega)
  refine ⟨mp', ?_⟩
  rw [left5, hw, e]
  congr 2
  unfold hval
  have ht := h.t
  have hv : t.Var = u.v := by rw [ht]
  have ho : t.On = srt (exV pre) := by rw [ht]
  rw [hv, h.idx hg, ho]
  congr 1
  funext v
  rw [mget_mset]
  by_cases e : v = u.v
  · subst e
    rw [if_pos rfl, if_neg (fun hm => h.uex hg (srt_mem.1 hm)), fOf_none (h.uno hg)]
    rfl
  · rw [if_neg e, hmp v]
theorem pherb_eq {q : S_api_Qbf} (hq : Sq q) : F_truth_Herbrand q = some (herbV q) := by
  unfold F_truth_Herbrand herbV
  rw [small_eq hq, Option.bind_some]
  by_cases hM : MayQ q = true
  case neg => simp [Bool.eq_false_iff.2 hM]
  have hg := gd_of hM
  by_cases h16 : (flat q.Prefix).length > 16
  · simp [hM, h16]
  have hvs := hq.vs
  have htl := turns_len q.Prefix
  simp only [hM, h16, if_true, if_false, bne_self_eq_false, Bool.false_eq_true]
  rw [of_eq q hvs, Option.bind_some]
  refine univ_loop (turnsP q.Prefix) (by omega) _ _ (fun b => ?_)
  simp only
  by_cases hc : cntT 20 [] (turnsP q.Prefix) ≤ 4096
  · have h13 : ¬ ((cntT 13 [] (turnsP q.Prefix) : Nat) : Int) > 4096 := by
      rcases cnt_same (turnsP q.Prefix) [] with h | ⟨h, h2⟩ <;> omega
    simp only [h13, hc, decide_false, Bool.false_eq_true, if_false, if_true]
    rw [Option.bind_some]
    obtain ⟨mp, e, _⟩ := left_eq (turnsP q.Prefix) q.Clauses (fun c hc x hx => (hg.lit hc hx).1) (fun c hc x hx => (hg.lit hc hx).2) (by omega) (turnsP q.Prefix).length 1000000 0 [] (by omega) (by omega)
    rw [List.drop_zero] at e
    have e' : F_truth_game_left_c1_3 1000000 (turnsP q.Prefix) q.Clauses 0 [] = some (gameB q.Clauses (turnsP q.Prefix) (fun _ => false), mp) := by rw [left3]; exact e
    simp only [e', Option.bind_some]
    cases hgm : gameB q.Clauses (turnsP q.Prefix) (fun _ => false)
    case true => simp
    simp only [Bool.false_eq_true, if_false]
    refine rangeF_pre (tabsT [] (turnsP q.Prefix)) (fun p s => ∀ x, tabsT [] (turnsP q.Prefix) = p ++ x → s = hD q p ++ x) (fun _ _ _ => some (hD q (tabsT [] (turnsP q.Prefix)), 0)) ?_ ?_ (tabsT [] (turnsP q.Prefix)) [] _ rfl (fun x hx => by rw [List.nil_append] at hx; rw [hx]; rfl)
    · intro s hs
      have := hs [] (by simp)
      rw [this, List.append_nil]
    · intro p t x s kk hf hI hk
      have hs := hI _ hf
      obtain ⟨pre, u, xs, hat⟩ := at_of hf
      have hlen := hat.len
      have hle := hD_len q p
      have hget : s[p.length]? = some t := by rw [hs, List.getElem?_append_right (by omega), hle]; simp
      have hpl : p.length ≤ pre.length := by
        have h1 := congrArg List.length (tabs_var pre [])
        rw [List.length_map, ← hat.p] at h1
        rw [h1]; unfold unV; rw [List.length_map]; exact List.length_filter_le _ _
      have hexl := exV_len pre
      have hsl := srt_len (exV pre)
      have htv : t.Var = u.v := by rw [hat.t]
      have hto : t.On = srt (exV pre) := by rw [hat.t]
      have htb : t.Bits = [] := by rw [hat.t]
      have hkk := hk (hD q p ++ hTab q (hD q p) t :: x) (fun y hy => by
        rw [hf, List.append_assoc] at hy
        have := List.append_cancel_left hy
        rw [hD_snoc, List.append_assoc]
        congr 1
        simp only [List.singleton_append, List.cons.injEq, true_and] at this ⊢
        exact this)
      rw [getI_nat, hget]
      simp only [jn_eq, htb, htv, hto, List.length_nil, okI_eq, hsl]
      rw [hat.ts, ← hat.ts]
      have hfind := fun (kk : Nat → Option (List S_api_Table × Int)) k0 => find_ix u.v kk k0 pre u xs 0 (hat.uv hg) rfl
      rw [← hat.ts] at hfind
      refine (hfind _ _).trans ?_
      rw [Nat.zero_add, okI_eq (Int.natCast_nonneg _), okI_eq (wi_ok _), pw_eqT _ (by omega), Int.sub_zero, Int.toNat_natCast]
      refine (up_map (fun m => hval q (hD q p) t m) (2 ^ (exV pre).length) (fun m s2 k2 hm hs2 => ?_)).trans ?_
      · refine points_map (srt_nodup (hat.ex hg)) (by omega) m _ _ (fun mp hmp => ?_)
        have hp62 : 2 ^ (exV pre).length ≤ 2 ^ 16 := pw_le (by omega)
        rw [okI_eq ⟨Int.natCast_nonneg _, by rw [hs, List.length_append]; omega⟩, okI_eq (by constructor <;> omega)]
        simp only [Int.toNat_natCast, Int.sub_zero]
        refine (up_take (by rw [hs, List.length_append]; omega)).trans ?_
        have htk : s.take p.length = hD q p := by rw [hs, ← hle, List.take_left']; rfl
        rw [htk]
        refine tabs_map (us := srt (exV pre)) (σ := sgM (srt (exV pre)) m) (hat.vnd hg) (fun w hw hm2 => hat.sep hg hw (srt_mem.1 hm2)) (fun w hw => ?_) mp hmp _ _ (fun mp2 hmp2 => ?_)
        · obtain ⟨o1, o2⟩ := hat.on hg hw
          have := nodup_len o1 o2
          exact ⟨fun v hv => srt_mem.2 (o2 v hv), by omega, hD_bits hw⟩
        · obtain ⟨mp3, e3⟩ := hbit hg (by omega) hat m mp2 hmp2
          rw [e3]
          simp only [Option.bind_some]
          rw [capN_eq (by simp; omega)]
      · have h0 : 0 < (List.map (fun m => hval q (hD q p) t m) (List.range (2 ^ (exV pre).length))).length := by simp; exact Nat.two_pow_pos _
        rw [okI_eq h0]
        have hset : s.set p.length (S_api_Table.mk u.v (srt (exV pre)) (List.map (fun m => hval q (hD q p) t m) (List.range (2 ^ (exV pre).length)))) = hD q p ++ hTab q (hD q p) t :: x := by
          rw [hs, List.set_append_right _ _ (by omega), hle, Nat.sub_self, List.set_cons_zero]
          unfold hTab
          rw [htv, hto, hsl]
        rw [hset]
        exact hkk
  · have h13 : ((cntT 13 [] (turnsP q.Prefix) : Nat) : Int) > 4096 := by
      rcases cnt_same (turnsP q.Prefix) [] with h | ⟨h, h2⟩ <;> omega
    simp [h13, hc]
end Go.Sk.X
namespace Go.Sk.X
open Go Go.Sk
theorem moves_loop {R : Type} {q : S_api_Qbf} (h : (flat q.Prefix).length ≤ 100) (hn : (flat q.Prefix).Nodup) (A : Option R) (K : ((List Int) × Int × (List S_api_Table)) → Option R) (w : Option R) (hK : ∀ b n, K (b, n, tabsT [] (turnsP q.Prefix)) = w) :
    (rangeF (fun (j409 : Nat) (x410 : S_api_Block) (s406 : ((List Int) × Int × (List S_api_Table))) k408 => (rangeF (fun (j659 : Nat) (x660 : Int) (s656 : ((List Int) × Int × (List S_api_Table))) k658 => (jn (fun (s697 : ((List Int) × Int × (List S_api_Table))) => (k658 (s697.1, s697.2.1, s697.2.2))) (fun k699 => (if x410.Exists = true then ((F_skolemref03_Put s656.1 x660).bind (fun y701 => (k699 (y701, s656.2.1, s656.2.2)))) else (capN (s656.1.length) (okI (0 ≤ (IntKind.wrap .u64 (imn ((s656.1.length : Nat) : Int) (20 : Int)))) (if (decide ((IntKind.wrap .i64 (s656.2.1 + (IntKind.wrap .i64 ((1 : Int) * 2 ^ (min (IntKind.wrap .u64 (imn ((s656.1.length : Nat) : Int) (20 : Int))).toNat (IntKind.bits .i64)))))) > (4096 : Int))) = true then A else (capN (s656.2.2.length + ([(S_api_Table.mk x660 s656.1 ([] : List Bool))]).length) (k699 (s656.1, (IntKind.wrap .i64 (s656.2.1 + (IntKind.wrap .i64 ((1 : Int) * 2 ^ (min (IntKind.wrap .u64 (imn ((s656.1.length : Nat) : Int) (20 : Int))).toNat (IntKind.bits .i64)))))), (s656.2.2 ++ ([(S_api_Table.mk x660 s656.1 ([] : List Bool))])))))))))))) 0 x410.Vars (s406.1, s406.2.1, s406.2.2) (fun (s656 : ((List Int) × Int × (List S_api_Table))) => (k408 (s656.1, s656.2.1, s656.2.2))))) 0 q.Prefix (([] : List Int), (0 : Int), ([] : List S_api_Table)) K) = if cntT 20 [] (turnsP q.Prefix) ≤ 4096 then w else A := by
  refine (turns_loop (S := List Int × Int × List S_api_Table) (fun (t : S_truth_turn) (s656 : ((List Int) × Int × (List S_api_Table))) k658 => (jn (fun (s697 : ((List Int) × Int × (List S_api_Table))) => (k658 (s697.1, s697.2.1, s697.2.2))) (fun k699 => (if t.f_exists = true then ((F_skolemref03_Put s656.1 t.v).bind (fun y701 => (k699 (y701, s656.2.1, s656.2.2)))) else (capN (s656.1.length) (okI (0 ≤ (IntKind.wrap .u64 (imn ((s656.1.length : Nat) : Int) (20 : Int)))) (if (decide ((IntKind.wrap .i64 (s656.2.1 + (IntKind.wrap .i64 ((1 : Int) * 2 ^ (min (IntKind.wrap .u64 (imn ((s656.1.length : Nat) : Int) (20 : Int))).toNat (IntKind.bits .i64)))))) > (4096 : Int))) = true then A else (capN (s656.2.2.length + ([(S_api_Table.mk t.v s656.1 ([] : List Bool))]).length) (k699 (s656.1, (IntKind.wrap .i64 (s656.2.1 + (IntKind.wrap .i64 ((1 : Int) * 2 ^ (min (IntKind.wrap .u64 (imn ((s656.1.length : Nat) : Int) (20 : Int))).toNat (IntKind.bits .i64)))))), (s656.2.2 ++ ([(S_api_Table.mk t.v s656.1 ([] : List Bool))])))))))))))) _ q.Prefix _).trans ?_
  have hlen := turns_len q.Prefix
  have hnd : ((turnsP q.Prefix).map (·.v)).Nodup := by rw [turns_v]; exact hn
  generalize turnsP q.Prefix = ts at hlen hnd hK
  refine rangeF_pre ts (fun pre s => (s.1 = srt (exV pre) ∧ s.2.2.length ≤ pre.length ∧ 0 ≤ s.2.1 ∧ s.2.1 ≤ 4096) ∧ ∀ xs, ts = pre ++ xs → s.2.2 ++ tabsT (exV pre) xs = tabsT [] ts ∧ s.2.1 + (cntT 20 (exV pre) xs : Int) = cntT 20 [] ts) (fun pre xs s => if cntT 20 [] ts ≤ 4096 then w else A) ?_ ?_ ts [] ([], 0, []) rfl ⟨⟨srt_nil.symm, by simp, by simp, by simp⟩, fun xs h => by rw [List.nil_append] at h; subst h; simp [exV]⟩
  · rintro ⟨b, n, l⟩ ⟨⟨h1, h2, h3, h4⟩, h5⟩
    simp only at h1 h2 h3 h4
    obtain ⟨h6, h7⟩ := h5 [] (by simp)
    simp only [tabsT, cntT, List.append_nil] at h6 h7
    have : cntT 20 [] ts ≤ 4096 := by omega
    rw [if_pos this, h6]
    exact hK b n
  · rintro pre t xs ⟨b, n, l⟩ kk hf ⟨⟨h1, h2, h3, h4⟩, h5⟩ hk
    simp only at h1 h2 h3 h4
    subst h1
    have hlt : pre.length < ts.length := by rw [hf]; simp
    have he := exV_len pre
    have hsl := srt_len (exV pre)
    obtain ⟨h6, h7⟩ := h5 (t :: xs) hf
    simp only [tabsT, cntT] at h6 h7
    have hun : ∀ ys, ts = pre ++ [t] ++ ys → ys = xs := fun ys hy => by
      rw [hf, List.append_assoc] at hy
      have := List.append_cancel_left hy
      simpa using this.symm
    simp only [jn_eq]
    by_cases hx : t.f_exists = true
    · simp only [hx, if_true] at h6 h7 ⊢
      rw [put_turn hf hnd (by omega) hx, Option.bind_some]
      refine hk (srt (exV pre ++ [t.v]), n, l) ⟨⟨by rw [exV_snoc, if_pos hx], by simp; omega, h3, h4⟩, fun ys hy => ?_⟩
      rw [hun ys hy, exV_snoc, if_pos hx]
      exact ⟨h6, h7⟩
    · simp only [hx, Bool.false_eq_true, if_false] at h6 h7 ⊢
      have hp : 2 ^ min (exV pre).length 20 ≤ 2 ^ 20 := pw_le (by omega)
      have hq : (2 : Nat) ^ 20 = 1048576 := rfl
      have hmn : imn (((srt (exV pre)).length : Nat) : Int) 20 = ((min (exV pre).length 20 : Nat) : Int) := by rw [srt_len]; unfold imn; split <;> omega
      rw [capN_eq (by omega), hmn, okI_eq (wu0 _), pw_eq _ (by omega)]
      generalize 2 ^ min (exV pre).length 20 = g at hp h7 ⊢
      rw [wrap_id (by omega) (by omega)]
      by_cases h8 : n + (g : Int) > 4096
      · have : ¬ cntT 20 [] ts ≤ 4096 := by omega
        simp only [h8, decide_true, if_true, this, if_false]
      · simp only [h8, decide_false, Bool.false_eq_true, if_false]
        rw [capN_eq (by simp; omega)]
        refine hk (srt (exV pre), n + (g : Int), l ++ [S_api_Table.mk t.v (srt (exV pre)) []]) ⟨⟨by rw [exV_snoc, if_neg hx, List.append_nil], by simp; omega, by simp only; omega, by simp only; omega⟩, fun ys hy => ?_⟩
        rw [hun ys hy, exV_snoc, if_neg hx, List.append_nil]
        simp only
        exact ⟨by rw [← h6]; simp, by rw [← h7]; simp; omega⟩
theorem played_to {q : S_api_Qbf} (hq : (flat q.Prefix).length ≤ 100) (h : Gd q) {l : List S_api_Table} (hl : l.length ≤ 60) {p : List Int} {σ : Int → Bool} {pre xs : List S_truth_turn} {u : S_truth_turn} (hts : turnsP q.Prefix = pre ++ u :: xs) (h1 : ∀ t ∈ pre, t.f_exists = true → decide (t.v ∈ p) = σ t.v) (h2 : ∀ u ∈ l, F_skolemref04_At u p = some (bitT u σ)) :
    F_skolemref04_played q l p u.v = some (pre.flatMap (playT l σ)) := by
  unfold F_skolemref04_played
  rw [order_eq _ hq, Option.bind_some]
  simp only
  have hlen := turns_len q.Prefix
  have hnd : ((turnsP q.Prefix).map (·.v)).Nodup := by rw [turns_v]; exact h.nd
  have hpos : ∀ t ∈ turnsP q.Prefix, 1 ≤ t.v ∧ t.v ≤ 65536 := fun t ht => h.one _ (by rw [← turns_v]; exact List.mem_map.2 ⟨t, ht, rfl⟩)
  have hget := fun (i : Nat) (t : S_truth_turn) => exs_get (p := q.Prefix) (i := i) (t := t)
  rw [hts] at hlen hnd hpos hget
  generalize flat q.Prefix = fl at hq hlen hget
  generalize exs q.Prefix = ex at hget
  have hlen2 : pre.length + 1 + xs.length = fl.length := by rw [← hlen]; simp; omega
  refine (whileF_by (fun s : Int × List Int => pre.length - s.1.toNat) (fun s => 0 ≤ s.1 ∧ s.1 ≤ pre.length ∧ s.2.length ≤ 61 * s.1.toNat) (fun s => some (s.2 ++ (pre.drop s.1.toNat).flatMap (playT l σ))) ?_ 1000000000000 (0, []) ⟨by simp, by simp, by simp⟩ (by simp; omega)).trans (by simp)
  rintro ⟨i, out⟩ k ⟨h3, h4, h5⟩ hs
  simp only at h3 h4 h5 hs ⊢
  obtain ⟨n, rfl⟩ : ∃ n : Nat, i = n := ⟨i.toNat, by omega⟩
  rw [Int.toNat_natCast] at h5 ⊢
  simp only [jn_eq]
  have h6 : ((n : Nat) : Int) < ((fl.length : Nat) : Int) := by omega
  by_cases h7 : n < pre.length
  · have hgp : (pre ++ u :: xs)[n]? = some pre[n] := by rw [List.getElem?_append_left h7, List.getElem?_eq_getElem h7]
    obtain ⟨e1, e2⟩ := hget n pre[n] hgp
    have hp := hpos pre[n] (List.mem_append_left _ (List.getElem_mem h7))
    have hne : (pre[n].v != u.v) = true := by
      rw [List.map_append, List.map_cons] at hnd
      have := (List.nodup_append.1 hnd).2.2 _ (List.mem_map.2 ⟨pre[n], List.getElem_mem h7, rfl⟩) u.v (by simp)
      simpa using this
    have hw : IntKind.wrap .i64 (((n : Nat) : Int) + 1) = ((n + 1 : Nat) : Int) := by rw [wrap_id (by omega) (by omega)]; omega
    simp only [h6, decide_true, if_true, getI_nat, e1, e2, hne, hw]
    rw [List.drop_eq_getElem_cons h7, List.flatMap_cons]
    have hpl := playT_len l σ pre[n]
    have key := hs (((n + 1 : Nat) : Int), out ++ playT l σ pre[n]) ⟨by simp only; omega, by simp only; omega, by simp only [Int.toNat_natCast, List.length_append]; omega⟩ (by simp only [Int.toNat_natCast]; omega)
    simp only [Int.toNat_natCast, List.append_assoc] at key
    have h1n := h1 pre[n] (List.getElem_mem h7)
    generalize pre[n] = t at e1 e2 hp hne hpl key h1n ⊢
    generalize (pre.drop (n + 1)).flatMap (playT l σ) = rest at key ⊢
    unfold playT at key ⊢
    by_cases hx : t.f_exists = true
    · have hh := h1n hx
      simp only [hx, if_true, has_eq, Option.bind_some] at key ⊢
      rw [hh, lit_eq _ (by omega) (by omega), Option.bind_some, capN_eq (by simp; omega)]
      exact key
    · simp only [hx, Bool.false_eq_true, if_false] at key ⊢
      refine rangeF_pre l (fun pre s => s = out ++ (pre.filter fun u => decide (u.Var = t.v)).map fun u => if bitT u σ = true then t.v else -t.v) (fun _ _ _ => some (out ++ ((l.filter fun u => decide (u.Var = t.v)).map (fun u => if bitT u σ = true then t.v else -t.v) ++ rest))) ?_ ?_ l [] out rfl (by simp)
      · rintro s rfl
        exact key
      · rintro pre u us s kk hf rfl hk
        have hu : u ∈ l := by rw [hf]; simp
        have hlp : pre.length < l.length := by rw [hf]; simp
        have hfl := List.length_filter_le (fun u => decide (u.Var = t.v)) pre
        by_cases hv : u.Var = t.v
        · have e3 : (u.Var == t.v) = true := by simpa using hv
          simp only [e3, if_true, h2 u hu, Option.bind_some]
          rw [lit_eq _ (by omega) (by omega), Option.bind_some, capN_eq (by simp; omega)]
          exact hk _ (by simp [List.filter_append, hv])
        · have e3 : (u.Var == t.v) = false := by simpa using hv
          simp only [e3, Bool.false_eq_true, if_false]
          exact hk _ (by simp [List.filter_append, hv])
  · have hn : n = pre.length := by omega
    have hgp : (pre ++ u :: xs)[n]? = some u := by rw [hn, List.getElem?_append_right (Nat.le_refl _)]; simp
    obtain ⟨e1, e2⟩ := hget n u hgp
    have hne : (u.v != u.v) = false := by simp
    simp only [h6, decide_true, if_true, getI_nat, e1, hne, Bool.false_eq_true, if_false]
    rw [hn, List.drop_length]; simp
end Go.Sk.X
namespace Go.Sk.X
open Go Go.Sk
theorem flat_av {α : Type} {f : α → List Int} {g : α → Int} : ∀ (l : List α), (∀ t ∈ l, (f t).map av = [g t]) → (l.flatMap f).map av = l.map g
  | [], _ => rfl
  | t :: l, h => by
    rw [List.flatMap_cons, List.map_append, h t (by simp), flat_av l (fun x hx => h x (by simp [hx]))]; rfl
theorem av_p {x : Int} (h : 1 ≤ x) : av x = x := by unfold av; rw [if_neg (by omega)]
theorem av_s {x : Int} (h : 1 ≤ x) (b : Bool) : av (if b = true then x else -x) = x := by
  cases b
  · simp only [Bool.false_eq_true, if_false]; rw [av_neg, av_p h]
  · simp only [if_true]; exact av_p h
theorem pos_s {x v : Int} (hx : 1 ≤ x) (hv : 1 ≤ v) {b : Bool} (h : v = if b = true then x else -x) : v = x ∧ b = true := by
  cases b
  · simp only [Bool.false_eq_true, if_false] at h; omega
  · simp only [if_true] at h; exact ⟨h, rfl⟩
section
variable {q : S_api_Qbf} {p : List S_api_Table} {t : S_api_Table} {pre : List S_truth_turn} {u : S_truth_turn} {xs : List S_truth_turn}
theorem At.pos (h : At q p t pre u xs) (hg : Gd q) : (∀ t ∈ pre, 1 ≤ t.v) ∧ 1 ≤ u.v ∧ u.v ≤ 65536 := by
  have key : ∀ t ∈ turnsP q.Prefix, 1 ≤ t.v ∧ t.v ≤ 65536 := fun t ht => hg.one _ (by rw [← turns_v]; exact List.mem_map.2 ⟨t, ht, rfl⟩)
  rw [h.ts] at key
  exact ⟨fun t ht => (key t (List.mem_append_left _ ht)).1, key u (by simp)⟩
theorem At.tab (h : At q p t pre u xs) {a : S_truth_turn} (ha : a ∈ pre) (hx : a.f_exists = false) : ∃ w ∈ hD q p, w.Var = a.v := by
  have : a.v ∈ (hD q p).map (·.Var) := by rw [h.vars]; exact mem_un.2 ⟨a, ha, hx, rfl⟩
  obtain ⟨w, hw, e⟩ := List.mem_map.1 this
  exact ⟨w, hw, e⟩
theorem At.play_av (h : At q p t pre u xs) (hg : Gd q) (σ : Int → Bool) : (pre.flatMap (playT (hD q p) σ)).map av = pre.map (·.v) := by
  refine flat_av pre (fun a ha => ?_)
  have hp := (h.pos hg).1 a ha
  unfold playT
  by_cases hx : a.f_exists = true
  · rw [if_pos hx, List.map_cons, List.map_nil, av_s hp]
  · rw [if_neg hx]
    obtain ⟨w, hw, e⟩ := h.tab ha (by simpa using hx)
    rw [← e, filter_single (h.vnd hg) hw, List.map_cons, List.map_nil, List.map_cons, List.map_nil, av_s (by rw [e]; exact hp)]
theorem At.play_mem (h : At q p t pre u xs) (hg : Gd q) (σ : Int → Bool) {v : Int} (hv : 1 ≤ v) : v ∈ pre.flatMap (playT (hD q p) σ) ↔ (if v ∈ srt (exV pre) then σ v else fOf (hD q p) v σ) = true := by
  rw [List.mem_flatMap]
  constructor
  · rintro ⟨a, ha, hm⟩
    have hp := (h.pos hg).1 a ha
    unfold playT at hm
    by_cases hx : a.f_exists = true
    · rw [if_pos hx, List.mem_singleton] at hm
      obtain ⟨rfl, hs⟩ := pos_s hp hv hm
      rw [if_pos (srt_mem.2 (mem_ex.2 ⟨a, ha, hx, rfl⟩)), hs]
    · rw [if_neg hx] at hm
      obtain ⟨w, hw, e⟩ := List.mem_map.1 hm
      obtain ⟨hw1, hw2⟩ := List.mem_filter.1 hw
      have hw2 : w.Var = a.v := by simpa using hw2
      obtain ⟨rfl, hs⟩ := pos_s hp hv e.symm
      rw [← hw2, if_neg (fun hm => h.sep hg hw1 (srt_mem.1 hm)), fOf_mem (h.vnd hg) hw1, hs]
  · intro hf
    by_cases hm : v ∈ srt (exV pre)
    · rw [if_pos hm] at hf
      obtain ⟨a, ha, hx, rfl⟩ := mem_ex.1 (srt_mem.1 hm)
      refine ⟨a, ha, ?_⟩
      unfold playT
      rw [if_pos hx, hf]; simp
    · rw [if_neg hm] at hf
      by_cases hn : v ∈ (hD q p).map (·.Var)
      · obtain ⟨w, hw, rfl⟩ := List.mem_map.1 hn
        rw [fOf_mem (h.vnd hg) hw] at hf
        rw [h.vars] at hn
        obtain ⟨a, ha, hx, e⟩ := mem_un.1 hn
        refine ⟨a, ha, ?_⟩
        unfold playT
        rw [if_neg (by simp [hx])]
        exact List.mem_map.2 ⟨w, List.mem_filter.2 ⟨hw, by simp [e]⟩, by rw [hf, e]; simp⟩
      · rw [fOf_none hn] at hf; cases hf
theorem At.rbit (h : At q p t pre u xs) (hq : Sq q) (hg : Gd q) (m : Nat) : F_skolemref04_Left 1000000 q (pre.flatMap (playT (hD q p) (sgM (srt (exV pre)) m)) ++ [-u.v]) = some (hval q (hD q p) t m) := by
  have hlen := h.len
  have hvs := hq.vs
  have hpos := h.pos hg
  have hav := h.play_av hg (sgM (srt (exV pre)) m)
  have hl : (pre.flatMap (playT (hD q p) (sgM (srt (exV pre)) m))).length = pre.length := by
    have := congrArg List.length hav
    simpa using this
  have hmap : (pre.flatMap (playT (hD q p) (sgM (srt (exV pre)) m)) ++ [-u.v]).map av = (flat q.Prefix).take (pre.length + 1) := by
    rw [List.map_append, hav, List.map_cons, List.map_nil, av_neg, av_p hpos.2.1, ← turns_v, h.ts, List.map_append, List.map_cons, List.take_append, List.take_of_length_le (by simp)]
    simp
  have e := rleft_eq hq hg xs.length 1000000 (pre.flatMap (playT (hD q p) (sgM (srt (exV pre)) m)) ++ [-u.v]) (by rw [List.length_append, hl, List.length_singleton]; omega) (by omega) (by rw [hmap, List.length_append, hl, List.length_singleton])
  rw [e]
  congr 1
  unfold hval
  have hv : t.Var = u.v := by rw [h.t]
  have ho : t.On = srt (exV pre) := by rw [h.t]
  rw [List.length_append, hl, List.length_singleton, hv, h.idx hg, ho]
  refine game_congr (fun c hc x hx => (hg.lit hc hx).1) _ _ _ (fun v hv1 _ => ?_)
  rw [Bool.eq_iff_iff]
  have hne : ¬ v = -u.v := by omega
  simp only [List.mem_append, List.mem_singleton, hne, or_false, decide_eq_true_eq]
  exact h.play_mem hg _ hv1
end
theorem rherb_eq {q : S_api_Qbf} (hq : Sq q) : F_skolemref04_Herbrand q = some (herbV q) := by
  unfold F_skolemref04_Herbrand herbV
  rw [qbf_r hq, Option.bind_some]
  by_cases hM : MayQ q = true
  case neg => simp [Bool.eq_false_iff.2 hM]
  have hg := gd_of hM
  by_cases h16 : (flat q.Prefix).length > 16
  · simp [hM, h16]
  have hvs := hq.vs
  have htl := turns_len q.Prefix
  simp only [hM, h16, if_true, if_false, bne_self_eq_false, Bool.false_eq_true, jn_eq]
  refine moves_loop (q := q) hvs hg.nd _ _ (if gameB q.Clauses (turnsP q.Prefix) (fun _ => false) = true then some ([], 6) else some (hD q (tabsT [] (turnsP q.Prefix)), 0)) (fun b n => ?_) |>.trans ?_
  · cases hgm : gameB q.Clauses (turnsP q.Prefix) (fun _ => false)
    case true => simp
    simp only [Bool.false_eq_true, if_false]
    have h21 : ((2 : Int) == 1) = false := by decide
    simp only [h21, Bool.false_eq_true, if_false]
    have hTl : (tabsT [] (turnsP q.Prefix)).length ≤ 16 := by
      have h1 := congrArg List.length (tabs_var (turnsP q.Prefix) [])
      rw [List.length_map] at h1
      rw [h1]; unfold unV; rw [List.length_map]
      exact Nat.le_trans (List.length_filter_le _ _) (by omega)
    refine whileF_by (fun s : Int × List S_api_Table => (tabsT [] (turnsP q.Prefix)).length - s.1.toNat) (fun s => ∃ p x, tabsT [] (turnsP q.Prefix) = p ++ x ∧ s.1 = ((p.length : Nat) : Int) ∧ s.2 = hD q p ++ x) (fun _ => some (hD q (tabsT [] (turnsP q.Prefix)), 0)) ?_ 1000000000000 (0, tabsT [] (turnsP q.Prefix)) ⟨[], _, by simp, by simp, rfl⟩ (by simp; omega)
    rintro ⟨i, s⟩ k ⟨p, x, hf, h1, h2⟩ hk
    simp only at h1 h2 hk ⊢
    subst h1
    have hle := hD_len q p
    have hll := congrArg List.length hf
    rw [List.length_append] at hll
    have hsl2 : s.length = p.length + x.length := by rw [h2, List.length_append, hle]
    cases x with
    | nil =>
      have : ¬ ((p.length : Nat) : Int) < ((s.length : Nat) : Int) := by rw [hsl2]; simp
      rw [if_neg (by simpa using this), h2, List.append_nil, hf, List.append_nil]
    | cons t x =>
      have hlt : ((p.length : Nat) : Int) < ((s.length : Nat) : Int) := by rw [hsl2, List.length_cons]; omega
      obtain ⟨pre, u, xs, hat⟩ := at_of hf
      have hlen := hat.len
      have hpos := hat.pos hg
      have hget : s[p.length]? = some t := by rw [h2, List.getElem?_append_right (by omega), hle]; simp
      have hpl : p.length ≤ pre.length := by
        have h1 := congrArg List.length (tabs_var pre [])
        rw [List.length_map, ← hat.p] at h1
        rw [h1]; unfold unV; rw [List.length_map]; exact List.length_filter_le _ _
      have hexl := exV_len pre
      have hsl := srt_len (exV pre)
      have htv : t.Var = u.v := by rw [hat.t]
      have hto : t.On = srt (exV pre) := by rw [hat.t]
      have htb : t.Bits = [] := by rw [hat.t]
      have hw : IntKind.wrap .i64 (((p.length : Nat) : Int) + 1) = ((p.length + 1 : Nat) : Int) := by
        simp only [List.length_cons] at hll
        rw [wrap_id (by omega) (by omega)]; omega
      have hwu : IntKind.wrap .i64 (0 - u.v) = -u.v := by rw [wrap_id (by omega) (by omega)]; omega
      rw [if_pos (by simpa using hlt), getI_nat, hget]
      simp only [htb, htv, hto, List.length_nil, okI_eq, hsl, Int.toNat_natCast, hw, hwu]
      rw [okI_eq (wi_ok _), pw_eq _ (by omega), Int.sub_zero, Int.toNat_natCast]
      refine (up_map (fun m => hval q (hD q p) t m) (2 ^ (exV pre).length) (fun m s2 k2 hm hs2 => ?_)).trans ?_
      · have hp62 : 2 ^ (exV pre).length ≤ 2 ^ 16 := pw_le (by omega)
        have htk : s.take p.length = hD q p := by rw [h2, ← hle, List.take_left']; rfl
        rw [okI_eq (wu0 _), okI_eq ⟨Int.natCast_nonneg _, by rw [hsl2]; omega⟩, htk]
        have hon1 : ∀ x ∈ srt (exV pre), 0 < x ∧ x ≤ 65536 := fun x hx => by
          obtain ⟨a, ha, _, rfl⟩ := mem_ex.1 (srt_mem.1 hx)
          have := hg.one a.v (by rw [← turns_v, hat.ts]; exact List.mem_map.2 ⟨a, List.mem_append_left _ ha, rfl⟩)
          omega
        rw [point_eq _ m hon1 (by omega), Option.bind_some, sgM_pt (srt_nodup (hat.ex hg))]
        have honp : ∀ v, v ∈ srt (exV pre) → decide (v ∈ ptL (sgM (srt (exV pre)) m) (srt (exV pre))) = sgM (srt (exV pre)) m v := fun v hv => by
          have hv0 := (hon1 v hv).1
          rw [Bool.eq_iff_iff, decide_eq_true_eq]
          unfold ptL
          constructor
          · intro hm2
            obtain ⟨y, hy, e⟩ := List.mem_map.1 hm2
            have hy0 := (hon1 y hy).1
            obtain ⟨rfl, hs⟩ := pos_s (by omega) (by omega) e.symm
            exact hs
          · intro hs
            exact List.mem_map.2 ⟨v, hv, by rw [hs]; simp⟩
        have hDl : (hD q p).length ≤ 60 := by omega
        rw [played_to hvs hg hDl (σ := sgM (srt (exV pre)) m) hat.ts (fun a ha hx => honp a.v (srt_mem.2 (mem_ex.2 ⟨a, ha, hx, rfl⟩))) (fun w hw2 => ?_), Option.bind_some]
        · have hlp : (pre.flatMap (playT (hD q p) (sgM (srt (exV pre)) m))).length = pre.length := by
            have := congrArg List.length (hat.play_av hg (sgM (srt (exV pre)) m))
            simpa using this
          rw [capN_eq (by rw [hlp]; simp; omega), hat.rbit hq hg m, Option.bind_some, capN_eq (by simp; omega)]
        · obtain ⟨o1, o2⟩ := hat.on hg hw2
          have := nodup_len o1 o2
          exact at_eq (hD_bits hw2) (by omega) (fun v hv => honp v (srt_mem.2 (o2 v hv)))
      · have h0 : 0 < (List.map (fun m => hval q (hD q p) t m) (List.range (2 ^ (exV pre).length))).length := by simp; exact Nat.two_pow_pos _
        rw [okI_eq (wu0 _), okI_eq h0]
        have hset : s.set p.length (S_api_Table.mk u.v (srt (exV pre)) (List.map (fun m => hval q (hD q p) t m) (List.range (2 ^ (exV pre).length)))) = hD q (p ++ [t]) ++ x := by
          rw [h2, List.set_append_right _ _ (by omega), hle, Nat.sub_self, List.set_cons_zero, hD_snoc, List.append_assoc]
          unfold hTab
          rw [htv, hto, hsl]; rfl
        rw [hset]
        refine hk _ ⟨p ++ [t], x, by rw [hf]; simp, by simp, rfl⟩ ?_
        simp only [Int.toNat_natCast]
        simp only [List.length_cons] at hll
        omega
  · by_cases hc : cntT 20 [] (turnsP q.Prefix) ≤ 4096
    · simp only [hc, if_true]
      cases gameB q.Clauses (turnsP q.Prefix) (fun _ => false) <;> simp
    · simp only [hc, if_false]
end Go.Sk.X
namespace Go.Sk.X
open Go Go.Sk
theorem same_self (l : List S_api_Table) (h : ∀ t ∈ l, t.Bits.length ≤ 65536) : F_skolemref04_SameTables l l = some true := by
  unfold F_skolemref04_SameTables
  have e0 : (((l.length : Nat) : Int) != ((l.length : Nat) : Int)) = false := by simp
  rw [e0, if_neg (by decide)]
  refine rangeF_pre l (fun _ _ => True) (fun _ _ _ => some true) (fun _ _ => rfl) ?_ l [] () rfl trivial
  intro pre x xs s kk hf _ hk
  have hx : l[pre.length]? = some x := by rw [hf]; simp
  have hb := h x (by rw [hf]; simp)
  have e1 : (x.Var != x.Var) = false := by simp
  have e2 : (((x.Bits.length : Nat) : Int) != ((x.Bits.length : Nat) : Int)) = false := by simp
  simp only [jn_eq, getI_nat, hx, e1, Bool.false_eq_true, if_false, ints_eq, decide_true, Option.bind_some, Bool.not_true, e2]
  refine (whileF_by (fun s : Int => x.Bits.length - s.toNat) (fun s => 0 ≤ s ∧ s ≤ x.Bits.length) (fun _ => some true) ?_ 1000000000000 0 (by simp) (by simp; omega))
  rintro s k ⟨h0, h1⟩ hs
  obtain ⟨n, rfl⟩ : ∃ n : Nat, s = n := ⟨s.toNat, by omega⟩
  by_cases h2 : (n : Int) < ((x.Bits.length : Nat) : Int)
  · have hlt : n < x.Bits.length := by omega
    have hw : IntKind.wrap .i64 ((n : Int) + 1) = ((n + 1 : Nat) : Int) := by rw [wrap_id (by omega) (by omega)]; omega
    have e3 : (x.Bits[n] == x.Bits[n]) = true := by simp
    simp only [h2, decide_true, if_true, getI_nat, List.getElem?_eq_getElem hlt, e3, Bool.not_true, Bool.false_eq_true, if_false, hw]
    exact hs _ ⟨by omega, by omega⟩ (by omega)
  · simp only [h2, decide_false, Bool.false_eq_true, if_false]
    exact hk () trivial
theorem herbV_bits {q : S_api_Qbf} : ∀ t ∈ (herbV q).1, t.Bits.length ≤ 65536 := by
  unfold herbV
  by_cases hM : MayQ q = true
  case neg => rw [if_neg hM]; intro t ht; simp at ht
  rw [if_pos hM]
  by_cases h16 : (flat q.Prefix).length > 16
  · rw [if_pos h16]; intro t ht; simp at ht
  rw [if_neg h16]
  by_cases hc : cntT 20 [] (turnsP q.Prefix) ≤ 4096
  case neg => rw [if_neg hc]; intro t ht; simp at ht
  rw [if_pos hc]
  by_cases hgm : gameB q.Clauses (turnsP q.Prefix) (fun _ => false) = true
  · rw [if_pos hgm]; intro t ht; simp at ht
  rw [if_neg hgm]
  intro t ht
  have hg := gd_of hM
  have hb := hD_bits ht
  obtain ⟨u, hu, _, e⟩ := hD_on ht
  have hex := exV_sub (ts := turnsP q.Prefix) (by rw [turns_v]; exact hg.nd)
  have ho := tabs_on (turnsP q.Prefix) [] (by rw [List.nil_append]; exact hex) u hu
  have := nodup_len (ho.2.1) (by simpa using ho.2.2)
  have hl := exV_len (turnsP q.Prefix)
  have htl := turns_len q.Prefix
  have hp : 2 ^ t.On.length ≤ 2 ^ 16 := pw_le (by rw [← e]; omega)
  rw [hb]
  exact hp
theorem law_TruthHerbrand {a0 : S_api_Qbf} (h0 : Z_S_api_Qbf a0) : F_skolemlaw04_TruthHerbrand a0 = some true := by
  obtain ⟨b, hb, hs⟩ := great_eq h0
  unfold F_skolemlaw04_TruthHerbrand
  rw [hb, Option.bind_some]
  cases b
  · have h := hs rfl
    have e2 : ∀ x : Int, (x == x) = true := fun x => by simp
    simp only [Bool.false_eq_true, if_false, pherb_eq h, rherb_eq h, Option.bind_some, same_self _ herbV_bits, e2, if_true, head_eq]
  · simp [head_eq]
end Go.Sk.X