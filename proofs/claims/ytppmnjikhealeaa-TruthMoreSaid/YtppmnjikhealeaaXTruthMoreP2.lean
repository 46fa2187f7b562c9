/- The program computes these plain functions (law TruthMore, part 2). It has no conditions. -/
import Derived.Test.YtppmnjikhealeaaXTruthMoreP1
set_option linter.unusedVariables false
set_option linter.unusedSimpArgs false
set_option maxRecDepth 100000
set_option maxHeartbeats 100000000
namespace Go.Sk.X
open Go Go.Sk Go.Proofs
/-! ### Tables whose bits are rows of their own -/
def famL (b : Nat) : List (List Bool) → LH
  | [] => []
  | x :: l => (b, rw' 1 4 eB x) :: famL (b + 1) l
theorem fam_aget : ∀ (l : List (List Bool)) (b q : Nat), aget (famL b l) q = if b ≤ q then (l[q - b]?).map (rw' 1 4 eB) else none
  | [], b, q => by simp [famL, aget]
  | x :: l, b, q => by
    simp only [famL, aget, fam_aget l (b + 1) q]
    by_cases h : b = q
    · subst h; simp
    · rw [if_neg h]
      by_cases h2 : b ≤ q
      · rw [if_pos h2, if_pos (by omega), show q - b = (q - (b + 1)) + 1 by omega]; simp
      · rw [if_neg h2, if_neg (by omega)]
theorem fam_aset : ∀ (l : List (List Bool)) (b i : Nat) (x : List Bool), i < l.length → aset (famL b l) (b + i) (rw' 1 4 eB x) = famL b (l.set i x)
  | [], b, i, x, h => by simp at h
  | y :: l, b, 0, x, h => by simp [famL, aset]
  | y :: l, b, i + 1, x, h => by
    simp only [famL, aset, List.set_cons_succ]
    rw [if_neg (by omega), show b + (i + 1) = b + 1 + i by omega, fam_aset l (b + 1) i x (by simpa using h)]
def tabC (b : Nat) : List S_api_Table → List (List AVal)
  | [] => []
  | t :: ts => [dI .i64 t.Var, dL 1 (eI .i64) t.On, .slice b 1 0 t.Bits.length] :: tabC (b + 1) ts
def ptrC (b : Nat) : List (List Bool) → List (List AVal)
  | [] => []
  | x :: l => ((List.range x.length).map fun k => [AVal.ptr b 1 k 0]) ++ ptrC (b + 1) l
theorem tabC_len : ∀ (ts : List S_api_Table) (b : Nat), (tabC b ts).length = ts.length
  | [], _ => rfl
  | t :: ts, b => by simp [tabC, tabC_len ts (b + 1)]
theorem ptrC_len : ∀ (l : List (List Bool)) (b : Nat), (ptrC b l).length = (l.map List.length).sum
  | [], _ => rfl
  | x :: l, b => by simp [ptrC, ptrC_len l (b + 1)]
def locB : List (List Bool) → Nat → Nat × Nat
  | [], k => (0, k)
  | x :: l, k => if k < x.length then (0, k) else ((locB l (k - x.length)).1 + 1, (locB l (k - x.length)).2)
theorem ptrC_get : ∀ (l : List (List Bool)) (b k : Nat), k < (l.map List.length).sum → (ptrC b l)[k]? = some [.ptr (b + (locB l k).1) 1 (locB l k).2 0] ∧ ∃ x, l[(locB l k).1]? = some x ∧ (locB l k).2 < x.length
  | [], b, k, h => by simp at h
  | x :: l, b, k, h => by
    rw [List.map_cons, List.sum_cons] at h
    simp only [ptrC, locB]
    by_cases hk : k < x.length
    · rw [if_pos hk, List.getElem?_append_left (by simpa using hk)]
      exact ⟨by simp [hk], x, rfl, hk⟩
    · rw [if_neg hk, List.getElem?_append_right (by simpa using Nat.le_of_not_lt hk)]
      obtain ⟨h1, y, h2, h3⟩ := ptrC_get l (b + 1) (k - x.length) (by omega)
      refine ⟨?_, y, by simpa using h2, h3⟩
      rw [List.length_map, List.length_range, h1]
      simp only
      rw [show b + 1 + (locB l (k - x.length)).1 = b + ((locB l (k - x.length)).1 + 1) by omega]
theorem setB_len : ∀ (ts : List S_api_Table) (k : Nat) (v : Bool), (setB ts k v).length = ts.length
  | [], _, _ => rfl
  | t :: ts, k, v => by
    simp only [setB]
    split
    · simp
    · simp [setB_len ts]
theorem setB_map : ∀ (ts : List S_api_Table) (k : Nat) (v : Bool) (x : List Bool), k < bitsN ts → (ts.map (·.Bits))[(locB (ts.map (·.Bits)) k).1]? = some x →
    (setB ts k v).map (·.Bits) = (ts.map (·.Bits)).set (locB (ts.map (·.Bits)) k).1 (x.set (locB (ts.map (·.Bits)) k).2 v)
  | [], k, v, x, h, _ => by simp [bitsN] at h
  | t :: ts, k, v, x, h, hx => by
    simp only [setB, List.map_cons, locB] at hx ⊢
    by_cases hk : k < t.Bits.length
    · rw [if_pos hk] at hx ⊢
      rw [if_pos hk]
      simp at hx
      subst hx
      simp
    · rw [if_neg hk] at hx ⊢
      rw [if_neg hk]
      have hb : k - t.Bits.length < bitsN ts := by simp [bitsN] at h ⊢; omega
      simp only [List.map_cons, List.set_cons_succ]
      rw [setB_map ts (k - t.Bits.length) v x hb (by simpa using hx)]
theorem setB_tabC : ∀ (ts : List S_api_Table) (b k : Nat) (v : Bool), tabC b (setB ts k v) = tabC b ts
  | [], _, _, _ => rfl
  | t :: ts, b, k, v => by
    simp only [setB]
    split
    · simp [tabC]
    · simp [tabC, setB_tabC ts]
theorem setB_bitsN : ∀ (ts : List S_api_Table) (k : Nat) (v : Bool), bitsN (setB ts k v) = bitsN ts
  | [], _, _ => rfl
  | t :: ts, k, v => by
    simp only [setB]
    split
    · simp [bitsN]
    · have := setB_bitsN ts (k - t.Bits.length) v
      simp [bitsN] at this ⊢; omega
theorem setB_ptrC : ∀ (ts : List S_api_Table) (b k : Nat) (v : Bool), ptrC b ((setB ts k v).map (·.Bits)) = ptrC b (ts.map (·.Bits))
  | [], _, _, _ => rfl
  | t :: ts, b, k, v => by
    simp only [setB]
    split
    · simp [ptrC]
    · simp [ptrC, setB_ptrC ts]
theorem bitsN_eq (ts : List S_api_Table) : bitsN ts = ((ts.map (·.Bits)).map List.length).sum := by unfold bitsN; rw [List.map_map]; rfl

/-! the whole -/
abbrev LS (gs gT gP : Nat) (d : S_api_Dqbf) (n m : Nat) : Nat × AObj := (1001, .row gs 87 [[dL 1 (eI .i64) d.Univ, dL 2 e_S_api_Dep d.Exist, dL 1 (eL 1 (eI .i64)) d.Clauses, .slice 1002 gT 0 n, .slice 1003 gP 0 m]])
abbrev LL (gs gT gP : Nat) (d : S_api_Dqbf) (ts : List S_api_Table) : LH :=
  LS gs gT gP d ts.length (bitsN ts) :: (1002, .row gT 56 (tabC 2000 ts)) :: (1003, .row gP 118 (ptrC 2000 (ts.map (·.Bits)))) :: famL 2000 (ts.map (·.Bits))
section
variable {gs gT gP : Nat} {d : S_api_Dqbf} {ts : List S_api_Table}
theorem LL_get (q : Nat) (hq : 2000 ≤ q) : aget (LL gs gT gP d ts) q = ((ts.map (·.Bits))[q - 2000]?).map (rw' 1 4 eB) := by
  simp only [aget]
  rw [if_neg (by omega), if_neg (by omega), if_neg (by omega), fam_aget, if_pos hq]
theorem LL_low (q : Nat) (hq : q < 2000) (h1 : q ≠ 1001) (h2 : q ≠ 1002) (h3 : q ≠ 1003) : aget (LL gs gT gP d ts) q = none := by
  simp only [aget]
  rw [if_neg (by omega), if_neg (by omega), if_neg (by omega), fam_aget, if_neg (by omega)]
theorem LL_in (q : Nat) : inL (LL gs gT gP d ts) q = (decide (q = 1001) || (decide (q = 1002) || (decide (q = 1003) || (decide (2000 ≤ q) && decide (q - 2000 < ts.length))))) := by
  by_cases h1 : q = 1001
  · subst h1; rfl
  by_cases h2 : q = 1002
  · subst h2; rfl
  by_cases h3 : q = 1003
  · subst h3; rfl
  simp only [h1, h2, h3, decide_false, Bool.false_or]
  unfold inL
  by_cases h4 : 2000 ≤ q
  · rw [LL_get q h4]
    by_cases h5 : q - 2000 < ts.length
    · simp [h4, h5]
    · simp [h4, h5]
  · rw [LL_low q (by omega) h1 h2 h3]
    simp [h4]
theorem LL_keys {gs' gT' gP' : Nat} {d' : S_api_Dqbf} {ts' : List S_api_Table} (hl : ts'.length = ts.length) (q : Nat) : inL (LL gs' gT' gP' d' ts') q = inL (LL gs gT gP d ts) q := by
  rw [LL_in, LL_in, hl]
theorem LL_all {gs' gT' gP' : Nat} {d' : S_api_Dqbf} {ts' : List S_api_Table} (hl : ts'.length = ts.length) : allIn (LL gs gT gP d ts) (LL gs' gT' gP' d' ts') = true := by
  unfold allIn
  rw [List.all_eq_true]
  intro p hp
  rw [LL_keys hl]
  have key : ∀ (l : LH) (p : Nat × AObj), p ∈ l → inL l p.1 = true := by
    intro l
    induction l with
    | nil => intro p hp; simp at hp
    | cons x l ih =>
      intro p hp
      obtain ⟨k, o⟩ := x
      unfold inL
      simp only [aget]
      by_cases h : k = p.1
      · rw [if_pos h]; rfl
      · rw [if_neg h]
        rcases List.mem_cons.1 hp with rfl | hp
        · exact absurd rfl h
        · exact ih p hp
  exact key _ p hp
theorem subL_fam {L : LH} : ∀ (l : List (List Bool)) (b : Nat), (∀ i x, l[i]? = some x → aget L (b + i) = some (rw' 1 4 eB x)) → SubL (famL b l) L
  | [], _, _ => trivial
  | x :: l, b, h => ⟨by simpa using h 0 x rfl, subL_fam l (b + 1) (fun i y hy => by rw [show b + 1 + i = b + (i + 1) by omega]; exact h (i + 1) y (by simpa using hy))⟩
theorem LL_sub : SubL (LL gs gT gP d ts) (LL gs gT gP d ts) := ⟨rfl, rfl, rfl, subL_fam _ _ (fun i x h => by rw [LL_get _ (by omega), show 2000 + i - 2000 = i by omega, h]; rfl)⟩
theorem ok_tabC {S : Nat → Bool} : ∀ (ts : List S_api_Table) (b : Nat), (∀ i, i < ts.length → S (b + i) = true) → ((tabC b ts).all fun el => el.all fun v => sc v && closedV S v) = true
  | [], _, _ => rfl
  | t :: ts, b, h => by
    simp only [tabC, List.all_cons, ok_tabC ts (b + 1) (fun i hi => by rw [show b + 1 + i = b + (i + 1) by omega]; exact h (i + 1) (by simpa using hi)), Bool.and_true]
    have := h 0 (by simp)
    simp only [Nat.add_zero] at this
    simp [sc, closedV, this]
theorem ok_ptrC {S : Nat → Bool} : ∀ (l : List (List Bool)) (b : Nat), (∀ i, i < l.length → S (b + i) = true) → ((ptrC b l).all fun el => el.all fun v => sc v && closedV S v) = true
  | [], _, _ => rfl
  | x :: l, b, h => by
    simp only [ptrC, List.all_append, ok_ptrC l (b + 1) (fun i hi => by rw [show b + 1 + i = b + (i + 1) by omega]; exact h (i + 1) (by simpa using hi)), Bool.and_true]
    have := h 0 (by simp)
    simp only [Nat.add_zero] at this
    rw [List.all_eq_true]
    intro el hel
    obtain ⟨k, _, rfl⟩ := List.mem_map.1 hel
    simp [sc, closedV, this]
theorem LL_S (i : Nat) (hi : i < ts.length) : inL (LL gs gT gP d ts) (2000 + i) = true := by
  rw [LL_in]; simp; omega
theorem closed_of_ok {S : Nat → Bool} {els : List (List AVal)} (h : (els.all fun el => el.all fun v => sc v && closedV S v) = true) : (els.all fun el => closedL S el) = true := by
  rw [List.all_eq_true] at h ⊢
  intro el hel
  have := h el hel
  clear h hel
  induction el with
  | nil => rfl
  | cons v vs ih =>
    simp only [List.all_cons, Bool.and_eq_true] at this
    simp only [closedL, this.1.2, ih this.2, Bool.and_self]
theorem clos_fam {S : Nat → Bool} : ∀ (l : List (List Bool)) (b : Nat), ClosA S (famL b l)
  | [], _ => trivial
  | x :: l, b => ⟨closed_of_ok (all_rowOf _), clos_fam l (b + 1)⟩
theorem LL_clos : ClosA (inL (LL gs gT gP d ts)) (LL gs gT gP d ts) :=
  ⟨rfl, closed_of_ok (ok_tabC ts 2000 (fun i hi => LL_S i hi)), closed_of_ok (ok_ptrC _ 2000 (fun i hi => LL_S i (by simpa using hi))), clos_fam _ _⟩
theorem frzO_fam {P : Program} {S : Nat → Bool} {L : LH} : ∀ (l : List (List Bool)) (b : Nat), (∀ i x, l[i]? = some x → aget L (b + i) = some (rw' 1 4 eB x)) → FrzO P L S (famL b l)
  | [], _, _ => trivial
  | x :: l, b, h => ⟨⟨_, by simpa using h 0 x rfl, objRow _⟩, frzO_fam l (b + 1) (fun i y hy => by rw [show b + 1 + i = b + (i + 1) by omega]; exact h (i + 1) y (by simpa using hy))⟩
theorem LL_frz {P : Program} : FrzO P (LL gs gT gP d ts) (inL (LL gs gT gP d ts)) (LL gs gT gP d ts) :=
  ⟨⟨_, rfl, objKeep rfl⟩, ⟨_, rfl, objKeep (ok_tabC ts 2000 (fun i hi => LL_S i hi))⟩, ⟨_, rfl, objKeep (ok_ptrC _ 2000 (fun i hi => LL_S i (by simpa using hi)))⟩,
    frzO_fam _ _ (fun i x h => by rw [LL_get _ (by omega), show 2000 + i - 2000 = i by omega, h]; rfl)⟩
/-- a bit is written -/
theorem LL_set {k : Nat} (hk : k < bitsN ts) (v : Bool) {x : List Bool} (hx : (ts.map (·.Bits))[(locB (ts.map (·.Bits)) k).1]? = some x) :
    aset (LL gs gT gP d ts) (2000 + (locB (ts.map (·.Bits)) k).1) (rw' 1 4 eB (x.set (locB (ts.map (·.Bits)) k).2 v)) = LL gs gT gP d (setB ts k v) := by
  have hi : (locB (ts.map (·.Bits)) k).1 < (ts.map (·.Bits)).length := (List.getElem?_eq_some_iff.1 hx).1
  simp only [aset]
  rw [if_neg (by omega), if_neg (by omega), if_neg (by omega), fam_aset _ _ _ _ hi, ← setB_map ts k v x hk hx]
  show _ = LS gs gT gP d (setB ts k v).length (bitsN (setB ts k v)) :: (1002, .row gT 56 (tabC 2000 (setB ts k v))) :: (1003, .row gP 118 (ptrC 2000 ((setB ts k v).map (·.Bits)))) :: famL 2000 ((setB ts k v).map (·.Bits))
  rw [setB_len, setB_bitsN, setB_tabC, setB_ptrC]
/-- what is lent -/
theorem LL_lend {P : Program} (hc56 : P.cellsOf 56 = 3) (hc4 : P.cellsOf 4 = 1) {i : Int} {ρ : Rho} {w : World} {cs : List Value} (hL : SatL P ρ (LL gs gT gP d ts) w) (h : LsRel w ρ [.ptr 1001 gs 0 0, dI .i64 i] cs) :
    LsRel w (restr ρ (fun _ => false)) [.pdat (e_S_truth_least ⟨d, ts⟩) 0, dI .i64 i] cs := by
  have ha : Agree (fun _ => false) ρ (restr ρ (fun _ => false)) := restr_agree ρ _
  have hm : ∀ r x, (restr ρ (fun _ => false)).m r = some x → (fun _ => false) r = true ∧ ρ.m r = some x := fun r x hx => restr_m hx
  cases h with
  | cons h1 h2 =>
    cases h2 with
    | cons h3 h4 =>
      cases h4
      refine .cons ?_ (.cons (Frz.sound hL ha hm rfl (.keep rfl) h3) .nil)
      refine frzP hL hm rfl (S := fun _ => false) (r := 1001) rfl rfl (fun j dd hj => ?_) h1
      match j, hj with
      | 0, hj => exact ⟨_, rfl, fun c hv => by injection hj with hj; subst hj; exact Frz.sound hL ha hm rfl (.keep rfl) hv⟩
      | 1, hj => exact ⟨_, rfl, fun c hv => by injection hj with hj; subst hj; exact Frz.sound hL ha hm rfl (.keep rfl) hv⟩
      | 2, hj => exact ⟨_, rfl, fun c hv => by injection hj with hj; subst hj; exact Frz.sound hL ha hm rfl (.keep rfl) hv⟩
      | 3, hj =>
        refine ⟨_, rfl, fun c hv => ?_⟩
        injection hj with hj; subst hj
        have key : ∀ (us : List S_api_Table) (b : Nat), (∀ i t, us[i]? = some t → aget (LL gs gT gP d ts) (b + i) = some (rw' 1 4 eB t.Bits)) → ∀ (i : Nat) el el', (tabC b us)[i]? = some el → (rowOf (us.map e_S_api_Table))[i]? = some el' → el.length = el'.length ∧ ∀ (j : Nat) v u, el[j]? = some v → el'[j]? = some u → Frz P (LL gs gT gP d ts) (fun _ => false) v u := by
          intro us
          induction us with
          | nil => intro b _ i el el' h1; simp [tabC] at h1
          | cons t us ih =>
            intro b hb i el el' h1 h2
            cases i with
            | zero =>
              simp only [tabC, rowOf, List.map_cons, List.getElem?_cons_zero, Option.some.injEq] at h1 h2
              subst h1; subst h2
              refine ⟨rfl, fun j v u hv hu => ?_⟩
              match j, hv, hu with
              | 0, hv, hu => injection hv with hv; injection hu with hu; subst hv; subst hu; exact .keep rfl
              | 1, hv, hu => injection hv with hv; injection hu with hu; subst hv; subst hu; exact .keep rfl
              | 2, hv, hu =>
                injection hv with hv; injection hu with hu; subst hv; subst hu
                have := hb 0 t rfl
                rw [Nat.add_zero] at this
                exact frzT this rfl hc4 rfl
              | j + 3, hv, hu => simp at hv
            | succ i =>
              simp only [tabC, rowOf, List.map_cons, List.getElem?_cons_succ] at h1 h2
              exact ih (b + 1) (fun i t ht => by rw [show b + 1 + i = b + (i + 1) by omega]; exact hb (i + 1) t (by simpa using ht)) i el el' h1 h2
        have hv' : VRel w ρ (.slice 1002 gT 0 (tabC 2000 ts).length) c := by rw [tabC_len]; exact hv
        have := frzD hL ha hm rfl (r := 1002) (g := gT) (e := 56) (els := tabC 2000 ts) (ds := ts.map e_S_api_Table) rfl rfl (by rw [tabC_len]; simp [rowOf]) (key ts 2000 (fun i t ht => by rw [LL_get _ (by omega), show 2000 + i - 2000 = i by omega, List.getElem?_map, ht]; rfl)) hv'
        rw [hc56] at this
        exact this
      | j + 4, hj => simp at hj
end
section
variable {X : Cx} {Q : Ex → Env → LH → Prop} {ops : Array Oper} {rest : List Oper} {i : Nat} {E : Env} {L L1 : LH}
theorem rlX {d : Nat} {fid : FuncId} {args : Array Operand} {ats : Array TypeId} {ty : TypeId} {pos : String} {af : Array Edge} {g : Option (Nat × Bool)} {vs us : List AVal} {v : AVal}
    (hev : Fn X.P fid us v) (hz : ∀ ρ w cs, SatL X.P ρ L w → LsRel w ρ vs cs → LsRel w (restr ρ (fun _ => false)) us cs) (ha : evl E args.toList = some vs) (hv : flat v = true)
    (hk : RW X Q ops (i + 1) rest ((d, v) :: E) L) (hN : Nat.blt d X.N = true := by exact rfl) (hg : gval ops.toList E g = some true := by exact rfl) : RW X Q ops i (Oper.mk (some d) (.call { callee := .value (.func fid), args, argTypes := ats }) ty pos af g :: rest) E L :=
  rw_call (d := some d) hN hg rfl ha (by rw [List.append_nil, List.nil_append]; exact evR_lendX hev hz hv) (fun v' L' h => by
    obtain ⟨h1, h2⟩ := h
    injection h1 with h1
    subst h1; subst h2; exact hk) (fun v' L' h => by cases h.1)
/-- a call that has all the rows -/
theorem rcallW {d : Nat} {fid : FuncId} {args : Array Operand} {ats : Array TypeId} {ty : TypeId} {pos : String} {af : Array Edge} {g : Option (Nat × Bool)} {vs : List AVal} {v : AVal}
    (hev : Ev X.P fid vs L (.ret v) L1) (ha : evl E args.toList = some vs) (hs : SubL L L) (hc : closedL (inL L) vs = true) (ho : ClosA (inL L) L) (hn : ∀ q, inL L1 q = inL L q)
    (hk : RW X Q ops (i + 1) rest ((d, v) :: E) L1) (hN : Nat.blt d X.N = true := by exact rfl) (hg : gval ops.toList E g = some true := by exact rfl) : RW X Q ops i (Oper.mk (some d) (.call { callee := .value (.func fid), args, argTypes := ats }) ty pos af g :: rest) E L := by
  refine rw_call (d := some d) (R := fun o l => o = .ret v ∧ l = mergeL L L1) hN hg rfl ha (by
    rw [List.append_nil, List.nil_append]
    exact Ev.toR (hev.frame hs.get hc ho.get (fun r hr => .inl (by rw [← hn]; exact hr)))) (fun v' L' h => ?_) (fun v' L' h => by cases h.1)
  obtain ⟨h1, h2⟩ := h
  injection h1 with h1
  subst h1; subst h2
  refine RW.gh (gh_ext (fun q => ?_)) hk
  rw [mergeL_get]
  have := hn q
  unfold inL at this
  cases h1 : aget L1 q with
  | some o => rfl
  | none =>
    rw [h1] at this
    cases h2 : aget L q with
    | none => rfl
    | some o => rw [h2] at this; cases this
end

/-! ### find -/
theorem findP_len {d : S_api_Dqbf} : ∀ (n : Nat) (ts : List S_api_Table) (i : Int) {r : Bool × List S_api_Table}, findP d n ts i = some r → r.2.length = ts.length
  | 0, _, _, _, h => by simp [findP] at h
  | n + 1, ts, i, r, h => by
    unfold findP at h
    obtain ⟨b, hb, h⟩ := bind_some_elim h
    split at h
    · injection h with h; subst h; rfl
    split at h
    · injection h with h; subst h; rfl
    obtain ⟨hc, h⟩ := okI_some h
    obtain ⟨r1, h1, h⟩ := bind_some_elim h
    have e1 := findP_len n _ _ h1
    rw [setB_len] at e1
    split at h
    · injection h with h; subst h; exact e1
    obtain ⟨hc1, h⟩ := okI_some h
    obtain ⟨r2, h2, h⟩ := bind_some_elim h
    have e2 := findP_len n _ _ h2
    rw [setB_len] at e2
    split at h
    · injection h with h; subst h; exact e2.trans e1
    obtain ⟨hc2, h⟩ := okI_some h
    injection h with h; subst h
    rw [setB_len]; exact e2.trans e1

theorem ok_find {gs gT gP : Nat} {d : S_api_Dqbf} : ∀ (n : Nat) {ts : List S_api_Table} {i : Int} {r : Bool × List S_api_Table} (h : findP d n ts i = some r), Ev Try.prog 39 [.ptr 1001 gs 0 0, dI .i64 i] (LL gs gT gP d ts) (.ret (dB r.1)) (LL gs gT gP d r.2)
 | 0, _, _, _, h => by simp [findP] at h
 | n + 1, ts, i, r, h => by
  have ih : ∀ {ts : List S_api_Table} {i : Int} {r : Bool × List S_api_Table} (h : findP d n ts i = some r), Ev Try.prog 39 [.ptr 1001 gs 0 0, dI .i64 i] (LL gs gT gP d ts) (.ret (dB r.1)) (LL gs gT gP d r.2) := ok_find n
  have hln := findP_len (n + 1) ts i h
  refine Ev.of_bodyM (N := 47) (rs := [.tmp 4]) Try.func39 (c := _) rfl rfl rfl (by kernel_rfl) (LL_all hln) (Nat.le_of_ble_eq_true rfl) (fun _B => ?_)
  unfold findP at h
  obtain ⟨b, hb, h⟩ := bind_some_elim h
  refine awp_rs ?_
  refine w2 ?_
  refine rw_nilk (awp_seq (awp_rs ?_))
  refine w1 ?_
  refine w1 ?_
  refine rlX (us := [.pdat (e_S_truth_least ⟨d, ts⟩) 0, dI .i64 i]) (ok_truth_least_broken hb) (fun ρ w cs hL hh => LL_lend co56 co4 hL hh) rfl rfl ?_
  refine rw_nilk ?_
  refine awp_ite (b := b) rfl (fun p1 => ?_) (fun p1 => ?_)
  · replace h := ite_T p1 h
    refine awp_rs ?_
    refine w2 ?_
    refine rw_nilk (awp_ret (rt_then ?_))
    injection h with h; subst h
    exact retM (v := dB false) (resV_one (resVs_tmp rfl resVs_nil)) rfl (.keep rfl) LL_frz
  replace h := ite_F p1 h
  refine awp_skip (nx_then (awp_seq (awp_rs ?_)))
  refine w1 ?_
  refine w1 ?_
  refine w4 (st_nilP rfl) ?_
  refine w4 (st_faP fo87_2 rfl) ?_
  refine w4 (st_ldP (v := .slice 1003 gP 0 (bitsN ts)) ta85 rfl rfl rfl rfl) ?_
  refine w4 (st_lenR rfl un85 rfl) ?_
  refine w4 (st_bin (v := dB (i == (bitsN ts : Int))) rfl rfl rfl) ?_
  refine rw_nilk ?_
  refine awp_ite (b := (i == (bitsN ts : Int))) rfl (fun p2 => ?_) (fun p2 => ?_)
  · replace h := ite_T p2 h
    refine awp_rs ?_
    refine w2 ?_
    refine rw_nilk (awp_ret (rt_then ?_))
    injection h with h; subst h
    exact retM (v := dB true) (resV_one (resVs_tmp rfl resVs_nil)) rfl (.keep rfl) LL_frz
  replace h := ite_F p2 h
  obtain ⟨⟨h0, hlt⟩, h⟩ := okI_some h
  obtain ⟨r1, hr1, h⟩ := bind_some_elim h
  have e1 := findP_len n _ _ hr1
  rw [setB_len] at e1
  have store : ∀ {us : List S_api_Table} (hlt : i.toNat < bitsN us), ∃ a k x, (ptrC 2000 (us.map (·.Bits)))[i.toNat]? = some [.ptr (2000 + a) 1 k 0] ∧ aget (LL gs gT gP d us) (2000 + a) = some (rw' 1 4 eB x) ∧ (∃ y, x[k]? = some y) ∧ ∀ v, aset (LL gs gT gP d us) (2000 + a) (rw' 1 4 eB (x.set k v)) = LL gs gT gP d (setB us i.toNat v) := by
    intro us hlt
    obtain ⟨g1, x, g2, g3⟩ := ptrC_get (us.map (·.Bits)) 2000 i.toNat (by rw [← bitsN_eq]; exact hlt)
    exact ⟨_, _, x, g1, by rw [LL_get _ (by omega), show 2000 + (locB (us.map (·.Bits)) i.toNat).1 - 2000 = (locB (us.map (·.Bits)) i.toNat).1 by omega, g2]; rfl, ⟨_, List.getElem?_eq_getElem g3⟩, fun v => LL_set hlt v g2⟩
  obtain ⟨a, k, x, q1, q2, ⟨y, q3⟩, q4⟩ := store hlt
  refine awp_skip (nx_then (awp_rs ?_))
  refine w1 ?_
  refine w4 (st_nilP rfl) ?_
  refine w4 (st_faP fo87_2 rfl) ?_
  refine w4 (st_ldP (v := .slice 1003 gP 0 (bitsN ts)) ta85 rfl rfl rfl rfl) ?_
  refine w1 ?_
  refine w4 (st_ixR0 sl85 rfl rfl rfl h0 hlt) ?_
  refine w4 (st_ldP (v := .ptr (2000 + a) 1 k 0) ta118 rfl rfl q1 rfl) ?_
  refine w4 (st_nilP rfl) ?_
  refine w9 (L' := LL gs gT gP d (setB ts i.toNat false)) (st_stT (f := eB) (z := false) ta4 rfl rfl q2 q3 rfl rfl rfl rfl rfl) ?_ (q4 false)
  refine rw_nilk (awp_seq (awp_rs ?_))
  refine w1 ?_
  refine w1 ?_
  refine w4 (st_bin (v := dI .i64 (IntKind.wrap .i64 (i + 1))) rfl rfl rfl) ?_
  refine rcallW (ih hr1) rfl LL_sub rfl LL_clos (fun q => LL_keys (by rw [setB_len]; exact e1) q) ?_
  refine rw_nilk ?_
  refine awp_ite (b := r1.1) rfl (fun p3 => ?_) (fun p3 => ?_)
  · replace h := ite_T p3 h
    refine awp_rs ?_
    refine w2 ?_
    refine rw_nilk (awp_ret (rt_then ?_))
    injection h with h; subst h
    exact retM (v := dB true) (resV_one (resVs_tmp rfl resVs_nil)) rfl (.keep rfl) LL_frz
  replace h := ite_F p3 h
  obtain ⟨hlt1, h⟩ := okI_some h
  obtain ⟨r2, hr2, h⟩ := bind_some_elim h
  have e2 := findP_len n _ _ hr2
  rw [setB_len] at e2
  obtain ⟨a1, k1, x1, q5, q6, ⟨y1, q7⟩, q8⟩ := store hlt1
  refine awp_skip (nx_then (awp_rs ?_))
  refine w1 ?_
  refine w4 (st_nilP rfl) ?_
  refine w4 (st_faP fo87_2 rfl) ?_
  refine w4 (st_ldP (v := .slice 1003 gP 0 (bitsN r1.2)) ta85 rfl rfl rfl rfl) ?_
  refine w1 ?_
  refine w4 (st_ixR0 sl85 rfl rfl rfl h0 hlt1) ?_
  refine w4 (st_ldP (v := .ptr (2000 + a1) 1 k1 0) ta118 rfl rfl q5 rfl) ?_
  refine w4 (st_nilP rfl) ?_
  refine w9 (L' := LL gs gT gP d (setB r1.2 i.toNat true)) (st_stT (f := eB) (z := true) ta4 rfl rfl q6 q7 rfl rfl rfl rfl rfl) ?_ (q8 true)
  refine rw_nilk (awp_seq (awp_rs ?_))
  refine w1 ?_
  refine w1 ?_
  refine w4 (st_bin (v := dI .i64 (IntKind.wrap .i64 (i + 1))) rfl rfl rfl) ?_
  refine rcallW (ih hr2) rfl LL_sub rfl LL_clos (fun q => LL_keys (by rw [setB_len]; exact e2) q) ?_
  refine rw_nilk ?_
  refine awp_ite (b := r2.1) rfl (fun p4 => ?_) (fun p4 => ?_)
  · replace h := ite_T p4 h
    refine awp_rs ?_
    refine w2 ?_
    refine rw_nilk (awp_ret (rt_then ?_))
    injection h with h; subst h
    exact retM (v := dB true) (resV_one (resVs_tmp rfl resVs_nil)) rfl (.keep rfl) LL_frz
  replace h := ite_F p4 h
  obtain ⟨hlt2, h⟩ := okI_some h
  obtain ⟨a2, k2, x2, q9, q10, ⟨y2, q11⟩, q12⟩ := store hlt2
  refine awp_skip (nx_then (awp_rs ?_))
  refine w1 ?_
  refine w4 (st_nilP rfl) ?_
  refine w4 (st_faP fo87_2 rfl) ?_
  refine w4 (st_ldP (v := .slice 1003 gP 0 (bitsN r2.2)) ta85 rfl rfl rfl rfl) ?_
  refine w1 ?_
  refine w4 (st_ixR0 sl85 rfl rfl rfl h0 hlt2) ?_
  refine w4 (st_ldP (v := .ptr (2000 + a2) 1 k2 0) ta118 rfl rfl q9 rfl) ?_
  refine w4 (st_nilP rfl) ?_
  refine w9 (L' := LL gs gT gP d (setB r2.2 i.toNat false)) (st_stT (f := eB) (z := false) ta4 rfl rfl q10 q11 rfl rfl rfl rfl rfl) ?_ (q12 false)
  refine rw_nilk (awp_rs ?_)
  refine w2 ?_
  refine rw_nilk (awp_ret ?_)
  injection h with h; subst h
  exact retM (v := dB false) (resV_one (resVs_tmp rfl resVs_nil)) rfl (.keep rfl) LL_frz


/-! ### newLeast: the rows in the first loop -/
abbrev boxD (d : S_api_Dqbf) : Nat × AObj := (1004, .row 0 37 [[dL 1 (eI .i64) d.Univ, dL 2 e_S_api_Dep d.Exist, dL 1 (eL 1 (eI .i64)) d.Clauses]])
abbrev rowsA (d : S_api_Dqbf) (n : Nat) (els : List (List AVal)) (bss : List (List Bool)) : LH :=
  (1001, .row 0 87 [[dL 1 (eI .i64) d.Univ, dL 2 e_S_api_Dep d.Exist, dL 1 (eL 1 (eI .i64)) d.Clauses, .slice 1002 (2 * n) 0 n, .nilS]]) :: (1002, .row (2 * n) 56 els) :: boxD d :: famL 2000 bss
theorem tabC_snoc : ∀ (s : List S_api_Table) (b : Nat) (t : S_api_Table), tabC b (s ++ [t]) = tabC b s ++ [[dI .i64 t.Var, dL 1 (eI .i64) t.On, .slice (s.length + b) 1 0 t.Bits.length]]
  | [], b, t => by simp [tabC]
  | x :: s, b, t => by
    simp only [List.cons_append, tabC, tabC_snoc s (b + 1) t, List.length_cons]
    rw [show s.length + (b + 1) = s.length + 1 + b by omega]
theorem tabC_get : ∀ (s : List S_api_Table) (b j : Nat) (t : S_api_Table), s[j]? = some t → (tabC b s)[j]? = some [dI .i64 t.Var, dL 1 (eI .i64) t.On, .slice (j + b) 1 0 t.Bits.length]
  | [], b, j, t, h => by simp at h
  | x :: s, b, 0, t, h => by simp at h; subst h; simp [tabC]
  | x :: s, b, j + 1, t, h => by
    simp only [tabC, List.getElem?_cons_succ]
    rw [tabC_get s (b + 1) j t (by simpa using h), show j + (b + 1) = j + 1 + b by omega]
theorem rowsA_low {d : S_api_Dqbf} {n : Nat} {els : List (List AVal)} {bss : List (List Bool)} {q : Nat} (h1 : q ≠ 1001) (h2 : q ≠ 1002) (h4 : q ≠ 1004) (h : q < 2000) : aget (rowsA d n els bss) q = none := by
  simp only [aget]
  rw [if_neg (by omega), if_neg (by omega), if_neg (by omega), fam_aget, if_neg (by omega)]
theorem fam_ext (l : List (List Bool)) (x : List Bool) (q : Nat) : aget (famL 2000 (l ++ [x])) q = if l.length + 2000 = q then some (rw' 1 4 eB x) else aget (famL 2000 l) q := by
  rw [fam_aget, fam_aget]
  by_cases h : l.length + 2000 = q
  · rw [if_pos h, if_pos (by omega), show q - 2000 = l.length by omega]; simp
  · rw [if_neg h]
    by_cases h2 : 2000 ≤ q
    · rw [if_pos h2, if_pos h2]
      by_cases h3 : q - 2000 < l.length
      · rw [List.getElem?_append_left h3]
      · have : (l ++ [x])[q - 2000]? = none := by rw [List.getElem?_eq_none]; simp; omega
        rw [this, List.getElem?_eq_none (by omega)]
    · rw [if_neg h2, if_neg h2]
theorem rowsA_out {d : S_api_Dqbf} {n : Nat} {els : List (List AVal)} {bss : List (List Bool)} {q : Nat} (h1 : q ≠ 1001) (h2 : q ≠ 1002) (h4 : q ≠ 1004) (h : q < 2000) : inL (rowsA d n els bss) q = false := by
  unfold inL; rw [rowsA_low h1 h2 h4 h]; rfl
theorem rowsA_in {d : S_api_Dqbf} {n : Nat} {els : List (List AVal)} {bss : List (List Bool)} {q : Nat} (h : 2000 ≤ q) (h2 : q - 2000 < bss.length) : inL (rowsA d n els bss) q = true := by
  unfold inL
  simp only [aget]
  rw [if_neg (by omega), if_neg (by omega), if_neg (by omega), fam_aget, if_pos h, List.getElem?_eq_getElem h2]
  rfl
theorem objSnoc {P : Program} {L : LH} {S : Nat → Bool} {g e : Nat} {ps : List (List AVal)} {vs us : List AVal} (h : (ps.all fun el => el.all fun v => sc v && closedV S v) = true) (h2 : FrzVs P L S vs us) : ObjFrz P L S (.row g e (ps ++ [vs])) (.row g e (ps ++ [us])) := by
  refine ⟨rfl, rfl, by simp, fun i el el' h3 h4 => ?_⟩
  by_cases hi : i < ps.length
  · rw [List.getElem?_append_left hi] at h3 h4
    rw [h3] at h4; injection h4 with h4; subst h4
    refine ⟨rfl, fun j v u hv hu => ?_⟩
    rw [hv] at hu; injection hu with hu; subst hu
    have := List.all_eq_true.1 (List.all_eq_true.1 h el (List.mem_of_getElem? h3)) v (List.mem_of_getElem? hv)
    simp only [Bool.and_eq_true] at this
    exact ⟨this.1, .keep this.2⟩
  · rw [List.getElem?_append_right (by omega)] at h3 h4
    have : i - ps.length = 0 := by
      refine Classical.byContradiction fun hh => ?_
      obtain ⟨k, hk⟩ : ∃ k, i - ps.length = k + 1 := ⟨i - ps.length - 1, by omega⟩
      rw [hk] at h3; simp at h3
    rw [this] at h3 h4
    simp at h3 h4
    subst h3; subst h4
    exact ⟨h2.len, fun j v u hv hu => h2.get j v u hv hu⟩
theorem range_ct : ∀ {α : Type} (xs : List α) (j n : Nat), n = j + xs.length → rangeF (fun (i : Nat) (_ : α) (s : Nat) k => if s = i then k (s + 1) else none) j xs j (fun s => if s = n then some () else none) = some ()
  | _, [], j, n, h => by
    have : j = n := by simpa using h.symm
    show (if j = n then some () else none) = some ()
    rw [if_pos this]
  | _, x :: xs, j, n, h => by
    show (if j = j then _ else none) = some ()
    rw [if_pos rfl]
    exact range_ct xs (j + 1) n (by simp at h; omega)

/-! the rows in the second loop -/
abbrev rowsB (d : S_api_Dqbf) (s : List S_api_Table) (m : Nat) (ptrs : List (List AVal)) : LH :=
  LS 0 (2 * s.length) (2 * m) d s.length m :: (1002, .row (2 * s.length) 56 (tabC 2000 s)) :: (1003, .row (2 * m) 118 ptrs) :: famL 2000 (s.map (·.Bits))
theorem rowsB_high {d : S_api_Dqbf} {s : List S_api_Table} {m : Nat} {ptrs : List (List AVal)} {q : Nat} (h : 2000 ≤ q) : aget (rowsB d s m ptrs) q = ((s.map (·.Bits))[q - 2000]?).map (rw' 1 4 eB) := by
  simp only [aget]
  rw [if_neg (by omega), if_neg (by omega), if_neg (by omega), fam_aget, if_pos h]
theorem rowsB_low {d : S_api_Dqbf} {s : List S_api_Table} {m : Nat} {ptrs : List (List AVal)} {q : Nat} (h1 : q ≠ 1001) (h2 : q ≠ 1002) (h4 : q ≠ 1003) (h : q < 2000) : aget (rowsB d s m ptrs) q = none := by
  simp only [aget]
  rw [if_neg (by omega), if_neg (by omega), if_neg (by omega), fam_aget, if_neg (by omega)]
theorem rowsB_in {d : S_api_Dqbf} {s : List S_api_Table} {m : Nat} {ptrs : List (List AVal)} {q : Nat} (h : 2000 ≤ q) (h2 : q - 2000 < s.length) : inL (rowsB d s m ptrs) q = true := by
  unfold inL
  rw [rowsB_high h, List.getElem?_eq_getElem (by simpa using h2)]
  rfl
theorem rowsB_frz {P : Program} {d : S_api_Dqbf} {s : List S_api_Table} {m : Nat} {ptrs : List (List AVal)} {L : LH} (h1 : aget L 1001 = aget (rowsB d s m ptrs) 1001) (h2 : aget L 1002 = aget (rowsB d s m ptrs) 1002) (h3 : aget L 1003 = aget (rowsB d s m ptrs) 1003) (h4 : ∀ q, 2000 ≤ q → aget L q = aget (rowsB d s m ptrs) q)
    (hp : (ptrs.all fun el => el.all fun v => sc v && closedV (inL (rowsB d s m ptrs)) v) = true) : FrzO P L (inL (rowsB d s m ptrs)) (rowsB d s m ptrs) :=
  ⟨⟨_, h1, objKeep rfl⟩, ⟨_, h2, objKeep (ok_tabC s 2000 (fun i hi => rowsB_in (by omega) (by omega)))⟩, ⟨_, h3, objKeep hp⟩, frzO_fam _ _ (fun i x hx => by rw [h4 _ (by omega), rowsB_high (by omega), show 2000 + i - 2000 = i by omega, hx]; rfl)⟩
theorem allIn_of {L L' : LH} (h : ∀ q, inL L q = true → inL L' q = true) : allIn L L' = true := by
  unfold allIn
  rw [List.all_eq_true]
  intro p hp
  refine h _ ?_
  have key : ∀ (l : LH) (p : Nat × AObj), p ∈ l → inL l p.1 = true := by
    intro l
    induction l with
    | nil => intro p hp; simp at hp
    | cons x l ih =>
      intro p hp
      obtain ⟨k, o⟩ := x
      unfold inL
      simp only [aget]
      by_cases h : k = p.1
      · rw [if_pos h]; rfl
      · rw [if_neg h]
        rcases List.mem_cons.1 hp with rfl | hp
        · exact absurd rfl h
        · exact ih p hp
  exact key _ p hp
theorem nilL_fam {r : Nat} {L : LH} : ∀ (l : List (List Bool)) (b : Nat), (∀ i x, l[i]? = some x → aget L (b + i) = some (rw' 1 4 eB x)) → NilL r L (famL b l)
  | [], _, _ => trivial
  | x :: l, b, h => ⟨⟨_, by simpa using h 0 x rfl, .keep _⟩, nilL_fam l (b + 1) (fun i y hy => by rw [show b + 1 + i = b + (i + 1) by omega]; exact h (i + 1) y (by simpa using hy))⟩
theorem ptrC_take : ∀ (l : List (List Bool)) (b j : Nat) (x : List Bool), l[j]? = some x → ptrC b (l.take (j + 1)) = ptrC b (l.take j) ++ (List.range x.length).map fun k => [AVal.ptr (j + b) 1 k 0]
  | [], b, j, x, h => by simp at h
  | y :: l, b, 0, x, h => by simp at h; subst h; simp [ptrC]
  | y :: l, b, j + 1, x, h => by
    simp only [List.take_succ_cons, ptrC]
    rw [ptrC_take l (b + 1) j x (by simpa using h), List.append_assoc, show j + (b + 1) = j + 1 + b by omega]
theorem st_ixRj {P : Program} {r0 : Option Nat} {E : Env} {L : LH} {r g len sz b : Nat} {els : List (List AVal)} {x i : Operand} {t e : TypeId} {k : IntKind} {j : Nat} (hs : slE P t = some (e, sz, b)) (hx : ev E x = some (.slice r g 0 len)) (hi : ev E i = some (dI k (j : Int)))
    (hr : aget L r = some (.row g e els)) (h : j < len) : opStep P r0 (.indexAddr t x i) E L = some (.ptr r g j 0, L) := by
  have := st_ixR0 (P := P) (r0 := r0) hs hx hi hr (by omega) (by simpa using h)
  simpa using this

theorem ok_newLeast {d : S_api_Dqbf} {ts : List S_api_Table} (h : newF d = some ts) : Ev Try.prog 38 [.agg [dL 1 (eI .i64) d.Univ, dL 2 e_S_api_Dep d.Exist, dL 1 (eL 1 (eI .i64)) d.Clauses]] [] (.ret (.ptr 1001 0 0 0)) (LL 0 (2 * ts.length) (2 * bitsN ts) d ts) := by
  unfold newF at h
  refine Ev.of_bodyM (N := 81) (rs := [.tmp 2]) Try.func38 (c := _) rfl rfl rfl (by kernel_rfl) rfl (Nat.le_of_ble_eq_true rfl) (fun _B => ?_)
  refine awp_rs ?_
  refine w8 (r := 1004) (st_box rfl rfl rfl co37 rfl rfl) ?_
  refine w2 ?_
  refine rw_nilk (awp_rs ?_)
  refine w4 (st_ldP (v := .agg [dL 1 (eI .i64) d.Univ, dL 2 e_S_api_Dep d.Exist, dL 1 (eL 1 (eI .i64)) d.Clauses]) ta37 rfl rfl rfl rfl) ?_
  refine w4 (st_build (vs := [dL 1 (eI .i64) d.Univ, dL 2 e_S_api_Dep d.Exist, dL 1 (eL 1 (eI .i64)) d.Clauses, .nilS, .nilS]) bl87 rfl rfl) ?_
  refine w8 (r := 1001) (st_box rfl rfl rfl co87 rfl rfl) ?_
  refine w2 ?_
  refine rw_nilk (awp_seq (awp_rs ?_))
  refine w4 (st_faP fo37_1 rfl) ?_
  refine w4 (st_ldP (v := dL 2 e_S_api_Dep d.Exist) ta35 rfl rfl rfl rfl) ?_
  refine w4 (st_lenD rfl un35) ?_
  refine w1 ?_
  refine rw_nilk (awp_block ?_)
  refine awp_len (t := 12) rfl (fun hl0 => ?_)
  rw [List.length_map] at hl0
  refine awp_range (fun (j : Nat) (s : List S_api_Table) (g : Unit) => [(1, .ptr 1004 0 0 0), (3, .ptr 1001 0 0 0), (12, dL 2 e_S_api_Dep d.Exist), (13, dI .i64 ((d.Exist.length : Nat) : Int)), (14, dI .i64 ((j : Nat) : Int))]) (fun (s : List S_api_Table) (g : Unit) => rowsA d s.length (tabC 2000 s) (s.map (·.Bits))) () (fun _ _ _ h => h) h
    (Gh.trans (gh_nil (r := 1002) (E' := [(1, .ptr 1004 0 0 0), (3, .ptr 1001 0 0 0), (12, dL 2 e_S_api_Dep d.Exist), (13, dI .i64 ((d.Exist.length : Nat) : Int)), (14, dI .i64 0)])
      (L' := [(1001, .row 0 87 [[dL 1 (eI .i64) d.Univ, dL 2 e_S_api_Dep d.Exist, dL 1 (eL 1 (eI .i64)) d.Clauses, .slice 1002 0 0 0, .nilS]]), boxD d]) rfl co56 rfl rfl ⟨⟨_, rfl, .keep _⟩, ⟨_, rfl, .keep _⟩, ⟨_, rfl, .keep _⟩, ⟨_, rfl, .keep _⟩, ⟨_, rfl, .keep _⟩, trivial⟩
      ⟨⟨_, rfl, nilOne ⟨.keep _, .keep _, .keep _, .nil, .keep _, trivial⟩⟩, ⟨_, rfl, .keep _⟩, trivial⟩)
      (gh_ext (L' := rowsA d 0 [] []) (fun q => by
        simp only [aget, famL]
        by_cases h1 : 1001 = q
        · subst h1; rfl
        · by_cases h2 : 1002 = q
          · subst h2; rfl
          · by_cases h4 : 1004 = q
            · subst h4; rfl
            · simp [h1, h2, h4]))) ?_ ?_
  · clear h; intro j x s g k hj hx h ih
    obtain ⟨y, hy, h⟩ := bind_some_elim h
    obtain ⟨c0, h⟩ := okI_some h
    obtain ⟨⟨c1, c2⟩, h⟩ := okI_some h
    obtain ⟨c3, h⟩ := okI_some h
    refine awp_rs ?_
    refine w4 (st_bin (v := dB (decide (((j : Nat) : Int) < ((d.Exist.length : Nat) : Int)))) rfl rfl rfl) ?_
    refine rw_nilk (awp_seq ?_)
    refine awp_ifT rfl (dlt hj) ?_
    refine awp_skip (nx_then (awp_seq (awp_block (awp_rs ?_))))
    refine w4 (st_ixDn sl35 rfl rfl hx) ?_
    refine w4 (st_ldD (v := .agg [dI .i64 x.Var, dL 1 (eI .i64) x.On]) ta51 rfl rfl) ?_
    refine w8 (r := 1005) (st_alloc zc51 (rowsA_low (by omega) (by omega) (by omega) (by omega)) rfl) (RW.gh (gh_ext ext_cons) ?_)
    refine w9 (L' := (1005, .row 0 51 [[dI .i64 x.Var, dL 1 (eI .i64) x.On]]) :: rowsA d s.length (tabC 2000 s) (s.map (·.Bits))) (st_stP ta51 rfl rfl rfl rfl rfl rfl rfl rfl) ?_
    refine rw_nilk (awp_rd hmix ?_)
    refine w7 (st_mv rfl) ?_
    refine w7 (st_mv rfl) ?_
    refine w7 (st_nilP rfl) ?_
    refine w7 (st_faP fo87_1 rfl) ?_
    refine w7 (st_ldP (v := .slice 1002 (2 * s.length) 0 s.length) ta41 rfl rfl rfl rfl) ?_
    refine w7 (st_faP fo51_0 rfl) ?_
    refine w7 (st_ldP (v := dI .i64 x.Var) ta3 rfl rfl rfl rfl) ?_
    refine w7 (st_faP fo51_1 rfl) ?_
    refine w7 (st_ldP (v := dL 1 (eI .i64) x.On) ta34 rfl rfl rfl rfl) ?_
    refine ownDE 1006 (oo_slices_Clone_int_int hy) rfl (by
      unfold inL
      rw [show aget ((1005, AObj.row 0 51 [[dI .i64 x.Var, dL 1 (eI .i64) x.On]]) :: rowsA d s.length (tabC 2000 s) (s.map (·.Bits))) 1006 = aget (rowsA d s.length (tabC 2000 s) (s.map (·.Bits))) 1006 from rfl, rowsA_low (by omega) (by omega) (by omega) (by omega)]; rfl) ext_cons ?_
    refine w7 (st_faP fo51_1 rfl) ?_
    refine w7 (st_ldP (v := dL 1 (eI .i64) x.On) ta34 rfl rfl rfl rfl) ?_
    refine w7 (st_lenD rfl un34) ?_
    refine w7 (st_shl rfl rfl c0) ?_
    refine rd_opE (r := s.length + 2000) (W := [s.length + 2000]) (L' := (1006, rw' 0 3 (eI .i64) y) :: (1005, .row 0 51 [[dI .i64 x.Var, dL 1 (eI .i64) x.On]]) :: rowsA d s.length (tabC 2000 s) (s.map (·.Bits) ++ [List.replicate (cntI x).toNat false])) (st_mk (f := eB) (z := false) (n := cntI x) sl54 zc4 rfl (by
        simp only [aget]
        rw [if_neg (by omega), if_neg (by omega), if_neg (by omega), if_neg (by omega), if_neg (by omega), fam_aget, if_pos (by omega)]
        simp) rfl rfl rfl c1 c2) (fun q => by
        rw [aget_aset]
        simp only [aget, fam_ext, List.length_map]
        by_cases e1 : s.length + 2000 = q
        · rw [if_pos e1, if_neg (by omega), if_neg (by omega), if_neg (by omega), if_neg (by omega), if_neg (by omega), if_pos e1]
        · rw [if_neg e1, if_neg e1]) (by simp [aget_aset]) ?_
    refine w7 (st_build (vs := [dI .i64 x.Var, .slice 1006 0 0 y.length, .slice (s.length + 2000) 1 0 (cntI x).toNat]) bl56 rfl rfl) ?_
    refine rd_opE (r := 1007) (W := [1007]) (st_bsl (els := [[dI .i64 x.Var, .slice 1006 0 0 y.length, .slice (s.length + 2000) 1 0 (cntI x).toNat]]) sl41 zc56 rfl (by
      show aget (rowsA d s.length (tabC 2000 s) (s.map (·.Bits) ++ [List.replicate (cntI x).toNat false])) 1007 = none
      exact rowsA_low (by omega) (by omega) (by omega) (by omega)) rfl rfl rfl) ext_cons (by simp [aget_aset]) ?_
    refine rd_opE (r := 0) (W := [1002]) (st_appRaw (els := tabC 2000 s) (news := [[dI .i64 x.Var, .slice 1006 0 0 y.length, .slice (s.length + 2000) 1 0 (cntI x).toNat]]) sl41 zc56 rfl rfl rfl (tabC_len s 2000).symm rfl rfl rfl rfl (by omega)) (fun _ => rfl) rfl ?_
    refine w7 (st_nilP rfl) ?_
    refine w7 (st_faP fo87_1 rfl) ?_
    refine dx rfl rfl (st_stP ta41 rfl rfl rfl rfl rfl rfl rfl rfl) rfl rfl rfl rfl ?_
    refine rd_nil (by kernel_rfl) ?_
    refine nx_block (nx_then (awp_rw ?_))
    refine w4 (st_inc rfl rfl hj hl0) ?_
    refine w1 ?_
    refine rw_nil (nx_then ?_)
    refine awp_gh ?_ (ih _ () h)
    have er : rowsA d (s ++ [S_api_Table.mk x.Var y (List.replicate (cntI x).toNat false)]).length (tabC 2000 (s ++ [S_api_Table.mk x.Var y (List.replicate (cntI x).toNat false)])) ((s ++ [S_api_Table.mk x.Var y (List.replicate (cntI x).toNat false)]).map (·.Bits)) =
        rowsA d (s.length + 1) (tabC 2000 s ++ [[dI .i64 x.Var, dL 1 (eI .i64) y, .slice (s.length + 2000) 1 0 (cntI x).toNat]]) (s.map (·.Bits) ++ [List.replicate (cntI x).toNat false]) := by
      rw [tabC_snoc]; simp
    rw [er]
    refine gf ⟨ko, ⟨_, rfl, objSnoc (ok_tabC s 2000 (fun i hi => rowsA_in (by omega) (by simp; omega))) ⟨kc, ⟨rfl, frzT rfl (rowsA_out (by omega) (by omega) (by omega) (by omega)) co3 rfl⟩, ⟨rfl, .keep (show inL _ (s.length + 2000) = true from rowsA_in (by omega) (by simp))⟩, trivial⟩⟩, ko, frzO_fam _ _ (fun i z hz => ?_)⟩
    show aget ((1007, _) :: (1006, _) :: (1005, _) :: (1001, _) :: (1002, _) :: boxD d :: famL 2000 (s.map (·.Bits) ++ [List.replicate (cntI x).toNat false])) (2000 + i) = _
    simp only [aget]
    rw [if_neg (by omega), if_neg (by omega), if_neg (by omega), if_neg (by omega), if_neg (by omega), if_neg (by omega), fam_aget, if_pos (by omega), show 2000 + i - 2000 = i by omega, hz]
    rfl
  · clear h; intro s g h
    obtain ⟨⟨ca, cb⟩, h⟩ := okI_some h
    injection h with h
    subst h
    refine awp_rs ?_
    refine w4 (st_bin (v := dB (decide (((d.Exist.length : Nat) : Int) < ((d.Exist.length : Nat) : Int)))) rfl rfl rfl) ?_
    refine rw_nilk (awp_seq ?_)
    refine awp_ifF rfl dge ?_
    refine awp_exit (ex_out (ex_out (ex_in (nx_then (awp_seq (awp_rs ?_))))))
    refine w1 ?_
    refine w4 (st_nilP rfl) ?_
    refine w4 (st_faP fo87_1 rfl) ?_
    refine w4 (st_ldP (v := .slice 1002 (2 * s.length) 0 s.length) ta41 rfl rfl rfl rfl) ?_
    refine w4 (st_lenR rfl un41 rfl) ?_
    refine w1 ?_
    refine rw_nilk (awp_block ?_)
    have hsl : s.length ≤ 9223372036854775807 := by omega
    have hA : ∀ q, 2000 ≤ q → aget (rowsA d s.length (tabC 2000 s) (s.map (·.Bits))) q = ((s.map (·.Bits))[q - 2000]?).map (rw' 1 4 eB) := fun q hq => by
      simp only [aget]
      rw [if_neg (by omega), if_neg (by omega), if_neg (by omega), fam_aget, if_pos hq]
    have okP : ∀ (m : Nat) (ptrs : List (List AVal)) (j : Nat), ((ptrC 2000 ((s.map (·.Bits)).take j)).all fun el => el.all fun v => sc v && closedV (inL (rowsB d s m ptrs)) v) = true := fun m ptrs j =>
      ok_ptrC _ 2000 (fun i hi => rowsB_in (by omega) (by simp at hi; omega))
    have okR : ∀ (m : Nat) (ptrs : List (List AVal)) (j n : Nat), j < s.length → (((List.range n).map fun k => [AVal.ptr (j + 2000) 1 k 0]).all fun el => el.all fun v => sc v && closedV (inL (rowsB d s m ptrs)) v) = true := fun m ptrs j n hj => by
      rw [List.all_eq_true]
      intro el hel
      obtain ⟨k, _, rfl⟩ := List.mem_map.1 hel
      have : inL (rowsB d s m ptrs) (j + 2000) = true := rowsB_in (by omega) (by omega)
      simp [sc, closedV, this]
    refine awp_range (fun (j : Nat) (st : Nat) (g : Unit) => [(3, .ptr 1001 0 0 0), (43, dI .i64 ((s.length : Nat) : Int)), (44, dI .i64 ((j : Nat) : Int))]) (fun (st : Nat) (g : Unit) => rowsB d s (ptrC 2000 ((s.map (·.Bits)).take st)).length (ptrC 2000 ((s.map (·.Bits)).take st))) () (fun _ _ _ h => h) (range_ct s 0 s.length (by simp))
      (Gh.trans (gh_nil (r := 1003) (E' := [(3, .ptr 1001 0 0 0), (43, dI .i64 ((s.length : Nat) : Int)), (44, dI .i64 0)])
        (L' := (1001, .row 0 87 [[dL 1 (eI .i64) d.Univ, dL 2 e_S_api_Dep d.Exist, dL 1 (eL 1 (eI .i64)) d.Clauses, .slice 1002 (2 * s.length) 0 s.length, .slice 1003 0 0 0]]) :: (1002, .row (2 * s.length) 56 (tabC 2000 s)) :: boxD d :: famL 2000 (s.map (·.Bits)))
        (rowsA_low (by omega) (by omega) (by omega) (by omega)) co118 rfl (allIn_of (fun q hq => by
          unfold inL at hq ⊢
          simp only [aget] at hq ⊢
          by_cases h1 : 1001 = q
          · rw [if_pos h1]; rfl
          · rw [if_neg h1] at hq ⊢; exact hq)) ⟨⟨_, rfl, .keep _⟩, ⟨_, rfl, .keep _⟩, ⟨_, rfl, .keep _⟩, trivial⟩
        ⟨⟨_, rfl, nilOne ⟨.keep _, .keep _, .keep _, .keep _, .nil, trivial⟩⟩, ⟨_, rfl, .keep _⟩, ⟨_, rfl, .keep _⟩, nilL_fam _ _ (fun i x hx => by rw [hA _ (by omega), show 2000 + i - 2000 = i by omega, hx]; rfl)⟩)
        (gf (rowsB_frz rfl rfl rfl (fun q hq => by
          rw [rowsB_high hq]
          simp only [aget]
          rw [if_neg (by omega), if_neg (by omega), if_neg (by omega), if_neg (by omega), fam_aget, if_pos hq]) rfl))) ?_ ?_
    · intro j x st g kk hj hx hst ih
      have hsj : st = j := by
        refine Classical.byContradiction fun hh => ?_
        rw [if_neg hh] at hst; cases hst
      subst hsj
      rw [if_pos rfl] at hst
      have hxb : (s.map (·.Bits))[st]? = some x.Bits := by rw [List.getElem?_map, hx]; rfl
      have hrow : ∀ (m : Nat) (ptrs : List (List AVal)), aget (rowsB d s m ptrs) (st + 2000) = some (rw' 1 4 eB x.Bits) := fun m ptrs => by
        rw [rowsB_high (by omega), show st + 2000 - 2000 = st by omega, hxb]; rfl
      have hcell := tabC_get s 2000 st x hx
      have hxl : (ptrC 2000 ((s.map (·.Bits)).take st)).length + x.Bits.length ≤ bitsN s := by
        have h2 := congrArg List.length (ptrC_take (s.map (·.Bits)) 2000 st x.Bits hxb)
        rw [List.length_append, List.length_map, List.length_range] at h2
        rw [← h2, ptrC_len, bitsN_eq]
        conv => rhs; rw [← List.take_append_drop (st + 1) (s.map (·.Bits)), List.map_append, List.sum_append]
        omega
      refine awp_rs ?_
      refine w4 (st_bin (v := dB (decide (((st : Nat) : Int) < ((s.length : Nat) : Int)))) rfl rfl rfl) ?_
      refine rw_nilk (awp_seq ?_)
      refine awp_ifT rfl (dlt hj) ?_
      refine awp_skip (nx_then (awp_seq (awp_block (awp_rs ?_))))
      refine w1 ?_
      refine w2 ?_
      refine rw_nilk (awp_rs ?_)
      refine w1 ?_
      refine w4 (st_nilP rfl) ?_
      refine w4 (st_faP fo87_1 rfl) ?_
      refine w4 (st_ldP (v := .slice 1002 (2 * s.length) 0 s.length) ta41 rfl rfl rfl rfl) ?_
      refine w1 ?_
      refine w4 (st_ixRj sl41 rfl rfl rfl hj) ?_
      refine w4 (st_faP fo56_2 rfl) ?_
      refine w4 (st_ldP (v := .slice (st + 2000) 1 0 x.Bits.length) ta54 rfl rfl hcell rfl) ?_
      refine w4 (st_lenR rfl un54 (hrow _ _)) ?_
      refine w1 ?_
      refine rw_nilk (awp_block ?_)
      refine awp_range (fun (k : Nat) (n : Nat) (g : Unit) => [(3, .ptr 1001 0 0 0), (6, dI .i64 ((st : Nat) : Int)), (43, dI .i64 ((s.length : Nat) : Int)), (44, dI .i64 ((st : Nat) : Int)), (55, dI .i64 ((x.Bits.length : Nat) : Int)), (56, dI .i64 ((k : Nat) : Int))])
        (fun (n : Nat) (g : Unit) => rowsB d s ((ptrC 2000 ((s.map (·.Bits)).take st)).length + n) (ptrC 2000 ((s.map (·.Bits)).take st) ++ (List.range n).map fun k => [AVal.ptr (st + 2000) 1 k 0])) () (fun _ _ _ h => h) (range_ct x.Bits 0 x.Bits.length (by simp)) (by
          have e : (ptrC 2000 ((s.map (·.Bits)).take st) ++ (List.range 0).map fun k => [AVal.ptr (st + 2000) 1 k 0]) = ptrC 2000 ((s.map (·.Bits)).take st) := by simp
          rw [e]
          exact gf (rowsB_frz rfl rfl rfl (fun q _ => rfl) (okP _ _ _))) ?_ ?_
      · intro k b n g2 kk2 hk hb hn ih2
        have hnk : n = k := by
          refine Classical.byContradiction fun hh => ?_
          rw [if_neg hh] at hn; cases hn
        subst hnk
        rw [if_pos rfl] at hn
        refine awp_rs ?_
        refine w4 (st_bin (v := dB (decide (((n : Nat) : Int) < ((x.Bits.length : Nat) : Int)))) rfl rfl rfl) ?_
        refine rw_nilk (awp_seq ?_)
        refine awp_ifT rfl (dlt hk) ?_
        refine awp_skip (nx_then (awp_seq (awp_block (awp_rs ?_))))
        refine w1 ?_
        refine w2 ?_
        refine rw_nilk (awp_rd hmix ?_)
        refine w7 (st_mv rfl) ?_
        refine w7 (st_mv rfl) ?_
        refine w7 (st_nilP rfl) ?_
        refine w7 (st_faP fo87_2 rfl) ?_
        refine w7 (st_ldP (v := .slice 1003 (2 * ((ptrC 2000 ((s.map (·.Bits)).take st)).length + n)) 0 ((ptrC 2000 ((s.map (·.Bits)).take st)).length + n)) ta85 rfl rfl rfl rfl) ?_
        refine w7 (st_mv rfl) ?_
        refine w7 (st_nilP rfl) ?_
        refine w7 (st_faP fo87_1 rfl) ?_
        refine w7 (st_ldP (v := .slice 1002 (2 * s.length) 0 s.length) ta41 rfl rfl rfl rfl) ?_
        refine w7 (st_mv rfl) ?_
        refine w7 (st_ixRj sl41 rfl rfl rfl hj) ?_
        refine w7 (st_faP fo56_2 rfl) ?_
        refine w7 (st_ldP (v := .slice (st + 2000) 1 0 x.Bits.length) ta54 rfl rfl hcell rfl) ?_
        refine w7 (st_mv rfl) ?_
        refine w7 (st_ixRj sl54 rfl rfl (hrow _ _) hk) ?_
        refine rd_opE (r := 1008) (W := [1008]) (st_bsl (els := [[.ptr (st + 2000) 1 n 0]]) sl85 zc118 rfl (rowsB_low (by omega) (by omega) (by omega) (by omega)) rfl rfl rfl) ext_cons (by simp [aget_aset]) ?_
        refine rd_opE (r := 0) (W := [1003]) (st_appRaw (els := ptrC 2000 ((s.map (·.Bits)).take st) ++ (List.range n).map fun k => [AVal.ptr (st + 2000) 1 k 0]) (news := [[.ptr (st + 2000) 1 n 0]]) sl85 zc118 rfl rfl rfl (by simp) rfl rfl rfl rfl (by omega)) (fun _ => rfl) rfl ?_
        refine w7 (st_nilP rfl) ?_
        refine w7 (st_faP fo87_2 rfl) ?_
        refine dx rfl rfl (st_stP ta85 rfl rfl rfl rfl rfl rfl rfl rfl) rfl rfl rfl rfl ?_
        refine rd_nil (by kernel_rfl) ?_
        refine nx_block (nx_then (awp_rw ?_))
        refine w4 (st_inc rfl rfl hk (by omega)) ?_
        refine w1 ?_
        refine rw_nil (nx_then ?_)
        refine awp_gh ?_ (ih2 (n + 1) () hn)
        have e : (ptrC 2000 ((s.map (·.Bits)).take st) ++ (List.range (n + 1)).map fun k => [AVal.ptr (st + 2000) 1 k 0]) = (ptrC 2000 ((s.map (·.Bits)).take st) ++ (List.range n).map fun k => [AVal.ptr (st + 2000) 1 k 0]) ++ [[.ptr (st + 2000) 1 n 0]] := by
          rw [List.range_succ, List.map_append, List.append_assoc]; rfl
        rw [e]
        refine gf (rowsB_frz rfl rfl rfl (fun q hq => ?_) ?_)
        · rw [rowsB_high hq]
          show aget ((1008, _) :: (1001, _) :: (1002, _) :: (1003, _) :: famL 2000 (s.map (·.Bits))) q = _
          simp only [aget]
          rw [if_neg (by omega), if_neg (by omega), if_neg (by omega), if_neg (by omega), fam_aget, if_pos hq]
        · rw [← e, List.all_append, okP, okR _ _ _ _ hj]; rfl
      · intro n g2 hn
        have hnl : n = x.Bits.length := by
          refine Classical.byContradiction fun hh => ?_
          rw [if_neg hh] at hn; cases hn
        subst hnl
        refine awp_rs ?_
        refine w4 (st_bin (v := dB (decide (((x.Bits.length : Nat) : Int) < ((x.Bits.length : Nat) : Int)))) rfl rfl rfl) ?_
        refine rw_nilk (awp_seq ?_)
        refine awp_ifF rfl dge ?_
        refine awp_exit (ex_out (ex_out (ex_in (nx_block (nx_then (awp_rw ?_))))))
        refine w4 (st_inc rfl rfl hj hsl) ?_
        refine w1 ?_
        refine rw_nil (nx_then ?_)
        refine awp_gh ?_ (ih (st + 1) () hst)
        have e := ptrC_take (s.map (·.Bits)) 2000 st x.Bits hxb
        have e2 := congrArg List.length e
        rw [List.length_append, List.length_map, List.length_range] at e2
        rw [e2, e]
        exact gf (rowsB_frz rfl rfl rfl (fun q _ => rfl) (by rw [List.all_append, okP, okR _ _ _ _ hj]; rfl))
    · intro st g hst
      have hst2 : st = s.length := by
        refine Classical.byContradiction fun hh => ?_
        rw [if_neg hh] at hst; cases hst
      subst hst2
      refine awp_rs ?_
      refine w4 (st_bin (v := dB (decide (((s.length : Nat) : Int) < ((s.length : Nat) : Int)))) rfl rfl rfl) ?_
      refine rw_nilk (awp_seq ?_)
      refine awp_ifF rfl dge ?_
      refine awp_exit (ex_out (ex_out (ex_in (nx_then (awp_rs ?_)))))
      refine w1 ?_
      refine w2 ?_
      refine rw_nilk (awp_ret ?_)
      have e : (s.map (·.Bits)).take s.length = s.map (·.Bits) := by rw [List.take_of_length_le (by simp)]
      rw [e, show (ptrC 2000 (s.map (·.Bits))).length = bitsN s by rw [ptrC_len, bitsN_eq]]
      exact retM (v := .ptr 1001 0 0 0) (resV_one (resVs_tmp rfl resVs_nil)) rfl (.keep rfl) LL_frz


theorem tab_lend {P : Program} (hc56 : P.cellsOf 56 = 3) (hc4 : P.cellsOf 4 = 1) {L : LH} {gT : Nat} {ts : List S_api_Table} {ρ : Rho} {w : World} (hL : SatL P ρ L w) (h2 : aget L 1002 = some (.row gT 56 (tabC 2000 ts)))
    (hf : ∀ i t, ts[i]? = some t → aget L (2000 + i) = some (rw' 1 4 eB t.Bits)) {c : Value} (hv : VRel w ρ (.slice 1002 gT 0 ts.length) c) : VRel w (restr ρ (fun _ => false)) (dL 3 e_S_api_Table ts) c := by
  have ha : Agree (fun _ => false) ρ (restr ρ (fun _ => false)) := restr_agree ρ _
  have hm : ∀ r x, (restr ρ (fun _ => false)).m r = some x → (fun _ => false) r = true ∧ ρ.m r = some x := fun r x hx => restr_m hx
  have key : ∀ (us : List S_api_Table) (b : Nat), (∀ i t, us[i]? = some t → aget L (b + i) = some (rw' 1 4 eB t.Bits)) → ∀ (i : Nat) el el', (tabC b us)[i]? = some el → (rowOf (us.map e_S_api_Table))[i]? = some el' → el.length = el'.length ∧ ∀ (j : Nat) v u, el[j]? = some v → el'[j]? = some u → Frz P L (fun _ => false) v u := by
    intro us
    induction us with
    | nil => intro b _ i el el' h1; simp [tabC] at h1
    | cons t us ih =>
      intro b hb i el el' h1 h2
      cases i with
      | zero =>
        simp only [tabC, rowOf, List.map_cons, List.getElem?_cons_zero, Option.some.injEq] at h1 h2
        subst h1; subst h2
        refine ⟨rfl, fun j v u hv hu => ?_⟩
        match j, hv, hu with
        | 0, hv, hu => injection hv with hv; injection hu with hu; subst hv; subst hu; exact .keep rfl
        | 1, hv, hu => injection hv with hv; injection hu with hu; subst hv; subst hu; exact .keep rfl
        | 2, hv, hu =>
          injection hv with hv; injection hu with hu; subst hv; subst hu
          have := hb 0 t rfl
          rw [Nat.add_zero] at this
          exact frzT this rfl hc4 rfl
        | j + 3, hv, hu => simp at hv
      | succ i =>
        simp only [tabC, rowOf, List.map_cons, List.getElem?_cons_succ] at h1 h2
        exact ih (b + 1) (fun i t ht => by rw [show b + 1 + i = b + (i + 1) by omega]; exact hb (i + 1) t (by simpa using ht)) i el el' h1 h2
  have hv' : VRel w ρ (.slice 1002 gT 0 (tabC 2000 ts).length) c := by rw [tabC_len]; exact hv
  have := frzD hL ha hm rfl (r := 1002) (g := gT) (e := 56) (els := tabC 2000 ts) (ds := ts.map e_S_api_Table) h2 rfl (by rw [tabC_len]; simp [rowOf]) (key ts 2000 hf) hv'
  rw [hc56] at this
  exact this
theorem gh_sem {X : Cx} {E E' : Env} {L : LH} (hX : X.K = ids []) (hE : ∀ ρ w, SatL X.P ρ L w → ∀ t u, aget E' t = some u → ∃ v, aget E t = some v ∧ ∀ c, VRel w ρ v c → VRel w (restr ρ (fun _ => false)) u c) : Gh X E L E' [] := fun ρ a w hS => by
  have hk : ∀ r, X.K r → (fun _ => false) r = true := fun r hr => by rw [hX] at hr; simp [ids, aget] at hr
  refine ⟨restr ρ (fun _ => false), ⟨hS.n, fun t u ht => ?_, ⟨fun r o ho => by simp [aget] at ho, fun r x hx => ?_, fun r r' x x' b h1 => ?_, fun b hb => ?_, hS.heap.elt⟩, hS.marks.fr (restr_fr ρ w (fun _ => false) X.K hk), hS.base⟩, restr_fr ρ w (fun _ => false) X.K hk⟩
  · obtain ⟨v, hv, hz⟩ := hE ρ w hS.heap t u ht
    obtain ⟨h1, h2⟩ := hS.env t v hv
    exact ⟨h1, hz _ h2⟩
  · have := (restr_m hx).1; simp at this
  · have := (restr_m h1).1; simp at this
  · obtain ⟨r, g, l, h1, _⟩ := hb
    have := (restr_m h1).1; simp at this
section
variable {X : Cx} {Q : Ex → Env → LH → Prop} {ops : Array Oper} {rest : List Oper} {i : Nat} {E : Env} {L L0 L1 L' : LH}
/-- a call whose rows are some of those that are there -/
theorem rcallS {d : Nat} {fid : FuncId} {args : Array Operand} {ats : Array TypeId} {ty : TypeId} {pos : String} {af : Array Edge} {g : Option (Nat × Bool)} {vs : List AVal} {v : AVal}
    (hev : Ev X.P fid vs L0 (.ret v) L1) (ha : evl E args.toList = some vs) (hs : ∀ r o, aget L0 r = some o → aget L r = some o) (hc : closedL (inL L0) vs = true) (ho : ∀ r o, aget L0 r = some o → closedO (inL L0) o = true) (hn : ∀ r, inL L1 r = true → inL L0 r = true ∨ inL L r = false)
    (hL : ∀ q, aget L' q = aget (mergeL L L1) q) (hk : RW X Q ops (i + 1) rest ((d, v) :: E) L') (hN : Nat.blt d X.N = true := by exact rfl) (hg : gval ops.toList E g = some true := by exact rfl) : RW X Q ops i (Oper.mk (some d) (.call { callee := .value (.func fid), args, argTypes := ats }) ty pos af g :: rest) E L := by
  refine rw_call (d := some d) (R := fun o l => o = .ret v ∧ l = mergeL L L1) hN hg rfl ha (by
    rw [List.append_nil, List.nil_append]
    exact Ev.toR (hev.frame hs hc ho hn)) (fun v' L' h => ?_) (fun v' L' h => by cases h.1)
  obtain ⟨h1, h2⟩ := h
  injection h1 with h1
  subst h1; subst h2
  exact RW.gh (gh_ext hL) hk
end
theorem ok_truth_Skolem {a0 : S_api_Dqbf} {r : List S_api_Table × Int} (h : F_truth_Skolem a0 = some r) : Fn Try.prog 16 [.agg [dL 1 (eI .i64) a0.Univ, dL 2 e_S_api_Dep a0.Exist, dL 1 (eL 1 (eI .i64)) a0.Clauses]] (.tup [dL 3 e_S_api_Table r.1, dI .i64 r.2]) := by
  unfold F_truth_Skolem at h
  refine Fn.of_body (N := 23) (rs := [.tmp 2, .tmp 3]) Try.func16 (c := _) rfl rfl rfl (by kernel_rfl) (Nat.le_of_ble_eq_true rfl) (fun _B => ?_)
  refine awp_rs ?_
  refine w8 (r := 1010) (st_box rfl rfl rfl co37 rfl rfl) ?_
  refine w2 ?_
  refine w2 ?_
  refine rw_nilk (awp_seq (awp_rs ?_))
  refine w4 (st_ldP (v := .agg [dL 1 (eI .i64) a0.Univ, dL 2 e_S_api_Dep a0.Exist, dL 1 (eL 1 (eI .i64)) a0.Clauses]) ta37 rfl rfl rfl rfl) ?_
  obtain ⟨m, hm, h⟩ := bind_some_elim h
  refine rf rfl rfl (ok_prefix_MayDqbf hm) rfl rfl ?_
  refine w4 (st_un (v := dB (!m)) rfl rfl) ?_
  refine rw_nilk ?_
  refine awp_ite (b := (!m)) rfl (fun p1 => ?_) (fun p1 => ?_)
  · replace h := ite_T p1 h
    refine awp_rs ?_
    refine w2 ?_
    refine w2 ?_
    refine rw_nilk (awp_ret (rt_then ?_))
    injection h with h; subst h
    exact ret_out (v := .tup [.nilS, dI .i64 2]) (resV_many (resVs_tmp rfl (resVs_tmp rfl resVs_nil))) (frz_tup ⟨.nilS _, .keep rfl, trivial⟩)
  replace h := ite_F p1 h
  obtain ⟨e, he, h⟩ := bind_some_elim h
  refine awp_skip (nx_then (awp_seq (awp_rs ?_)))
  refine w4 (st_ldP (v := .agg [dL 1 (eI .i64) a0.Univ, dL 2 e_S_api_Dep a0.Exist, dL 1 (eL 1 (eI .i64)) a0.Clauses]) ta37 rfl rfl rfl rfl) ?_
  refine rf rfl rfl (ok_truth_few he) rfl rfl ?_
  refine w2 ?_
  refine rw_nilk (awp_rs ?_)
  refine w1 ?_
  refine w4 (st_bin (v := dB (e != 0)) rfl rfl rfl) ?_
  refine rw_nilk ?_
  refine awp_ite (b := (e != 0)) rfl (fun p2 => ?_) (fun p2 => ?_)
  · replace h := ite_T p2 h
    refine awp_rs ?_
    refine w1 ?_
    refine w2 ?_
    refine w2 ?_
    refine rw_nilk (awp_ret (rt_then ?_))
    injection h with h; subst h
    exact ret_out (v := .tup [.nilS, dI .i64 e]) (resV_many (resVs_tmp rfl (resVs_tmp rfl resVs_nil))) (frz_tup ⟨.nilS _, .keep rfl, trivial⟩)
  replace h := ite_F p2 h
  obtain ⟨ts, hts, h⟩ := bind_some_elim h
  obtain ⟨q, hq, h⟩ := bind_some_elim h
  have hlq := findP_len _ _ _ hq
  refine awp_skip (nx_then (awp_rs ?_))
  refine w4 (st_ldP (v := .agg [dL 1 (eI .i64) a0.Univ, dL 2 e_S_api_Dep a0.Exist, dL 1 (eL 1 (eI .i64)) a0.Clauses]) ta37 rfl rfl rfl rfl) ?_
  refine rcallS (L0 := []) (L' := (1010, .row 0 37 [[dL 1 (eI .i64) a0.Univ, dL 2 e_S_api_Dep a0.Exist, dL 1 (eL 1 (eI .i64)) a0.Clauses]]) :: LL 0 (2 * ts.length) (2 * bitsN ts) a0 ts) (ok_newLeast hts) rfl (fun r o ho => by simp [aget] at ho) rfl (fun r o ho => by simp [aget] at ho) (fun r hr => .inr ?_) (fun q => ?_) ?_
  · by_cases h10 : 1010 = r
    · subst h10
      unfold inL at hr
      rw [LL_low 1010 (by omega) (by omega) (by omega) (by omega)] at hr
      cases hr
    · unfold inL
      show (if 1010 = r then _ else _ : Option AObj).isSome = false
      rw [if_neg h10]; rfl
  · rw [mergeL_get]
    by_cases h10 : 1010 = q
    · subst h10
      rw [LL_low 1010 (by omega) (by omega) (by omega) (by omega)]
      rfl
    · show (if 1010 = q then _ else aget (LL 0 (2 * ts.length) (2 * bitsN ts) a0 ts) q) = _
      rw [if_neg h10]
      cases aget (LL 0 (2 * ts.length) (2 * bitsN ts) a0 ts) q with
      | some o => rfl
      | none =>
        show none = (if 1010 = q then _ else _ : Option AObj)
        rw [if_neg h10]; rfl
  refine w2 ?_
  refine rw_nilk (awp_seq (awp_rs ?_))
  refine w1 ?_
  refine rcallS (L0 := LL 0 (2 * ts.length) (2 * bitsN ts) a0 ts) (L' := (1010, .row 0 37 [[dL 1 (eI .i64) a0.Univ, dL 2 e_S_api_Dep a0.Exist, dL 1 (eL 1 (eI .i64)) a0.Clauses]]) :: LL 0 (2 * ts.length) (2 * bitsN ts) a0 q.2) (ok_find 1000000 hq) rfl (fun r o ho => ?_) rfl LL_clos.get (fun r hr => .inl (by rw [← LL_keys hlq]; exact hr)) (fun p => ?_) ?_
  · by_cases h10 : 1010 = r
    · subst h10
      rw [LL_low 1010 (by omega) (by omega) (by omega) (by omega)] at ho
      cases ho
    · show (if 1010 = r then _ else _ : Option AObj) = some o
      rw [if_neg h10]; exact ho
  · rw [mergeL_get]
    by_cases h10 : 1010 = p
    · subst h10
      rw [LL_low 1010 (by omega) (by omega) (by omega) (by omega)]
      rfl
    · show (if 1010 = p then _ else aget (LL 0 (2 * ts.length) (2 * bitsN ts) a0 q.2) p) = _
      rw [if_neg h10]
      have hk := LL_keys (gs := 0) (gT := 2 * ts.length) (gP := 2 * bitsN ts) (d := a0) (gs' := 0) (gT' := 2 * ts.length) (gP' := 2 * bitsN ts) (d' := a0) hlq p
      unfold inL at hk
      cases hx : aget (LL 0 (2 * ts.length) (2 * bitsN ts) a0 q.2) p with
      | some o => rfl
      | none =>
        rw [hx] at hk
        show none = (if 1010 = p then _ else aget (LL 0 (2 * ts.length) (2 * bitsN ts) a0 ts) p : Option AObj)
        rw [if_neg h10]
        cases hy : aget (LL 0 (2 * ts.length) (2 * bitsN ts) a0 ts) p with
        | none => rfl
        | some o => rw [hy] at hk; cases hk
  refine w4 (st_un (v := dB (!q.1)) rfl rfl) ?_
  refine rw_nilk ?_
  refine awp_ite (b := (!q.1)) rfl (fun p3 => ?_) (fun p3 => ?_)
  · replace h := ite_T p3 h
    refine awp_rs ?_
    refine w2 ?_
    refine w2 ?_
    refine rw_nilk (awp_ret (rt_then ?_))
    injection h with h; subst h
    exact ret_out (v := .tup [.nilS, dI .i64 6]) (resV_many (resVs_tmp rfl (resVs_tmp rfl resVs_nil))) (frz_tup ⟨.nilS _, .keep rfl, trivial⟩)
  replace h := ite_F p3 h
  injection h with h; subst h
  refine awp_skip (nx_then (awp_rs ?_))
  refine w1 ?_
  refine w4 (st_nilP rfl) ?_
  refine w4 (st_faP fo87_1 rfl) ?_
  refine w4 (st_ldP (v := .slice 1002 (2 * ts.length) 0 q.2.length) ta41 rfl rfl rfl rfl) ?_
  refine w2 ?_
  refine w2 ?_
  refine rw_nilk (awp_gh (E' := [(2, dL 3 e_S_api_Table q.2), (3, dI .i64 0)]) (L' := []) (gh_sem rfl (fun ρ w hL t u ht => ?_)) (awp_ret ?_))
  · simp only [aget] at ht
    by_cases t2 : 2 = t
    · subst t2
      rw [if_pos rfl] at ht
      injection ht with ht; subst ht
      exact ⟨_, rfl, fun c hc => tab_lend co56 co4 hL rfl (fun i z hz => by
        show (if 1010 = 2000 + i then _ else aget (LL 0 (2 * ts.length) (2 * bitsN ts) a0 q.2) (2000 + i)) = _
        rw [if_neg (by omega), LL_get _ (by omega), show 2000 + i - 2000 = i by omega, List.getElem?_map, hz]; rfl) hc⟩
    · rw [if_neg t2] at ht
      by_cases t3 : 3 = t
      · subst t3
        rw [if_pos rfl] at ht
        injection ht with ht; subst ht
        exact ⟨_, rfl, fun c hc => Frz.sound hL (restr_agree ρ _) (fun r x hx => restr_m hx) rfl (.keep rfl) hc⟩
      · rw [if_neg t3] at ht; cases ht
  exact ret_out (v := .tup [dL 3 e_S_api_Table q.2, dI .i64 0]) (resV_many (resVs_tmp rfl (resVs_tmp rfl resVs_nil))) (.keep rfl)

theorem ok_truth_Dqbf {a0 : S_api_Dqbf} {r : (Int × Int)} (h : F_truth_Dqbf a0 = some r) : Fn Try.prog 14 [.agg [dL 1 (eI .i64) a0.Univ, dL 2 e_S_api_Dep a0.Exist, dL 1 (eL 1 (eI .i64)) a0.Clauses]] (.tup [dI .u8 r.1, dI .i64 r.2]) := by
 unfold F_truth_Dqbf at h;refine Fn.of_body (N := 17) (rs := [.tmp 2, .tmp 3]) Try.func14 (c := _) rfl rfl rfl (by kernel_rfl) (Nat.le_of_ble_eq_true rfl) (fun _B => ?_);refine awp_rs ?_;refine w8 (r := 1001) (st_box rfl rfl rfl co37 rfl rfl) ?_;refine w2 ?_;refine w2 ?_;refine rw_nilk (awp_rs ?_);refine w4 (st_ldP (v := .agg [dL 1 (eI .i64) a0.Univ, dL 2 e_S_api_Dep a0.Exist, dL 1 (eL 1 (eI .i64)) a0.Clauses]) ta37 rfl rfl rfl rfl) ?_;obtain ⟨y101, hy101, h⟩ := bind_some_elim h;refine rf rfl rfl (ok_truth_Skolem hy101) rfl rfl ?_;refine w1 ?_;refine w4 (st_ext rfl rfl) ?_;refine w4 (st_ext rfl rfl) ?_;refine w2 ?_;refine w2 ?_;refine rw_nilk (awp_seq (awp_rs ?_));refine w1 ?_;refine rw_nilk (awp_block (awp_rs ?_));refine w4 (st_bin (v := dB (y101.2 == 0)) rfl rfl rfl) ?_;refine w2 ?_;refine rw_nilk ?_;refine awp_ite (b := (y101.2 == 0)) rfl (fun p102 => ?_) (fun p102 => ?_)
 ·replace h := ite_T p102 h;refine awp_rs ?_;refine w2 ?_;refine w2 ?_;refine rw_nilk (awp_ret (rt_block (rt_then ?_)));injection h with h;subst h;exact ret_out (v := .tup [dI .u8 1, dI .i64 0]) (resV_many (resVs_tmp rfl (resVs_tmp rfl resVs_nil))) (.keep rfl)
 ·replace h := ite_F p102 h;refine awp_rs ?_;refine w4 (st_bin (v := dB (y101.2 == 6)) rfl rfl rfl) ?_;refine w2 ?_;refine rw_nilk ?_;refine awp_ite (b := (y101.2 == 6)) rfl (fun p103 => ?_) (fun p103 => ?_)
  ·replace h := ite_T p103 h;refine awp_rs ?_;refine w2 ?_;refine w2 ?_;refine rw_nilk (awp_ret (rt_block (rt_then ?_)));injection h with h;subst h;exact ret_out (v := .tup [dI .u8 2, dI .i64 0]) (resV_many (resVs_tmp rfl (resVs_tmp rfl resVs_nil))) (.keep rfl)
  ·replace h := ite_F p103 h;refine awp_skip (nx_block (nx_then (awp_rs ?_)));refine w1 ?_;refine w2 ?_;refine w2 ?_;refine rw_nilk (awp_ret ?_);injection h with h;subst h;exact ret_out (v := .tup [dI .u8 0, dI .i64 y101.2]) (resV_many (resVs_tmp rfl (resVs_tmp rfl resVs_nil))) (.keep rfl)

abbrev Z53_0 (a0 : S_api_Dqbf) : Nat × AObj := (1001, .row 0 37 [[dL 1 (eI .i64) a0.Univ, dL 2 e_S_api_Dep a0.Exist, dL 1 (eL 1 (eI .i64)) a0.Clauses]])

theorem ok_skolemref03_All {a0 : S_api_Dqbf} {r : (List Int)} (h : F_skolemref03_All a0 = some r) : Fn Try.prog 53 [.agg [dL 1 (eI .i64) a0.Univ, dL 2 e_S_api_Dep a0.Exist, dL 1 (eL 1 (eI .i64)) a0.Clauses]] (dL 1 (eI .i64) r) := by
 unfold F_skolemref03_All at h;refine Fn.of_body (N := 26) (rs := [.tmp 2]) Try.func53 (c := _) rfl rfl rfl (by kernel_rfl) (Nat.le_of_ble_eq_true rfl) (fun _B => ?_);refine awp_rs ?_;refine w8 (r := 1001) (st_box rfl rfl rfl co37 rfl rfl) ?_;refine w2 ?_;refine rw_nilk (awp_rs ?_);refine w8 (r := 1002) (st_bsl (els := []) sl34 zc3 rfl rfl rfl rfl rfl) ?_;refine w4 (st_faP fo37_0 rfl) ?_;refine w4 (st_ldP (v := dL 1 (eI .i64) a0.Univ) ta34 rfl rfl rfl rfl) ?_;obtain ⟨c101, h⟩ := capN_some h;refine rn (r := 0) (L' := [Z53_0 a0, (1002, rw' 3 3 (eI .i64) (([] : List Int) ++ a0.Univ))]) rfl rfl (st_appR (f := (eI .i64)) (xs := ([] : List Int)) (ys := a0.Univ) sl34 zc3 rfl rfl rfl rfl rfl news_dat c101) rfl ?_;refine w2 ?_;refine rw_nilk (awp_seq (awp_rs ?_));refine w2 ?_;refine rw_nilk (awp_block ?_);refine awp_lenA (t := 0) (i := 1) rfl rfl (fun hl105 => ?_);rw [List.length_map] at hl105
 refine awp_range (fun (j105 : Nat) (s102 : (List Int)) (g103 : Nat) => [(1, .ptr 1001 0 0 0), (3, .slice 1002 g103 0 s102.length), (4, dI .i64 ((j105 : Nat) : Int))]) (fun (s102 : (List Int)) (g103 : Nat) => [Z53_0 a0, (1002, rw' g103 3 (eI .i64) s102)]) 3 (fun _ _ _ h => h) h (gf ⟨ko, kw, trivial⟩) ?_ ?_
 ·clear h;intro j105 x106 s102 g103 k104 hj105 hx105 h ih104;refine awp_seq (awp_rs ?_);refine w1 ?_;refine w4 (st_faP fo37_1 rfl) ?_;refine w4 (st_ldP (v := dL 2 e_S_api_Dep a0.Exist) ta35 rfl rfl rfl rfl) ?_;refine w4 (st_lenD rfl un35) ?_;refine w4 (st_bin (v := dB (decide (((j105 : Nat) : Int) < ((a0.Exist.length : Nat) : Int)))) rfl rfl rfl) ?_;refine rw_nilk ?_;refine awp_ifT rfl (dlt hj105) ?_;refine awp_skip (nx_then (awp_seq (awp_block (awp_rw ?_))));refine w1 ?_;refine w4 (st_faP fo37_1 rfl) ?_;refine w4 (st_ldP (v := dL 2 e_S_api_Dep a0.Exist) ta35 rfl rfl rfl rfl) ?_;refine w1 ?_;refine w4 (st_ixDn sl35 rfl rfl hx105) ?_;refine w4 (st_faD fo51_0 rfl) ?_;refine w4 (st_ldD (v := dI .i64 x106.Var) ta3 rfl rfl) ?_;refine w8 (r := 1003) (st_bsl (els := [[dI .i64 x106.Var]]) sl34 zc3 rfl rfl rfl rfl rfl) ?_;obtain ⟨c109, h⟩ := capN_some h;refine rn (r := 0) (L' := [Z53_0 a0, (1002, rw' (g103 + 2) 3 (eI .i64) (s102 ++ [x106.Var])), (1003, .row 1 3 [[dI .i64 x106.Var]])]) rfl rfl (st_appR (f := (eI .i64)) (xs := s102) (ys := [x106.Var]) sl34 zc3 rfl rfl rfl rfl rfl (news_one (a := x106.Var) rfl rfl) c109) rfl ?_;refine w2 ?_;refine rw_nil (nx_block (nx_then (awp_rw ?_)));refine w1 ?_;refine w4 (st_inc rfl rfl hj105 hl105) ?_
  refine w2 ?_;refine rw_nil (nx_then ?_);refine awp_gh ?_ (ih104 (s102 ++ [x106.Var]) (g103 + 2) h);exact (gf ⟨ko, kw, trivial⟩)
 ·clear h;intro s102 g103 h;refine awp_seq (awp_rs ?_);refine w1 ?_;refine w4 (st_faP fo37_1 rfl) ?_;refine w4 (st_ldP (v := dL 2 e_S_api_Dep a0.Exist) ta35 rfl rfl rfl rfl) ?_;refine w4 (st_lenD rfl un35) ?_;refine w4 (st_bin (v := dB (decide (((a0.Exist.length : Nat) : Int) < ((a0.Exist.length : Nat) : Int)))) rfl rfl rfl) ?_;refine rw_nilk ?_;refine awp_ifF rfl dge ?_;refine awp_exit (ex_out (ex_out (ex_in (nx_then (awp_rs ?_)))));refine w1 ?_;refine w2 ?_;refine rw_nilk (awp_ret ?_);injection h with h;subst h;exact ret_out (v := .slice 1002 g103 0 s102.length) (resV_one (resVs_tmp rfl resVs_nil)) (frzT rfl rfl co3 rfl)

theorem ok_skolemref03_Has {a0 : (List Int)} {a1 : Int} {r : Bool} (h : F_skolemref03_Has a0 a1 = some r) : Fn Try.prog 81 [dL 1 (eI .i64) a0, dI .i64 a1] (dB r) := by
 unfold F_skolemref03_Has at h;refine Fn.of_body (N := 18) (rs := [.tmp 4]) Try.func81 (c := _) rfl rfl rfl (by kernel_rfl) (Nat.le_of_ble_eq_true rfl) (fun _B => ?_);refine awp_rs ?_;refine w2 ?_;refine rw_nilk (awp_seq (awp_rs ?_));refine w2 ?_;refine rw_nilk (awp_block ?_);refine awp_len (t := 0) rfl (fun hl104 => ?_);rw [List.length_map] at hl104;refine awp_range (fun (j104 : Nat) (s101 : Unit) (g102 : Unit) => [(0, dL 1 (eI .i64) a0), (1, dI .i64 a1), (5, dI .i64 ((j104 : Nat) : Int))]) (fun (s101 : Unit) (g102 : Unit) => []) () (fun _ _ _ h => h) h (gf trivial) ?_ ?_
 ·clear h;intro j104 x105 s101 g102 k103 hj104 hx104 h ih103;refine awp_seq (awp_rs ?_);refine w1 ?_;refine w1 ?_;refine w4 (st_lenD rfl un34) ?_;refine w4 (st_bin (v := dB (decide (((j104 : Nat) : Int) < ((a0.length : Nat) : Int)))) rfl rfl rfl) ?_;refine rw_nilk ?_;refine awp_ifT rfl (dlt hj104) ?_;refine awp_skip (nx_then (awp_seq (awp_block (awp_rs ?_))));refine w1 ?_;refine w1 ?_;refine w4 (st_ixDn sl34 rfl rfl hx104) ?_;refine w4 (st_ldD (v := dI .i64 x105) ta3 rfl rfl) ?_;refine w1 ?_;refine w4 (st_bin (v := dB (x105 == a1)) rfl rfl rfl) ?_;refine rw_nilk ?_;refine awp_ite (b := (x105 == a1)) rfl (fun p107 => ?_) (fun p107 => ?_)
  ·replace h := ite_T p107 h;refine awp_rs ?_;refine w2 ?_;refine rw_nilk (awp_ret (rt_block (rt_then (rt_then (rt_block (rt_then ?_))))));injection h with h;subst h;exact ret_out (v := dB true) (resV_one (resVs_tmp rfl resVs_nil)) (.keep rfl)
  ·replace h := ite_F p107 h;refine awp_skip (nx_block (nx_then (awp_rw ?_)));refine w1 ?_;refine w4 (st_inc rfl rfl hj104 hl104) ?_;refine w2 ?_;refine rw_nil (nx_then ?_);refine awp_gh ?_ (ih103 () () h);exact (gf trivial)
 ·clear h;intro s101 g102 h;refine awp_seq (awp_rs ?_);refine w1 ?_;refine w1 ?_;refine w4 (st_lenD rfl un34) ?_;refine w4 (st_bin (v := dB (decide (((a0.length : Nat) : Int) < ((a0.length : Nat) : Int)))) rfl rfl rfl) ?_;refine rw_nilk ?_;refine awp_ifF rfl dge ?_;refine awp_exit (ex_out (ex_out (ex_in (nx_then (awp_rs ?_)))));refine w2 ?_;refine rw_nilk (awp_ret ?_);injection h with h;subst h;exact ret_out (v := dB false) (resV_one (resVs_tmp rfl resVs_nil)) (.keep rfl)

theorem ok_skolemref03_single {a0 : (List Int)} {r : Bool} (h : F_skolemref03_single a0 = some r) : Fn Try.prog 54 [dL 1 (eI .i64) a0] (dB r) := by
 unfold F_skolemref03_single at h;refine Fn.of_body (N := 32) (rs := [.tmp 2]) Try.func54 (c := _) rfl rfl rfl (by kernel_rfl) (Nat.le_of_ble_eq_true rfl) (fun _B => ?_);refine awp_rs ?_;refine w2 ?_;refine rw_nilk (awp_seq (awp_rs ?_));refine w2 ?_;refine rw_nilk (awp_block ?_);refine awp_len (t := 0) rfl (fun hl104 => ?_);rw [List.length_map] at hl104;refine awp_range (fun (j104 : Nat) (s101 : Unit) (g102 : Unit) => [(0, dL 1 (eI .i64) a0), (3, dI .i64 ((j104 : Nat) : Int))]) (fun (s101 : Unit) (g102 : Unit) => []) () (fun _ _ _ h => h) h (gf trivial) ?_ ?_
 ·clear h;intro j104 x105 s101 g102 k103 hj104 hx104 h ih103;refine awp_seq (awp_rs ?_);refine w1 ?_;refine w1 ?_;refine w4 (st_lenD rfl un34) ?_;refine w4 (st_bin (v := dB (decide (((j104 : Nat) : Int) < ((a0.length : Nat) : Int)))) rfl rfl rfl) ?_;refine rw_nilk ?_;refine awp_ifT rfl (dlt hj104) ?_;refine awp_skip (nx_then (awp_seq (awp_block ?_)));refine awp_jn (fun (s146 : Bool) (g147 : Unit) => [(0, dL 1 (eI .i64) a0), (3, dI .i64 ((j104 : Nat) : Int)), (31, dB s146)]) (fun (s146 : Bool) (g147 : Unit) => []) h ?_ ?_
  ·clear h;intro s146 g147 h;refine awp_ite (b := s146) rfl (fun p149 => ?_) (fun p149 => ?_)
   ·replace h := ite_T p149 h;refine awp_rs ?_;refine w2 ?_;refine rw_nilk (awp_ret (rt_block (rt_then (rt_then (rt_block (rt_then ?_))))));injection h with h;subst h;exact ret_out (v := dB false) (resV_one (resVs_tmp rfl resVs_nil)) (.keep rfl)
   ·replace h := ite_F p149 h;refine awp_skip (nx_block (nx_then (awp_rw ?_)));refine w1 ?_;refine w4 (st_inc rfl rfl hj104 hl104) ?_;refine w2 ?_;refine rw_nil (nx_then ?_);refine awp_gh ?_ (ih103 () () h);exact (gf trivial)
  ·clear h;intro k148 h J148;refine awp_rd hmix ?_;refine w7 (st_mv rfl) ?_;refine w7 (st_mv rfl) ?_;refine w7 (st_ixDn sl34 rfl rfl hx104) ?_;refine w7 (st_ldD (v := dI .i64 x105) ta3 rfl rfl) ?_;refine w7 (st_bin (v := dB (decide (x105 < 1))) rfl rfl rfl) ?_;refine w7 (st_mv rfl) ?_;refine bool_split (decide (x105 < 1)) (fun p150 => ?_) (fun p150 => ?_)
   ·replace h := ite_T p150 h;rw [p150];refine w5 ?_;refine w5 ?_;refine w5 ?_;refine w5 ?_;refine w5 ?_;refine w7 (st_pickT rfl rfl) ?_;refine w7 (st_mv rfl) ?_;refine w5 ?_;refine w5 ?_;refine w5 ?_;refine w5 ?_;refine w5 ?_;refine w5 ?_;refine w5 ?_;refine w5 ?_;refine w7 (st_pickT rfl rfl) ?_;refine rd_nil (by kernel_rfl) ?_;refine nx_then ?_;exact J148 true () _ _ h (gf trivial)
   ·replace h := ite_F p150 h;rw [p150];refine w7 (st_mv rfl) ?_;refine w7 (st_mv rfl) ?_;refine w7 (st_ixDn sl34 rfl rfl hx104) ?_;refine w7 (st_ldD (v := dI .i64 x105) ta3 rfl rfl) ?_;refine w7 (st_bin (v := dB (decide (x105 > 65536))) rfl rfl rfl) ?_;refine w7 (st_pickF rfl rfl) ?_;refine w7 (st_mv rfl) ?_;refine bool_split (decide (x105 > 65536)) (fun p151 => ?_) (fun p151 => ?_)
    ·replace h := ite_T p151 h;rw [p151];refine w5 ?_;refine w5 ?_;refine w5 ?_;refine w5 ?_;refine w5 ?_;refine w5 ?_;refine w5 ?_;refine w5 ?_;refine w7 (st_pickT rfl rfl) ?_;refine rd_nil (by kernel_rfl) ?_;refine nx_then ?_;exact J148 true () _ _ h (gf trivial)
    ·replace h := ite_F p151 h;rw [p151];refine w7 (st_mv rfl) ?_;refine w7 (st_mv rfl) ?_;obtain ⟨c152, h⟩ := okI_some h;refine w7 (st_slHi sl34 rfl rfl c152.1 c152.2) ?_;refine w7 (st_mv rfl) ?_;refine w7 (st_mv rfl) ?_;refine w7 (st_ixDn sl34 rfl rfl hx104) ?_;refine w7 (st_ldD (v := dI .i64 x105) ta3 rfl rfl) ?_;obtain ⟨y153, hy153, h⟩ := bind_some_elim h;refine df rfl rfl (ok_skolemref03_Has hy153) rfl rfl ?_;refine w7 (st_pickF rfl rfl) ?_;refine rd_nil (by kernel_rfl) ?_;refine nx_then ?_;exact J148 y153 () _ _ h (gf trivial)
 ·clear h;intro s101 g102 h;refine awp_seq (awp_rs ?_);refine w1 ?_;refine w1 ?_;refine w4 (st_lenD rfl un34) ?_;refine w4 (st_bin (v := dB (decide (((a0.length : Nat) : Int) < ((a0.length : Nat) : Int)))) rfl rfl rfl) ?_;refine rw_nilk ?_;refine awp_ifF rfl dge ?_;refine awp_exit (ex_out (ex_out (ex_in (nx_then (awp_rs ?_)))));refine w2 ?_;refine rw_nilk (awp_ret ?_);injection h with h;subst h;exact ret_out (v := dB true) (resV_one (resVs_tmp rfl resVs_nil)) (.keep rfl)

theorem ok_skolemref03_Rises {a0 : (List Int)} {r : Bool} (h : F_skolemref03_Rises a0 = some r) : Fn Try.prog 55 [dL 1 (eI .i64) a0] (dB r) := by
 unfold F_skolemref03_Rises at h;refine Fn.of_body (N := 38) (rs := [.tmp 2]) Try.func55 (c := _) rfl rfl rfl (by kernel_rfl) (Nat.le_of_ble_eq_true rfl) (fun _B => ?_);refine awp_rs ?_;refine w2 ?_;refine rw_nilk (awp_seq (awp_rs ?_));refine w2 ?_;refine rw_nilk (awp_block ?_);refine awp_len (t := 0) rfl (fun hl104 => ?_);rw [List.length_map] at hl104;refine awp_range (fun (j104 : Nat) (s101 : Unit) (g102 : Unit) => [(0, dL 1 (eI .i64) a0), (3, dI .i64 ((j104 : Nat) : Int))]) (fun (s101 : Unit) (g102 : Unit) => []) () (fun _ _ _ h => h) h (gf trivial) ?_ ?_
 ·clear h;intro j104 x105 s101 g102 k103 hj104 hx104 h ih103;refine awp_seq (awp_rs ?_);refine w1 ?_;refine w1 ?_;refine w4 (st_lenD rfl un34) ?_;refine w4 (st_bin (v := dB (decide (((j104 : Nat) : Int) < ((a0.length : Nat) : Int)))) rfl rfl rfl) ?_;refine rw_nilk ?_;refine awp_ifT rfl (dlt hj104) ?_;refine awp_skip (nx_then (awp_seq (awp_block ?_)));refine awp_jn (fun (s146 : Bool) (g147 : Unit) => [(0, dL 1 (eI .i64) a0), (3, dI .i64 ((j104 : Nat) : Int)), (37, dB s146)]) (fun (s146 : Bool) (g147 : Unit) => []) h ?_ ?_
  ·clear h;intro s146 g147 h;refine awp_ite (b := s146) rfl (fun p149 => ?_) (fun p149 => ?_)
   ·replace h := ite_T p149 h;refine awp_rs ?_;refine w2 ?_;refine rw_nilk (awp_ret (rt_block (rt_then (rt_then (rt_block (rt_then ?_))))));injection h with h;subst h;exact ret_out (v := dB false) (resV_one (resVs_tmp rfl resVs_nil)) (.keep rfl)
   ·replace h := ite_F p149 h;refine awp_skip (nx_block (nx_then (awp_rw ?_)));refine w1 ?_;refine w4 (st_inc rfl rfl hj104 hl104) ?_;refine w2 ?_;refine rw_nil (nx_then ?_);refine awp_gh ?_ (ih103 () () h);exact (gf trivial)
  ·clear h;intro k148 h J148;refine awp_rd hmix ?_;refine w7 (st_mv rfl) ?_;refine w7 (st_mv rfl) ?_;refine w7 (st_ixDn sl34 rfl rfl hx104) ?_;refine w7 (st_ldD (v := dI .i64 x105) ta3 rfl rfl) ?_;refine w7 (st_bin (v := dB (decide (x105 < 1))) rfl rfl rfl) ?_;refine w7 (st_mv rfl) ?_;refine bool_split (decide (x105 < 1)) (fun p150 => ?_) (fun p150 => ?_)
   ·replace h := ite_T p150 h;rw [p150];refine w5 ?_;refine w5 ?_;refine w5 ?_;refine w5 ?_;refine w5 ?_;refine w7 (st_pickT rfl rfl) ?_;refine w7 (st_mv rfl) ?_;refine w5 ?_;refine w5 ?_;refine w5 ?_;refine w5 ?_;refine w5 ?_;refine w5 ?_;refine w5 ?_;refine w5 ?_;refine w5 ?_;refine w5 ?_;refine w5 ?_;refine w5 ?_;refine w5 ?_;refine w5 ?_;refine w7 (st_pickT rfl rfl) ?_;refine rd_nil (by kernel_rfl) ?_;refine nx_then ?_;exact J148 true () _ _ h (gf trivial)
   ·replace h := ite_F p150 h;rw [p150];refine w7 (st_mv rfl) ?_;refine w7 (st_mv rfl) ?_;refine w7 (st_ixDn sl34 rfl rfl hx104) ?_;refine w7 (st_ldD (v := dI .i64 x105) ta3 rfl rfl) ?_;refine w7 (st_bin (v := dB (decide (x105 > 65536))) rfl rfl rfl) ?_;refine w7 (st_pickF rfl rfl) ?_;refine w7 (st_mv rfl) ?_;refine bool_split (decide (x105 > 65536)) (fun p151 => ?_) (fun p151 => ?_)
    ·replace h := ite_T p151 h;rw [p151];refine w5 ?_;refine w5 ?_;refine w5 ?_;refine w5 ?_;refine w5 ?_;refine w5 ?_;refine w5 ?_;refine w5 ?_;refine w5 ?_;refine w5 ?_;refine w5 ?_;refine w5 ?_;refine w5 ?_;refine w5 ?_;refine w7 (st_pickT rfl rfl) ?_;refine rd_nil (by kernel_rfl) ?_;refine nx_then ?_;exact J148 true () _ _ h (gf trivial)
    ·replace h := ite_F p151 h;rw [p151];refine w7 (st_mv rfl) ?_;refine w7 (st_bin (v := dB (decide (((j104 : Nat) : Int) > 0))) rfl rfl rfl) ?_;refine w7 (st_mv rfl) ?_;refine bool_split (decide (((j104 : Nat) : Int) > 0)) (fun p152 => ?_) (fun p152 => ?_)
     ·replace h := ite_T p152 h;rw [p152];refine w7 (st_mv rfl) ?_;refine w7 (st_mv rfl) ?_;refine w7 (st_bin (v := dI .i64 (IntKind.wrap .i64 (((j104 : Nat) : Int) - 1))) rfl rfl rfl) ?_;obtain ⟨x153, h0153, hx153, h⟩ := getI_some h;refine w7 (st_ixD sl34 rfl rfl h0153 hx153) ?_;refine w7 (st_ldD (v := dI .i64 x153) ta3 rfl rfl) ?_;refine w7 (st_mv rfl) ?_;refine w7 (st_mv rfl) ?_;refine w7 (st_ixDn sl34 rfl rfl hx104) ?_;refine w7 (st_ldD (v := dI .i64 x105) ta3 rfl rfl) ?_;refine w7 (st_bin (v := dB (decide (x153 ≥ x105))) rfl rfl rfl) ?_;refine w7 (st_pickT rfl rfl) ?_;refine w7 (st_pickF rfl rfl) ?_;refine rd_nil (by kernel_rfl) ?_;refine nx_then ?_;exact J148 (decide (x153 ≥ x105)) () _ _ h (gf trivial)
     ·replace h := ite_F p152 h;rw [p152];refine w5 ?_;refine w5 ?_;refine w5 ?_;refine w5 ?_;refine w5 ?_;refine w5 ?_;refine w5 ?_;refine w5 ?_;refine w5 ?_;refine w5 ?_;refine w7 (st_pickF rfl rfl) ?_;refine w7 (st_pickF rfl rfl) ?_;refine rd_nil (by kernel_rfl) ?_;refine nx_then ?_;exact J148 false () _ _ h (gf trivial)
 ·clear h;intro s101 g102 h;refine awp_seq (awp_rs ?_);refine w1 ?_;refine w1 ?_;refine w4 (st_lenD rfl un34) ?_;refine w4 (st_bin (v := dB (decide (((a0.length : Nat) : Int) < ((a0.length : Nat) : Int)))) rfl rfl rfl) ?_;refine rw_nilk ?_;refine awp_ifF rfl dge ?_;refine awp_exit (ex_out (ex_out (ex_in (nx_then (awp_rs ?_)))));refine w2 ?_;refine rw_nilk (awp_ret ?_);injection h with h;subst h;exact ret_out (v := dB true) (resV_one (resVs_tmp rfl resVs_nil)) (.keep rfl)

theorem ok_skolemref03_Abs {a0 : Int} {r : Int} (h : F_skolemref03_Abs a0 = some r) : Fn Try.prog 83 [dI .i64 a0] (dI .i64 r) := by
 unfold F_skolemref03_Abs at h;refine Fn.of_body (N := 8) (rs := [.tmp 2]) Try.func83 (c := _) rfl rfl rfl (by kernel_rfl) (Nat.le_of_ble_eq_true rfl) (fun _B => ?_);refine awp_rs ?_;refine w2 ?_;refine rw_nilk (awp_seq (awp_rs ?_));refine w1 ?_;refine w4 (st_bin (v := dB (decide (a0 < 0))) rfl rfl rfl) ?_;refine rw_nilk ?_;refine awp_ite (b := (decide (a0 < 0))) rfl (fun p101 => ?_) (fun p101 => ?_)
 ·replace h := ite_T p101 h;refine awp_rs ?_;refine w1 ?_;refine w4 (st_un (v := dI .i64 (IntKind.wrap .i64 (0 - a0))) rfl rfl) ?_;refine w2 ?_;refine rw_nilk (awp_ret (rt_then ?_));injection h with h;subst h;exact ret_out (v := dI .i64 (IntKind.wrap .i64 (0 - a0))) (resV_one (resVs_tmp rfl resVs_nil)) (.keep rfl)
 ·replace h := ite_F p101 h;refine awp_skip (nx_then (awp_rs ?_));refine w1 ?_;refine w2 ?_;refine rw_nilk (awp_ret ?_);injection h with h;subst h;exact ret_out (v := dI .i64 a0) (resV_one (resVs_tmp rfl resVs_nil)) (.keep rfl)

theorem ok_skolemref03_Normal {a0 : (List Int)} {r : Bool} (h : F_skolemref03_Normal a0 = some r) : Fn Try.prog 82 [dL 1 (eI .i64) a0] (dB r) := by
 unfold F_skolemref03_Normal at h;refine Fn.of_body (N := 47) (rs := [.tmp 2]) Try.func82 (c := _) rfl rfl rfl (by kernel_rfl) (Nat.le_of_ble_eq_true rfl) (fun _B => ?_);refine awp_rs ?_;refine w2 ?_;refine rw_nilk (awp_seq (awp_rs ?_));refine w2 ?_;refine rw_nilk (awp_block ?_);refine awp_len (t := 0) rfl (fun hl104 => ?_);rw [List.length_map] at hl104;refine awp_range (fun (j104 : Nat) (s101 : Unit) (g102 : Unit) => [(0, dL 1 (eI .i64) a0), (3, dI .i64 ((j104 : Nat) : Int))]) (fun (s101 : Unit) (g102 : Unit) => []) () (fun _ _ _ h => h) h (gf trivial) ?_ ?_
 ·clear h;intro j104 x105 s101 g102 k103 hj104 hx104 h ih103;refine awp_seq (awp_rs ?_);refine w1 ?_;refine w1 ?_;refine w4 (st_lenD rfl un34) ?_;refine w4 (st_bin (v := dB (decide (((j104 : Nat) : Int) < ((a0.length : Nat) : Int)))) rfl rfl rfl) ?_;refine rw_nilk ?_;refine awp_ifT rfl (dlt hj104) ?_;refine awp_skip (nx_then (awp_seq (awp_block ?_)));refine awp_jn (fun (s167 : Bool) (g168 : Unit) => [(0, dL 1 (eI .i64) a0), (3, dI .i64 ((j104 : Nat) : Int)), (46, dB s167)]) (fun (s167 : Bool) (g168 : Unit) => []) h ?_ ?_
  ·clear h;intro s167 g168 h;refine awp_ite (b := s167) rfl (fun p170 => ?_) (fun p170 => ?_)
   ·replace h := ite_T p170 h;refine awp_rs ?_;refine w2 ?_;refine rw_nilk (awp_ret (rt_block (rt_then (rt_then (rt_block (rt_then ?_))))));injection h with h;subst h;exact ret_out (v := dB false) (resV_one (resVs_tmp rfl resVs_nil)) (.keep rfl)
   ·replace h := ite_F p170 h;refine awp_skip (nx_block (nx_then (awp_rw ?_)));refine w1 ?_;refine w4 (st_inc rfl rfl hj104 hl104) ?_;refine w2 ?_;refine rw_nil (nx_then ?_);refine awp_gh ?_ (ih103 () () h);exact (gf trivial)
  ·clear h;intro k169 h J169;refine awp_rd hmix ?_;refine w7 (st_mv rfl) ?_;refine w7 (st_mv rfl) ?_;refine w7 (st_ixDn sl34 rfl rfl hx104) ?_;refine w7 (st_ldD (v := dI .i64 x105) ta3 rfl rfl) ?_;refine w7 (st_bin (v := dB (x105 == 0)) rfl rfl rfl) ?_;refine w7 (st_mv rfl) ?_;refine bool_split (x105 == 0) (fun p171 => ?_) (fun p171 => ?_)
   ·replace h := ite_T p171 h;rw [p171];refine w5 ?_;refine w5 ?_;refine w5 ?_;refine w5 ?_;refine w5 ?_;refine w7 (st_pickT rfl rfl) ?_;refine w7 (st_mv rfl) ?_;refine w5 ?_;refine w5 ?_;refine w5 ?_;refine w5 ?_;refine w5 ?_;refine w7 (st_pickT rfl rfl) ?_;refine w7 (st_mv rfl) ?_;refine w5 ?_;refine w5 ?_;refine w5 ?_;refine w5 ?_;refine w5 ?_;refine w5 ?_;refine w5 ?_;refine w5 ?_;refine w5 ?_;refine w5 ?_;refine w5 ?_;refine w5 ?_;refine w5 ?_;refine w5 ?_;refine w5 ?_;refine w5 ?_;refine w7 (st_pickT rfl rfl) ?_;refine rd_nil (by kernel_rfl) ?_;refine nx_then ?_;exact J169 true () _ _ h (gf trivial)
   ·replace h := ite_F p171 h;rw [p171];refine w7 (st_mv rfl) ?_;refine w7 (st_mv rfl) ?_;refine w7 (st_ixDn sl34 rfl rfl hx104) ?_;refine w7 (st_ldD (v := dI .i64 x105) ta3 rfl rfl) ?_;refine w7 (st_bin (v := dB (decide (x105 < (-65536 : Int)))) rfl rfl rfl) ?_;refine w7 (st_pickF rfl rfl) ?_;refine w7 (st_mv rfl) ?_;refine bool_split (decide (x105 < (-65536 : Int))) (fun p172 => ?_) (fun p172 => ?_)
    ·replace h := ite_T p172 h;rw [p172];refine w5 ?_;refine w5 ?_;refine w5 ?_;refine w5 ?_;refine w5 ?_;refine w7 (st_pickT rfl rfl) ?_;refine w7 (st_mv rfl) ?_;refine w5 ?_;refine w5 ?_;refine w5 ?_;refine w5 ?_;refine w5 ?_;refine w5 ?_;refine w5 ?_;refine w5 ?_;refine w5 ?_;refine w5 ?_;refine w5 ?_;refine w5 ?_;refine w5 ?_;refine w5 ?_;refine w5 ?_;refine w5 ?_;refine w7 (st_pickT rfl rfl) ?_;refine rd_nil (by kernel_rfl) ?_;refine nx_then ?_;exact J169 true () _ _ h (gf trivial)
    ·replace h := ite_F p172 h;rw [p172];refine w7 (st_mv rfl) ?_;refine w7 (st_mv rfl) ?_;refine w7 (st_ixDn sl34 rfl rfl hx104) ?_;refine w7 (st_ldD (v := dI .i64 x105) ta3 rfl rfl) ?_;refine w7 (st_bin (v := dB (decide (x105 > 65536))) rfl rfl rfl) ?_;refine w7 (st_pickF rfl rfl) ?_;refine w7 (st_mv rfl) ?_;refine bool_split (decide (x105 > 65536)) (fun p173 => ?_) (fun p173 => ?_)
     ·replace h := ite_T p173 h;rw [p173];refine w5 ?_;refine w5 ?_;refine w5 ?_;refine w5 ?_;refine w5 ?_;refine w5 ?_;refine w5 ?_;refine w5 ?_;refine w5 ?_;refine w5 ?_;refine w5 ?_;refine w5 ?_;refine w5 ?_;refine w5 ?_;refine w5 ?_;refine w5 ?_;refine w7 (st_pickT rfl rfl) ?_;refine rd_nil (by kernel_rfl) ?_;refine nx_then ?_;exact J169 true () _ _ h (gf trivial)
     ·replace h := ite_F p173 h;rw [p173];refine w7 (st_mv rfl) ?_;refine w7 (st_bin (v := dB (decide (((j104 : Nat) : Int) > 0))) rfl rfl rfl) ?_;refine w7 (st_mv rfl) ?_;refine bool_split (decide (((j104 : Nat) : Int) > 0)) (fun p174 => ?_) (fun p174 => ?_)
      ·replace h := ite_T p174 h;rw [p174];refine w7 (st_mv rfl) ?_;refine w7 (st_mv rfl) ?_;refine w7 (st_bin (v := dI .i64 (IntKind.wrap .i64 (((j104 : Nat) : Int) - 1))) rfl rfl rfl) ?_;obtain ⟨x175, h0175, hx175, h⟩ := getI_some h;refine w7 (st_ixD sl34 rfl rfl h0175 hx175) ?_;refine w7 (st_ldD (v := dI .i64 x175) ta3 rfl rfl) ?_;obtain ⟨y176, hy176, h⟩ := bind_some_elim h;refine df rfl rfl (ok_skolemref03_Abs hy176) rfl rfl ?_;refine w7 (st_mv rfl) ?_;refine w7 (st_mv rfl) ?_;refine w7 (st_ixDn sl34 rfl rfl hx104) ?_;refine w7 (st_ldD (v := dI .i64 x105) ta3 rfl rfl) ?_;obtain ⟨y177, hy177, h⟩ := bind_some_elim h;refine df rfl rfl (ok_skolemref03_Abs hy177) rfl rfl ?_;refine w7 (st_bin (v := dB (decide (y176 ≥ y177))) rfl rfl rfl) ?_;refine w7 (st_pickT rfl rfl) ?_;refine w7 (st_pickF rfl rfl) ?_;refine rd_nil (by kernel_rfl) ?_;refine nx_then ?_;exact J169 (decide (y176 ≥ y177)) () _ _ h (gf trivial)
      ·replace h := ite_F p174 h;rw [p174];refine w5 ?_;refine w5 ?_;refine w5 ?_;refine w5 ?_;refine w5 ?_;refine w5 ?_;refine w5 ?_;refine w5 ?_;refine w5 ?_;refine w5 ?_;refine w5 ?_;refine w5 ?_;refine w7 (st_pickF rfl rfl) ?_;refine w7 (st_pickF rfl rfl) ?_;refine rd_nil (by kernel_rfl) ?_;refine nx_then ?_;exact J169 false () _ _ h (gf trivial)
 ·clear h;intro s101 g102 h;refine awp_seq (awp_rs ?_);refine w1 ?_;refine w1 ?_;refine w4 (st_lenD rfl un34) ?_;refine w4 (st_bin (v := dB (decide (((a0.length : Nat) : Int) < ((a0.length : Nat) : Int)))) rfl rfl rfl) ?_;refine rw_nilk ?_;refine awp_ifF rfl dge ?_;refine awp_exit (ex_out (ex_out (ex_in (nx_then (awp_rs ?_)))));refine w2 ?_;refine rw_nilk (awp_ret ?_);injection h with h;subst h;exact ret_out (v := dB true) (resV_one (resVs_tmp rfl resVs_nil)) (.keep rfl)

theorem ok_skolemref03_Cnf {a0 : (List (List Int))} {r : Bool} (h : F_skolemref03_Cnf a0 = some r) : Fn Try.prog 56 [dL 1 (eL 1 (eI .i64)) a0] (dB r) := by
 unfold F_skolemref03_Cnf at h;refine Fn.of_body (N := 31) (rs := [.tmp 2]) Try.func56 (c := _) rfl rfl rfl (by kernel_rfl) (Nat.le_of_ble_eq_true rfl) (fun _B => ?_);refine awp_rs ?_;refine w2 ?_;refine rw_nilk (awp_rs ?_);refine w2 ?_;refine rw_nilk (awp_seq (awp_rs ?_));refine w2 ?_;refine rw_nilk (awp_block ?_);refine awp_len (t := 0) rfl (fun hl104 => ?_);rw [List.length_map] at hl104;refine awp_range (fun (j104 : Nat) (s101 : Int) (g102 : Unit) => [(0, dL 1 (eL 1 (eI .i64)) a0), (3, dI .i64 s101), (4, dI .i64 ((j104 : Nat) : Int))]) (fun (s101 : Int) (g102 : Unit) => []) () (fun _ _ _ h => h) h (gf trivial) ?_ ?_
 ·clear h;intro j104 x105 s101 g102 k103 hj104 hx104 h ih103;refine awp_seq (awp_rs ?_);refine w1 ?_;refine w1 ?_;refine w4 (st_lenD rfl un23) ?_;refine w4 (st_bin (v := dB (decide (((j104 : Nat) : Int) < ((a0.length : Nat) : Int)))) rfl rfl rfl) ?_;refine rw_nilk ?_;refine awp_ifT rfl (dlt hj104) ?_;refine awp_skip (nx_then (awp_seq (awp_block (awp_rs ?_))));refine w1 ?_;refine w1 ?_;refine w1 ?_;refine w4 (st_ixDn sl23 rfl rfl hx104) ?_;refine w4 (st_ldD (v := dL 1 (eI .i64) x105) ta34 rfl rfl) ?_;refine w4 (st_lenD rfl un34) ?_;refine w4 (st_bin (v := dI .i64 (IntKind.wrap .i64 (s101 + ((x105.length : Nat) : Int)))) rfl rfl rfl) ?_;refine w2 ?_;refine rw_nilk (awp_rs ?_);refine w1 ?_;refine w1 ?_;refine w4 (st_ixDn sl23 rfl rfl hx104) ?_;refine w4 (st_ldD (v := dL 1 (eI .i64) x105) ta34 rfl rfl) ?_;obtain ⟨y110, hy110, h⟩ := bind_some_elim h;refine rf rfl rfl (ok_skolemref03_Normal hy110) rfl rfl ?_;refine w4 (st_un (v := dB (!y110)) rfl rfl) ?_;refine rw_nilk ?_;refine awp_ite (b := (!y110)) rfl (fun p111 => ?_) (fun p111 => ?_)
  ·replace h := ite_T p111 h;refine awp_rs ?_;refine w2 ?_;refine rw_nilk (awp_ret (rt_block (rt_then (rt_then (rt_block (rt_then ?_))))));injection h with h;subst h;exact ret_out (v := dB false) (resV_one (resVs_tmp rfl resVs_nil)) (.keep rfl)
  ·replace h := ite_F p111 h;refine awp_skip (nx_block (nx_then (awp_rw ?_)));refine w1 ?_;refine w4 (st_inc rfl rfl hj104 hl104) ?_;refine w2 ?_;refine rw_nil (nx_then ?_);refine awp_gh ?_ (ih103 (IntKind.wrap .i64 (s101 + ((x105.length : Nat) : Int))) () h);exact (gf trivial)
 ·clear h;intro s101 g102 h;refine awp_seq (awp_rs ?_);refine w1 ?_;refine w1 ?_;refine w4 (st_lenD rfl un23) ?_;refine w4 (st_bin (v := dB (decide (((a0.length : Nat) : Int) < ((a0.length : Nat) : Int)))) rfl rfl rfl) ?_;refine rw_nilk ?_;refine awp_ifF rfl dge ?_;refine awp_exit (ex_out (ex_out (ex_in (nx_then (awp_rs ?_)))));refine w1 ?_;refine w4 (st_lenD rfl un23) ?_;refine w4 (st_bin (v := dB (decide (((a0.length : Nat) : Int) ≤ 20000))) rfl rfl rfl) ?_;refine w1 ?_;refine bool_split (decide (((a0.length : Nat) : Int) ≤ 20000)) (fun p113 => ?_) (fun p113 => ?_)
  ·replace h := ite_T p113 h;rw [p113];refine w1 ?_;refine w4 (st_bin (v := dB (decide (s101 ≤ 200000))) rfl rfl rfl) ?_;refine w4 (st_pickT rfl rfl) ?_;refine w2 ?_;refine rw_nilk (awp_ret ?_);injection h with h;subst h;exact ret_out (v := dB (decide (s101 ≤ 200000))) (resV_one (resVs_tmp rfl resVs_nil)) (.keep rfl)
  ·replace h := ite_F p113 h;rw [p113];refine w3 ?_;refine w3 ?_;refine w4 (st_pickF rfl rfl) ?_;refine w2 ?_;refine rw_nilk (awp_ret ?_);injection h with h;subst h;exact ret_out (v := dB false) (resV_one (resVs_tmp rfl resVs_nil)) (.keep rfl)

theorem ok_skolemref03_within {a0 : (List (List Int))} {a1 : (List Int)} {r : Bool} (h : F_skolemref03_within a0 a1 = some r) : Fn Try.prog 57 [dL 1 (eL 1 (eI .i64)) a0, dL 1 (eI .i64) a1] (dB r) := by
 unfold F_skolemref03_within at h;refine Fn.of_body (N := 33) (rs := [.tmp 4]) Try.func57 (c := _) rfl rfl rfl (by kernel_rfl) (Nat.le_of_ble_eq_true rfl) (fun _B => ?_);refine awp_rs ?_;refine w2 ?_;refine rw_nilk (awp_seq (awp_rs ?_));refine w2 ?_;refine rw_nilk (awp_block ?_);refine awp_len (t := 0) rfl (fun hl104 => ?_);rw [List.length_map] at hl104;refine awp_range (fun (j104 : Nat) (s101 : Unit) (g102 : Unit) => [(0, dL 1 (eL 1 (eI .i64)) a0), (1, dL 1 (eI .i64) a1), (5, dI .i64 ((j104 : Nat) : Int))]) (fun (s101 : Unit) (g102 : Unit) => []) () (fun _ _ _ h => h) h (gf trivial) ?_ ?_
 ·clear h;intro j104 x105 s101 g102 k103 hj104 hx104 h ih103;refine awp_seq (awp_rs ?_);refine w1 ?_;refine w1 ?_;refine w4 (st_lenD rfl un23) ?_;refine w4 (st_bin (v := dB (decide (((j104 : Nat) : Int) < ((a0.length : Nat) : Int)))) rfl rfl rfl) ?_;refine rw_nilk ?_;refine awp_ifT rfl (dlt hj104) ?_;refine awp_skip (nx_then (awp_seq (awp_block (awp_rs ?_))));refine w2 ?_;refine rw_nilk (awp_block ?_);refine awp_while (fun (s128 : Int) (g129 : Unit) => [(0, dL 1 (eL 1 (eI .i64)) a0), (1, dL 1 (eI .i64) a1), (5, dI .i64 ((j104 : Nat) : Int)), (6, dI .i64 s128)]) (fun (s128 : Int) (g129 : Unit) => []) () (fun _ _ _ h => h) h (gf trivial) ?_;clear h;intro s128 g129 k130 h ih130;refine awp_seq (awp_rs ?_);refine w1 ?_;refine w1 ?_;refine w1 ?_;refine w4 (st_ixDn sl23 rfl rfl hx104) ?_;refine w4 (st_ldD (v := dL 1 (eI .i64) x105) ta34 rfl rfl) ?_;refine w4 (st_lenD rfl un34) ?_;refine w4 (st_bin (v := dB (decide (s128 < ((x105.length : Nat) : Int)))) rfl rfl rfl) ?_;refine rw_nilk ?_;refine awp_ite (b := (decide (s128 < ((x105.length : Nat) : Int)))) rfl (fun p145 => ?_) (fun p145 => ?_)
  ·replace h := ite_T p145 h;refine awp_skip (nx_then (awp_seq (awp_block (awp_rs ?_))));refine w1 ?_;refine w1 ?_;refine w1 ?_;refine w4 (st_ixDn sl23 rfl rfl hx104) ?_;refine w4 (st_ldD (v := dL 1 (eI .i64) x105) ta34 rfl rfl) ?_;refine w1 ?_;obtain ⟨x146, h0146, hx146, h⟩ := getI_some h;refine w4 (st_ixD sl34 rfl rfl h0146 hx146) ?_;refine w4 (st_ldD (v := dI .i64 x146) ta3 rfl rfl) ?_;obtain ⟨y147, hy147, h⟩ := bind_some_elim h;refine rf rfl rfl (ok_skolemref03_Abs hy147) rfl rfl ?_;obtain ⟨y148, hy148, h⟩ := bind_some_elim h;refine rf rfl rfl (ok_skolemref03_Has hy148) rfl rfl ?_;refine w4 (st_un (v := dB (!y148)) rfl rfl) ?_;refine rw_nilk ?_;refine awp_ite (b := (!y148)) rfl (fun p149 => ?_) (fun p149 => ?_)
   ·replace h := ite_T p149 h;refine awp_rs ?_;refine w2 ?_;refine rw_nilk (awp_ret (rt_block (rt_then (rt_then (rt_block (rt_block (rt_then (rt_then (rt_block (rt_then ?_))))))))));injection h with h;subst h;exact ret_out (v := dB false) (resV_one (resVs_tmp rfl resVs_nil)) (.keep rfl)
   ·replace h := ite_F p149 h;refine awp_skip (nx_block (nx_then (awp_rw ?_)));refine w1 ?_;refine w4 (st_bin (v := dI .i64 (IntKind.wrap .i64 (s128 + 1))) rfl rfl rfl) ?_;refine w2 ?_;refine rw_nil (nx_then ?_);refine awp_gh ?_ (ih130 (IntKind.wrap .i64 (s128 + 1)) () h);exact (gf trivial)
  ·replace h := ite_F p145 h;refine awp_exit (ex_out (ex_out (ex_in (nx_block (nx_then (awp_rw ?_))))));refine w1 ?_;refine w4 (st_inc rfl rfl hj104 hl104) ?_;refine w2 ?_;refine rw_nil (nx_then ?_);refine awp_gh ?_ (ih103 () () h);exact (gf trivial)
 ·clear h;intro s101 g102 h;refine awp_seq (awp_rs ?_);refine w1 ?_;refine w1 ?_;refine w4 (st_lenD rfl un23) ?_;refine w4 (st_bin (v := dB (decide (((a0.length : Nat) : Int) < ((a0.length : Nat) : Int)))) rfl rfl rfl) ?_;refine rw_nilk ?_;refine awp_ifF rfl dge ?_;refine awp_exit (ex_out (ex_out (ex_in (nx_then (awp_rs ?_)))));refine w2 ?_;refine rw_nilk (awp_ret ?_);injection h with h;subst h;exact ret_out (v := dB true) (resV_one (resVs_tmp rfl resVs_nil)) (.keep rfl)

theorem ok_skolemref03_Part {a0 : (List Int)} {a1 : (List Int)} {r : Bool} (h : F_skolemref03_Part a0 a1 = some r) : Fn Try.prog 58 [dL 1 (eI .i64) a0, dL 1 (eI .i64) a1] (dB r) := by
 unfold F_skolemref03_Part at h;refine Fn.of_body (N := 19) (rs := [.tmp 4]) Try.func58 (c := _) rfl rfl rfl (by kernel_rfl) (Nat.le_of_ble_eq_true rfl) (fun _B => ?_);refine awp_rs ?_;refine w2 ?_;refine rw_nilk (awp_seq (awp_rs ?_));refine w2 ?_;refine rw_nilk (awp_block ?_);refine awp_len (t := 0) rfl (fun hl104 => ?_);rw [List.length_map] at hl104;refine awp_range (fun (j104 : Nat) (s101 : Unit) (g102 : Unit) => [(0, dL 1 (eI .i64) a0), (1, dL 1 (eI .i64) a1), (5, dI .i64 ((j104 : Nat) : Int))]) (fun (s101 : Unit) (g102 : Unit) => []) () (fun _ _ _ h => h) h (gf trivial) ?_ ?_
 ·clear h;intro j104 x105 s101 g102 k103 hj104 hx104 h ih103;refine awp_seq (awp_rs ?_);refine w1 ?_;refine w1 ?_;refine w4 (st_lenD rfl un34) ?_;refine w4 (st_bin (v := dB (decide (((j104 : Nat) : Int) < ((a0.length : Nat) : Int)))) rfl rfl rfl) ?_;refine rw_nilk ?_;refine awp_ifT rfl (dlt hj104) ?_;refine awp_skip (nx_then (awp_seq (awp_block (awp_rs ?_))));refine w1 ?_;refine w1 ?_;refine w1 ?_;refine w4 (st_ixDn sl34 rfl rfl hx104) ?_;refine w4 (st_ldD (v := dI .i64 x105) ta3 rfl rfl) ?_;obtain ⟨y108, hy108, h⟩ := bind_some_elim h;refine rf rfl rfl (ok_skolemref03_Has hy108) rfl rfl ?_;refine w4 (st_un (v := dB (!y108)) rfl rfl) ?_;refine rw_nilk ?_;refine awp_ite (b := (!y108)) rfl (fun p109 => ?_) (fun p109 => ?_)
  ·replace h := ite_T p109 h;refine awp_rs ?_;refine w2 ?_;refine rw_nilk (awp_ret (rt_block (rt_then (rt_then (rt_block (rt_then ?_))))));injection h with h;subst h;exact ret_out (v := dB false) (resV_one (resVs_tmp rfl resVs_nil)) (.keep rfl)
  ·replace h := ite_F p109 h;refine awp_skip (nx_block (nx_then (awp_rw ?_)));refine w1 ?_;refine w4 (st_inc rfl rfl hj104 hl104) ?_;refine w2 ?_;refine rw_nil (nx_then ?_);refine awp_gh ?_ (ih103 () () h);exact (gf trivial)
 ·clear h;intro s101 g102 h;refine awp_seq (awp_rs ?_);refine w1 ?_;refine w1 ?_;refine w4 (st_lenD rfl un34) ?_;refine w4 (st_bin (v := dB (decide (((a0.length : Nat) : Int) < ((a0.length : Nat) : Int)))) rfl rfl rfl) ?_;refine rw_nilk ?_;refine awp_ifF rfl dge ?_;refine awp_exit (ex_out (ex_out (ex_in (nx_then (awp_rs ?_)))));refine w2 ?_;refine rw_nilk (awp_ret ?_);injection h with h;subst h;exact ret_out (v := dB true) (resV_one (resVs_tmp rfl resVs_nil)) (.keep rfl)

abbrev Z21_0 (a0 : S_api_Dqbf) : Nat × AObj := (1001, .row 0 37 [[dL 1 (eI .i64) a0.Univ, dL 2 e_S_api_Dep a0.Exist, dL 1 (eL 1 (eI .i64)) a0.Clauses]])

theorem ok_skolemref03_MayDqbf {a0 : S_api_Dqbf} {r : Bool} (h : F_skolemref03_MayDqbf a0 = some r) : Fn Try.prog 21 [.agg [dL 1 (eI .i64) a0.Univ, dL 2 e_S_api_Dep a0.Exist, dL 1 (eL 1 (eI .i64)) a0.Clauses]] (dB r) := by
 unfold F_skolemref03_MayDqbf at h;refine Fn.of_body (N := 70) (rs := [.tmp 2]) Try.func21 (c := _) rfl rfl rfl (by kernel_rfl) (Nat.le_of_ble_eq_true rfl) (fun _B => ?_);refine awp_rs ?_;refine w8 (r := 1001) (st_box rfl rfl rfl co37 rfl rfl) ?_;refine w2 ?_;refine rw_nilk (awp_rs ?_);refine w4 (st_ldP (v := .agg [dL 1 (eI .i64) a0.Univ, dL 2 e_S_api_Dep a0.Exist, dL 1 (eL 1 (eI .i64)) a0.Clauses]) ta37 rfl rfl rfl rfl) ?_;obtain ⟨y101, hy101, h⟩ := bind_some_elim h;refine rf rfl rfl (ok_skolemref03_All hy101) rfl rfl ?_;refine w2 ?_;refine rw_nilk (awp_seq ?_);refine awp_jn (fun (s139 : Bool) (g140 : Unit) => [(1, .ptr 1001 0 0 0), (42, dB s139)]) (fun (s139 : Bool) (g140 : Unit) => [Z21_0 a0]) h ?_ ?_
 ·clear h;intro s139 g140 h;refine awp_ite (b := s139) rfl (fun p142 => ?_) (fun p142 => ?_)
  ·replace h := ite_T p142 h;refine awp_rs ?_;refine w2 ?_;refine rw_nilk (awp_ret (rt_then ?_));injection h with h;subst h;exact ret_out (v := dB false) (resV_one (resVs_tmp rfl resVs_nil)) (.keep rfl)
  ·replace h := ite_F p142 h;refine awp_skip (nx_then (awp_seq (awp_rs ?_)));refine w2 ?_;refine rw_nilk (awp_block ?_);refine awp_lenC (r := 1001) (i := 1) rfl rfl (fun hl146 => ?_);rw [List.length_map] at hl146;refine awp_range (fun (j146 : Nat) (s143 : Unit) (g144 : Unit) => [(1, .ptr 1001 0 0 0), (4, dI .i64 ((j146 : Nat) : Int))]) (fun (s143 : Unit) (g144 : Unit) => [Z21_0 a0]) () (fun _ _ _ h => h) h (gf ⟨ko, trivial⟩) ?_ ?_
   ·clear h;intro j146 x147 s143 g144 k145 hj146 hx146 h ih145;refine awp_seq (awp_rs ?_);refine w1 ?_;refine w4 (st_faP fo37_1 rfl) ?_;refine w4 (st_ldP (v := dL 2 e_S_api_Dep a0.Exist) ta35 rfl rfl rfl rfl) ?_;refine w4 (st_lenD rfl un35) ?_;refine w4 (st_bin (v := dB (decide (((j146 : Nat) : Int) < ((a0.Exist.length : Nat) : Int)))) rfl rfl rfl) ?_;refine rw_nilk ?_;refine awp_ifT rfl (dlt hj146) ?_;refine awp_skip (nx_then (awp_seq (awp_block ?_)));refine awp_jn (fun (s181 : Bool) (g182 : Unit) => [(1, .ptr 1001 0 0 0), (4, dI .i64 ((j146 : Nat) : Int)), (69, dB s181)]) (fun (s181 : Bool) (g182 : Unit) => [Z21_0 a0]) h ?_ ?_
    ·clear h;intro s181 g182 h;refine awp_ite (b := s181) rfl (fun p184 => ?_) (fun p184 => ?_)
     ·replace h := ite_T p184 h;refine awp_rs ?_;refine w2 ?_;refine rw_nilk (awp_ret (rt_block (rt_then (rt_then (rt_block (rt_then ?_))))));injection h with h;subst h;exact ret_out (v := dB false) (resV_one (resVs_tmp rfl resVs_nil)) (.keep rfl)
     ·replace h := ite_F p184 h;refine awp_skip (nx_block (nx_then (awp_rw ?_)));refine w1 ?_;refine w4 (st_inc rfl rfl hj146 hl146) ?_;refine w2 ?_;refine rw_nil (nx_then ?_);refine awp_gh ?_ (ih145 () () h);exact (gf ⟨ko, trivial⟩)
    ·clear h;intro k183 h J183;refine awp_rd hmix ?_;refine w7 (st_faP fo37_1 rfl) ?_;refine w7 (st_ldP (v := dL 2 e_S_api_Dep a0.Exist) ta35 rfl rfl rfl rfl) ?_;refine w7 (st_mv rfl) ?_;refine w7 (st_ixDn sl35 rfl rfl hx146) ?_;refine w7 (st_faD fo51_1 rfl) ?_;refine w7 (st_ldD (v := dL 1 (eI .i64) x147.On) ta34 rfl rfl) ?_;obtain ⟨y185, hy185, h⟩ := bind_some_elim h;refine df rfl rfl (ok_skolemref03_Rises hy185) rfl rfl ?_;refine w7 (st_un (v := dB (!y185)) rfl rfl) ?_;refine w7 (st_mv rfl) ?_;refine bool_split (!y185) (fun p186 => ?_) (fun p186 => ?_)
     ·replace h := ite_T p186 h;rw [p186];refine w5 ?_;refine w5 ?_;refine w5 ?_;refine w5 ?_;refine w5 ?_;refine w5 ?_;refine w5 ?_;refine w5 ?_;refine w5 ?_;refine w5 ?_;refine w7 (st_pickT rfl rfl) ?_;refine rd_nil (by kernel_rfl) ?_;refine nx_then ?_;exact J183 true () _ _ h (gf ⟨ko, trivial⟩)
     ·replace h := ite_F p186 h;rw [p186];refine w7 (st_faP fo37_1 rfl) ?_;refine w7 (st_ldP (v := dL 2 e_S_api_Dep a0.Exist) ta35 rfl rfl rfl rfl) ?_;refine w7 (st_mv rfl) ?_;refine w7 (st_ixDn sl35 rfl rfl hx146) ?_;refine w7 (st_faD fo51_1 rfl) ?_;refine w7 (st_ldD (v := dL 1 (eI .i64) x147.On) ta34 rfl rfl) ?_;refine w7 (st_faP fo37_0 rfl) ?_;refine w7 (st_ldP (v := dL 1 (eI .i64) a0.Univ) ta34 rfl rfl rfl rfl) ?_;obtain ⟨y187, hy187, h⟩ := bind_some_elim h;refine df rfl rfl (ok_skolemref03_Part hy187) rfl rfl ?_;refine w7 (st_un (v := dB (!y187)) rfl rfl) ?_;refine w7 (st_pickF rfl rfl) ?_;refine rd_nil (by kernel_rfl) ?_;refine nx_then ?_;exact J183 (!y187) () _ _ h (gf ⟨ko, trivial⟩)
   ·clear h;intro s143 g144 h;refine awp_seq (awp_rs ?_);refine w1 ?_;refine w4 (st_faP fo37_1 rfl) ?_;refine w4 (st_ldP (v := dL 2 e_S_api_Dep a0.Exist) ta35 rfl rfl rfl rfl) ?_;refine w4 (st_lenD rfl un35) ?_;refine w4 (st_bin (v := dB (decide (((a0.Exist.length : Nat) : Int) < ((a0.Exist.length : Nat) : Int)))) rfl rfl rfl) ?_;refine rw_nilk ?_;refine awp_ifF rfl dge ?_;refine awp_exit (ex_out (ex_out (ex_in (nx_then (awp_rs ?_)))));refine w2 ?_;refine rw_nilk (awp_ret ?_);injection h with h;subst h;exact ret_out (v := dB true) (resV_one (resVs_tmp rfl resVs_nil)) (.keep rfl)
 ·clear h;intro k141 h J141;refine awp_rw ?_;refine w1 ?_;refine w4 (st_lenD rfl un34) ?_;refine w4 (st_bin (v := dB (decide (((y101.length : Nat) : Int) > 1024))) rfl rfl rfl) ?_;refine w1 ?_;refine bool_split (decide (((y101.length : Nat) : Int) > 1024)) (fun p188 => ?_) (fun p188 => ?_)
  ·replace h := ite_T p188 h;rw [p188];refine w3 ?_;refine w3 ?_;refine w3 ?_;refine w4 (st_pickT rfl rfl) ?_;refine w1 ?_;refine w3 ?_;refine w3 ?_;refine w3 ?_;refine w3 ?_;refine w4 (st_pickT rfl rfl) ?_;refine w1 ?_;refine w3 ?_;refine w3 ?_;refine w3 ?_;refine w3 ?_;refine w3 ?_;refine w3 ?_;refine w3 ?_;refine w4 (st_pickT rfl rfl) ?_;refine w1 ?_;refine w3 ?_;refine w3 ?_;refine w3 ?_;refine w3 ?_;refine w4 (st_pickT rfl rfl) ?_;refine w1 ?_;refine w3 ?_;refine w3 ?_;refine w3 ?_;refine w3 ?_;refine w3 ?_;refine w4 (st_pickT rfl rfl) ?_;refine rw_nil (nx_then ?_);exact J141 true () _ _ h (gf ⟨ko, trivial⟩)
  ·replace h := ite_F p188 h;rw [p188];refine w1 ?_;obtain ⟨y189, hy189, h⟩ := bind_some_elim h;refine rf rfl rfl (ok_skolemref03_single hy189) rfl rfl ?_;refine w4 (st_un (v := dB (!y189)) rfl rfl) ?_;refine w4 (st_pickF rfl rfl) ?_;refine w1 ?_;refine bool_split (!y189) (fun p190 => ?_) (fun p190 => ?_)
   ·replace h := ite_T p190 h;rw [p190];refine w3 ?_;refine w3 ?_;refine w3 ?_;refine w3 ?_;refine w4 (st_pickT rfl rfl) ?_;refine w1 ?_;refine w3 ?_;refine w3 ?_;refine w3 ?_;refine w3 ?_;refine w3 ?_;refine w3 ?_;refine w3 ?_;refine w4 (st_pickT rfl rfl) ?_;refine w1 ?_;refine w3 ?_;refine w3 ?_;refine w3 ?_;refine w3 ?_;refine w4 (st_pickT rfl rfl) ?_;refine w1 ?_;refine w3 ?_;refine w3 ?_;refine w3 ?_;refine w3 ?_;refine w3 ?_;refine w4 (st_pickT rfl rfl) ?_;refine rw_nil (nx_then ?_);exact J141 true () _ _ h (gf ⟨ko, trivial⟩)
   ·replace h := ite_F p190 h;rw [p190];refine w4 (st_faP fo37_0 rfl) ?_;refine w4 (st_ldP (v := dL 1 (eI .i64) a0.Univ) ta34 rfl rfl rfl rfl) ?_;obtain ⟨y191, hy191, h⟩ := bind_some_elim h;refine rf rfl rfl (ok_skolemref03_Rises hy191) rfl rfl ?_;refine w4 (st_un (v := dB (!y191)) rfl rfl) ?_;refine w4 (st_pickF rfl rfl) ?_;refine w1 ?_;refine bool_split (!y191) (fun p192 => ?_) (fun p192 => ?_)
    ·replace h := ite_T p192 h;rw [p192];refine w3 ?_;refine w3 ?_;refine w3 ?_;refine w3 ?_;refine w3 ?_;refine w3 ?_;refine w3 ?_;refine w4 (st_pickT rfl rfl) ?_;refine w1 ?_;refine w3 ?_;refine w3 ?_;refine w3 ?_;refine w3 ?_;refine w4 (st_pickT rfl rfl) ?_;refine w1 ?_;refine w3 ?_;refine w3 ?_;refine w3 ?_;refine w3 ?_;refine w3 ?_;refine w4 (st_pickT rfl rfl) ?_;refine rw_nil (nx_then ?_);exact J141 true () _ _ h (gf ⟨ko, trivial⟩)
    ·replace h := ite_F p192 h;rw [p192];refine w1 ?_;refine w4 (st_faP fo37_0 rfl) ?_;refine w4 (st_ldP (v := dL 1 (eI .i64) a0.Univ) ta34 rfl rfl rfl rfl) ?_;refine w4 (st_lenD rfl un34) ?_;obtain ⟨c193, h⟩ := okI_some h;refine w4 (st_slLo sl34 rfl rfl c193.1 c193.2) ?_;obtain ⟨y194, hy194, h⟩ := bind_some_elim h;refine rf rfl rfl (ok_skolemref03_Rises hy194) rfl rfl ?_;refine w4 (st_un (v := dB (!y194)) rfl rfl) ?_;refine w4 (st_pickF rfl rfl) ?_;refine w1 ?_;refine bool_split (!y194) (fun p195 => ?_) (fun p195 => ?_)
     ·replace h := ite_T p195 h;rw [p195];refine w3 ?_;refine w3 ?_;refine w3 ?_;refine w3 ?_;refine w4 (st_pickT rfl rfl) ?_;refine w1 ?_;refine w3 ?_;refine w3 ?_;refine w3 ?_;refine w3 ?_;refine w3 ?_;refine w4 (st_pickT rfl rfl) ?_;refine rw_nil (nx_then ?_);exact J141 true () _ _ h (gf ⟨ko, trivial⟩)
     ·replace h := ite_F p195 h;rw [p195];refine w4 (st_faP fo37_2 rfl) ?_;refine w4 (st_ldP (v := dL 1 (eL 1 (eI .i64)) a0.Clauses) ta23 rfl rfl rfl rfl) ?_;obtain ⟨y196, hy196, h⟩ := bind_some_elim h;refine rf rfl rfl (ok_skolemref03_Cnf hy196) rfl rfl ?_;refine w4 (st_un (v := dB (!y196)) rfl rfl) ?_;refine w4 (st_pickF rfl rfl) ?_;refine w1 ?_;refine bool_split (!y196) (fun p197 => ?_) (fun p197 => ?_)
      ·replace h := ite_T p197 h;rw [p197];refine w3 ?_;refine w3 ?_;refine w3 ?_;refine w3 ?_;refine w3 ?_;refine w4 (st_pickT rfl rfl) ?_;refine rw_nil (nx_then ?_);exact J141 true () _ _ h (gf ⟨ko, trivial⟩)
      ·replace h := ite_F p197 h;rw [p197];refine w4 (st_faP fo37_2 rfl) ?_;refine w4 (st_ldP (v := dL 1 (eL 1 (eI .i64)) a0.Clauses) ta23 rfl rfl rfl rfl) ?_;refine w1 ?_;obtain ⟨y198, hy198, h⟩ := bind_some_elim h;refine rf rfl rfl (ok_skolemref03_within hy198) rfl rfl ?_;refine w4 (st_un (v := dB (!y198)) rfl rfl) ?_;refine w4 (st_pickF rfl rfl) ?_;refine rw_nil (nx_then ?_);exact J141 (!y198) () _ _ h (gf ⟨ko, trivial⟩)

abbrev Z6_0 (a0 : S_api_Dqbf) : Nat × AObj := (1001, .row 0 37 [[dL 1 (eI .i64) a0.Univ, dL 2 e_S_api_Dep a0.Exist, dL 1 (eL 1 (eI .i64)) a0.Clauses]])
abbrev Z6_1 (a0 : S_api_Dqbf) (s530 : (List S_api_Dep)) : Nat × AObj := (1002, .row 0 37 [[dL 1 (eI .i64) a0.Univ, .slice 1003 0 0 s530.length, dL 1 (eL 1 (eI .i64)) a0.Clauses]])
abbrev Z6_2 (a0 : S_api_Dqbf) : Nat × AObj := (1002, .row 0 37 [[dL 1 (eI .i64) a0.Univ, .slice 1003 0 0 a0.Exist.length, dL 1 (eL 1 (eI .i64)) a0.Clauses]])
abbrev Z6_3 (s530 : (List S_api_Dep)) : Nat × AObj := (1003, rw' 0 51 e_S_api_Dep s530)

theorem ok_skolemlaw04_TruthMore {a0 : S_api_Dqbf} {a1 : Int} {a2 : Int} {a3 : Int} {r : Bool} (h : F_skolemlaw04_TruthMore a0 a1 a2 a3 = some r) : Fn Try.prog 6 [.agg [dL 1 (eI .i64) a0.Univ, dL 2 e_S_api_Dep a0.Exist, dL 1 (eL 1 (eI .i64)) a0.Clauses], dI .u8 a1, dI .u8 a2, dI .u8 a3] (dB r) := by
 unfold F_skolemlaw04_TruthMore at h;refine Fn.of_body (N := 161) (rs := [.tmp 8]) Try.func6 (c := _) rfl rfl rfl (by kernel_rfl) (Nat.le_of_ble_eq_true rfl) (fun _B => ?_);refine awp_rs ?_;refine w8 (r := 1001) (st_box rfl rfl rfl co37 rfl rfl) ?_;refine w2 ?_;refine rw_nilk (awp_seq ?_);refine awp_jn (fun (s115 : Bool) (g116 : Unit) => [(1, dI .u8 a1), (2, dI .u8 a2), (3, dI .u8 a3), (4, .ptr 1001 0 0 0), (25, dB s115)]) (fun (s115 : Bool) (g116 : Unit) => [Z6_0 a0]) h ?_ ?_
 ·clear h;intro s115 g116 h;refine awp_ite (b := s115) rfl (fun p118 => ?_) (fun p118 => ?_)
  ·replace h := ite_T p118 h;refine awp_rs ?_;obtain ⟨y119, hy119, h⟩ := bind_some_elim h;refine rf rfl rfl (ok_skolemlaw04_head hy119) rfl rfl ?_;refine w2 ?_;refine rw_nilk (awp_ret (rt_then ?_));injection h with h;subst h;exact ret_out (v := dB y119) (resV_one (resVs_tmp rfl resVs_nil)) (.keep rfl)
  ·replace h := ite_F p118 h;refine awp_skip (nx_then (awp_rs ?_));refine w4 (st_ldP (v := .agg [dL 1 (eI .i64) a0.Univ, dL 2 e_S_api_Dep a0.Exist, dL 1 (eL 1 (eI .i64)) a0.Clauses]) ta37 rfl rfl rfl rfl) ?_;obtain ⟨y120, hy120, h⟩ := bind_some_elim h;refine rf rfl rfl (ok_truth_Dqbf hy120) rfl rfl ?_;refine w1 ?_;refine w4 (st_ext rfl rfl) ?_;refine w4 (st_ext rfl rfl) ?_;refine w2 ?_;refine w2 ?_;refine rw_nilk (awp_seq ?_);refine awp_jn (fun (s138 : Bool) (g139 : Unit) => [(1, dI .u8 a1), (2, dI .u8 a2), (3, dI .u8 a3), (4, .ptr 1001 0 0 0), (9, dI .u8 y120.1), (10, dI .i64 y120.2), (37, dB s138)]) (fun (s138 : Bool) (g139 : Unit) => [Z6_0 a0]) h ?_ ?_
   ·clear h;intro s138 g139 h;refine awp_ite (b := s138) rfl (fun p141 => ?_) (fun p141 => ?_)
    ·replace h := ite_T p141 h;refine awp_rs ?_;refine w1 ?_;refine w4 (st_bin (v := dB (y120.2 == 0)) rfl rfl rfl) ?_;refine w1 ?_;refine bool_split (y120.2 == 0) (fun p147 => ?_) (fun p147 => ?_)
     ·replace h := ite_T p147 h;rw [p147];refine w3 ?_;refine w3 ?_;refine w3 ?_;refine w3 ?_;refine w3 ?_;refine w3 ?_;refine w4 (st_pickT rfl rfl) ?_;refine w1 ?_;obtain ⟨y148, hy148, h⟩ := bind_some_elim h;refine rf rfl rfl (ok_skolemlaw04_head hy148) rfl rfl ?_;refine w4 (st_pickT rfl rfl) ?_;refine w2 ?_;refine rw_nilk (awp_ret (rt_then ?_));injection h with h;subst h;exact ret_out (v := dB y148) (resV_one (resVs_tmp rfl resVs_nil)) (.keep rfl)
     ·replace h := ite_F p147 h;rw [p147];refine w1 ?_;refine w4 (st_bin (v := dB (y120.2 == 3)) rfl rfl rfl) ?_;refine w1 ?_;refine bool_split (y120.2 == 3) (fun p149 => ?_) (fun p149 => ?_)
      ·replace h := ite_T p149 h;rw [p149];refine w1 ?_;refine w4 (st_bin (v := dB (y120.1 == 0)) rfl rfl rfl) ?_;refine w4 (st_pickT rfl rfl) ?_;refine w4 (st_pickF rfl rfl) ?_;refine w1 ?_;refine bool_split (y120.1 == 0) (fun p150 => ?_) (fun p150 => ?_)
       ·replace h := ite_T p150 h;rw [p150];obtain ⟨y151, hy151, h⟩ := bind_some_elim h;refine rf rfl rfl (ok_skolemlaw04_head hy151) rfl rfl ?_;refine w4 (st_pickT rfl rfl) ?_;refine w2 ?_;refine rw_nilk (awp_ret (rt_then ?_));injection h with h;subst h;exact ret_out (v := dB y151) (resV_one (resVs_tmp rfl resVs_nil)) (.keep rfl)
       ·replace h := ite_F p150 h;rw [p150];refine w3 ?_;refine w4 (st_pickF rfl rfl) ?_;refine w2 ?_;refine rw_nilk (awp_ret (rt_then ?_));injection h with h;subst h;exact ret_out (v := dB false) (resV_one (resVs_tmp rfl resVs_nil)) (.keep rfl)
      ·replace h := ite_F p149 h;rw [p149];refine w3 ?_;refine w3 ?_;refine w4 (st_pickF rfl rfl) ?_;refine w4 (st_pickF rfl rfl) ?_;refine w1 ?_;refine w3 ?_;refine w4 (st_pickF rfl rfl) ?_;refine w2 ?_;refine rw_nilk (awp_ret (rt_then ?_));injection h with h;subst h;exact ret_out (v := dB false) (resV_one (resVs_tmp rfl resVs_nil)) (.keep rfl)
    ·replace h := ite_F p141 h;refine awp_skip (nx_then (awp_rs ?_));refine w4 (st_faP fo37_0 rfl) ?_;refine w4 (st_ldP (v := dL 1 (eI .i64) a0.Univ) ta34 rfl rfl rfl rfl) ?_;refine w4 (st_faP fo37_2 rfl) ?_;refine w4 (st_ldP (v := dL 1 (eL 1 (eI .i64)) a0.Clauses) ta23 rfl rfl rfl rfl) ?_;refine w4 (st_build (vs := [dL 1 (eI .i64) a0.Univ, .nilS, dL 1 (eL 1 (eI .i64)) a0.Clauses]) bl37 rfl rfl) ?_;refine w8 (r := 1002) (st_alloc zc37 rfl rfl) ?_;refine w9 (L' := [Z6_0 a0, (1002, .row 0 37 [[dL 1 (eI .i64) a0.Univ, .nilS, dL 1 (eL 1 (eI .i64)) a0.Clauses]])]) (st_stP ta37 rfl rfl rfl rfl rfl rfl rfl rfl) ?_;refine rw_nilk (awp_rs ?_);refine w4 (st_faP fo37_1 rfl) ?_;refine w4 (st_ldP (v := .nilS) ta35 rfl rfl rfl rfl) ?_;refine w4 (st_faP fo37_1 rfl) ?_;refine w4 (st_ldP (v := dL 2 e_S_api_Dep a0.Exist) ta35 rfl rfl rfl rfl) ?_;obtain ⟨c152, h⟩ := capN_some h;refine w8 (r := 1003) (st_appN (f := e_S_api_Dep) (ys := a0.Exist) sl35 zc51 rfl rfl rfl rfl news_dat c152) ?_;refine w4 (st_faP fo37_1 rfl) ?_
     refine w9 (L' := [Z6_0 a0, Z6_2 a0, (1003, rw' 0 51 e_S_api_Dep a0.Exist)]) (st_stP ta35 rfl rfl rfl rfl rfl rfl rfl rfl) ?_;refine rw_nilk ?_;refine awp_jn (fun (s530 : (List S_api_Dep)) (g531 : Unit) => [(3, dI .u8 a3), (4, .ptr 1001 0 0 0), (11, .ptr 1002 0 0 0)]) (fun (s530 : (List S_api_Dep)) (g531 : Unit) => [Z6_0 a0, Z6_1 a0 s530, Z6_3 s530]) h ?_ ?_
     ·clear h;intro s530 g531 h;refine awp_rs ?_;refine w4 (st_faP fo37_0 rfl) ?_;refine w4 (st_ldP (v := dL 1 (eI .i64) a0.Univ) ta34 rfl rfl rfl rfl) ?_;refine w4 (st_faP fo37_1 rfl) ?_;refine w4 (st_ldP (v := dL 2 e_S_api_Dep a0.Exist) ta35 rfl rfl rfl rfl) ?_;refine w4 (st_build (vs := [dL 1 (eI .i64) a0.Univ, dL 2 e_S_api_Dep a0.Exist, .nilS]) bl37 rfl rfl) ?_;refine w8 (r := 1010) (st_alloc zc37 rfl rfl) ?_;refine w9 (L' := [Z6_0 a0, Z6_1 a0 s530, Z6_3 s530, (1010, .row 0 37 [[dL 1 (eI .i64) a0.Univ, dL 2 e_S_api_Dep a0.Exist, .nilS]])]) (st_stP ta37 rfl rfl rfl rfl rfl rfl rfl rfl) ?_;refine rw_nilk (awp_seq (awp_rs ?_));refine w2 ?_;refine rw_nilk (awp_block ?_);refine awp_lenC (r := 1001) (i := 2) rfl rfl (fun hl536 => ?_);rw [List.length_map] at hl536
      refine awp_range (fun (j536 : Nat) (s533 : (List (List Int))) (g534 : Nat) => [(3, dI .u8 a3), (4, .ptr 1001 0 0 0), (11, .ptr 1002 0 0 0), (13, .ptr 1010 0 0 0), (14, dI .i64 ((j536 : Nat) : Int))]) (fun (s533 : (List (List Int))) (g534 : Nat) => [Z6_0 a0, Z6_1 a0 s530, Z6_3 s530, (1010, .row 0 37 [[dL 1 (eI .i64) a0.Univ, dL 2 e_S_api_Dep a0.Exist, .slice 1012 g534 0 s533.length]]), (1012, rw' g534 34 (eL 1 (eI .i64)) s533)]) 0 (fun _ _ _ h => h) h (Gh.trans (gh_nil (r := 1012) (E' := [(3, dI .u8 a3), (4, .ptr 1001 0 0 0), (11, .ptr 1002 0 0 0), (13, .ptr 1010 0 0 0), (14, dI .i64 0)]) (L' := [Z6_0 a0, Z6_1 a0 s530, Z6_3 s530, (1010, .row 0 37 [[dL 1 (eI .i64) a0.Univ, dL 2 e_S_api_Dep a0.Exist, .slice 1012 0 0 (([] : List (List Int)).length)]])]) rfl co34 rfl rfl ⟨⟨_, rfl, .keep _⟩, ⟨_, rfl, .keep _⟩, ⟨_, rfl, .keep _⟩, ⟨_, rfl, .keep _⟩, ⟨_, rfl, .keep _⟩, trivial⟩ ⟨⟨_, rfl, .keep _⟩, ⟨_, rfl, .keep _⟩, ⟨_, rfl, .keep _⟩, ⟨_, rfl, nilOne ⟨.keep _, .keep _, .nil, trivial⟩⟩, trivial⟩) (gf ⟨ko, ko, kw, ko, ⟨_, rfl, objRow (List.map (eL 1 (eI .i64)) ([] : List (List Int)))⟩, trivial⟩)) ?_ ?_
      ·clear h;intro j536 x537 s533 g534 k535 hj536 hx536 h ih535;refine awp_seq (awp_rs ?_);refine w1 ?_;refine w4 (st_faP fo37_2 rfl) ?_;refine w4 (st_ldP (v := dL 1 (eL 1 (eI .i64)) a0.Clauses) ta23 rfl rfl rfl rfl) ?_;refine w4 (st_lenD rfl un23) ?_;refine w4 (st_bin (v := dB (decide (((j536 : Nat) : Int) < ((a0.Clauses.length : Nat) : Int)))) rfl rfl rfl) ?_;refine rw_nilk ?_;refine awp_ifT rfl (dlt hj536) ?_;refine awp_skip (nx_then ?_);refine awp_jn (fun (s568 : (List (List Int))) (g569 : Nat) => [(3, dI .u8 a3), (4, .ptr 1001 0 0 0), (11, .ptr 1002 0 0 0), (13, .ptr 1010 0 0 0), (14, dI .i64 ((j536 : Nat) : Int))]) (fun (s568 : (List (List Int))) (g569 : Nat) => [Z6_0 a0, Z6_1 a0 s530, Z6_3 s530, (1010, .row 0 37 [[dL 1 (eI .i64) a0.Univ, dL 2 e_S_api_Dep a0.Exist, .slice 1012 g569 0 s568.length]]), (1012, rw' g569 34 (eL 1 (eI .i64)) s568)]) h ?_ ?_
       ·clear h;intro s568 g569 h;refine awp_rw ?_;refine w1 ?_;refine w4 (st_inc rfl rfl hj536 hl536) ?_;refine w2 ?_;refine rw_nil (nx_then ?_);refine awp_gh ?_ (ih535 s568 g569 h);exact (gf ⟨ko, ko, kw, ko, kw, trivial⟩)
       ·clear h;intro k570 h J570;refine awp_block (awp_rs ?_);refine w1 ?_;refine w1 ?_;refine w4 (st_conv rfl un5 un3) ?_;refine w4 (st_faP fo37_2 rfl) ?_;refine w4 (st_ldP (v := dL 1 (eL 1 (eI .i64)) a0.Clauses) ta23 rfl rfl rfl rfl) ?_;refine w4 (st_lenD rfl un23) ?_;obtain ⟨c571, h⟩ := okI_some h;refine w4 (st_rem rfl rfl c571) ?_;refine w4 (st_bin (v := dB (((j536 : Nat) : Int) != (Int.tmod (IntKind.wrap .i64 a3) ((a0.Clauses.length : Nat) : Int)))) rfl rfl rfl) ?_;refine rw_nilk ?_;refine awp_ite (b := (((j536 : Nat) : Int) != (Int.tmod (IntKind.wrap .i64 a3) ((a0.Clauses.length : Nat) : Int)))) rfl (fun p572 => ?_) (fun p572 => ?_)
        ·replace h := ite_T p572 h;refine awp_rd hmix ?_;refine w7 (st_faP fo37_2 rfl) ?_;refine w7 (st_ldP (v := .slice 1012 g534 0 s533.length) ta23 rfl rfl rfl rfl) ?_;refine w7 (st_faP fo37_2 rfl) ?_;refine w7 (st_ldP (v := dL 1 (eL 1 (eI .i64)) a0.Clauses) ta23 rfl rfl rfl rfl) ?_;refine w7 (st_mv rfl) ?_;refine w7 (st_ixDn sl23 rfl rfl hx536) ?_;refine w7 (st_ldD (v := dL 1 (eI .i64) x537) ta34 rfl rfl) ?_;refine dn (r := 1013) rfl rfl (st_bsl (els := [[dL 1 (eI .i64) x537]]) sl23 zc34 rfl rfl rfl rfl rfl) rfl rfl rfl rfl ?_;obtain ⟨c573, h⟩ := capN_some h;refine dn (r := 0) (L' := [Z6_0 a0, Z6_1 a0 s530, Z6_3 s530, (1010, .row 0 37 [[dL 1 (eI .i64) a0.Univ, dL 2 e_S_api_Dep a0.Exist, .slice 1012 g534 0 s533.length]]), (1012, rw' (g534 + 2) 34 (eL 1 (eI .i64)) (s533 ++ [x537])), (1013, .row 1 34 [[dL 1 (eI .i64) x537]])]) rfl rfl (st_appR (f := (eL 1 (eI .i64))) (xs := s533) (ys := [x537]) sl23 zc34 rfl rfl rfl rfl rfl (news_one (a := x537) rfl rfl) c573) rfl rfl rfl rfl ?_;refine w7 (st_faP fo37_2 rfl) ?_
         refine dx (L' := [Z6_0 a0, Z6_1 a0 s530, Z6_3 s530, (1010, .row 0 37 [[dL 1 (eI .i64) a0.Univ, dL 2 e_S_api_Dep a0.Exist, .slice 1012 (g534 + 2) 0 ((s533 ++ [x537]).length)]]), (1012, rw' (g534 + 2) 34 (eL 1 (eI .i64)) (s533 ++ [x537])), (1013, .row 1 34 [[dL 1 (eI .i64) x537]])]) rfl rfl (st_stP ta23 rfl rfl rfl rfl rfl rfl rfl rfl) rfl rfl rfl rfl ?_;refine rd_nil (by kernel_rfl) ?_;refine nx_block (nx_then ?_);exact J570 (s533 ++ [x537]) (g534 + 2) _ _ h (gf ⟨ko, ko, kw, ko, kw, trivial⟩)
        ·replace h := ite_F p572 h;refine awp_skip (nx_block (nx_then ?_));exact J570 s533 g534 _ _ h (gf ⟨ko, ko, kw, ko, kw, trivial⟩)
      ·clear h;intro s533 g534 h;refine awp_seq (awp_rs ?_);refine w1 ?_;refine w4 (st_faP fo37_2 rfl) ?_;refine w4 (st_ldP (v := dL 1 (eL 1 (eI .i64)) a0.Clauses) ta23 rfl rfl rfl rfl) ?_;refine w4 (st_lenD rfl un23) ?_;refine w4 (st_bin (v := dB (decide (((a0.Clauses.length : Nat) : Int) < ((a0.Clauses.length : Nat) : Int)))) rfl rfl rfl) ?_;refine rw_nilk ?_;refine awp_ifF rfl dge ?_;refine awp_exit (ex_out (ex_out (ex_in (nx_then (awp_rs ?_)))));refine w4 (st_ldP (v := .agg [dL 1 (eI .i64) a0.Univ, dL 2 e_S_api_Dep a0.Exist, .slice 1012 g534 0 s533.length]) ta37 rfl rfl rfl rfl) ?_;obtain ⟨y574, hy574, h⟩ := bind_some_elim h;refine rl rfl rfl (ok_truth_Dqbf hy574) rfl ⟨frz_agg ⟨(.keep rfl), (.keep rfl), (frzT rfl rfl co34 rfl), trivial⟩, trivial⟩ rfl ?_;refine w1 ?_;refine w4 (st_ext rfl rfl) ?_;refine w4 (st_ext rfl rfl) ?_;refine w2 ?_;refine w2 ?_;refine rw_nilk (awp_seq ?_);refine awp_jn (fun (s582 : Bool) (g583 : Unit) => [(11, .ptr 1002 0 0 0), (142, dB s582)]) (fun (s582 : Bool) (g583 : Unit) => [Z6_1 a0 s530, Z6_3 s530]) h ?_ ?_
       ·clear h;intro s582 g583 h;refine awp_ite (b := s582) rfl (fun p585 => ?_) (fun p585 => ?_)
        ·replace h := ite_T p585 h;refine awp_rs ?_;refine w2 ?_;refine rw_nilk (awp_ret (rt_then ?_));injection h with h;subst h;exact ret_out (v := dB false) (resV_one (resVs_tmp rfl resVs_nil)) (.keep rfl)
        ·replace h := ite_F p585 h;refine awp_skip (nx_then (awp_rs ?_));refine w4 (st_ldP (v := .agg [dL 1 (eI .i64) a0.Univ, .slice 1003 0 0 s530.length, dL 1 (eL 1 (eI .i64)) a0.Clauses]) ta37 rfl rfl rfl rfl) ?_;obtain ⟨y586, hy586, h⟩ := bind_some_elim h;refine rl rfl rfl (ok_truth_Dqbf hy586) rfl ⟨frz_agg ⟨(.keep rfl), (frzT rfl rfl co51 rfl), (.keep rfl), trivial⟩, trivial⟩ rfl ?_;refine w1 ?_;refine w4 (st_ext rfl rfl) ?_;refine w4 (st_ext rfl rfl) ?_;refine w2 ?_;refine w2 ?_;refine rw_nilk (awp_rs ?_);refine w1 ?_;refine w4 (st_bin (v := dB (y586.2 == 0)) rfl rfl rfl) ?_;refine w1 ?_;refine bool_split (y586.2 == 0) (fun p594 => ?_) (fun p594 => ?_)
         ·replace h := ite_T p594 h;rw [p594];refine w1 ?_;refine w4 (st_bin (v := dB (y586.1 == 1)) rfl rfl rfl) ?_;refine w4 (st_pickT rfl rfl) ?_;refine w1 ?_;refine bool_split (y586.1 == 1) (fun p595 => ?_) (fun p595 => ?_)
          ·replace h := ite_T p595 h;rw [p595];refine w3 ?_;refine w3 ?_;refine w4 (st_pickT rfl rfl) ?_;refine w1 ?_;obtain ⟨y596, hy596, h⟩ := bind_some_elim h;refine rf rfl rfl (ok_skolemlaw04_head hy596) rfl rfl ?_;refine w4 (st_pickT rfl rfl) ?_;refine w2 ?_;refine rw_nilk (awp_ret ?_);injection h with h;subst h;exact ret_out (v := dB y596) (resV_one (resVs_tmp rfl resVs_nil)) (.keep rfl)
          ·replace h := ite_F p595 h;rw [p595];refine w1 ?_;refine w4 (st_bin (v := dB (y586.2 == 3)) rfl rfl rfl) ?_;refine w4 (st_pickF rfl rfl) ?_;refine w1 ?_;refine bool_split (y586.2 == 3) (fun p597 => ?_) (fun p597 => ?_)
           ·replace h := ite_T p597 h;rw [p597];obtain ⟨y598, hy598, h⟩ := bind_some_elim h;refine rf rfl rfl (ok_skolemlaw04_head hy598) rfl rfl ?_;refine w4 (st_pickT rfl rfl) ?_;refine w2 ?_;refine rw_nilk (awp_ret ?_);injection h with h;subst h;exact ret_out (v := dB y598) (resV_one (resVs_tmp rfl resVs_nil)) (.keep rfl)
           ·replace h := ite_F p597 h;rw [p597];refine w3 ?_;refine w4 (st_pickF rfl rfl) ?_;refine w2 ?_;refine rw_nilk (awp_ret ?_);injection h with h;subst h;exact ret_out (v := dB false) (resV_one (resVs_tmp rfl resVs_nil)) (.keep rfl)
         ·replace h := ite_F p594 h;rw [p594];refine w3 ?_;refine w3 ?_;refine w4 (st_pickF rfl rfl) ?_;refine w1 ?_;refine w1 ?_;refine w4 (st_bin (v := dB (y586.2 == 3)) rfl rfl rfl) ?_;refine w4 (st_pickF rfl rfl) ?_;refine w1 ?_;refine bool_split (y586.2 == 3) (fun p599 => ?_) (fun p599 => ?_)
          ·replace h := ite_T p599 h;rw [p599];obtain ⟨y600, hy600, h⟩ := bind_some_elim h;refine rf rfl rfl (ok_skolemlaw04_head hy600) rfl rfl ?_;refine w4 (st_pickT rfl rfl) ?_;refine w2 ?_;refine rw_nilk (awp_ret ?_);injection h with h;subst h;exact ret_out (v := dB y600) (resV_one (resVs_tmp rfl resVs_nil)) (.keep rfl)
          ·replace h := ite_F p599 h;rw [p599];refine w3 ?_;refine w4 (st_pickF rfl rfl) ?_;refine w2 ?_;refine rw_nilk (awp_ret ?_);injection h with h;subst h;exact ret_out (v := dB false) (resV_one (resVs_tmp rfl resVs_nil)) (.keep rfl)
       ·clear h;intro k584 h J584;refine awp_rw ?_;refine w1 ?_;refine w4 (st_bin (v := dB (y574.2 != 0)) rfl rfl rfl) ?_;refine w1 ?_;refine bool_split (y574.2 != 0) (fun p601 => ?_) (fun p601 => ?_)
        ·replace h := ite_T p601 h;rw [p601];refine w3 ?_;refine w3 ?_;refine w4 (st_pickT rfl rfl) ?_;refine rw_nil (nx_then ?_);exact J584 true () _ _ h (gf ⟨ko, kw, trivial⟩)
        ·replace h := ite_F p601 h;rw [p601];refine w1 ?_;refine w4 (st_bin (v := dB (y574.1 != 1)) rfl rfl rfl) ?_;refine w4 (st_pickF rfl rfl) ?_;refine rw_nil (nx_then ?_);exact J584 (y574.1 != 1) () _ _ h (gf ⟨ko, kw, trivial⟩)
     ·clear h;intro k532 h J532;refine awp_jn (fun (s603 : Bool) (g604 : Unit) => [(1, dI .u8 a1), (2, dI .u8 a2), (3, dI .u8 a3), (4, .ptr 1001 0 0 0), (11, .ptr 1002 0 0 0), (71, dB s603)]) (fun (s603 : Bool) (g604 : Unit) => [Z6_0 a0, Z6_2 a0, (1003, rw' 0 51 e_S_api_Dep a0.Exist)]) h ?_ ?_
      ·clear h;intro s603 g604 h;refine awp_ite (b := s603) rfl (fun p606 => ?_) (fun p606 => ?_)
       ·replace h := ite_T p606 h;refine awp_rs ?_;refine w1 ?_;refine w4 (st_conv rfl un5 un3) ?_;refine w4 (st_faP fo37_1 rfl) ?_;refine w4 (st_ldP (v := dL 2 e_S_api_Dep a0.Exist) ta35 rfl rfl rfl rfl) ?_;refine w4 (st_lenD rfl un35) ?_;obtain ⟨c607, h⟩ := okI_some h;refine w4 (st_rem rfl rfl c607) ?_;refine w2 ?_;refine rw_nilk ?_;refine awp_rd hmix ?_;refine w7 (st_faP fo37_1 rfl) ?_;refine w7 (st_ldP (v := .slice 1003 0 0 a0.Exist.length) ta35 rfl rfl rfl rfl) ?_;refine w7 (st_mv rfl) ?_;refine dn (r := 1004) rfl rfl (st_bsl (els := []) sl34 zc3 rfl rfl rfl rfl rfl) rfl rfl rfl rfl ?_;refine w7 (st_faP fo37_1 rfl) ?_;refine w7 (st_ldP (v := dL 2 e_S_api_Dep a0.Exist) ta35 rfl rfl rfl rfl) ?_;refine w7 (st_mv rfl) ?_;obtain ⟨x608, h0608, hx608, h⟩ := getI_some h;refine w7 (st_ixD sl35 rfl rfl h0608 hx608) ?_;refine w7 (st_faD fo51_1 rfl) ?_;refine w7 (st_ldD (v := dL 1 (eI .i64) x608.On) ta34 rfl rfl) ?_;obtain ⟨c609, h⟩ := capN_some h
        refine dn (r := 0) (L' := [Z6_0 a0, Z6_2 a0, (1003, rw' 0 51 e_S_api_Dep a0.Exist), (1004, rw' 3 3 (eI .i64) (([] : List Int) ++ x608.On))]) rfl rfl (st_appR (f := (eI .i64)) (xs := ([] : List Int)) (ys := x608.On) sl34 zc3 rfl rfl rfl rfl rfl news_dat c609) rfl rfl rfl rfl ?_;refine w7 (st_faP fo37_0 rfl) ?_;refine w7 (st_ldP (v := dL 1 (eI .i64) a0.Univ) ta34 rfl rfl rfl rfl) ?_;refine w7 (st_mv rfl) ?_;refine w7 (st_conv rfl un5 un3) ?_;refine w7 (st_faP fo37_0 rfl) ?_;refine w7 (st_ldP (v := dL 1 (eI .i64) a0.Univ) ta34 rfl rfl rfl rfl) ?_;refine w7 (st_lenD rfl un34) ?_;obtain ⟨c610, h⟩ := okI_some h;refine w7 (st_rem rfl rfl c610) ?_;obtain ⟨x611, h0611, hx611, h⟩ := getI_some h;refine w7 (st_ixD sl34 rfl rfl h0611 hx611) ?_;refine w7 (st_ldD (v := dI .i64 x611) ta3 rfl rfl) ?_;obtain ⟨y733, hy733, h⟩ := bind_some_elim h;rcases sum_split h with ⟨y734, he, h⟩ | ⟨y735, he, h⟩
        ·subst he;refine dcall (v := .slice 1004 3 0 ((([] : List Int) ++ x608.On).length)) (L0 := [(1004, rw' 3 3 (eI .i64) (([] : List Int) ++ x608.On))]) (L1 := [(1004, rw' 3 3 (eI .i64) (([] : List Int) ++ x608.On))]) (L' := [Z6_0 a0, Z6_2 a0, (1003, rw' 0 51 e_S_api_Dep a0.Exist), (1004, rw' 3 3 (eI .i64) (([] : List Int) ++ x608.On))]) rfl rfl rfl rfl ?_ ⟨rfl, trivial⟩ rfl ⟨closT, trivial⟩ rfl rfl ?_
         ·replace h := hy733;refine Ev.of_bodyX (N := 49) (rs := [.tmp 4]) Try.func22 (c := _) rfl rfl rfl (by kernel_rfl) rfl (Nat.le_of_ble_eq_true rfl) (fun _B => ?_);refine awp_rs ?_;refine w2 ?_;refine rw_nilk (awp_rs ?_);refine w2 ?_;refine rw_nilk (awp_rs ?_);refine w2 ?_;refine rw_nilk (awp_seq (awp_rs ?_));refine w2 ?_;refine rw_nilk (awp_block ?_);refine awp_lenT (r := 1004) rfl (fun hl739 => ?_)
          refine awp_range (fun (j739 : Nat) (s736 : (Bool × (List Int))) (g737 : Nat) => [(0, .slice 1004 3 0 ((([] : List Int) ++ x608.On).length)), (1, dI .i64 x611), (5, .slice 1006 g737 0 s736.2.length), (6, dB s736.1), (7, dI .i64 ((j739 : Nat) : Int))]) (fun (s736 : (Bool × (List Int))) (g737 : Nat) => [(1004, rw' 3 3 (eI .i64) (([] : List Int) ++ x608.On)), (1006, rw' g737 3 (eI .i64) s736.2)]) 0 (fun _ _ _ h => h) h (Gh.trans (gh_nil (r := 1006) (E' := [(0, .slice 1004 3 0 ((([] : List Int) ++ x608.On).length)), (1, dI .i64 x611), (5, .slice 1006 0 0 (([] : List Int).length)), (6, dB false), (7, dI .i64 0)]) (L' := [(1004, rw' 3 3 (eI .i64) (([] : List Int) ++ x608.On))]) rfl co3 rfl rfl ⟨⟨_, rfl, .keep _⟩, ⟨_, rfl, .keep _⟩, ⟨_, rfl, .nil⟩, ⟨_, rfl, .keep _⟩, ⟨_, rfl, .keep _⟩, trivial⟩ ⟨⟨_, rfl, .keep _⟩, trivial⟩) (gf ⟨kw, ⟨_, rfl, objRow (List.map (eI .i64) ([] : List Int))⟩, trivial⟩)) ?_ ?_
          ·clear h;intro j739 x740 s736 g737 k738 hj739 hx739 h ih738;refine awp_seq (awp_rs ?_);refine w1 ?_;refine w1 ?_;refine w4 (st_lenR rfl un34 rfl) ?_;refine w4 (st_bin (v := dB (decide (((j739 : Nat) : Int) < (((([] : List Int) ++ x608.On).length : Nat) : Int)))) rfl rfl rfl) ?_;refine rw_nilk ?_;refine awp_ifT rfl (dlt hj739) ?_;refine awp_skip (nx_then (awp_seq (awp_block (awp_seq (awp_rs ?_)))));refine w1 ?_;refine w1 ?_;refine w4 (st_ixRn sl34 rfl rfl rfl hx739 rfl) ?_;refine w4 (st_ldP (v := dI .i64 x740) ta3 rfl rfl (rowOf_map_get hx739) rfl) ?_;refine w1 ?_;refine w4 (st_bin (v := dB (x740 == x611)) rfl rfl rfl) ?_;refine rw_nilk ?_;refine awp_ite (b := (x740 == x611)) rfl (fun p834 => ?_) (fun p834 => ?_)
           ·replace h := ite_T p834 h;refine awp_rs ?_;refine w1 ?_;refine w2 ?_;refine rw_nilk (awp_ret (rt_then (rt_block (rt_then (rt_then (rt_block (rt_then ?_)))))));injection h with h;injection h with h;subst h;exact retX (v := .slice 1004 3 0 ((([] : List Int) ++ x608.On).length)) (resV_one (resVs_tmp rfl resVs_nil)) (.keep rfl) ⟨kw, trivial⟩
           ·replace h := ite_F p834 h;refine awp_skip (nx_then ?_);refine awp_jn (fun (s842 : (Bool × (List Int))) (g843 : Nat) => [(0, .slice 1004 3 0 ((([] : List Int) ++ x608.On).length)), (1, dI .i64 x611), (5, .slice 1006 g843 0 s842.2.length), (6, dB s842.1), (7, dI .i64 ((j739 : Nat) : Int))]) (fun (s842 : (Bool × (List Int))) (g843 : Nat) => [(1004, rw' 3 3 (eI .i64) (([] : List Int) ++ x608.On)), (1006, rw' g843 3 (eI .i64) s842.2)]) h ?_ ?_
            ·clear h;intro s842 g843 h;refine awp_rw ?_;refine w1 ?_;refine w1 ?_;refine w1 ?_;refine w4 (st_ixRn sl34 rfl rfl rfl hx739 rfl) ?_;refine w4 (st_ldP (v := dI .i64 x740) ta3 rfl rfl (rowOf_map_get hx739) rfl) ?_;refine w8 (r := 1008) (st_bsl (els := [[dI .i64 x740]]) sl34 zc3 rfl rfl rfl rfl rfl) ?_;obtain ⟨c845, h⟩ := capN_some h;refine rn (r := 0) (L' := [(1004, rw' 3 3 (eI .i64) (([] : List Int) ++ x608.On)), (1006, rw' (g843 + 2) 3 (eI .i64) (s842.2 ++ [x740])), (1008, .row 1 3 [[dI .i64 x740]])]) rfl rfl (st_appR (f := (eI .i64)) (xs := s842.2) (ys := [x740]) sl34 zc3 rfl rfl rfl rfl rfl (news_one (a := x740) rfl rfl) c845) rfl ?_;refine w2 ?_;refine rw_nil (nx_block (nx_then (awp_rw ?_)));refine w1 ?_;refine w4 (st_inc rfl rfl hj739 hl739) ?_;refine w2 ?_;refine rw_nil (nx_then ?_);refine awp_gh ?_ (ih738 (s842.1, (s842.2 ++ [x740])) (g843 + 2) h);exact (gf ⟨kw, kw, trivial⟩)
            ·clear h;intro k844 h J844;refine awp_jn (fun (s847 : Bool) (g848 : Unit) => [(0, .slice 1004 3 0 ((([] : List Int) ++ x608.On).length)), (1, dI .i64 x611), (5, .slice 1006 g737 0 s736.2.length), (6, dB s736.1), (7, dI .i64 ((j739 : Nat) : Int)), (30, dB s847)]) (fun (s847 : Bool) (g848 : Unit) => [(1004, rw' 3 3 (eI .i64) (([] : List Int) ++ x608.On)), (1006, rw' g737 3 (eI .i64) s736.2)]) h ?_ ?_
             ·clear h;intro s847 g848 h;refine awp_ite (b := s847) rfl (fun p850 => ?_) (fun p850 => ?_)
              ·replace h := ite_T p850 h;refine awp_rs ?_;refine w1 ?_;refine w1 ?_;refine w8 (r := 1007) (st_bsl (els := [[dI .i64 x611]]) sl34 zc3 rfl rfl rfl rfl rfl) ?_;obtain ⟨c851, h⟩ := capN_some h;refine rn (r := 0) (L' := [(1004, rw' 3 3 (eI .i64) (([] : List Int) ++ x608.On)), (1006, rw' (g737 + 2) 3 (eI .i64) (s736.2 ++ [x611])), (1007, .row 1 3 [[dI .i64 x611]])]) rfl rfl (st_appR (f := (eI .i64)) (xs := s736.2) (ys := [x611]) sl34 zc3 rfl rfl rfl rfl rfl (news_one (a := x611) rfl rfl) c851) rfl ?_;refine w2 ?_;refine rw_nilk (awp_rw ?_);refine w2 ?_;refine rw_nil (nx_then ?_);exact J844 (true, (s736.2 ++ [x611])) (g737 + 2) _ _ h (gf ⟨kw, kw, trivial⟩)
              ·replace h := ite_F p850 h;refine awp_skip (nx_then ?_);exact J844 (s736.1, s736.2) g737 _ _ h (gf ⟨kw, kw, trivial⟩)
             ·clear h;intro k849 h J849;refine awp_rw ?_;refine w1 ?_;refine w4 (st_un (v := dB (!s736.1)) rfl rfl) ?_;refine w1 ?_;refine bool_split (!s736.1) (fun p852 => ?_) (fun p852 => ?_)
              ·replace h := ite_T p852 h;rw [p852];refine w1 ?_;refine w1 ?_;refine w4 (st_ixRn sl34 rfl rfl rfl hx739 rfl) ?_;refine w4 (st_ldP (v := dI .i64 x740) ta3 rfl rfl (rowOf_map_get hx739) rfl) ?_;refine w1 ?_;refine w4 (st_bin (v := dB (decide (x740 > x611))) rfl rfl rfl) ?_;refine w4 (st_pickT rfl rfl) ?_;refine rw_nil (nx_then ?_);exact J849 (decide (x740 > x611)) () _ _ h (gf ⟨kw, kw, trivial⟩)
              ·replace h := ite_F p852 h;rw [p852];refine w3 ?_;refine w3 ?_;refine w3 ?_;refine w3 ?_;refine w3 ?_;refine w3 ?_;refine w4 (st_pickF rfl rfl) ?_;refine rw_nil (nx_then ?_);exact J849 false () _ _ h (gf ⟨kw, kw, trivial⟩)
          ·clear h;intro s736 g737 h;refine awp_seq (awp_rs ?_);refine w1 ?_;refine w1 ?_;refine w4 (st_lenR rfl un34 rfl) ?_;refine w4 (st_bin (v := dB (decide ((((([] : List Int) ++ x608.On).length : Nat) : Int) < (((([] : List Int) ++ x608.On).length : Nat) : Int)))) rfl rfl rfl) ?_;refine rw_nilk ?_;refine awp_ifF rfl dge ?_;refine awp_exit (ex_out (ex_out (ex_in (nx_then (awp_seq (awp_rs ?_))))));refine w1 ?_;refine w4 (st_un (v := dB (!s736.1)) rfl rfl) ?_;refine rw_nilk ?_;refine awp_ite (b := (!s736.1)) rfl (fun p855 => ?_) (fun p855 => ?_)
           ·replace h := ite_T p855 h;refine awp_rw ?_;refine w1 ?_;refine w1 ?_;refine w8 (r := 1009) (st_bsl (els := [[dI .i64 x611]]) sl34 zc3 rfl rfl rfl rfl rfl) ?_;obtain ⟨c856, h⟩ := capN_some h;refine rn (r := 0) (L' := [(1004, rw' 3 3 (eI .i64) (([] : List Int) ++ x608.On)), (1006, rw' (g737 + 2) 3 (eI .i64) (s736.2 ++ [x611])), (1009, .row 1 3 [[dI .i64 x611]])]) rfl rfl (st_appR (f := (eI .i64)) (xs := s736.2) (ys := [x611]) sl34 zc3 rfl rfl rfl rfl rfl (news_one (a := x611) rfl rfl) c856) rfl ?_;refine w2 ?_;refine rw_nil (nx_then (awp_rs ?_));refine w1 ?_;refine w2 ?_;refine rw_nilk ?_;refine awp_gh (gh_frz (E' := [(4, dL 1 (eI .i64) (s736.2 ++ [x611]))]) (L' := [(1004, rw' 3 3 (eI .i64) (([] : List Int) ++ x608.On)), (1009, .row 1 3 [[dI .i64 x611]])]) rfl rfl ⟨⟨_, rfl, frzT rfl rfl co3 rfl⟩, trivial⟩ ⟨kw, ko, trivial⟩) ?_;refine awp_ret ?_;injection h with h;cases h
           ·replace h := ite_F p855 h;refine awp_skip (nx_then (awp_rs ?_));refine w1 ?_;refine w2 ?_;refine rw_nilk ?_;refine awp_gh (gh_frz (E' := [(4, dL 1 (eI .i64) s736.2)]) (L' := [(1004, rw' 3 3 (eI .i64) (([] : List Int) ++ x608.On))]) rfl rfl ⟨⟨_, rfl, frzT rfl rfl co3 rfl⟩, trivial⟩ ⟨kw, trivial⟩) ?_;refine awp_ret ?_;injection h with h;cases h
         ·refine w7 (st_ixRi sl35 rfl rfl rfl h0608 hx608 rfl) ?_;refine w7 (st_faP fo51_1 rfl) ?_;refine dx (L' := [Z6_0 a0, Z6_2 a0, (1003, .row 0 51 ((rowOf (a0.Exist.map e_S_api_Dep)).set ((Int.tmod (IntKind.wrap .i64 a1) ((a0.Exist.length : Nat) : Int)).toNat) [dI .i64 x608.Var, .slice 1004 3 0 ((([] : List Int) ++ x608.On).length)])), (1004, rw' 3 3 (eI .i64) (([] : List Int) ++ x608.On))]) rfl rfl (st_stR (us := [dI .i64 x608.Var, .slice 1004 3 0 ((([] : List Int) ++ x608.On).length)]) ta34 rfl rfl rfl hx608 rfl rfl rfl rfl rfl) rfl rfl rfl rfl ?_;refine rd_nil (by kernel_rfl) ?_;refine nx_then ?_;exact J532 (a0.Exist.set ((Int.tmod (IntKind.wrap .i64 a1) ((a0.Exist.length : Nat) : Int)).toNat) (S_api_Dep.mk x608.Var (([] : List Int) ++ x608.On))) () _ _ h (gf ⟨ko, ⟨_, rfl, objOne ⟨kc, ⟨rfl, frzN rfl (by first | exact List.length_replicate.symm | exact (srt_length _).symm | simp [srt_length] | simp)⟩, kc, trivial⟩⟩, ⟨_, rfl, objSet ⟨kc, ⟨rfl, frzT rfl rfl co3 rfl⟩, trivial⟩⟩, trivial⟩)
        ·subst he;refine dcall (v := dL 1 (eI .i64) y735) (L0 := [(1004, rw' 3 3 (eI .i64) (([] : List Int) ++ x608.On))]) (L1 := [(1004, rw' 3 3 (eI .i64) (([] : List Int) ++ x608.On))]) (L' := [Z6_0 a0, Z6_2 a0, (1003, rw' 0 51 e_S_api_Dep a0.Exist), (1004, rw' 3 3 (eI .i64) (([] : List Int) ++ x608.On))]) rfl rfl rfl rfl ?_ ⟨rfl, trivial⟩ rfl ⟨closT, trivial⟩ rfl rfl ?_
         ·replace h := hy733;refine Ev.of_bodyX (N := 49) (rs := [.tmp 4]) Try.func22 (c := _) rfl rfl rfl (by kernel_rfl) rfl (Nat.le_of_ble_eq_true rfl) (fun _B => ?_);refine awp_rs ?_;refine w2 ?_;refine rw_nilk (awp_rs ?_);refine w2 ?_;refine rw_nilk (awp_rs ?_);refine w2 ?_;refine rw_nilk (awp_seq (awp_rs ?_));refine w2 ?_;refine rw_nilk (awp_block ?_);refine awp_lenT (r := 1004) rfl (fun hl860 => ?_)
          refine awp_range (fun (j860 : Nat) (s857 : (Bool × (List Int))) (g858 : Nat) => [(0, .slice 1004 3 0 ((([] : List Int) ++ x608.On).length)), (1, dI .i64 x611), (5, .slice 1006 g858 0 s857.2.length), (6, dB s857.1), (7, dI .i64 ((j860 : Nat) : Int))]) (fun (s857 : (Bool × (List Int))) (g858 : Nat) => [(1004, rw' 3 3 (eI .i64) (([] : List Int) ++ x608.On)), (1006, rw' g858 3 (eI .i64) s857.2)]) 0 (fun _ _ _ h => h) h (Gh.trans (gh_nil (r := 1006) (E' := [(0, .slice 1004 3 0 ((([] : List Int) ++ x608.On).length)), (1, dI .i64 x611), (5, .slice 1006 0 0 (([] : List Int).length)), (6, dB false), (7, dI .i64 0)]) (L' := [(1004, rw' 3 3 (eI .i64) (([] : List Int) ++ x608.On))]) rfl co3 rfl rfl ⟨⟨_, rfl, .keep _⟩, ⟨_, rfl, .keep _⟩, ⟨_, rfl, .nil⟩, ⟨_, rfl, .keep _⟩, ⟨_, rfl, .keep _⟩, trivial⟩ ⟨⟨_, rfl, .keep _⟩, trivial⟩) (gf ⟨kw, ⟨_, rfl, objRow (List.map (eI .i64) ([] : List Int))⟩, trivial⟩)) ?_ ?_
          ·clear h;intro j860 x861 s857 g858 k859 hj860 hx860 h ih859;refine awp_seq (awp_rs ?_);refine w1 ?_;refine w1 ?_;refine w4 (st_lenR rfl un34 rfl) ?_;refine w4 (st_bin (v := dB (decide (((j860 : Nat) : Int) < (((([] : List Int) ++ x608.On).length : Nat) : Int)))) rfl rfl rfl) ?_;refine rw_nilk ?_;refine awp_ifT rfl (dlt hj860) ?_;refine awp_skip (nx_then (awp_seq (awp_block (awp_seq (awp_rs ?_)))));refine w1 ?_;refine w1 ?_;refine w4 (st_ixRn sl34 rfl rfl rfl hx860 rfl) ?_;refine w4 (st_ldP (v := dI .i64 x861) ta3 rfl rfl (rowOf_map_get hx860) rfl) ?_;refine w1 ?_;refine w4 (st_bin (v := dB (x861 == x611)) rfl rfl rfl) ?_;refine rw_nilk ?_;refine awp_ite (b := (x861 == x611)) rfl (fun p955 => ?_) (fun p955 => ?_)
           ·replace h := ite_T p955 h;refine awp_rs ?_;refine w1 ?_;refine w2 ?_;refine rw_nilk (awp_ret (rt_then (rt_block (rt_then (rt_then (rt_block (rt_then ?_)))))));injection h with h;cases h
           ·replace h := ite_F p955 h;refine awp_skip (nx_then ?_);refine awp_jn (fun (s963 : (Bool × (List Int))) (g964 : Nat) => [(0, .slice 1004 3 0 ((([] : List Int) ++ x608.On).length)), (1, dI .i64 x611), (5, .slice 1006 g964 0 s963.2.length), (6, dB s963.1), (7, dI .i64 ((j860 : Nat) : Int))]) (fun (s963 : (Bool × (List Int))) (g964 : Nat) => [(1004, rw' 3 3 (eI .i64) (([] : List Int) ++ x608.On)), (1006, rw' g964 3 (eI .i64) s963.2)]) h ?_ ?_
            ·clear h;intro s963 g964 h;refine awp_rw ?_;refine w1 ?_;refine w1 ?_;refine w1 ?_;refine w4 (st_ixRn sl34 rfl rfl rfl hx860 rfl) ?_;refine w4 (st_ldP (v := dI .i64 x861) ta3 rfl rfl (rowOf_map_get hx860) rfl) ?_;refine w8 (r := 1008) (st_bsl (els := [[dI .i64 x861]]) sl34 zc3 rfl rfl rfl rfl rfl) ?_;obtain ⟨c966, h⟩ := capN_some h;refine rn (r := 0) (L' := [(1004, rw' 3 3 (eI .i64) (([] : List Int) ++ x608.On)), (1006, rw' (g964 + 2) 3 (eI .i64) (s963.2 ++ [x861])), (1008, .row 1 3 [[dI .i64 x861]])]) rfl rfl (st_appR (f := (eI .i64)) (xs := s963.2) (ys := [x861]) sl34 zc3 rfl rfl rfl rfl rfl (news_one (a := x861) rfl rfl) c966) rfl ?_;refine w2 ?_;refine rw_nil (nx_block (nx_then (awp_rw ?_)));refine w1 ?_;refine w4 (st_inc rfl rfl hj860 hl860) ?_;refine w2 ?_;refine rw_nil (nx_then ?_);refine awp_gh ?_ (ih859 (s963.1, (s963.2 ++ [x861])) (g964 + 2) h);exact (gf ⟨kw, kw, trivial⟩)
            ·clear h;intro k965 h J965;refine awp_jn (fun (s968 : Bool) (g969 : Unit) => [(0, .slice 1004 3 0 ((([] : List Int) ++ x608.On).length)), (1, dI .i64 x611), (5, .slice 1006 g858 0 s857.2.length), (6, dB s857.1), (7, dI .i64 ((j860 : Nat) : Int)), (30, dB s968)]) (fun (s968 : Bool) (g969 : Unit) => [(1004, rw' 3 3 (eI .i64) (([] : List Int) ++ x608.On)), (1006, rw' g858 3 (eI .i64) s857.2)]) h ?_ ?_
             ·clear h;intro s968 g969 h;refine awp_ite (b := s968) rfl (fun p971 => ?_) (fun p971 => ?_)
              ·replace h := ite_T p971 h;refine awp_rs ?_;refine w1 ?_;refine w1 ?_;refine w8 (r := 1007) (st_bsl (els := [[dI .i64 x611]]) sl34 zc3 rfl rfl rfl rfl rfl) ?_;obtain ⟨c972, h⟩ := capN_some h;refine rn (r := 0) (L' := [(1004, rw' 3 3 (eI .i64) (([] : List Int) ++ x608.On)), (1006, rw' (g858 + 2) 3 (eI .i64) (s857.2 ++ [x611])), (1007, .row 1 3 [[dI .i64 x611]])]) rfl rfl (st_appR (f := (eI .i64)) (xs := s857.2) (ys := [x611]) sl34 zc3 rfl rfl rfl rfl rfl (news_one (a := x611) rfl rfl) c972) rfl ?_;refine w2 ?_;refine rw_nilk (awp_rw ?_);refine w2 ?_;refine rw_nil (nx_then ?_);exact J965 (true, (s857.2 ++ [x611])) (g858 + 2) _ _ h (gf ⟨kw, kw, trivial⟩)
              ·replace h := ite_F p971 h;refine awp_skip (nx_then ?_);exact J965 (s857.1, s857.2) g858 _ _ h (gf ⟨kw, kw, trivial⟩)
             ·clear h;intro k970 h J970;refine awp_rw ?_;refine w1 ?_;refine w4 (st_un (v := dB (!s857.1)) rfl rfl) ?_;refine w1 ?_;refine bool_split (!s857.1) (fun p973 => ?_) (fun p973 => ?_)
              ·replace h := ite_T p973 h;rw [p973];refine w1 ?_;refine w1 ?_;refine w4 (st_ixRn sl34 rfl rfl rfl hx860 rfl) ?_;refine w4 (st_ldP (v := dI .i64 x861) ta3 rfl rfl (rowOf_map_get hx860) rfl) ?_;refine w1 ?_;refine w4 (st_bin (v := dB (decide (x861 > x611))) rfl rfl rfl) ?_;refine w4 (st_pickT rfl rfl) ?_;refine rw_nil (nx_then ?_);exact J970 (decide (x861 > x611)) () _ _ h (gf ⟨kw, kw, trivial⟩)
              ·replace h := ite_F p973 h;rw [p973];refine w3 ?_;refine w3 ?_;refine w3 ?_;refine w3 ?_;refine w3 ?_;refine w3 ?_;refine w4 (st_pickF rfl rfl) ?_;refine rw_nil (nx_then ?_);exact J970 false () _ _ h (gf ⟨kw, kw, trivial⟩)
          ·clear h;intro s857 g858 h;refine awp_seq (awp_rs ?_);refine w1 ?_;refine w1 ?_;refine w4 (st_lenR rfl un34 rfl) ?_;refine w4 (st_bin (v := dB (decide ((((([] : List Int) ++ x608.On).length : Nat) : Int) < (((([] : List Int) ++ x608.On).length : Nat) : Int)))) rfl rfl rfl) ?_;refine rw_nilk ?_;refine awp_ifF rfl dge ?_;refine awp_exit (ex_out (ex_out (ex_in (nx_then (awp_seq (awp_rs ?_))))));refine w1 ?_;refine w4 (st_un (v := dB (!s857.1)) rfl rfl) ?_;refine rw_nilk ?_;refine awp_ite (b := (!s857.1)) rfl (fun p976 => ?_) (fun p976 => ?_)
           ·replace h := ite_T p976 h;refine awp_rw ?_;refine w1 ?_;refine w1 ?_;refine w8 (r := 1009) (st_bsl (els := [[dI .i64 x611]]) sl34 zc3 rfl rfl rfl rfl rfl) ?_;obtain ⟨c977, h⟩ := capN_some h;refine rn (r := 0) (L' := [(1004, rw' 3 3 (eI .i64) (([] : List Int) ++ x608.On)), (1006, rw' (g858 + 2) 3 (eI .i64) (s857.2 ++ [x611])), (1009, .row 1 3 [[dI .i64 x611]])]) rfl rfl (st_appR (f := (eI .i64)) (xs := s857.2) (ys := [x611]) sl34 zc3 rfl rfl rfl rfl rfl (news_one (a := x611) rfl rfl) c977) rfl ?_;refine w2 ?_;refine rw_nil (nx_then (awp_rs ?_));refine w1 ?_;refine w2 ?_;refine rw_nilk ?_;refine awp_gh (gh_frz (E' := [(4, dL 1 (eI .i64) (s857.2 ++ [x611]))]) (L' := [(1004, rw' 3 3 (eI .i64) (([] : List Int) ++ x608.On)), (1009, .row 1 3 [[dI .i64 x611]])]) rfl rfl ⟨⟨_, rfl, frzT rfl rfl co3 rfl⟩, trivial⟩ ⟨kw, ko, trivial⟩) ?_;refine awp_ret ?_;injection h with h;injection h with h;subst h;exact retX (v := dL 1 (eI .i64) (s857.2 ++ [x611])) (resV_one (resVs_tmp rfl resVs_nil)) (.keep rfl) ⟨kw, trivial⟩
           ·replace h := ite_F p976 h;refine awp_skip (nx_then (awp_rs ?_));refine w1 ?_;refine w2 ?_;refine rw_nilk ?_;refine awp_gh (gh_frz (E' := [(4, dL 1 (eI .i64) s857.2)]) (L' := [(1004, rw' 3 3 (eI .i64) (([] : List Int) ++ x608.On))]) rfl rfl ⟨⟨_, rfl, frzT rfl rfl co3 rfl⟩, trivial⟩ ⟨kw, trivial⟩) ?_;refine awp_ret ?_;injection h with h;injection h with h;subst h;exact retX (v := dL 1 (eI .i64) s857.2) (resV_one (resVs_tmp rfl resVs_nil)) (.keep rfl) ⟨kw, trivial⟩
         ·refine w7 (st_ixRi sl35 rfl rfl rfl h0608 hx608 rfl) ?_;refine w7 (st_faP fo51_1 rfl) ?_;refine dx (L' := [Z6_0 a0, Z6_2 a0, (1003, rw' 0 51 e_S_api_Dep (a0.Exist.set ((Int.tmod (IntKind.wrap .i64 a1) ((a0.Exist.length : Nat) : Int)).toNat) (S_api_Dep.mk x608.Var y735))), (1004, rw' 3 3 (eI .i64) (([] : List Int) ++ x608.On))]) rfl rfl (st_stT (z := (S_api_Dep.mk x608.Var y735)) ta34 rfl rfl rfl hx608 rfl rfl rfl rfl rfl) rfl rfl rfl rfl ?_;refine rd_nil (by kernel_rfl) ?_;refine nx_then ?_;exact J532 (a0.Exist.set ((Int.tmod (IntKind.wrap .i64 a1) ((a0.Exist.length : Nat) : Int)).toNat) (S_api_Dep.mk x608.Var y735)) () _ _ h (gf ⟨ko, ⟨_, rfl, objOne ⟨kc, ⟨rfl, frzN rfl (by first | exact List.length_replicate.symm | exact (srt_length _).symm | simp [srt_length] | simp)⟩, kc, trivial⟩⟩, kw, trivial⟩)
       ·replace h := ite_F p606 h;refine awp_skip (nx_then ?_);exact J532 a0.Exist () _ _ h (gf ⟨ko, ko, kw, trivial⟩)
      ·clear h;intro k605 h J605;refine awp_rw ?_;refine w4 (st_faP fo37_0 rfl) ?_;refine w4 (st_ldP (v := dL 1 (eI .i64) a0.Univ) ta34 rfl rfl rfl rfl) ?_;refine w4 (st_lenD rfl un34) ?_;refine w4 (st_bin (v := dB (decide (((a0.Univ.length : Nat) : Int) > 0))) rfl rfl rfl) ?_;refine w1 ?_;refine bool_split (decide (((a0.Univ.length : Nat) : Int) > 0)) (fun p978 => ?_) (fun p978 => ?_)
       ·replace h := ite_T p978 h;rw [p978];refine w4 (st_faP fo37_1 rfl) ?_;refine w4 (st_ldP (v := dL 2 e_S_api_Dep a0.Exist) ta35 rfl rfl rfl rfl) ?_;refine w4 (st_lenD rfl un35) ?_;refine w4 (st_bin (v := dB (decide (((a0.Exist.length : Nat) : Int) > 0))) rfl rfl rfl) ?_;refine w4 (st_pickT rfl rfl) ?_;refine rw_nil (nx_then ?_);exact J605 (decide (((a0.Exist.length : Nat) : Int) > 0)) () _ _ h (gf ⟨ko, ko, kw, trivial⟩)
       ·replace h := ite_F p978 h;rw [p978];refine w3 ?_;refine w3 ?_;refine w3 ?_;refine w3 ?_;refine w4 (st_pickF rfl rfl) ?_;refine rw_nil (nx_then ?_);exact J605 false () _ _ h (gf ⟨ko, ko, kw, trivial⟩)
   ·clear h;intro k140 h J140;refine awp_rw ?_;refine w1 ?_;refine w4 (st_bin (v := dB (y120.2 != 0)) rfl rfl rfl) ?_;refine w1 ?_;refine bool_split (y120.2 != 0) (fun p979 => ?_) (fun p979 => ?_)
    ·replace h := ite_T p979 h;rw [p979];refine w3 ?_;refine w3 ?_;refine w4 (st_pickT rfl rfl) ?_;refine rw_nil (nx_then ?_);exact J140 true () _ _ h (gf ⟨ko, trivial⟩)
    ·replace h := ite_F p979 h;rw [p979];refine w1 ?_;refine w4 (st_bin (v := dB (y120.1 != 1)) rfl rfl rfl) ?_;refine w4 (st_pickF rfl rfl) ?_;refine rw_nil (nx_then ?_);exact J140 (y120.1 != 1) () _ _ h (gf ⟨ko, trivial⟩)
 ·clear h;intro k117 h J117;refine awp_rw ?_;refine w4 (st_ldP (v := .agg [dL 1 (eI .i64) a0.Univ, dL 2 e_S_api_Dep a0.Exist, dL 1 (eL 1 (eI .i64)) a0.Clauses]) ta37 rfl rfl rfl rfl) ?_;obtain ⟨y980, hy980, h⟩ := bind_some_elim h;refine rf rfl rfl (ok_skolemlaw04_large hy980) rfl rfl ?_;refine w1 ?_;refine bool_split y980 (fun p981 => ?_) (fun p981 => ?_)
  ·replace h := ite_T p981 h;rw [p981];refine w3 ?_;refine w3 ?_;refine w3 ?_;refine w4 (st_pickT rfl rfl) ?_;refine rw_nil (nx_then ?_);exact J117 true () _ _ h (gf ⟨ko, trivial⟩)
  ·replace h := ite_F p981 h;rw [p981];refine w4 (st_ldP (v := .agg [dL 1 (eI .i64) a0.Univ, dL 2 e_S_api_Dep a0.Exist, dL 1 (eL 1 (eI .i64)) a0.Clauses]) ta37 rfl rfl rfl rfl) ?_;obtain ⟨y982, hy982, h⟩ := bind_some_elim h;refine rf rfl rfl (ok_skolemref03_MayDqbf hy982) rfl rfl ?_;refine w4 (st_un (v := dB (!y982)) rfl rfl) ?_;refine w4 (st_pickF rfl rfl) ?_;refine rw_nil (nx_then ?_);exact J117 (!y982) () _ _ h (gf ⟨ko, trivial⟩)
end Go.Sk.X
