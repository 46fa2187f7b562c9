/- The program computes these plain functions (law TruthGames, part 2). It has no conditions. -/
import Derived.Test.YtppmnjikhealeaaXTruthGamesP1
set_option linter.unusedVariables false
set_option linter.unusedSimpArgs false
set_option maxRecDepth 100000
set_option maxHeartbeats 100000000
namespace Go.Sk.X
open Go Go.Sk Go.Proofs
/-! ### Tables whose bits are rows of their own -/
def famL (b : Nat) : List (List Bool) → LH
  | [] => []
  | x :: l => (b, rw' 1 4 eB x) :: famL (b + 1) l
theorem fam_aget : ∀ (l : List (List Bool)) (b q : Nat), aget (famL b l) q = if b ≤ q then (l[q - b]?).map (rw' 1 4 eB) else none
  | [], b, q => by simp [famL, aget]
  | x :: l, b, q => by
    simp only [famL, aget, fam_aget l (b + 1) q]
    by_cases h : b = q
    · subst h; simp
    · rw [if_neg h]
      by_cases h2 : b ≤ q
      · rw [if_pos h2, if_pos (by omega), show q - b = (q - (b + 1)) + 1 by omega]; simp
      · rw [if_neg h2, if_neg (by omega)]
theorem fam_aset : ∀ (l : List (List Bool)) (b i : Nat) (x : List Bool), i < l.length → aset (famL b l) (b + i) (rw' 1 4 eB x) = famL b (l.set i x)
  | [], b, i, x, h => by simp at h
  | y :: l, b, 0, x, h => by simp [famL, aset]
  | y :: l, b, i + 1, x, h => by
    simp only [famL, aset, List.set_cons_succ]
    rw [if_neg (by omega), show b + (i + 1) = b + 1 + i by omega, fam_aset l (b + 1) i x (by simpa using h)]
def tabC (b : Nat) : List S_api_Table → List (List AVal)
  | [] => []
  | t :: ts => [dI .i64 t.Var, dL 1 (eI .i64) t.On, .slice b 1 0 t.Bits.length] :: tabC (b + 1) ts
def ptrC (b : Nat) : List (List Bool) → List (List AVal)
  | [] => []
  | x :: l => ((List.range x.length).map fun k => [AVal.ptr b 1 k 0]) ++ ptrC (b + 1) l
theorem tabC_len : ∀ (ts : List S_api_Table) (b : Nat), (tabC b ts).length = ts.length
  | [], _ => rfl
  | t :: ts, b => by simp [tabC, tabC_len ts (b + 1)]
theorem ptrC_len : ∀ (l : List (List Bool)) (b : Nat), (ptrC b l).length = (l.map List.length).sum
  | [], _ => rfl
  | x :: l, b => by simp [ptrC, ptrC_len l (b + 1)]
def locB : List (List Bool) → Nat → Nat × Nat
  | [], k => (0, k)
  | x :: l, k => if k < x.length then (0, k) else ((locB l (k - x.length)).1 + 1, (locB l (k - x.length)).2)
theorem ptrC_get : ∀ (l : List (List Bool)) (b k : Nat), k < (l.map List.length).sum → (ptrC b l)[k]? = some [.ptr (b + (locB l k).1) 1 (locB l k).2 0] ∧ ∃ x, l[(locB l k).1]? = some x ∧ (locB l k).2 < x.length
  | [], b, k, h => by simp at h
  | x :: l, b, k, h => by
    rw [List.map_cons, List.sum_cons] at h
    simp only [ptrC, locB]
    by_cases hk : k < x.length
    · rw [if_pos hk, List.getElem?_append_left (by simpa using hk)]
      exact ⟨by simp [hk], x, rfl, hk⟩
    · rw [if_neg hk, List.getElem?_append_right (by simpa using Nat.le_of_not_lt hk)]
      obtain ⟨h1, y, h2, h3⟩ := ptrC_get l (b + 1) (k - x.length) (by omega)
      refine ⟨?_, y, by simpa using h2, h3⟩
      rw [List.length_map, List.length_range, h1]
      simp only
      rw [show b + 1 + (locB l (k - x.length)).1 = b + ((locB l (k - x.length)).1 + 1) by omega]
theorem setB_len : ∀ (ts : List S_api_Table) (k : Nat) (v : Bool), (setB ts k v).length = ts.length
  | [], _, _ => rfl
  | t :: ts, k, v => by
    simp only [setB]
    split
    · simp
    · simp [setB_len ts]
theorem setB_map : ∀ (ts : List S_api_Table) (k : Nat) (v : Bool) (x : List Bool), k < bitsN ts → (ts.map (·.Bits))[(locB (ts.map (·.Bits)) k).1]? = some x →
    (setB ts k v).map (·.Bits) = (ts.map (·.Bits)).set (locB (ts.map (·.Bits)) k).1 (x.set (locB (ts.map (·.Bits)) k).2 v)
  | [], k, v, x, h, _ => by simp [bitsN] at h
  | t :: ts, k, v, x, h, hx => by
    simp only [setB, List.map_cons, locB] at hx ⊢
    by_cases hk : k < t.Bits.length
    · rw [if_pos hk] at hx ⊢
      rw [if_pos hk]
      simp at hx
      subst hx
      simp
    · rw [if_neg hk] at hx ⊢
      rw [if_neg hk]
      have hb : k - t.Bits.length < bitsN ts := by simp [bitsN] at h ⊢; omega
      simp only [List.map_cons, List.set_cons_succ]
      rw [setB_map ts (k - t.Bits.length) v x hb (by simpa using hx)]
theorem setB_tabC : ∀ (ts : List S_api_Table) (b k : Nat) (v : Bool), tabC b (setB ts k v) = tabC b ts
  | [], _, _, _ => rfl
  | t :: ts, b, k, v => by
    simp only [setB]
    split
    · simp [tabC]
    · simp [tabC, setB_tabC ts]
theorem setB_bitsN : ∀ (ts : List S_api_Table) (k : Nat) (v : Bool), bitsN (setB ts k v) = bitsN ts
  | [], _, _ => rfl
  | t :: ts, k, v => by
    simp only [setB]
    split
    · simp [bitsN]
    · have := setB_bitsN ts (k - t.Bits.length) v
      simp [bitsN] at this ⊢; omega
theorem setB_ptrC : ∀ (ts : List S_api_Table) (b k : Nat) (v : Bool), ptrC b ((setB ts k v).map (·.Bits)) = ptrC b (ts.map (·.Bits))
  | [], _, _, _ => rfl
  | t :: ts, b, k, v => by
    simp only [setB]
    split
    · simp [ptrC]
    · simp [ptrC, setB_ptrC ts]
theorem bitsN_eq (ts : List S_api_Table) : bitsN ts = ((ts.map (·.Bits)).map List.length).sum := by unfold bitsN; rw [List.map_map]; rfl

/-! the whole -/
abbrev LS (gs gT gP : Nat) (d : S_api_Dqbf) (n m : Nat) : Nat × AObj := (1001, .row gs 87 [[dL 1 (eI .i64) d.Univ, dL 2 e_S_api_Dep d.Exist, dL 1 (eL 1 (eI .i64)) d.Clauses, .slice 1002 gT 0 n, .slice 1003 gP 0 m]])
abbrev LL (gs gT gP : Nat) (d : S_api_Dqbf) (ts : List S_api_Table) : LH :=
  LS gs gT gP d ts.length (bitsN ts) :: (1002, .row gT 56 (tabC 2000 ts)) :: (1003, .row gP 118 (ptrC 2000 (ts.map (·.Bits)))) :: famL 2000 (ts.map (·.Bits))
section
variable {gs gT gP : Nat} {d : S_api_Dqbf} {ts : List S_api_Table}
theorem LL_get (q : Nat) (hq : 2000 ≤ q) : aget (LL gs gT gP d ts) q = ((ts.map (·.Bits))[q - 2000]?).map (rw' 1 4 eB) := by
  simp only [aget]
  rw [if_neg (by omega), if_neg (by omega), if_neg (by omega), fam_aget, if_pos hq]
theorem LL_low (q : Nat) (hq : q < 2000) (h1 : q ≠ 1001) (h2 : q ≠ 1002) (h3 : q ≠ 1003) : aget (LL gs gT gP d ts) q = none := by
  simp only [aget]
  rw [if_neg (by omega), if_neg (by omega), if_neg (by omega), fam_aget, if_neg (by omega)]
theorem LL_in (q : Nat) : inL (LL gs gT gP d ts) q = (decide (q = 1001) || (decide (q = 1002) || (decide (q = 1003) || (decide (2000 ≤ q) && decide (q - 2000 < ts.length))))) := by
  by_cases h1 : q = 1001
  · subst h1; rfl
  by_cases h2 : q = 1002
  · subst h2; rfl
  by_cases h3 : q = 1003
  · subst h3; rfl
  simp only [h1, h2, h3, decide_false, Bool.false_or]
  unfold inL
  by_cases h4 : 2000 ≤ q
  · rw [LL_get q h4]
    by_cases h5 : q - 2000 < ts.length
    · simp [h4, h5]
    · simp [h4, h5]
  · rw [LL_low q (by omega) h1 h2 h3]
    simp [h4]
theorem LL_keys {gs' gT' gP' : Nat} {d' : S_api_Dqbf} {ts' : List S_api_Table} (hl : ts'.length = ts.length) (q : Nat) : inL (LL gs' gT' gP' d' ts') q = inL (LL gs gT gP d ts) q := by
  rw [LL_in, LL_in, hl]
theorem LL_all {gs' gT' gP' : Nat} {d' : S_api_Dqbf} {ts' : List S_api_Table} (hl : ts'.length = ts.length) : allIn (LL gs gT gP d ts) (LL gs' gT' gP' d' ts') = true := by
  unfold allIn
  rw [List.all_eq_true]
  intro p hp
  rw [LL_keys hl]
  have key : ∀ (l : LH) (p : Nat × AObj), p ∈ l → inL l p.1 = true := by
    intro l
    induction l with
    | nil => intro p hp; simp at hp
    | cons x l ih =>
      intro p hp
      obtain ⟨k, o⟩ := x
      unfold inL
      simp only [aget]
      by_cases h : k = p.1
      · rw [if_pos h]; rfl
      · rw [if_neg h]
        rcases List.mem_cons.1 hp with rfl | hp
        · exact absurd rfl h
        · exact ih p hp
  exact key _ p hp
theorem subL_fam {L : LH} : ∀ (l : List (List Bool)) (b : Nat), (∀ i x, l[i]? = some x → aget L (b + i) = some (rw' 1 4 eB x)) → SubL (famL b l) L
  | [], _, _ => trivial
  | x :: l, b, h => ⟨by simpa using h 0 x rfl, subL_fam l (b + 1) (fun i y hy => by rw [show b + 1 + i = b + (i + 1) by omega]; exact h (i + 1) y (by simpa using hy))⟩
theorem LL_sub : SubL (LL gs gT gP d ts) (LL gs gT gP d ts) := ⟨rfl, rfl, rfl, subL_fam _ _ (fun i x h => by rw [LL_get _ (by omega), show 2000 + i - 2000 = i by omega, h]; rfl)⟩
theorem ok_tabC {S : Nat → Bool} : ∀ (ts : List S_api_Table) (b : Nat), (∀ i, i < ts.length → S (b + i) = true) → ((tabC b ts).all fun el => el.all fun v => sc v && closedV S v) = true
  | [], _, _ => rfl
  | t :: ts, b, h => by
    simp only [tabC, List.all_cons, ok_tabC ts (b + 1) (fun i hi => by rw [show b + 1 + i = b + (i + 1) by omega]; exact h (i + 1) (by simpa using hi)), Bool.and_true]
    have := h 0 (by simp)
    simp only [Nat.add_zero] at this
    simp [sc, closedV, this]
theorem ok_ptrC {S : Nat → Bool} : ∀ (l : List (List Bool)) (b : Nat), (∀ i, i < l.length → S (b + i) = true) → ((ptrC b l).all fun el => el.all fun v => sc v && closedV S v) = true
  | [], _, _ => rfl
  | x :: l, b, h => by
    simp only [ptrC, List.all_append, ok_ptrC l (b + 1) (fun i hi => by rw [show b + 1 + i = b + (i + 1) by omega]; exact h (i + 1) (by simpa using hi)), Bool.and_true]
    have := h 0 (by simp)
    simp only [Nat.add_zero] at this
    rw [List.all_eq_true]
    intro el hel
    obtain ⟨k, _, rfl⟩ := List.mem_map.1 hel
    simp [sc, closedV, this]
theorem LL_S (i : Nat) (hi : i < ts.length) : inL (LL gs gT gP d ts) (2000 + i) = true := by
  rw [LL_in]; simp; omega
theorem closed_of_ok {S : Nat → Bool} {els : List (List AVal)} (h : (els.all fun el => el.all fun v => sc v && closedV S v) = true) : (els.all fun el => closedL S el) = true := by
  rw [List.all_eq_true] at h ⊢
  intro el hel
  have := h el hel
  clear h hel
  induction el with
  | nil => rfl
  | cons v vs ih =>
    simp only [List.all_cons, Bool.and_eq_true] at this
    simp only [closedL, this.1.2, ih this.2, Bool.and_self]
theorem clos_fam {S : Nat → Bool} : ∀ (l : List (List Bool)) (b : Nat), ClosA S (famL b l)
  | [], _ => trivial
  | x :: l, b => ⟨closed_of_ok (all_rowOf _), clos_fam l (b + 1)⟩
theorem LL_clos : ClosA (inL (LL gs gT gP d ts)) (LL gs gT gP d ts) :=
  ⟨rfl, closed_of_ok (ok_tabC ts 2000 (fun i hi => LL_S i hi)), closed_of_ok (ok_ptrC _ 2000 (fun i hi => LL_S i (by simpa using hi))), clos_fam _ _⟩
theorem frzO_fam {P : Program} {S : Nat → Bool} {L : LH} : ∀ (l : List (List Bool)) (b : Nat), (∀ i x, l[i]? = some x → aget L (b + i) = some (rw' 1 4 eB x)) → FrzO P L S (famL b l)
  | [], _, _ => trivial
  | x :: l, b, h => ⟨⟨_, by simpa using h 0 x rfl, objRow _⟩, frzO_fam l (b + 1) (fun i y hy => by rw [show b + 1 + i = b + (i + 1) by omega]; exact h (i + 1) y (by simpa using hy))⟩
theorem LL_frz {P : Program} : FrzO P (LL gs gT gP d ts) (inL (LL gs gT gP d ts)) (LL gs gT gP d ts) :=
  ⟨⟨_, rfl, objKeep rfl⟩, ⟨_, rfl, objKeep (ok_tabC ts 2000 (fun i hi => LL_S i hi))⟩, ⟨_, rfl, objKeep (ok_ptrC _ 2000 (fun i hi => LL_S i (by simpa using hi)))⟩,
    frzO_fam _ _ (fun i x h => by rw [LL_get _ (by omega), show 2000 + i - 2000 = i by omega, h]; rfl)⟩
/-- a bit is written -/
theorem LL_set {k : Nat} (hk : k < bitsN ts) (v : Bool) {x : List Bool} (hx : (ts.map (·.Bits))[(locB (ts.map (·.Bits)) k).1]? = some x) :
    aset (LL gs gT gP d ts) (2000 + (locB (ts.map (·.Bits)) k).1) (rw' 1 4 eB (x.set (locB (ts.map (·.Bits)) k).2 v)) = LL gs gT gP d (setB ts k v) := by
  have hi : (locB (ts.map (·.Bits)) k).1 < (ts.map (·.Bits)).length := (List.getElem?_eq_some_iff.1 hx).1
  simp only [aset]
  rw [if_neg (by omega), if_neg (by omega), if_neg (by omega), fam_aset _ _ _ _ hi, ← setB_map ts k v x hk hx]
  show _ = LS gs gT gP d (setB ts k v).length (bitsN (setB ts k v)) :: (1002, .row gT 56 (tabC 2000 (setB ts k v))) :: (1003, .row gP 118 (ptrC 2000 ((setB ts k v).map (·.Bits)))) :: famL 2000 ((setB ts k v).map (·.Bits))
  rw [setB_len, setB_bitsN, setB_tabC, setB_ptrC]
/-- what is lent -/
theorem LL_lend {P : Program} (hc56 : P.cellsOf 56 = 3) (hc4 : P.cellsOf 4 = 1) {i : Int} {ρ : Rho} {w : World} {cs : List Value} (hL : SatL P ρ (LL gs gT gP d ts) w) (h : LsRel w ρ [.ptr 1001 gs 0 0, dI .i64 i] cs) :
    LsRel w (restr ρ (fun _ => false)) [.pdat (e_S_truth_least ⟨d, ts⟩) 0, dI .i64 i] cs := by
  have ha : Agree (fun _ => false) ρ (restr ρ (fun _ => false)) := restr_agree ρ _
  have hm : ∀ r x, (restr ρ (fun _ => false)).m r = some x → (fun _ => false) r = true ∧ ρ.m r = some x := fun r x hx => restr_m hx
  cases h with
  | cons h1 h2 =>
    cases h2 with
    | cons h3 h4 =>
      cases h4
      refine .cons ?_ (.cons (Frz.sound hL ha hm rfl (.keep rfl) h3) .nil)
      refine frzP hL hm rfl (S := fun _ => false) (r := 1001) rfl rfl (fun j dd hj => ?_) h1
      match j, hj with
      | 0, hj => exact ⟨_, rfl, fun c hv => by injection hj with hj; subst hj; exact Frz.sound hL ha hm rfl (.keep rfl) hv⟩
      | 1, hj => exact ⟨_, rfl, fun c hv => by injection hj with hj; subst hj; exact Frz.sound hL ha hm rfl (.keep rfl) hv⟩
      | 2, hj => exact ⟨_, rfl, fun c hv => by injection hj with hj; subst hj; exact Frz.sound hL ha hm rfl (.keep rfl) hv⟩
      | 3, hj =>
        refine ⟨_, rfl, fun c hv => ?_⟩
        injection hj with hj; subst hj
        have key : ∀ (us : List S_api_Table) (b : Nat), (∀ i t, us[i]? = some t → aget (LL gs gT gP d ts) (b + i) = some (rw' 1 4 eB t.Bits)) → ∀ (i : Nat) el el', (tabC b us)[i]? = some el → (rowOf (us.map e_S_api_Table))[i]? = some el' → el.length = el'.length ∧ ∀ (j : Nat) v u, el[j]? = some v → el'[j]? = some u → Frz P (LL gs gT gP d ts) (fun _ => false) v u := by
          intro us
          induction us with
          | nil => intro b _ i el el' h1; simp [tabC] at h1
          | cons t us ih =>
            intro b hb i el el' h1 h2
            cases i with
            | zero =>
              simp only [tabC, rowOf, List.map_cons, List.getElem?_cons_zero, Option.some.injEq] at h1 h2
              subst h1; subst h2
              refine ⟨rfl, fun j v u hv hu => ?_⟩
              match j, hv, hu with
              | 0, hv, hu => injection hv with hv; injection hu with hu; subst hv; subst hu; exact .keep rfl
              | 1, hv, hu => injection hv with hv; injection hu with hu; subst hv; subst hu; exact .keep rfl
              | 2, hv, hu =>
                injection hv with hv; injection hu with hu; subst hv; subst hu
                have := hb 0 t rfl
                rw [Nat.add_zero] at this
                exact frzT this rfl hc4 rfl
              | j + 3, hv, hu => simp at hv
            | succ i =>
              simp only [tabC, rowOf, List.map_cons, List.getElem?_cons_succ] at h1 h2
              exact ih (b + 1) (fun i t ht => by rw [show b + 1 + i = b + (i + 1) by omega]; exact hb (i + 1) t (by simpa using ht)) i el el' h1 h2
        have hv' : VRel w ρ (.slice 1002 gT 0 (tabC 2000 ts).length) c := by rw [tabC_len]; exact hv
        have := frzD hL ha hm rfl (r := 1002) (g := gT) (e := 56) (els := tabC 2000 ts) (ds := ts.map e_S_api_Table) rfl rfl (by rw [tabC_len]; simp [rowOf]) (key ts 2000 (fun i t ht => by rw [LL_get _ (by omega), show 2000 + i - 2000 = i by omega, List.getElem?_map, ht]; rfl)) hv'
        rw [hc56] at this
        exact this
      | j + 4, hj => simp at hj
end
section
variable {X : Cx} {Q : Ex → Env → LH → Prop} {ops : Array Oper} {rest : List Oper} {i : Nat} {E : Env} {L L1 : LH}
theorem rlX {d : Nat} {fid : FuncId} {args : Array Operand} {ats : Array TypeId} {ty : TypeId} {pos : String} {af : Array Edge} {g : Option (Nat × Bool)} {vs us : List AVal} {v : AVal}
    (hev : Fn X.P fid us v) (hz : ∀ ρ w cs, SatL X.P ρ L w → LsRel w ρ vs cs → LsRel w (restr ρ (fun _ => false)) us cs) (ha : evl E args.toList = some vs) (hv : flat v = true)
    (hk : RW X Q ops (i + 1) rest ((d, v) :: E) L) (hN : Nat.blt d X.N = true := by exact rfl) (hg : gval ops.toList E g = some true := by exact rfl) : RW X Q ops i (Oper.mk (some d) (.call { callee := .value (.func fid), args, argTypes := ats }) ty pos af g :: rest) E L :=
  rw_call (d := some d) hN hg rfl ha (by rw [List.append_nil, List.nil_append]; exact evR_lendX hev hz hv) (fun v' L' h => by
    obtain ⟨h1, h2⟩ := h
    injection h1 with h1
    subst h1; subst h2; exact hk) (fun v' L' h => by cases h.1)
/-- a call that has all the rows -/
theorem rcallW {d : Nat} {fid : FuncId} {args : Array Operand} {ats : Array TypeId} {ty : TypeId} {pos : String} {af : Array Edge} {g : Option (Nat × Bool)} {vs : List AVal} {v : AVal}
    (hev : Ev X.P fid vs L (.ret v) L1) (ha : evl E args.toList = some vs) (hs : SubL L L) (hc : closedL (inL L) vs = true) (ho : ClosA (inL L) L) (hn : ∀ q, inL L1 q = inL L q)
    (hk : RW X Q ops (i + 1) rest ((d, v) :: E) L1) (hN : Nat.blt d X.N = true := by exact rfl) (hg : gval ops.toList E g = some true := by exact rfl) : RW X Q ops i (Oper.mk (some d) (.call { callee := .value (.func fid), args, argTypes := ats }) ty pos af g :: rest) E L := by
  refine rw_call (d := some d) (R := fun o l => o = .ret v ∧ l = mergeL L L1) hN hg rfl ha (by
    rw [List.append_nil, List.nil_append]
    exact Ev.toR (hev.frame hs.get hc ho.get (fun r hr => .inl (by rw [← hn]; exact hr)))) (fun v' L' h => ?_) (fun v' L' h => by cases h.1)
  obtain ⟨h1, h2⟩ := h
  injection h1 with h1
  subst h1; subst h2
  refine RW.gh (gh_ext (fun q => ?_)) hk
  rw [mergeL_get]
  have := hn q
  unfold inL at this
  cases h1 : aget L1 q with
  | some o => rfl
  | none =>
    rw [h1] at this
    cases h2 : aget L q with
    | none => rfl
    | some o => rw [h2] at this; cases this
end

/-! ### find -/
theorem findP_len {d : S_api_Dqbf} : ∀ (n : Nat) (ts : List S_api_Table) (i : Int) {r : Bool × List S_api_Table}, findP d n ts i = some r → r.2.length = ts.length
  | 0, _, _, _, h => by simp [findP] at h
  | n + 1, ts, i, r, h => by
    unfold findP at h
    obtain ⟨b, hb, h⟩ := bind_some_elim h
    split at h
    · injection h with h; subst h; rfl
    split at h
    · injection h with h; subst h; rfl
    obtain ⟨hc, h⟩ := okI_some h
    obtain ⟨r1, h1, h⟩ := bind_some_elim h
    have e1 := findP_len n _ _ h1
    rw [setB_len] at e1
    split at h
    · injection h with h; subst h; exact e1
    obtain ⟨hc1, h⟩ := okI_some h
    obtain ⟨r2, h2, h⟩ := bind_some_elim h
    have e2 := findP_len n _ _ h2
    rw [setB_len] at e2
    split at h
    · injection h with h; subst h; exact e2.trans e1
    obtain ⟨hc2, h⟩ := okI_some h
    injection h with h; subst h
    rw [setB_len]; exact e2.trans e1

theorem ok_find {gs gT gP : Nat} {d : S_api_Dqbf} : ∀ (n : Nat) {ts : List S_api_Table} {i : Int} {r : Bool × List S_api_Table} (h : findP d n ts i = some r), Ev Try.prog 39 [.ptr 1001 gs 0 0, dI .i64 i] (LL gs gT gP d ts) (.ret (dB r.1)) (LL gs gT gP d r.2)
 | 0, _, _, _, h => by simp [findP] at h
 | n + 1, ts, i, r, h => by
  have ih : ∀ {ts : List S_api_Table} {i : Int} {r : Bool × List S_api_Table} (h : findP d n ts i = some r), Ev Try.prog 39 [.ptr 1001 gs 0 0, dI .i64 i] (LL gs gT gP d ts) (.ret (dB r.1)) (LL gs gT gP d r.2) := ok_find n
  have hln := findP_len (n + 1) ts i h
  refine Ev.of_bodyM (N := 47) (rs := [.tmp 4]) Try.func39 (c := _) rfl rfl rfl (by kernel_rfl) (LL_all hln) (Nat.le_of_ble_eq_true rfl) (fun _B => ?_)
  unfold findP at h
  obtain ⟨b, hb, h⟩ := bind_some_elim h
  refine awp_rs ?_
  refine w2 ?_
  refine rw_nilk (awp_seq (awp_rs ?_))
  refine w1 ?_
  refine w1 ?_
  refine rlX (us := [.pdat (e_S_truth_least ⟨d, ts⟩) 0, dI .i64 i]) (ok_truth_least_broken hb) (fun ρ w cs hL hh => LL_lend co56 co4 hL hh) rfl rfl ?_
  refine rw_nilk ?_
  refine awp_ite (b := b) rfl (fun p1 => ?_) (fun p1 => ?_)
  · replace h := ite_T p1 h
    refine awp_rs ?_
    refine w2 ?_
    refine rw_nilk (awp_ret (rt_then ?_))
    injection h with h; subst h
    exact retM (v := dB false) (resV_one (resVs_tmp rfl resVs_nil)) rfl (.keep rfl) LL_frz
  replace h := ite_F p1 h
  refine awp_skip (nx_then (awp_seq (awp_rs ?_)))
  refine w1 ?_
  refine w1 ?_
  refine w4 (st_nilP rfl) ?_
  refine w4 (st_faP fo87_2 rfl) ?_
  refine w4 (st_ldP (v := .slice 1003 gP 0 (bitsN ts)) ta85 rfl rfl rfl rfl) ?_
  refine w4 (st_lenR rfl un85 rfl) ?_
  refine w4 (st_bin (v := dB (i == (bitsN ts : Int))) rfl rfl rfl) ?_
  refine rw_nilk ?_
  refine awp_ite (b := (i == (bitsN ts : Int))) rfl (fun p2 => ?_) (fun p2 => ?_)
  · replace h := ite_T p2 h
    refine awp_rs ?_
    refine w2 ?_
    refine rw_nilk (awp_ret (rt_then ?_))
    injection h with h; subst h
    exact retM (v := dB true) (resV_one (resVs_tmp rfl resVs_nil)) rfl (.keep rfl) LL_frz
  replace h := ite_F p2 h
  obtain ⟨⟨h0, hlt⟩, h⟩ := okI_some h
  obtain ⟨r1, hr1, h⟩ := bind_some_elim h
  have e1 := findP_len n _ _ hr1
  rw [setB_len] at e1
  have store : ∀ {us : List S_api_Table} (hlt : i.toNat < bitsN us), ∃ a k x, (ptrC 2000 (us.map (·.Bits)))[i.toNat]? = some [.ptr (2000 + a) 1 k 0] ∧ aget (LL gs gT gP d us) (2000 + a) = some (rw' 1 4 eB x) ∧ (∃ y, x[k]? = some y) ∧ ∀ v, aset (LL gs gT gP d us) (2000 + a) (rw' 1 4 eB (x.set k v)) = LL gs gT gP d (setB us i.toNat v) := by
    intro us hlt
    obtain ⟨g1, x, g2, g3⟩ := ptrC_get (us.map (·.Bits)) 2000 i.toNat (by rw [← bitsN_eq]; exact hlt)
    exact ⟨_, _, x, g1, by rw [LL_get _ (by omega), show 2000 + (locB (us.map (·.Bits)) i.toNat).1 - 2000 = (locB (us.map (·.Bits)) i.toNat).1 by omega, g2]; rfl, ⟨_, List.getElem?_eq_getElem g3⟩, fun v => LL_set hlt v g2⟩
  obtain ⟨a, k, x, q1, q2, ⟨y, q3⟩, q4⟩ := store hlt
  refine awp_skip (nx_then (awp_rs ?_))
  refine w1 ?_
  refine w4 (st_nilP rfl) ?_
  refine w4 (st_faP fo87_2 rfl) ?_
  refine w4 (st_ldP (v := .slice 1003 gP 0 (bitsN ts)) ta85 rfl rfl rfl rfl) ?_
  refine w1 ?_
  refine w4 (st_ixR0 sl85 rfl rfl rfl h0 hlt) ?_
  refine w4 (st_ldP (v := .ptr (2000 + a) 1 k 0) ta118 rfl rfl q1 rfl) ?_
  refine w4 (st_nilP rfl) ?_
  refine w9 (L' := LL gs gT gP d (setB ts i.toNat false)) (st_stT (f := eB) (z := false) ta4 rfl rfl q2 q3 rfl rfl rfl rfl rfl) ?_ (q4 false)
  refine rw_nilk (awp_seq (awp_rs ?_))
  refine w1 ?_
  refine w1 ?_
  refine w4 (st_bin (v := dI .i64 (IntKind.wrap .i64 (i + 1))) rfl rfl rfl) ?_
  refine rcallW (ih hr1) rfl LL_sub rfl LL_clos (fun q => LL_keys (by rw [setB_len]; exact e1) q) ?_
  refine rw_nilk ?_
  refine awp_ite (b := r1.1) rfl (fun p3 => ?_) (fun p3 => ?_)
  · replace h := ite_T p3 h
    refine awp_rs ?_
    refine w2 ?_
    refine rw_nilk (awp_ret (rt_then ?_))
    injection h with h; subst h
    exact retM (v := dB true) (resV_one (resVs_tmp rfl resVs_nil)) rfl (.keep rfl) LL_frz
  replace h := ite_F p3 h
  obtain ⟨hlt1, h⟩ := okI_some h
  obtain ⟨r2, hr2, h⟩ := bind_some_elim h
  have e2 := findP_len n _ _ hr2
  rw [setB_len] at e2
  obtain ⟨a1, k1, x1, q5, q6, ⟨y1, q7⟩, q8⟩ := store hlt1
  refine awp_skip (nx_then (awp_rs ?_))
  refine w1 ?_
  refine w4 (st_nilP rfl) ?_
  refine w4 (st_faP fo87_2 rfl) ?_
  refine w4 (st_ldP (v := .slice 1003 gP 0 (bitsN r1.2)) ta85 rfl rfl rfl rfl) ?_
  refine w1 ?_
  refine w4 (st_ixR0 sl85 rfl rfl rfl h0 hlt1) ?_
  refine w4 (st_ldP (v := .ptr (2000 + a1) 1 k1 0) ta118 rfl rfl q5 rfl) ?_
  refine w4 (st_nilP rfl) ?_
  refine w9 (L' := LL gs gT gP d (setB r1.2 i.toNat true)) (st_stT (f := eB) (z := true) ta4 rfl rfl q6 q7 rfl rfl rfl rfl rfl) ?_ (q8 true)
  refine rw_nilk (awp_seq (awp_rs ?_))
  refine w1 ?_
  refine w1 ?_
  refine w4 (st_bin (v := dI .i64 (IntKind.wrap .i64 (i + 1))) rfl rfl rfl) ?_
  refine rcallW (ih hr2) rfl LL_sub rfl LL_clos (fun q => LL_keys (by rw [setB_len]; exact e2) q) ?_
  refine rw_nilk ?_
  refine awp_ite (b := r2.1) rfl (fun p4 => ?_) (fun p4 => ?_)
  · replace h := ite_T p4 h
    refine awp_rs ?_
    refine w2 ?_
    refine rw_nilk (awp_ret (rt_then ?_))
    injection h with h; subst h
    exact retM (v := dB true) (resV_one (resVs_tmp rfl resVs_nil)) rfl (.keep rfl) LL_frz
  replace h := ite_F p4 h
  obtain ⟨hlt2, h⟩ := okI_some h
  obtain ⟨a2, k2, x2, q9, q10, ⟨y2, q11⟩, q12⟩ := store hlt2
  refine awp_skip (nx_then (awp_rs ?_))
  refine w1 ?_
  refine w4 (st_nilP rfl) ?_
  refine w4 (st_faP fo87_2 rfl) ?_
  refine w4 (st_ldP (v := .slice 1003 gP 0 (bitsN r2.2)) ta85 rfl rfl rfl rfl) ?_
  refine w1 ?_
  refine w4 (st_ixR0 sl85 rfl rfl rfl h0 hlt2) ?_
  refine w4 (st_ldP (v := .ptr (2000 + a2) 1 k2 0) ta118 rfl rfl q9 rfl) ?_
  refine w4 (st_nilP rfl) ?_
  refine w9 (L' := LL gs gT gP d (setB r2.2 i.toNat false)) (st_stT (f := eB) (z := false) ta4 rfl rfl q10 q11 rfl rfl rfl rfl rfl) ?_ (q12 false)
  refine rw_nilk (awp_rs ?_)
  refine w2 ?_
  refine rw_nilk (awp_ret ?_)
  injection h with h; subst h
  exact retM (v := dB false) (resV_one (resVs_tmp rfl resVs_nil)) rfl (.keep rfl) LL_frz


/-! ### newLeast: the rows in the first loop -/
abbrev boxD (d : S_api_Dqbf) : Nat × AObj := (1004, .row 0 37 [[dL 1 (eI .i64) d.Univ, dL 2 e_S_api_Dep d.Exist, dL 1 (eL 1 (eI .i64)) d.Clauses]])
abbrev rowsA (d : S_api_Dqbf) (n : Nat) (els : List (List AVal)) (bss : List (List Bool)) : LH :=
  (1001, .row 0 87 [[dL 1 (eI .i64) d.Univ, dL 2 e_S_api_Dep d.Exist, dL 1 (eL 1 (eI .i64)) d.Clauses, .slice 1002 (2 * n) 0 n, .nilS]]) :: (1002, .row (2 * n) 56 els) :: boxD d :: famL 2000 bss
theorem tabC_snoc : ∀ (s : List S_api_Table) (b : Nat) (t : S_api_Table), tabC b (s ++ [t]) = tabC b s ++ [[dI .i64 t.Var, dL 1 (eI .i64) t.On, .slice (s.length + b) 1 0 t.Bits.length]]
  | [], b, t => by simp [tabC]
  | x :: s, b, t => by
    simp only [List.cons_append, tabC, tabC_snoc s (b + 1) t, List.length_cons]
    rw [show s.length + (b + 1) = s.length + 1 + b by omega]
theorem tabC_get : ∀ (s : List S_api_Table) (b j : Nat) (t : S_api_Table), s[j]? = some t → (tabC b s)[j]? = some [dI .i64 t.Var, dL 1 (eI .i64) t.On, .slice (j + b) 1 0 t.Bits.length]
  | [], b, j, t, h => by simp at h
  | x :: s, b, 0, t, h => by simp at h; subst h; simp [tabC]
  | x :: s, b, j + 1, t, h => by
    simp only [tabC, List.getElem?_cons_succ]
    rw [tabC_get s (b + 1) j t (by simpa using h), show j + (b + 1) = j + 1 + b by omega]
theorem rowsA_low {d : S_api_Dqbf} {n : Nat} {els : List (List AVal)} {bss : List (List Bool)} {q : Nat} (h1 : q ≠ 1001) (h2 : q ≠ 1002) (h4 : q ≠ 1004) (h : q < 2000) : aget (rowsA d n els bss) q = none := by
  simp only [aget]
  rw [if_neg (by omega), if_neg (by omega), if_neg (by omega), fam_aget, if_neg (by omega)]
theorem fam_ext (l : List (List Bool)) (x : List Bool) (q : Nat) : aget (famL 2000 (l ++ [x])) q = if l.length + 2000 = q then some (rw' 1 4 eB x) else aget (famL 2000 l) q := by
  rw [fam_aget, fam_aget]
  by_cases h : l.length + 2000 = q
  · rw [if_pos h, if_pos (by omega), show q - 2000 = l.length by omega]; simp
  · rw [if_neg h]
    by_cases h2 : 2000 ≤ q
    · rw [if_pos h2, if_pos h2]
      by_cases h3 : q - 2000 < l.length
      · rw [List.getElem?_append_left h3]
      · have : (l ++ [x])[q - 2000]? = none := by rw [List.getElem?_eq_none]; simp; omega
        rw [this, List.getElem?_eq_none (by omega)]
    · rw [if_neg h2, if_neg h2]
theorem rowsA_out {d : S_api_Dqbf} {n : Nat} {els : List (List AVal)} {bss : List (List Bool)} {q : Nat} (h1 : q ≠ 1001) (h2 : q ≠ 1002) (h4 : q ≠ 1004) (h : q < 2000) : inL (rowsA d n els bss) q = false := by
  unfold inL; rw [rowsA_low h1 h2 h4 h]; rfl
theorem rowsA_in {d : S_api_Dqbf} {n : Nat} {els : List (List AVal)} {bss : List (List Bool)} {q : Nat} (h : 2000 ≤ q) (h2 : q - 2000 < bss.length) : inL (rowsA d n els bss) q = true := by
  unfold inL
  simp only [aget]
  rw [if_neg (by omega), if_neg (by omega), if_neg (by omega), fam_aget, if_pos h, List.getElem?_eq_getElem h2]
  rfl
theorem objSnoc {P : Program} {L : LH} {S : Nat → Bool} {g e : Nat} {ps : List (List AVal)} {vs us : List AVal} (h : (ps.all fun el => el.all fun v => sc v && closedV S v) = true) (h2 : FrzVs P L S vs us) : ObjFrz P L S (.row g e (ps ++ [vs])) (.row g e (ps ++ [us])) := by
  refine ⟨rfl, rfl, by simp, fun i el el' h3 h4 => ?_⟩
  by_cases hi : i < ps.length
  · rw [List.getElem?_append_left hi] at h3 h4
    rw [h3] at h4; injection h4 with h4; subst h4
    refine ⟨rfl, fun j v u hv hu => ?_⟩
    rw [hv] at hu; injection hu with hu; subst hu
    have := List.all_eq_true.1 (List.all_eq_true.1 h el (List.mem_of_getElem? h3)) v (List.mem_of_getElem? hv)
    simp only [Bool.and_eq_true] at this
    exact ⟨this.1, .keep this.2⟩
  · rw [List.getElem?_append_right (by omega)] at h3 h4
    have : i - ps.length = 0 := by
      refine Classical.byContradiction fun hh => ?_
      obtain ⟨k, hk⟩ : ∃ k, i - ps.length = k + 1 := ⟨i - ps.length - 1, by omega⟩
      rw [hk] at h3; simp at h3
    rw [this] at h3 h4
    simp at h3 h4
    subst h3; subst h4
    exact ⟨h2.len, fun j v u hv hu => h2.get j v u hv hu⟩
theorem range_ct : ∀ {α : Type} (xs : List α) (j n : Nat), n = j + xs.length → rangeF (fun (i : Nat) (_ : α) (s : Nat) k => if s = i then k (s + 1) else none) j xs j (fun s => if s = n then some () else none) = some ()
  | _, [], j, n, h => by
    have : j = n := by simpa using h.symm
    show (if j = n then some () else none) = some ()
    rw [if_pos this]
  | _, x :: xs, j, n, h => by
    show (if j = j then _ else none) = some ()
    rw [if_pos rfl]
    exact range_ct xs (j + 1) n (by simp at h; omega)

/-! the rows in the second loop -/
abbrev rowsB (d : S_api_Dqbf) (s : List S_api_Table) (m : Nat) (ptrs : List (List AVal)) : LH :=
  LS 0 (2 * s.length) (2 * m) d s.length m :: (1002, .row (2 * s.length) 56 (tabC 2000 s)) :: (1003, .row (2 * m) 118 ptrs) :: famL 2000 (s.map (·.Bits))
theorem rowsB_high {d : S_api_Dqbf} {s : List S_api_Table} {m : Nat} {ptrs : List (List AVal)} {q : Nat} (h : 2000 ≤ q) : aget (rowsB d s m ptrs) q = ((s.map (·.Bits))[q - 2000]?).map (rw' 1 4 eB) := by
  simp only [aget]
  rw [if_neg (by omega), if_neg (by omega), if_neg (by omega), fam_aget, if_pos h]
theorem rowsB_low {d : S_api_Dqbf} {s : List S_api_Table} {m : Nat} {ptrs : List (List AVal)} {q : Nat} (h1 : q ≠ 1001) (h2 : q ≠ 1002) (h4 : q ≠ 1003) (h : q < 2000) : aget (rowsB d s m ptrs) q = none := by
  simp only [aget]
  rw [if_neg (by omega), if_neg (by omega), if_neg (by omega), fam_aget, if_neg (by omega)]
theorem rowsB_in {d : S_api_Dqbf} {s : List S_api_Table} {m : Nat} {ptrs : List (List AVal)} {q : Nat} (h : 2000 ≤ q) (h2 : q - 2000 < s.length) : inL (rowsB d s m ptrs) q = true := by
  unfold inL
  rw [rowsB_high h, List.getElem?_eq_getElem (by simpa using h2)]
  rfl
theorem rowsB_frz {P : Program} {d : S_api_Dqbf} {s : List S_api_Table} {m : Nat} {ptrs : List (List AVal)} {L : LH} (h1 : aget L 1001 = aget (rowsB d s m ptrs) 1001) (h2 : aget L 1002 = aget (rowsB d s m ptrs) 1002) (h3 : aget L 1003 = aget (rowsB d s m ptrs) 1003) (h4 : ∀ q, 2000 ≤ q → aget L q = aget (rowsB d s m ptrs) q)
    (hp : (ptrs.all fun el => el.all fun v => sc v && closedV (inL (rowsB d s m ptrs)) v) = true) : FrzO P L (inL (rowsB d s m ptrs)) (rowsB d s m ptrs) :=
  ⟨⟨_, h1, objKeep rfl⟩, ⟨_, h2, objKeep (ok_tabC s 2000 (fun i hi => rowsB_in (by omega) (by omega)))⟩, ⟨_, h3, objKeep hp⟩, frzO_fam _ _ (fun i x hx => by rw [h4 _ (by omega), rowsB_high (by omega), show 2000 + i - 2000 = i by omega, hx]; rfl)⟩
theorem allIn_of {L L' : LH} (h : ∀ q, inL L q = true → inL L' q = true) : allIn L L' = true := by
  unfold allIn
  rw [List.all_eq_true]
  intro p hp
  refine h _ ?_
  have key : ∀ (l : LH) (p : Nat × AObj), p ∈ l → inL l p.1 = true := by
    intro l
    induction l with
    | nil => intro p hp; simp at hp
    | cons x l ih =>
      intro p hp
      obtain ⟨k, o⟩ := x
      unfold inL
      simp only [aget]
      by_cases h : k = p.1
      · rw [if_pos h]; rfl
      · rw [if_neg h]
        rcases List.mem_cons.1 hp with rfl | hp
        · exact absurd rfl h
        · exact ih p hp
  exact key _ p hp
theorem nilL_fam {r : Nat} {L : LH} : ∀ (l : List (List Bool)) (b : Nat), (∀ i x, l[i]? = some x → aget L (b + i) = some (rw' 1 4 eB x)) → NilL r L (famL b l)
  | [], _, _ => trivial
  | x :: l, b, h => ⟨⟨_, by simpa using h 0 x rfl, .keep _⟩, nilL_fam l (b + 1) (fun i y hy => by rw [show b + 1 + i = b + (i + 1) by omega]; exact h (i + 1) y (by simpa using hy))⟩
theorem ptrC_take : ∀ (l : List (List Bool)) (b j : Nat) (x : List Bool), l[j]? = some x → ptrC b (l.take (j + 1)) = ptrC b (l.take j) ++ (List.range x.length).map fun k => [AVal.ptr (j + b) 1 k 0]
  | [], b, j, x, h => by simp at h
  | y :: l, b, 0, x, h => by simp at h; subst h; simp [ptrC]
  | y :: l, b, j + 1, x, h => by
    simp only [List.take_succ_cons, ptrC]
    rw [ptrC_take l (b + 1) j x (by simpa using h), List.append_assoc, show j + (b + 1) = j + 1 + b by omega]
theorem st_ixRj {P : Program} {r0 : Option Nat} {E : Env} {L : LH} {r g len sz b : Nat} {els : List (List AVal)} {x i : Operand} {t e : TypeId} {k : IntKind} {j : Nat} (hs : slE P t = some (e, sz, b)) (hx : ev E x = some (.slice r g 0 len)) (hi : ev E i = some (dI k (j : Int)))
    (hr : aget L r = some (.row g e els)) (h : j < len) : opStep P r0 (.indexAddr t x i) E L = some (.ptr r g j 0, L) := by
  have := st_ixR0 (P := P) (r0 := r0) hs hx hi hr (by omega) (by simpa using h)
  simpa using this

theorem ok_newLeast {d : S_api_Dqbf} {ts : List S_api_Table} (h : newF d = some ts) : Ev Try.prog 38 [.agg [dL 1 (eI .i64) d.Univ, dL 2 e_S_api_Dep d.Exist, dL 1 (eL 1 (eI .i64)) d.Clauses]] [] (.ret (.ptr 1001 0 0 0)) (LL 0 (2 * ts.length) (2 * bitsN ts) d ts) := by
  unfold newF at h
  refine Ev.of_bodyM (N := 81) (rs := [.tmp 2]) Try.func38 (c := _) rfl rfl rfl (by kernel_rfl) rfl (Nat.le_of_ble_eq_true rfl) (fun _B => ?_)
  refine awp_rs ?_
  refine w8 (r := 1004) (st_box rfl rfl rfl co37 rfl rfl) ?_
  refine w2 ?_
  refine rw_nilk (awp_rs ?_)
  refine w4 (st_ldP (v := .agg [dL 1 (eI .i64) d.Univ, dL 2 e_S_api_Dep d.Exist, dL 1 (eL 1 (eI .i64)) d.Clauses]) ta37 rfl rfl rfl rfl) ?_
  refine w4 (st_build (vs := [dL 1 (eI .i64) d.Univ, dL 2 e_S_api_Dep d.Exist, dL 1 (eL 1 (eI .i64)) d.Clauses, .nilS, .nilS]) bl87 rfl rfl) ?_
  refine w8 (r := 1001) (st_box rfl rfl rfl co87 rfl rfl) ?_
  refine w2 ?_
  refine rw_nilk (awp_seq (awp_rs ?_))
  refine w4 (st_faP fo37_1 rfl) ?_
  refine w4 (st_ldP (v := dL 2 e_S_api_Dep d.Exist) ta35 rfl rfl rfl rfl) ?_
  refine w4 (st_lenD rfl un35) ?_
  refine w1 ?_
  refine rw_nilk (awp_block ?_)
  refine awp_len (t := 12) rfl (fun hl0 => ?_)
  rw [List.length_map] at hl0
  refine awp_range (fun (j : Nat) (s : List S_api_Table) (g : Unit) => [(1, .ptr 1004 0 0 0), (3, .ptr 1001 0 0 0), (12, dL 2 e_S_api_Dep d.Exist), (13, dI .i64 ((d.Exist.length : Nat) : Int)), (14, dI .i64 ((j : Nat) : Int))]) (fun (s : List S_api_Table) (g : Unit) => rowsA d s.length (tabC 2000 s) (s.map (·.Bits))) () (fun _ _ _ h => h) h
    (Gh.trans (gh_nil (r := 1002) (E' := [(1, .ptr 1004 0 0 0), (3, .ptr 1001 0 0 0), (12, dL 2 e_S_api_Dep d.Exist), (13, dI .i64 ((d.Exist.length : Nat) : Int)), (14, dI .i64 0)])
      (L' := [(1001, .row 0 87 [[dL 1 (eI .i64) d.Univ, dL 2 e_S_api_Dep d.Exist, dL 1 (eL 1 (eI .i64)) d.Clauses, .slice 1002 0 0 0, .nilS]]), boxD d]) rfl co56 rfl rfl ⟨⟨_, rfl, .keep _⟩, ⟨_, rfl, .keep _⟩, ⟨_, rfl, .keep _⟩, ⟨_, rfl, .keep _⟩, ⟨_, rfl, .keep _⟩, trivial⟩
      ⟨⟨_, rfl, nilOne ⟨.keep _, .keep _, .keep _, .nil, .keep _, trivial⟩⟩, ⟨_, rfl, .keep _⟩, trivial⟩)
      (gh_ext (L' := rowsA d 0 [] []) (fun q => by
        simp only [aget, famL]
        by_cases h1 : 1001 = q
        · subst h1; rfl
        · by_cases h2 : 1002 = q
          · subst h2; rfl
          · by_cases h4 : 1004 = q
            · subst h4; rfl
            · simp [h1, h2, h4]))) ?_ ?_
  · clear h; intro j x s g k hj hx h ih
    obtain ⟨y, hy, h⟩ := bind_some_elim h
    obtain ⟨c0, h⟩ := okI_some h
    obtain ⟨⟨c1, c2⟩, h⟩ := okI_some h
    obtain ⟨c3, h⟩ := okI_some h
    refine awp_rs ?_
    refine w4 (st_bin (v := dB (decide (((j : Nat) : Int) < ((d.Exist.length : Nat) : Int)))) rfl rfl rfl) ?_
    refine rw_nilk (awp_seq ?_)
    refine awp_ifT rfl (dlt hj) ?_
    refine awp_skip (nx_then (awp_seq (awp_block (awp_rs ?_))))
    refine w4 (st_ixDn sl35 rfl rfl hx) ?_
    refine w4 (st_ldD (v := .agg [dI .i64 x.Var, dL 1 (eI .i64) x.On]) ta51 rfl rfl) ?_
    refine w8 (r := 1005) (st_alloc zc51 (rowsA_low (by omega) (by omega) (by omega) (by omega)) rfl) (RW.gh (gh_ext ext_cons) ?_)
    refine w9 (L' := (1005, .row 0 51 [[dI .i64 x.Var, dL 1 (eI .i64) x.On]]) :: rowsA d s.length (tabC 2000 s) (s.map (·.Bits))) (st_stP ta51 rfl rfl rfl rfl rfl rfl rfl rfl) ?_
    refine rw_nilk (awp_rd hmix ?_)
    refine w7 (st_mv rfl) ?_
    refine w7 (st_mv rfl) ?_
    refine w7 (st_nilP rfl) ?_
    refine w7 (st_faP fo87_1 rfl) ?_
    refine w7 (st_ldP (v := .slice 1002 (2 * s.length) 0 s.length) ta41 rfl rfl rfl rfl) ?_
    refine w7 (st_faP fo51_0 rfl) ?_
    refine w7 (st_ldP (v := dI .i64 x.Var) ta3 rfl rfl rfl rfl) ?_
    refine w7 (st_faP fo51_1 rfl) ?_
    refine w7 (st_ldP (v := dL 1 (eI .i64) x.On) ta34 rfl rfl rfl rfl) ?_
    refine ownDE 1006 (oo_slices_Clone_int_int hy) rfl (by
      unfold inL
      rw [show aget ((1005, AObj.row 0 51 [[dI .i64 x.Var, dL 1 (eI .i64) x.On]]) :: rowsA d s.length (tabC 2000 s) (s.map (·.Bits))) 1006 = aget (rowsA d s.length (tabC 2000 s) (s.map (·.Bits))) 1006 from rfl, rowsA_low (by omega) (by omega) (by omega) (by omega)]; rfl) ext_cons ?_
    refine w7 (st_faP fo51_1 rfl) ?_
    refine w7 (st_ldP (v := dL 1 (eI .i64) x.On) ta34 rfl rfl rfl rfl) ?_
    refine w7 (st_lenD rfl un34) ?_
    refine w7 (st_shl rfl rfl c0) ?_
    refine rd_opE (r := s.length + 2000) (W := [s.length + 2000]) (L' := (1006, rw' 0 3 (eI .i64) y) :: (1005, .row 0 51 [[dI .i64 x.Var, dL 1 (eI .i64) x.On]]) :: rowsA d s.length (tabC 2000 s) (s.map (·.Bits) ++ [List.replicate (cntI x).toNat false])) (st_mk (f := eB) (z := false) (n := cntI x) sl54 zc4 rfl (by
        simp only [aget]
        rw [if_neg (by omega), if_neg (by omega), if_neg (by omega), if_neg (by omega), if_neg (by omega), fam_aget, if_pos (by omega)]
        simp) rfl rfl rfl c1 c2) (fun q => by
        rw [aget_aset]
        simp only [aget, fam_ext, List.length_map]
        by_cases e1 : s.length + 2000 = q
        · rw [if_pos e1, if_neg (by omega), if_neg (by omega), if_neg (by omega), if_neg (by omega), if_neg (by omega), if_pos e1]
        · rw [if_neg e1, if_neg e1]) (by simp [aget_aset]) ?_
    refine w7 (st_build (vs := [dI .i64 x.Var, .slice 1006 0 0 y.length, .slice (s.length + 2000) 1 0 (cntI x).toNat]) bl56 rfl rfl) ?_
    refine rd_opE (r := 1007) (W := [1007]) (st_bsl (els := [[dI .i64 x.Var, .slice 1006 0 0 y.length, .slice (s.length + 2000) 1 0 (cntI x).toNat]]) sl41 zc56 rfl (by
      show aget (rowsA d s.length (tabC 2000 s) (s.map (·.Bits) ++ [List.replicate (cntI x).toNat false])) 1007 = none
      exact rowsA_low (by omega) (by omega) (by omega) (by omega)) rfl rfl rfl) ext_cons (by simp [aget_aset]) ?_
    refine rd_opE (r := 0) (W := [1002]) (st_appRaw (els := tabC 2000 s) (news := [[dI .i64 x.Var, .slice 1006 0 0 y.length, .slice (s.length + 2000) 1 0 (cntI x).toNat]]) sl41 zc56 rfl rfl rfl (tabC_len s 2000).symm rfl rfl rfl rfl (by omega)) (fun _ => rfl) rfl ?_
    refine w7 (st_nilP rfl) ?_
    refine w7 (st_faP fo87_1 rfl) ?_
    refine dx rfl rfl (st_stP ta41 rfl rfl rfl rfl rfl rfl rfl rfl) rfl rfl rfl rfl ?_
    refine rd_nil (by kernel_rfl) ?_
    refine nx_block (nx_then (awp_rw ?_))
    refine w4 (st_inc rfl rfl hj hl0) ?_
    refine w1 ?_
    refine rw_nil (nx_then ?_)
    refine awp_gh ?_ (ih _ () h)
    have er : rowsA d (s ++ [S_api_Table.mk x.Var y (List.replicate (cntI x).toNat false)]).length (tabC 2000 (s ++ [S_api_Table.mk x.Var y (List.replicate (cntI x).toNat false)])) ((s ++ [S_api_Table.mk x.Var y (List.replicate (cntI x).toNat false)]).map (·.Bits)) =
        rowsA d (s.length + 1) (tabC 2000 s ++ [[dI .i64 x.Var, dL 1 (eI .i64) y, .slice (s.length + 2000) 1 0 (cntI x).toNat]]) (s.map (·.Bits) ++ [List.replicate (cntI x).toNat false]) := by
      rw [tabC_snoc]; simp
    rw [er]
    refine gf ⟨ko, ⟨_, rfl, objSnoc (ok_tabC s 2000 (fun i hi => rowsA_in (by omega) (by simp; omega))) ⟨kc, ⟨rfl, frzT rfl (rowsA_out (by omega) (by omega) (by omega) (by omega)) co3 rfl⟩, ⟨rfl, .keep (show inL _ (s.length + 2000) = true from rowsA_in (by omega) (by simp))⟩, trivial⟩⟩, ko, frzO_fam _ _ (fun i z hz => ?_)⟩
    show aget ((1007, _) :: (1006, _) :: (1005, _) :: (1001, _) :: (1002, _) :: boxD d :: famL 2000 (s.map (·.Bits) ++ [List.replicate (cntI x).toNat false])) (2000 + i) = _
    simp only [aget]
    rw [if_neg (by omega), if_neg (by omega), if_neg (by omega), if_neg (by omega), if_neg (by omega), if_neg (by omega), fam_aget, if_pos (by omega), show 2000 + i - 2000 = i by omega, hz]
    rfl
  · clear h; intro s g h
    obtain ⟨⟨ca, cb⟩, h⟩ := okI_some h
    injection h with h
    subst h
    refine awp_rs ?_
    refine w4 (st_bin (v := dB (decide (((d.Exist.length : Nat) : Int) < ((d.Exist.length : Nat) : Int)))) rfl rfl rfl) ?_
    refine rw_nilk (awp_seq ?_)
    refine awp_ifF rfl dge ?_
    refine awp_exit (ex_out (ex_out (ex_in (nx_then (awp_seq (awp_rs ?_))))))
    refine w1 ?_
    refine w4 (st_nilP rfl) ?_
    refine w4 (st_faP fo87_1 rfl) ?_
    refine w4 (st_ldP (v := .slice 1002 (2 * s.length) 0 s.length) ta41 rfl rfl rfl rfl) ?_
    refine w4 (st_lenR rfl un41 rfl) ?_
    refine w1 ?_
    refine rw_nilk (awp_block ?_)
    have hsl : s.length ≤ 9223372036854775807 := by omega
    have hA : ∀ q, 2000 ≤ q → aget (rowsA d s.length (tabC 2000 s) (s.map (·.Bits))) q = ((s.map (·.Bits))[q - 2000]?).map (rw' 1 4 eB) := fun q hq => by
      simp only [aget]
      rw [if_neg (by omega), if_neg (by omega), if_neg (by omega), fam_aget, if_pos hq]
    have okP : ∀ (m : Nat) (ptrs : List (List AVal)) (j : Nat), ((ptrC 2000 ((s.map (·.Bits)).take j)).all fun el => el.all fun v => sc v && closedV (inL (rowsB d s m ptrs)) v) = true := fun m ptrs j =>
      ok_ptrC _ 2000 (fun i hi => rowsB_in (by omega) (by simp at hi; omega))
    have okR : ∀ (m : Nat) (ptrs : List (List AVal)) (j n : Nat), j < s.length → (((List.range n).map fun k => [AVal.ptr (j + 2000) 1 k 0]).all fun el => el.all fun v => sc v && closedV (inL (rowsB d s m ptrs)) v) = true := fun m ptrs j n hj => by
      rw [List.all_eq_true]
      intro el hel
      obtain ⟨k, _, rfl⟩ := List.mem_map.1 hel
      have : inL (rowsB d s m ptrs) (j + 2000) = true := rowsB_in (by omega) (by omega)
      simp [sc, closedV, this]
    refine awp_range (fun (j : Nat) (st : Nat) (g : Unit) => [(3, .ptr 1001 0 0 0), (43, dI .i64 ((s.length : Nat) : Int)), (44, dI .i64 ((j : Nat) : Int))]) (fun (st : Nat) (g : Unit) => rowsB d s (ptrC 2000 ((s.map (·.Bits)).take st)).length (ptrC 2000 ((s.map (·.Bits)).take st))) () (fun _ _ _ h => h) (range_ct s 0 s.length (by simp))
      (Gh.trans (gh_nil (r := 1003) (E' := [(3, .ptr 1001 0 0 0), (43, dI .i64 ((s.length : Nat) : Int)), (44, dI .i64 0)])
        (L' := (1001, .row 0 87 [[dL 1 (eI .i64) d.Univ, dL 2 e_S_api_Dep d.Exist, dL 1 (eL 1 (eI .i64)) d.Clauses, .slice 1002 (2 * s.length) 0 s.length, .slice 1003 0 0 0]]) :: (1002, .row (2 * s.length) 56 (tabC 2000 s)) :: boxD d :: famL 2000 (s.map (·.Bits)))
        (rowsA_low (by omega) (by omega) (by omega) (by omega)) co118 rfl (allIn_of (fun q hq => by
          unfold inL at hq ⊢
          simp only [aget] at hq ⊢
          by_cases h1 : 1001 = q
          · rw [if_pos h1]; rfl
          · rw [if_neg h1] at hq ⊢; exact hq)) ⟨⟨_, rfl, .keep _⟩, ⟨_, rfl, .keep _⟩, ⟨_, rfl, .keep _⟩, trivial⟩
        ⟨⟨_, rfl, nilOne ⟨.keep _, .keep _, .keep _, .keep _, .nil, trivial⟩⟩, ⟨_, rfl, .keep _⟩, ⟨_, rfl, .keep _⟩, nilL_fam _ _ (fun i x hx => by rw [hA _ (by omega), show 2000 + i - 2000 = i by omega, hx]; rfl)⟩)
        (gf (rowsB_frz rfl rfl rfl (fun q hq => by
          rw [rowsB_high hq]
          simp only [aget]
          rw [if_neg (by omega), if_neg (by omega), if_neg (by omega), if_neg (by omega), fam_aget, if_pos hq]) rfl))) ?_ ?_
    · intro j x st g kk hj hx hst ih
      have hsj : st = j := by
        refine Classical.byContradiction fun hh => ?_
        rw [if_neg hh] at hst; cases hst
      subst hsj
      rw [if_pos rfl] at hst
      have hxb : (s.map (·.Bits))[st]? = some x.Bits := by rw [List.getElem?_map, hx]; rfl
      have hrow : ∀ (m : Nat) (ptrs : List (List AVal)), aget (rowsB d s m ptrs) (st + 2000) = some (rw' 1 4 eB x.Bits) := fun m ptrs => by
        rw [rowsB_high (by omega), show st + 2000 - 2000 = st by omega, hxb]; rfl
      have hcell := tabC_get s 2000 st x hx
      have hxl : (ptrC 2000 ((s.map (·.Bits)).take st)).length + x.Bits.length ≤ bitsN s := by
        have h2 := congrArg List.length (ptrC_take (s.map (·.Bits)) 2000 st x.Bits hxb)
        rw [List.length_append, List.length_map, List.length_range] at h2
        rw [← h2, ptrC_len, bitsN_eq]
        conv => rhs; rw [← List.take_append_drop (st + 1) (s.map (·.Bits)), List.map_append, List.sum_append]
        omega
      refine awp_rs ?_
      refine w4 (st_bin (v := dB (decide (((st : Nat) : Int) < ((s.length : Nat) : Int)))) rfl rfl rfl) ?_
      refine rw_nilk (awp_seq ?_)
      refine awp_ifT rfl (dlt hj) ?_
      refine awp_skip (nx_then (awp_seq (awp_block (awp_rs ?_))))
      refine w1 ?_
      refine w2 ?_
      refine rw_nilk (awp_rs ?_)
      refine w1 ?_
      refine w4 (st_nilP rfl) ?_
      refine w4 (st_faP fo87_1 rfl) ?_
      refine w4 (st_ldP (v := .slice 1002 (2 * s.length) 0 s.length) ta41 rfl rfl rfl rfl) ?_
      refine w1 ?_
      refine w4 (st_ixRj sl41 rfl rfl rfl hj) ?_
      refine w4 (st_faP fo56_2 rfl) ?_
      refine w4 (st_ldP (v := .slice (st + 2000) 1 0 x.Bits.length) ta54 rfl rfl hcell rfl) ?_
      refine w4 (st_lenR rfl un54 (hrow _ _)) ?_
      refine w1 ?_
      refine rw_nilk (awp_block ?_)
      refine awp_range (fun (k : Nat) (n : Nat) (g : Unit) => [(3, .ptr 1001 0 0 0), (6, dI .i64 ((st : Nat) : Int)), (43, dI .i64 ((s.length : Nat) : Int)), (44, dI .i64 ((st : Nat) : Int)), (55, dI .i64 ((x.Bits.length : Nat) : Int)), (56, dI .i64 ((k : Nat) : Int))])
        (fun (n : Nat) (g : Unit) => rowsB d s ((ptrC 2000 ((s.map (·.Bits)).take st)).length + n) (ptrC 2000 ((s.map (·.Bits)).take st) ++ (List.range n).map fun k => [AVal.ptr (st + 2000) 1 k 0])) () (fun _ _ _ h => h) (range_ct x.Bits 0 x.Bits.length (by simp)) (by
          have e : (ptrC 2000 ((s.map (·.Bits)).take st) ++ (List.range 0).map fun k => [AVal.ptr (st + 2000) 1 k 0]) = ptrC 2000 ((s.map (·.Bits)).take st) := by simp
          rw [e]
          exact gf (rowsB_frz rfl rfl rfl (fun q _ => rfl) (okP _ _ _))) ?_ ?_
      · intro k b n g2 kk2 hk hb hn ih2
        have hnk : n = k := by
          refine Classical.byContradiction fun hh => ?_
          rw [if_neg hh] at hn; cases hn
        subst hnk
        rw [if_pos rfl] at hn
        refine awp_rs ?_
        refine w4 (st_bin (v := dB (decide (((n : Nat) : Int) < ((x.Bits.length : Nat) : Int)))) rfl rfl rfl) ?_
        refine rw_nilk (awp_seq ?_)
        refine awp_ifT rfl (dlt hk) ?_
        refine awp_skip (nx_then (awp_seq (awp_block (awp_rs ?_))))
        refine w1 ?_
        refine w2 ?_
        refine rw_nilk (awp_rd hmix ?_)
        refine w7 (st_mv rfl) ?_
        refine w7 (st_mv rfl) ?_
        refine w7 (st_nilP rfl) ?_
        refine w7 (st_faP fo87_2 rfl) ?_
        refine w7 (st_ldP (v := .slice 1003 (2 * ((ptrC 2000 ((s.map (·.Bits)).take st)).length + n)) 0 ((ptrC 2000 ((s.map (·.Bits)).take st)).length + n)) ta85 rfl rfl rfl rfl) ?_
        refine w7 (st_mv rfl) ?_
        refine w7 (st_nilP rfl) ?_
        refine w7 (st_faP fo87_1 rfl) ?_
        refine w7 (st_ldP (v := .slice 1002 (2 * s.length) 0 s.length) ta41 rfl rfl rfl rfl) ?_
        refine w7 (st_mv rfl) ?_
        refine w7 (st_ixRj sl41 rfl rfl rfl hj) ?_
        refine w7 (st_faP fo56_2 rfl) ?_
        refine w7 (st_ldP (v := .slice (st + 2000) 1 0 x.Bits.length) ta54 rfl rfl hcell rfl) ?_
        refine w7 (st_mv rfl) ?_
        refine w7 (st_ixRj sl54 rfl rfl (hrow _ _) hk) ?_
        refine rd_opE (r := 1008) (W := [1008]) (st_bsl (els := [[.ptr (st + 2000) 1 n 0]]) sl85 zc118 rfl (rowsB_low (by omega) (by omega) (by omega) (by omega)) rfl rfl rfl) ext_cons (by simp [aget_aset]) ?_
        refine rd_opE (r := 0) (W := [1003]) (st_appRaw (els := ptrC 2000 ((s.map (·.Bits)).take st) ++ (List.range n).map fun k => [AVal.ptr (st + 2000) 1 k 0]) (news := [[.ptr (st + 2000) 1 n 0]]) sl85 zc118 rfl rfl rfl (by simp) rfl rfl rfl rfl (by omega)) (fun _ => rfl) rfl ?_
        refine w7 (st_nilP rfl) ?_
        refine w7 (st_faP fo87_2 rfl) ?_
        refine dx rfl rfl (st_stP ta85 rfl rfl rfl rfl rfl rfl rfl rfl) rfl rfl rfl rfl ?_
        refine rd_nil (by kernel_rfl) ?_
        refine nx_block (nx_then (awp_rw ?_))
        refine w4 (st_inc rfl rfl hk (by omega)) ?_
        refine w1 ?_
        refine rw_nil (nx_then ?_)
        refine awp_gh ?_ (ih2 (n + 1) () hn)
        have e : (ptrC 2000 ((s.map (·.Bits)).take st) ++ (List.range (n + 1)).map fun k => [AVal.ptr (st + 2000) 1 k 0]) = (ptrC 2000 ((s.map (·.Bits)).take st) ++ (List.range n).map fun k => [AVal.ptr (st + 2000) 1 k 0]) ++ [[.ptr (st + 2000) 1 n 0]] := by
          rw [List.range_succ, List.map_append, List.append_assoc]; rfl
        rw [e]
        refine gf (rowsB_frz rfl rfl rfl (fun q hq => ?_) ?_)
        · rw [rowsB_high hq]
          show aget ((1008, _) :: (1001, _) :: (1002, _) :: (1003, _) :: famL 2000 (s.map (·.Bits))) q = _
          simp only [aget]
          rw [if_neg (by omega), if_neg (by omega), if_neg (by omega), if_neg (by omega), fam_aget, if_pos hq]
        · rw [← e, List.all_append, okP, okR _ _ _ _ hj]; rfl
      · intro n g2 hn
        have hnl : n = x.Bits.length := by
          refine Classical.byContradiction fun hh => ?_
          rw [if_neg hh] at hn; cases hn
        subst hnl
        refine awp_rs ?_
        refine w4 (st_bin (v := dB (decide (((x.Bits.length : Nat) : Int) < ((x.Bits.length : Nat) : Int)))) rfl rfl rfl) ?_
        refine rw_nilk (awp_seq ?_)
        refine awp_ifF rfl dge ?_
        refine awp_exit (ex_out (ex_out (ex_in (nx_block (nx_then (awp_rw ?_))))))
        refine w4 (st_inc rfl rfl hj hsl) ?_
        refine w1 ?_
        refine rw_nil (nx_then ?_)
        refine awp_gh ?_ (ih (st + 1) () hst)
        have e := ptrC_take (s.map (·.Bits)) 2000 st x.Bits hxb
        have e2 := congrArg List.length e
        rw [List.length_append, List.length_map, List.length_range] at e2
        rw [e2, e]
        exact gf (rowsB_frz rfl rfl rfl (fun q _ => rfl) (by rw [List.all_append, okP, okR _ _ _ _ hj]; rfl))
    · intro st g hst
      have hst2 : st = s.length := by
        refine Classical.byContradiction fun hh => ?_
        rw [if_neg hh] at hst; cases hst
      subst hst2
      refine awp_rs ?_
      refine w4 (st_bin (v := dB (decide (((s.length : Nat) : Int) < ((s.length : Nat) : Int)))) rfl rfl rfl) ?_
      refine rw_nilk (awp_seq ?_)
      refine awp_ifF rfl dge ?_
      refine awp_exit (ex_out (ex_out (ex_in (nx_then (awp_rs ?_)))))
      refine w1 ?_
      refine w2 ?_
      refine rw_nilk (awp_ret ?_)
      have e : (s.map (·.Bits)).take s.length = s.map (·.Bits) := by rw [List.take_of_length_le (by simp)]
      rw [e, show (ptrC 2000 (s.map (·.Bits))).length = bitsN s by rw [ptrC_len, bitsN_eq]]
      exact retM (v := .ptr 1001 0 0 0) (resV_one (resVs_tmp rfl resVs_nil)) rfl (.keep rfl) LL_frz


theorem tab_lend {P : Program} (hc56 : P.cellsOf 56 = 3) (hc4 : P.cellsOf 4 = 1) {L : LH} {gT : Nat} {ts : List S_api_Table} {ρ : Rho} {w : World} (hL : SatL P ρ L w) (h2 : aget L 1002 = some (.row gT 56 (tabC 2000 ts)))
    (hf : ∀ i t, ts[i]? = some t → aget L (2000 + i) = some (rw' 1 4 eB t.Bits)) {c : Value} (hv : VRel w ρ (.slice 1002 gT 0 ts.length) c) : VRel w (restr ρ (fun _ => false)) (dL 3 e_S_api_Table ts) c := by
  have ha : Agree (fun _ => false) ρ (restr ρ (fun _ => false)) := restr_agree ρ _
  have hm : ∀ r x, (restr ρ (fun _ => false)).m r = some x → (fun _ => false) r = true ∧ ρ.m r = some x := fun r x hx => restr_m hx
  have key : ∀ (us : List S_api_Table) (b : Nat), (∀ i t, us[i]? = some t → aget L (b + i) = some (rw' 1 4 eB t.Bits)) → ∀ (i : Nat) el el', (tabC b us)[i]? = some el → (rowOf (us.map e_S_api_Table))[i]? = some el' → el.length = el'.length ∧ ∀ (j : Nat) v u, el[j]? = some v → el'[j]? = some u → Frz P L (fun _ => false) v u := by
    intro us
    induction us with
    | nil => intro b _ i el el' h1; simp [tabC] at h1
    | cons t us ih =>
      intro b hb i el el' h1 h2
      cases i with
      | zero =>
        simp only [tabC, rowOf, List.map_cons, List.getElem?_cons_zero, Option.some.injEq] at h1 h2
        subst h1; subst h2
        refine ⟨rfl, fun j v u hv hu => ?_⟩
        match j, hv, hu with
        | 0, hv, hu => injection hv with hv; injection hu with hu; subst hv; subst hu; exact .keep rfl
        | 1, hv, hu => injection hv with hv; injection hu with hu; subst hv; subst hu; exact .keep rfl
        | 2, hv, hu =>
          injection hv with hv; injection hu with hu; subst hv; subst hu
          have := hb 0 t rfl
          rw [Nat.add_zero] at this
          exact frzT this rfl hc4 rfl
        | j + 3, hv, hu => simp at hv
      | succ i =>
        simp only [tabC, rowOf, List.map_cons, List.getElem?_cons_succ] at h1 h2
        exact ih (b + 1) (fun i t ht => by rw [show b + 1 + i = b + (i + 1) by omega]; exact hb (i + 1) t (by simpa using ht)) i el el' h1 h2
  have hv' : VRel w ρ (.slice 1002 gT 0 (tabC 2000 ts).length) c := by rw [tabC_len]; exact hv
  have := frzD hL ha hm rfl (r := 1002) (g := gT) (e := 56) (els := tabC 2000 ts) (ds := ts.map e_S_api_Table) h2 rfl (by rw [tabC_len]; simp [rowOf]) (key ts 2000 hf) hv'
  rw [hc56] at this
  exact this
theorem gh_sem {X : Cx} {E E' : Env} {L : LH} (hX : X.K = ids []) (hE : ∀ ρ w, SatL X.P ρ L w → ∀ t u, aget E' t = some u → ∃ v, aget E t = some v ∧ ∀ c, VRel w ρ v c → VRel w (restr ρ (fun _ => false)) u c) : Gh X E L E' [] := fun ρ a w hS => by
  have hk : ∀ r, X.K r → (fun _ => false) r = true := fun r hr => by rw [hX] at hr; simp [ids, aget] at hr
  refine ⟨restr ρ (fun _ => false), ⟨hS.n, fun t u ht => ?_, ⟨fun r o ho => by simp [aget] at ho, fun r x hx => ?_, fun r r' x x' b h1 => ?_, fun b hb => ?_, hS.heap.elt⟩, hS.marks.fr (restr_fr ρ w (fun _ => false) X.K hk), hS.base⟩, restr_fr ρ w (fun _ => false) X.K hk⟩
  · obtain ⟨v, hv, hz⟩ := hE ρ w hS.heap t u ht
    obtain ⟨h1, h2⟩ := hS.env t v hv
    exact ⟨h1, hz _ h2⟩
  · have := (restr_m hx).1; simp at this
  · have := (restr_m h1).1; simp at this
  · obtain ⟨r, g, l, h1, _⟩ := hb
    have := (restr_m h1).1; simp at this
section
variable {X : Cx} {Q : Ex → Env → LH → Prop} {ops : Array Oper} {rest : List Oper} {i : Nat} {E : Env} {L L0 L1 L' : LH}
/-- a call whose rows are some of those that are there -/
theorem rcallS {d : Nat} {fid : FuncId} {args : Array Operand} {ats : Array TypeId} {ty : TypeId} {pos : String} {af : Array Edge} {g : Option (Nat × Bool)} {vs : List AVal} {v : AVal}
    (hev : Ev X.P fid vs L0 (.ret v) L1) (ha : evl E args.toList = some vs) (hs : ∀ r o, aget L0 r = some o → aget L r = some o) (hc : closedL (inL L0) vs = true) (ho : ∀ r o, aget L0 r = some o → closedO (inL L0) o = true) (hn : ∀ r, inL L1 r = true → inL L0 r = true ∨ inL L r = false)
    (hL : ∀ q, aget L' q = aget (mergeL L L1) q) (hk : RW X Q ops (i + 1) rest ((d, v) :: E) L') (hN : Nat.blt d X.N = true := by exact rfl) (hg : gval ops.toList E g = some true := by exact rfl) : RW X Q ops i (Oper.mk (some d) (.call { callee := .value (.func fid), args, argTypes := ats }) ty pos af g :: rest) E L := by
  refine rw_call (d := some d) (R := fun o l => o = .ret v ∧ l = mergeL L L1) hN hg rfl ha (by
    rw [List.append_nil, List.nil_append]
    exact Ev.toR (hev.frame hs hc ho hn)) (fun v' L' h => ?_) (fun v' L' h => by cases h.1)
  obtain ⟨h1, h2⟩ := h
  injection h1 with h1
  subst h1; subst h2
  exact RW.gh (gh_ext hL) hk
end
theorem ok_truth_Skolem {a0 : S_api_Dqbf} {r : List S_api_Table × Int} (h : F_truth_Skolem a0 = some r) : Fn Try.prog 16 [.agg [dL 1 (eI .i64) a0.Univ, dL 2 e_S_api_Dep a0.Exist, dL 1 (eL 1 (eI .i64)) a0.Clauses]] (.tup [dL 3 e_S_api_Table r.1, dI .i64 r.2]) := by
  unfold F_truth_Skolem at h
  refine Fn.of_body (N := 23) (rs := [.tmp 2, .tmp 3]) Try.func16 (c := _) rfl rfl rfl (by kernel_rfl) (Nat.le_of_ble_eq_true rfl) (fun _B => ?_)
  refine awp_rs ?_
  refine w8 (r := 1010) (st_box rfl rfl rfl co37 rfl rfl) ?_
  refine w2 ?_
  refine w2 ?_
  refine rw_nilk (awp_seq (awp_rs ?_))
  refine w4 (st_ldP (v := .agg [dL 1 (eI .i64) a0.Univ, dL 2 e_S_api_Dep a0.Exist, dL 1 (eL 1 (eI .i64)) a0.Clauses]) ta37 rfl rfl rfl rfl) ?_
  obtain ⟨m, hm, h⟩ := bind_some_elim h
  refine rf rfl rfl (ok_prefix_MayDqbf hm) rfl rfl ?_
  refine w4 (st_un (v := dB (!m)) rfl rfl) ?_
  refine rw_nilk ?_
  refine awp_ite (b := (!m)) rfl (fun p1 => ?_) (fun p1 => ?_)
  · replace h := ite_T p1 h
    refine awp_rs ?_
    refine w2 ?_
    refine w2 ?_
    refine rw_nilk (awp_ret (rt_then ?_))
    injection h with h; subst h
    exact ret_out (v := .tup [.nilS, dI .i64 2]) (resV_many (resVs_tmp rfl (resVs_tmp rfl resVs_nil))) (frz_tup ⟨.nilS _, .keep rfl, trivial⟩)
  replace h := ite_F p1 h
  obtain ⟨e, he, h⟩ := bind_some_elim h
  refine awp_skip (nx_then (awp_seq (awp_rs ?_)))
  refine w4 (st_ldP (v := .agg [dL 1 (eI .i64) a0.Univ, dL 2 e_S_api_Dep a0.Exist, dL 1 (eL 1 (eI .i64)) a0.Clauses]) ta37 rfl rfl rfl rfl) ?_
  refine rf rfl rfl (ok_truth_few he) rfl rfl ?_
  refine w2 ?_
  refine rw_nilk (awp_rs ?_)
  refine w1 ?_
  refine w4 (st_bin (v := dB (e != 0)) rfl rfl rfl) ?_
  refine rw_nilk ?_
  refine awp_ite (b := (e != 0)) rfl (fun p2 => ?_) (fun p2 => ?_)
  · replace h := ite_T p2 h
    refine awp_rs ?_
    refine w1 ?_
    refine w2 ?_
    refine w2 ?_
    refine rw_nilk (awp_ret (rt_then ?_))
    injection h with h; subst h
    exact ret_out (v := .tup [.nilS, dI .i64 e]) (resV_many (resVs_tmp rfl (resVs_tmp rfl resVs_nil))) (frz_tup ⟨.nilS _, .keep rfl, trivial⟩)
  replace h := ite_F p2 h
  obtain ⟨ts, hts, h⟩ := bind_some_elim h
  obtain ⟨q, hq, h⟩ := bind_some_elim h
  have hlq := findP_len _ _ _ hq
  refine awp_skip (nx_then (awp_rs ?_))
  refine w4 (st_ldP (v := .agg [dL 1 (eI .i64) a0.Univ, dL 2 e_S_api_Dep a0.Exist, dL 1 (eL 1 (eI .i64)) a0.Clauses]) ta37 rfl rfl rfl rfl) ?_
  refine rcallS (L0 := []) (L' := (1010, .row 0 37 [[dL 1 (eI .i64) a0.Univ, dL 2 e_S_api_Dep a0.Exist, dL 1 (eL 1 (eI .i64)) a0.Clauses]]) :: LL 0 (2 * ts.length) (2 * bitsN ts) a0 ts) (ok_newLeast hts) rfl (fun r o ho => by simp [aget] at ho) rfl (fun r o ho => by simp [aget] at ho) (fun r hr => .inr ?_) (fun q => ?_) ?_
  · by_cases h10 : 1010 = r
    · subst h10
      unfold inL at hr
      rw [LL_low 1010 (by omega) (by omega) (by omega) (by omega)] at hr
      cases hr
    · unfold inL
      show (if 1010 = r then _ else _ : Option AObj).isSome = false
      rw [if_neg h10]; rfl
  · rw [mergeL_get]
    by_cases h10 : 1010 = q
    · subst h10
      rw [LL_low 1010 (by omega) (by omega) (by omega) (by omega)]
      rfl
    · show (if 1010 = q then _ else aget (LL 0 (2 * ts.length) (2 * bitsN ts) a0 ts) q) = _
      rw [if_neg h10]
      cases aget (LL 0 (2 * ts.length) (2 * bitsN ts) a0 ts) q with
      | some o => rfl
      | none =>
        show none = (if 1010 = q then _ else _ : Option AObj)
        rw [if_neg h10]; rfl
  refine w2 ?_
  refine rw_nilk (awp_seq (awp_rs ?_))
  refine w1 ?_
  refine rcallS (L0 := LL 0 (2 * ts.length) (2 * bitsN ts) a0 ts) (L' := (1010, .row 0 37 [[dL 1 (eI .i64) a0.Univ, dL 2 e_S_api_Dep a0.Exist, dL 1 (eL 1 (eI .i64)) a0.Clauses]]) :: LL 0 (2 * ts.length) (2 * bitsN ts) a0 q.2) (ok_find 1000000 hq) rfl (fun r o ho => ?_) rfl LL_clos.get (fun r hr => .inl (by rw [← LL_keys hlq]; exact hr)) (fun p => ?_) ?_
  · by_cases h10 : 1010 = r
    · subst h10
      rw [LL_low 1010 (by omega) (by omega) (by omega) (by omega)] at ho
      cases ho
    · show (if 1010 = r then _ else _ : Option AObj) = some o
      rw [if_neg h10]; exact ho
  · rw [mergeL_get]
    by_cases h10 : 1010 = p
    · subst h10
      rw [LL_low 1010 (by omega) (by omega) (by omega) (by omega)]
      rfl
    · show (if 1010 = p then _ else aget (LL 0 (2 * ts.length) (2 * bitsN ts) a0 q.2) p) = _
      rw [if_neg h10]
      have hk := LL_keys (gs := 0) (gT := 2 * ts.length) (gP := 2 * bitsN ts) (d := a0) (gs' := 0) (gT' := 2 * ts.length) (gP' := 2 * bitsN ts) (d' := a0) hlq p
      unfold inL at hk
      cases hx : aget (LL 0 (2 * ts.length) (2 * bitsN ts) a0 q.2) p with
      | some o => rfl
      | none =>
        rw [hx] at hk
        show none = (if 1010 = p then _ else aget (LL 0 (2 * ts.length) (2 * bitsN ts) a0 ts) p : Option AObj)
        rw [if_neg h10]
        cases hy : aget (LL 0 (2 * ts.length) (2 * bitsN ts) a0 ts) p with
        | none => rfl
        | some o => rw [hy] at hk; cases hk
  refine w4 (st_un (v := dB (!q.1)) rfl rfl) ?_
  refine rw_nilk ?_
  refine awp_ite (b := (!q.1)) rfl (fun p3 => ?_) (fun p3 => ?_)
  · replace h := ite_T p3 h
    refine awp_rs ?_
    refine w2 ?_
    refine w2 ?_
    refine rw_nilk (awp_ret (rt_then ?_))
    injection h with h; subst h
    exact ret_out (v := .tup [.nilS, dI .i64 6]) (resV_many (resVs_tmp rfl (resVs_tmp rfl resVs_nil))) (frz_tup ⟨.nilS _, .keep rfl, trivial⟩)
  replace h := ite_F p3 h
  injection h with h; subst h
  refine awp_skip (nx_then (awp_rs ?_))
  refine w1 ?_
  refine w4 (st_nilP rfl) ?_
  refine w4 (st_faP fo87_1 rfl) ?_
  refine w4 (st_ldP (v := .slice 1002 (2 * ts.length) 0 q.2.length) ta41 rfl rfl rfl rfl) ?_
  refine w2 ?_
  refine w2 ?_
  refine rw_nilk (awp_gh (E' := [(2, dL 3 e_S_api_Table q.2), (3, dI .i64 0)]) (L' := []) (gh_sem rfl (fun ρ w hL t u ht => ?_)) (awp_ret ?_))
  · simp only [aget] at ht
    by_cases t2 : 2 = t
    · subst t2
      rw [if_pos rfl] at ht
      injection ht with ht; subst ht
      exact ⟨_, rfl, fun c hc => tab_lend co56 co4 hL rfl (fun i z hz => by
        show (if 1010 = 2000 + i then _ else aget (LL 0 (2 * ts.length) (2 * bitsN ts) a0 q.2) (2000 + i)) = _
        rw [if_neg (by omega), LL_get _ (by omega), show 2000 + i - 2000 = i by omega, List.getElem?_map, hz]; rfl) hc⟩
    · rw [if_neg t2] at ht
      by_cases t3 : 3 = t
      · subst t3
        rw [if_pos rfl] at ht
        injection ht with ht; subst ht
        exact ⟨_, rfl, fun c hc => Frz.sound hL (restr_agree ρ _) (fun r x hx => restr_m hx) rfl (.keep rfl) hc⟩
      · rw [if_neg t3] at ht; cases ht
  exact ret_out (v := .tup [dL 3 e_S_api_Table q.2, dI .i64 0]) (resV_many (resVs_tmp rfl (resVs_tmp rfl resVs_nil))) (.keep rfl)

theorem ok_truth_Dqbf {a0 : S_api_Dqbf} {r : (Int × Int)} (h : F_truth_Dqbf a0 = some r) : Fn Try.prog 14 [.agg [dL 1 (eI .i64) a0.Univ, dL 2 e_S_api_Dep a0.Exist, dL 1 (eL 1 (eI .i64)) a0.Clauses]] (.tup [dI .u8 r.1, dI .i64 r.2]) := by
 unfold F_truth_Dqbf at h;refine Fn.of_body (N := 17) (rs := [.tmp 2, .tmp 3]) Try.func14 (c := _) rfl rfl rfl (by kernel_rfl) (Nat.le_of_ble_eq_true rfl) (fun _B => ?_);refine awp_rs ?_;refine w8 (r := 1001) (st_box rfl rfl rfl co37 rfl rfl) ?_;refine w2 ?_;refine w2 ?_;refine rw_nilk (awp_rs ?_);refine w4 (st_ldP (v := .agg [dL 1 (eI .i64) a0.Univ, dL 2 e_S_api_Dep a0.Exist, dL 1 (eL 1 (eI .i64)) a0.Clauses]) ta37 rfl rfl rfl rfl) ?_;obtain ⟨y101, hy101, h⟩ := bind_some_elim h;refine rf rfl rfl (ok_truth_Skolem hy101) rfl rfl ?_;refine w1 ?_;refine w4 (st_ext rfl rfl) ?_;refine w4 (st_ext rfl rfl) ?_;refine w2 ?_;refine w2 ?_;refine rw_nilk (awp_seq (awp_rs ?_));refine w1 ?_;refine rw_nilk (awp_block (awp_rs ?_));refine w4 (st_bin (v := dB (y101.2 == 0)) rfl rfl rfl) ?_;refine w2 ?_;refine rw_nilk ?_;refine awp_ite (b := (y101.2 == 0)) rfl (fun p102 => ?_) (fun p102 => ?_)
 ·replace h := ite_T p102 h;refine awp_rs ?_;refine w2 ?_;refine w2 ?_;refine rw_nilk (awp_ret (rt_block (rt_then ?_)));injection h with h;subst h;exact ret_out (v := .tup [dI .u8 1, dI .i64 0]) (resV_many (resVs_tmp rfl (resVs_tmp rfl resVs_nil))) (.keep rfl)
 ·replace h := ite_F p102 h;refine awp_rs ?_;refine w4 (st_bin (v := dB (y101.2 == 6)) rfl rfl rfl) ?_;refine w2 ?_;refine rw_nilk ?_;refine awp_ite (b := (y101.2 == 6)) rfl (fun p103 => ?_) (fun p103 => ?_)
  ·replace h := ite_T p103 h;refine awp_rs ?_;refine w2 ?_;refine w2 ?_;refine rw_nilk (awp_ret (rt_block (rt_then ?_)));injection h with h;subst h;exact ret_out (v := .tup [dI .u8 2, dI .i64 0]) (resV_many (resVs_tmp rfl (resVs_tmp rfl resVs_nil))) (.keep rfl)
  ·replace h := ite_F p103 h;refine awp_skip (nx_block (nx_then (awp_rs ?_)));refine w1 ?_;refine w2 ?_;refine w2 ?_;refine rw_nilk (awp_ret ?_);injection h with h;subst h;exact ret_out (v := .tup [dI .u8 0, dI .i64 y101.2]) (resV_many (resVs_tmp rfl (resVs_tmp rfl resVs_nil))) (.keep rfl)

abbrev Z100003_0 : Nat × AObj := (1018, .row 0 84 [[.fn 68 [] [.ptr 1016 0 0 0, .ptr 1017 0 0 0, .ptr 1018 0 0 0]]])
abbrev Z100003_1 (p0 : (List S_truth_turn)) (p1 : (List (List Int))) : Nat × AObj := (1016, .row 0 73 [[dL 2 e_S_truth_turn p0, dL 1 (eL 1 (eI .i64)) p1]])
abbrev Z100003_2 : Nat × AObj := (1017, .row 0 77 [[.map 1015]])
abbrev Z100003_3 (m0 : (List (Int × Bool))) : Nat × AObj := (1015, mapO .i64 (fun (b : Bool) => dB b) m0)

theorem oc_truth_game_left_c1_3 : ∀ (n : Nat) {p0 : (List S_truth_turn)} {p1 : (List (List Int))} {b0 : Int} {m0 : (List (Int × Bool))} {r : Bool × (List (Int × Bool))} (h : F_truth_game_left_c1_3 n p0 p1 b0 m0 = some r), Ev Try.prog 68 [dI .i64 b0, .ptr 1016 0 0 0, .ptr 1017 0 0 0, .ptr 1018 0 0 0] [Z100003_3 m0, Z100003_1 p0 p1, Z100003_2, Z100003_0] (.ret (dB r.1)) [(1015, mapO .i64 (fun (b : Bool) => dB b) r.2), Z100003_1 p0 p1, Z100003_2, Z100003_0]
 | 0, _, _, _, _, _, h => by simp [F_truth_game_left_c1_3] at h
 | n + 1, p0, p1, b0, m0, r, h => by
  have ih : ∀ {p0 : (List S_truth_turn)} {p1 : (List (List Int))} {b0 : Int} {m0 : (List (Int × Bool))} {r : Bool × (List (Int × Bool))} (h : F_truth_game_left_c1_3 n p0 p1 b0 m0 = some r), Ev Try.prog 68 [dI .i64 b0, .ptr 1016 0 0 0, .ptr 1017 0 0 0, .ptr 1018 0 0 0] [Z100003_3 m0, Z100003_1 p0 p1, Z100003_2, Z100003_0] (.ret (dB r.1)) [(1015, mapO .i64 (fun (b : Bool) => dB b) r.2), Z100003_1 p0 p1, Z100003_2, Z100003_0] := oc_truth_game_left_c1_3 n
  simp only [F_truth_game_left_c1_3] at h;refine Ev.of_bodyM (N := 40) (rs := [.tmp 5]) Try.func68 (c := _) rfl rfl rfl (by kernel_rfl) rfl (Nat.le_of_ble_eq_true rfl) (fun _B => ?_);refine awp_rs ?_;refine w2 ?_;refine rw_nilk (awp_seq (awp_rs ?_));refine w1 ?_;refine w4 (st_faP fo73_0 rfl) ?_;refine w4 (st_ldP (v := dL 2 e_S_truth_turn p0) ta71 rfl rfl rfl rfl) ?_;refine w4 (st_lenD rfl un71) ?_;refine w4 (st_bin (v := dB (b0 == ((p0.length : Nat) : Int))) rfl rfl rfl) ?_;refine rw_nilk ?_;refine awp_ite (b := (b0 == ((p0.length : Nat) : Int))) rfl (fun p101 => ?_) (fun p101 => ?_)
  ·replace h := ite_T p101 h;refine awp_rs ?_;refine w4 (st_ldP (v := .map 1015) ta77 rfl rfl rfl rfl) ?_;refine w4 (st_faP fo73_1 rfl) ?_;refine w4 (st_ldP (v := dL 1 (eL 1 (eI .i64)) p1) ta23 rfl rfl rfl rfl) ?_;refine rw_jn (fun (s513 : Bool) (g514 : Unit) => [(15, dB s513)]) (fun (s513 : Bool) (g514 : Unit) => [Z100003_3 m0, Z100003_1 p0 p1, Z100003_2, Z100003_0]) h ?_ ?_
   ·clear h;intro s513 g514 h;refine w2 ?_;refine rw_nilk (awp_ret (rt_then ?_));injection h with h;subst h;exact retM (v := dB s513) (resV_one (resVs_tmp rfl resVs_nil)) rfl (.keep rfl) ⟨km, ko, ko, ko, trivial⟩
   ·clear h;intro k515 h J515;refine ri (N := 19) (rs := [.tmp 4]) rfl rfl rfl rfl Try.func67 rfl rfl rfl (by kernel_rfl) rfl (fun _B => ?_);refine awp_rs ?_;refine w2 ?_;refine rw_nilk (awp_seq (awp_rs ?_));refine w1 ?_;refine w4 (st_lenD rfl un23) ?_;refine w1 ?_;refine rw_nilk (awp_block ?_);refine awp_len (t := 1) rfl (fun hl519 => ?_);rw [List.length_map] at hl519;refine awp_range (fun (j519 : Nat) (s516 : Unit) (g517 : Unit) => [(0, .map 1015), (7, dL 1 (eL 1 (eI .i64)) p1), (8, dI .i64 ((p1.length : Nat) : Int)), (9, dI .i64 ((j519 : Nat) : Int))]) (fun (s516 : Unit) (g517 : Unit) => [Z100003_3 m0, Z100003_1 p0 p1, Z100003_2, Z100003_0]) () (fun _ _ _ h => h) h (gf ⟨km, ko, ko, ko, trivial⟩) ?_ ?_
    ·clear h;intro j519 x520 s516 g517 k518 hj519 hx519 h ih518;refine awp_rs ?_;refine w4 (st_bin (v := dB (decide (((j519 : Nat) : Int) < ((p1.length : Nat) : Int)))) rfl rfl rfl) ?_;refine rw_nilk (awp_seq ?_);refine awp_ifT rfl (dlt hj519) ?_;refine awp_skip (nx_then (awp_seq (awp_block (awp_rs ?_))));refine w4 (st_ixDn sl23 rfl rfl hx519) ?_;refine w4 (st_ldD (v := dL 1 (eI .i64) x520) ta34 rfl rfl) ?_;refine w2 ?_;refine rw_nilk (awp_rs ?_);refine w1 ?_;refine w1 ?_;refine w4 (st_fn rfl rfl) ?_;refine ri (N := 9) (rs := [.tmp 4]) rfl rfl rfl rfl Try.func71 rfl rfl rfl (by kernel_rfl) rfl (fun _B => ?_);refine awp_rs ?_;refine w2 ?_;refine rw_nilk (awp_rs ?_);refine w1 ?_;refine w1 ?_;refine rw_jn (fun (s874 : Int) (g875 : Unit) => [(7, dI .i64 s874)]) (fun (s874 : Int) (g875 : Unit) => [Z100003_3 m0, Z100003_1 p0 p1, Z100003_2, Z100003_0]) h ?_ ?_
     ·clear h;intro s874 g875 h;refine w4 (st_bin (v := dB (decide (s874 ≥ 0))) rfl rfl rfl) ?_;refine w2 ?_;refine rw_nilk (awp_ret ?_);refine ret_in (v := dB (decide (s874 ≥ 0))) (resV_one (resVs_tmp rfl resVs_nil)) ?_
      show RW _ _ _ _ _ _ _
      refine w4 (st_un (v := dB (!(decide (s874 ≥ 0)))) rfl rfl) ?_;refine rw_nilk ?_;refine awp_ite (b := (!(decide (s874 ≥ 0)))) rfl (fun p877 => ?_) (fun p877 => ?_)
      ·replace h := ite_T p877 h;refine awp_rs ?_;refine w2 ?_;refine rw_nilk (awp_ret (rt_block (rt_then (rt_then (rt_block (rt_then ?_))))));refine ret_in (v := dB false) (resV_one (resVs_tmp rfl resVs_nil)) ?_;exact J515 false () _ _ h (gf ⟨km, ko, ko, ko, trivial⟩)
      ·replace h := ite_F p877 h;refine awp_skip (nx_block (nx_then (awp_rw ?_)));refine w4 (st_inc rfl rfl hj519 hl519) ?_;refine w1 ?_;refine rw_nil (nx_then ?_);refine awp_gh ?_ (ih518 () () h);exact (gf ⟨km, ko, ko, ko, trivial⟩)
     ·clear h;intro k876 h J876;refine ri (N := 19) (rs := [.tmp 4]) rfl rfl rfl rfl Try.func91 rfl rfl rfl (by kernel_rfl) rfl (fun _B => ?_);refine awp_rs ?_;refine w2 ?_;refine rw_nilk (awp_seq (awp_rs ?_));refine w1 ?_;refine w4 (st_lenD rfl un34) ?_;refine w1 ?_;refine rw_nilk (awp_block ?_);refine awp_len (t := 0) rfl (fun hl881 => ?_);rw [List.length_map] at hl881;refine awp_range (fun (j881 : Nat) (s878 : Unit) (g879 : Unit) => [(0, dL 1 (eI .i64) x520), (1, .fn 90 [.map 1015] []), (7, dI .i64 ((x520.length : Nat) : Int)), (8, dI .i64 ((j881 : Nat) : Int))]) (fun (s878 : Unit) (g879 : Unit) => [Z100003_3 m0, Z100003_1 p0 p1, Z100003_2, Z100003_0]) () (fun _ _ _ h => h) h (gf ⟨km, ko, ko, ko, trivial⟩) ?_ ?_
      ·clear h;intro j881 x882 s878 g879 k880 hj881 hx881 h ih880;refine awp_rs ?_;refine w4 (st_bin (v := dB (decide (((j881 : Nat) : Int) < ((x520.length : Nat) : Int)))) rfl rfl rfl) ?_;refine rw_nilk (awp_seq ?_);refine awp_ifT rfl (dlt hj881) ?_;refine awp_skip (nx_then (awp_seq (awp_block (awp_rs ?_))));refine w1 ?_;refine w2 ?_;refine rw_nilk (awp_rs ?_);refine w1 ?_;refine w1 ?_;refine w1 ?_;refine w4 (st_ixDn sl34 rfl rfl hx881) ?_;refine w4 (st_ldD (v := dI .i64 x882) ta3 rfl rfl) ?_;refine rw_jn (fun (s922 : Bool) (g923 : Unit) => [(0, dL 1 (eI .i64) x520), (1, .fn 90 [.map 1015] []), (5, dI .i64 ((j881 : Nat) : Int)), (7, dI .i64 ((x520.length : Nat) : Int)), (8, dI .i64 ((j881 : Nat) : Int)), (16, dB s922)]) (fun (s922 : Bool) (g923 : Unit) => [Z100003_3 m0, Z100003_1 p0 p1, Z100003_2, Z100003_0]) h ?_ ?_
       ·clear h;intro s922 g923 h;refine rw_nilk ?_;refine awp_ite (b := s922) rfl (fun p925 => ?_) (fun p925 => ?_)
        ·replace h := ite_T p925 h;refine awp_rs ?_;refine w1 ?_;refine w2 ?_;refine rw_nilk (awp_ret (rt_block (rt_then (rt_then (rt_block (rt_then ?_))))));refine ret_in (v := dI .i64 ((j881 : Nat) : Int)) (resV_one (resVs_tmp rfl resVs_nil)) ?_;exact J876 ((j881 : Nat) : Int) () _ _ h (gf ⟨km, ko, ko, ko, trivial⟩)
        ·replace h := ite_F p925 h;refine awp_skip (nx_block (nx_then (awp_rw ?_)));refine w4 (st_inc rfl rfl hj881 hl881) ?_;refine w1 ?_;refine rw_nil (nx_then ?_);refine awp_gh ?_ (ih880 () () h);exact (gf ⟨km, ko, ko, ko, trivial⟩)
       ·clear h;intro k924 h J924;refine ri (N := 15) (rs := [.tmp 4]) rfl rfl rfl rfl Try.func90 rfl rfl rfl (by kernel_rfl) rfl (fun _B => ?_);refine awp_rs ?_;refine w2 ?_;refine rw_nilk (awp_seq (awp_rs ?_));refine w1 ?_;refine w4 (st_bin (v := dB (decide (x882 < 0))) rfl rfl rfl) ?_;refine rw_nilk ?_;refine awp_ite (b := (decide (x882 < 0))) rfl (fun p926 => ?_) (fun p926 => ?_)
        ·replace h := ite_T p926 h;refine awp_rs ?_;refine w1 ?_;refine w1 ?_;refine w4 (st_un (v := dI .i64 (IntKind.wrap .i64 (0 - x882))) rfl rfl) ?_;refine w4 (st_look (vf := (fun (b : Bool) => dB b)) (z := false) (xs := m0) un77 un3 za4 rfl rfl rfl) ?_;refine w4 (st_un (v := dB (!((mget m0 (IntKind.wrap .i64 (0 - x882))).getD false))) rfl rfl) ?_;refine w2 ?_;refine rw_nilk (awp_ret (rt_then ?_));refine ret_in (v := dB (!((mget m0 (IntKind.wrap .i64 (0 - x882))).getD false))) (resV_one (resVs_tmp rfl resVs_nil)) ?_;exact J924 (!((mget m0 (IntKind.wrap .i64 (0 - x882))).getD false)) () _ _ h (gf ⟨km, ko, ko, ko, trivial⟩)
        ·replace h := ite_F p926 h;refine awp_skip (nx_then (awp_rs ?_));refine w1 ?_;refine w1 ?_;refine w4 (st_look (vf := (fun (b : Bool) => dB b)) (z := false) (xs := m0) un77 un3 za4 rfl rfl rfl) ?_;refine w2 ?_;refine rw_nilk (awp_ret ?_);refine ret_in (v := dB ((mget m0 x882).getD false)) (resV_one (resVs_tmp rfl resVs_nil)) ?_;exact J924 ((mget m0 x882).getD false) () _ _ h (gf ⟨km, ko, ko, ko, trivial⟩)
      ·clear h;intro s878 g879 h;refine awp_rs ?_;refine w4 (st_bin (v := dB (decide (((x520.length : Nat) : Int) < ((x520.length : Nat) : Int)))) rfl rfl rfl) ?_;refine rw_nilk (awp_seq ?_);refine awp_ifF rfl dge ?_;refine awp_exit (ex_out (ex_out (ex_in (nx_then (awp_rs ?_)))));refine w2 ?_;refine rw_nilk (awp_ret ?_);refine ret_in (v := dI .i64 (-1 : Int)) (resV_one (resVs_tmp rfl resVs_nil)) ?_;exact J876 (-1 : Int) () _ _ h (gf ⟨km, ko, ko, ko, trivial⟩)
    ·clear h;intro s516 g517 h;refine awp_rs ?_;refine w4 (st_bin (v := dB (decide (((p1.length : Nat) : Int) < ((p1.length : Nat) : Int)))) rfl rfl rfl) ?_;refine rw_nilk (awp_seq ?_);refine awp_ifF rfl dge ?_;refine awp_exit (ex_out (ex_out (ex_in (nx_then (awp_rs ?_)))));refine w2 ?_;refine rw_nilk (awp_ret ?_);refine ret_in (v := dB true) (resV_one (resVs_tmp rfl resVs_nil)) ?_;exact J515 true () _ _ h (gf ⟨km, ko, ko, ko, trivial⟩)
  ·replace h := ite_F p101 h;refine awp_skip (nx_then (awp_rs ?_));refine w4 (st_faP fo73_0 rfl) ?_;refine w4 (st_ldP (v := dL 2 e_S_truth_turn p0) ta71 rfl rfl rfl rfl) ?_;refine w1 ?_;obtain ⟨x927, h0927, hx927, h⟩ := getI_some h;refine w4 (st_ixD sl71 rfl rfl h0927 hx927) ?_;refine w4 (st_ldD (v := .agg [dI .i64 x927.v, dB x927.f_exists]) ta95 rfl rfl) ?_;refine w8 (r := 1019) (st_alloc zc95 rfl rfl) ?_;refine w9 (L' := [Z100003_3 m0, Z100003_1 p0 p1, Z100003_2, Z100003_0, (1019, .row 0 95 [[dI .i64 x927.v, dB x927.f_exists]])]) (st_stP ta95 rfl rfl rfl rfl rfl rfl rfl rfl) ?_;refine rw_nilk (awp_rs ?_);refine w4 (st_ldP (v := .map 1015) ta77 rfl rfl rfl rfl) ?_;refine w4 (st_faP fo95_0 rfl) ?_;refine w4 (st_ldP (v := dI .i64 x927.v) ta3 rfl rfl rfl rfl) ?_;refine w9 (L' := [(1015, mapO .i64 (fun (b : Bool) => dB b) (mset m0 x927.v false)), Z100003_1 p0 p1, Z100003_2, Z100003_0, (1019, .row 0 95 [[dI .i64 x927.v, dB x927.f_exists]])]) (st_mapUp (vf := (fun (b : Bool) => dB b)) (b := false) (xs := m0) un77 un3 rfl rfl rfl rfl) ?_
   refine rw_nilk (awp_seq ?_);refine awp_rds hmix ?_;refine w7 (st_ldP (v := .fn 68 [] [.ptr 1016 0 0 0, .ptr 1017 0 0 0, .ptr 1018 0 0 0]) ta84 rfl rfl rfl rfl) ?_;refine w7 (st_mv rfl) ?_;refine w7 (st_bin (v := dI .i64 (IntKind.wrap .i64 (b0 + 1))) rfl rfl rfl) ?_;obtain ⟨y932, hy932, h⟩ := bind_some_elim h;refine dcall (v := dB y932.1) (L0 := [(1015, mapO .i64 (fun (b : Bool) => dB b) (mset m0 x927.v false)), Z100003_1 p0 p1, Z100003_2, Z100003_0]) (L1 := [(1015, mapO .i64 (fun (b : Bool) => dB b) y932.2), Z100003_1 p0 p1, Z100003_2, Z100003_0]) (L' := [(1015, mapO .i64 (fun (b : Bool) => dB b) y932.2), Z100003_1 p0 p1, Z100003_2, Z100003_0, (1019, .row 0 95 [[dI .i64 x927.v, dB x927.f_exists]])]) rfl rfl rfl rfl (ih hy932) ⟨rfl, rfl, rfl, rfl, trivial⟩ rfl ⟨closM (fun _ => rfl), rfl, rfl, rfl, trivial⟩ rfl rfl ?_;refine w7 (st_faP fo95_1 rfl) ?_;refine w7 (st_ldP (v := dB x927.f_exists) ta4 rfl rfl rfl rfl) ?_
   refine w7 (st_binB (v := dB (y932.1 == x927.f_exists)) rfl rfl un4 rfl) ?_;refine rd_nil (by kernel_rfl) ?_;refine awp_ite (b := (y932.1 == x927.f_exists)) rfl (fun p933 => ?_) (fun p933 => ?_)
   ·replace h := ite_T p933 h;refine awp_rs ?_;refine w4 (st_faP fo95_1 rfl) ?_;refine w4 (st_ldP (v := dB x927.f_exists) ta4 rfl rfl rfl rfl) ?_;refine w2 ?_;refine rw_nilk (awp_ret (rt_then ?_));injection h with h;subst h;exact retM (v := dB x927.f_exists) (resV_one (resVs_tmp rfl resVs_nil)) rfl (.keep rfl) ⟨km, ko, ko, ko, trivial⟩
   ·replace h := ite_F p933 h;refine awp_skip (nx_then (awp_rs ?_));refine w4 (st_ldP (v := .map 1015) ta77 rfl rfl rfl rfl) ?_;refine w4 (st_faP fo95_0 rfl) ?_;refine w4 (st_ldP (v := dI .i64 x927.v) ta3 rfl rfl rfl rfl) ?_;refine w9 (L' := [(1015, mapO .i64 (fun (b : Bool) => dB b) (mset y932.2 x927.v true)), Z100003_1 p0 p1, Z100003_2, Z100003_0, (1019, .row 0 95 [[dI .i64 x927.v, dB x927.f_exists]])]) (st_mapUp (vf := (fun (b : Bool) => dB b)) (b := true) (xs := y932.2) un77 un3 rfl rfl rfl rfl) ?_;refine rw_nilk (awp_rs ?_);refine w4 (st_ldP (v := .fn 68 [] [.ptr 1016 0 0 0, .ptr 1017 0 0 0, .ptr 1018 0 0 0]) ta84 rfl rfl rfl rfl) ?_;refine w1 ?_;refine w4 (st_bin (v := dI .i64 (IntKind.wrap .i64 (b0 + 1))) rfl rfl rfl) ?_;obtain ⟨y935, hy935, h⟩ := bind_some_elim h
    refine rcall (v := dB y935.1) (L0 := [(1015, mapO .i64 (fun (b : Bool) => dB b) (mset y932.2 x927.v true)), Z100003_1 p0 p1, Z100003_2, Z100003_0]) (L1 := [(1015, mapO .i64 (fun (b : Bool) => dB b) y935.2), Z100003_1 p0 p1, Z100003_2, Z100003_0]) (L' := [(1015, mapO .i64 (fun (b : Bool) => dB b) y935.2), Z100003_1 p0 p1, Z100003_2, Z100003_0, (1019, .row 0 95 [[dI .i64 x927.v, dB x927.f_exists]])]) rfl rfl rfl rfl (ih hy935) ⟨rfl, rfl, rfl, rfl, trivial⟩ rfl ⟨closM (fun _ => rfl), rfl, rfl, rfl, trivial⟩ rfl rfl ?_;refine w2 ?_;refine rw_nilk (awp_ret ?_);injection h with h;subst h;exact retM (v := dB y935.1) (resV_one (resVs_tmp rfl resVs_nil)) rfl (.keep rfl) ⟨km, ko, ko, ko, trivial⟩

abbrev Z100004_0 : Nat × AObj := (1030, .row 0 84 [[.fn 68 [] [.ptr 1028 0 0 0, .ptr 1029 0 0 0, .ptr 1030 0 0 0]]])
abbrev Z100004_1 (p0 : (List S_truth_turn)) (p1 : (List (List Int))) : Nat × AObj := (1028, .row 0 73 [[dL 2 e_S_truth_turn p0, dL 1 (eL 1 (eI .i64)) p1]])
abbrev Z100004_2 : Nat × AObj := (1029, .row 0 77 [[.map 1025]])
abbrev Z100004_3 (m0 : (List (Int × Bool))) : Nat × AObj := (1025, mapO .i64 (fun (b : Bool) => dB b) m0)

theorem oc_truth_game_left_c1_4 : ∀ (n : Nat) {p0 : (List S_truth_turn)} {p1 : (List (List Int))} {b0 : Int} {m0 : (List (Int × Bool))} {r : Bool × (List (Int × Bool))} (h : F_truth_game_left_c1_4 n p0 p1 b0 m0 = some r), Ev Try.prog 68 [dI .i64 b0, .ptr 1028 0 0 0, .ptr 1029 0 0 0, .ptr 1030 0 0 0] [Z100004_3 m0, Z100004_1 p0 p1, Z100004_2, Z100004_0] (.ret (dB r.1)) [(1025, mapO .i64 (fun (b : Bool) => dB b) r.2), Z100004_1 p0 p1, Z100004_2, Z100004_0]
 | 0, _, _, _, _, _, h => by simp [F_truth_game_left_c1_4] at h
 | n + 1, p0, p1, b0, m0, r, h => by
  have ih : ∀ {p0 : (List S_truth_turn)} {p1 : (List (List Int))} {b0 : Int} {m0 : (List (Int × Bool))} {r : Bool × (List (Int × Bool))} (h : F_truth_game_left_c1_4 n p0 p1 b0 m0 = some r), Ev Try.prog 68 [dI .i64 b0, .ptr 1028 0 0 0, .ptr 1029 0 0 0, .ptr 1030 0 0 0] [Z100004_3 m0, Z100004_1 p0 p1, Z100004_2, Z100004_0] (.ret (dB r.1)) [(1025, mapO .i64 (fun (b : Bool) => dB b) r.2), Z100004_1 p0 p1, Z100004_2, Z100004_0] := oc_truth_game_left_c1_4 n
  simp only [F_truth_game_left_c1_4] at h;refine Ev.of_bodyM (N := 40) (rs := [.tmp 5]) Try.func68 (c := _) rfl rfl rfl (by kernel_rfl) rfl (Nat.le_of_ble_eq_true rfl) (fun _B => ?_);refine awp_rs ?_;refine w2 ?_;refine rw_nilk (awp_seq (awp_rs ?_));refine w1 ?_;refine w4 (st_faP fo73_0 rfl) ?_;refine w4 (st_ldP (v := dL 2 e_S_truth_turn p0) ta71 rfl rfl rfl rfl) ?_;refine w4 (st_lenD rfl un71) ?_;refine w4 (st_bin (v := dB (b0 == ((p0.length : Nat) : Int))) rfl rfl rfl) ?_;refine rw_nilk ?_;refine awp_ite (b := (b0 == ((p0.length : Nat) : Int))) rfl (fun p101 => ?_) (fun p101 => ?_)
  ·replace h := ite_T p101 h;refine awp_rs ?_;refine w4 (st_ldP (v := .map 1025) ta77 rfl rfl rfl rfl) ?_;refine w4 (st_faP fo73_1 rfl) ?_;refine w4 (st_ldP (v := dL 1 (eL 1 (eI .i64)) p1) ta23 rfl rfl rfl rfl) ?_;refine rw_jn (fun (s513 : Bool) (g514 : Unit) => [(15, dB s513)]) (fun (s513 : Bool) (g514 : Unit) => [Z100004_3 m0, Z100004_1 p0 p1, Z100004_2, Z100004_0]) h ?_ ?_
   ·clear h;intro s513 g514 h;refine w2 ?_;refine rw_nilk (awp_ret (rt_then ?_));injection h with h;subst h;exact retM (v := dB s513) (resV_one (resVs_tmp rfl resVs_nil)) rfl (.keep rfl) ⟨km, ko, ko, ko, trivial⟩
   ·clear h;intro k515 h J515;refine ri (N := 19) (rs := [.tmp 4]) rfl rfl rfl rfl Try.func67 rfl rfl rfl (by kernel_rfl) rfl (fun _B => ?_);refine awp_rs ?_;refine w2 ?_;refine rw_nilk (awp_seq (awp_rs ?_));refine w1 ?_;refine w4 (st_lenD rfl un23) ?_;refine w1 ?_;refine rw_nilk (awp_block ?_);refine awp_len (t := 1) rfl (fun hl519 => ?_);rw [List.length_map] at hl519;refine awp_range (fun (j519 : Nat) (s516 : Unit) (g517 : Unit) => [(0, .map 1025), (7, dL 1 (eL 1 (eI .i64)) p1), (8, dI .i64 ((p1.length : Nat) : Int)), (9, dI .i64 ((j519 : Nat) : Int))]) (fun (s516 : Unit) (g517 : Unit) => [Z100004_3 m0, Z100004_1 p0 p1, Z100004_2, Z100004_0]) () (fun _ _ _ h => h) h (gf ⟨km, ko, ko, ko, trivial⟩) ?_ ?_
    ·clear h;intro j519 x520 s516 g517 k518 hj519 hx519 h ih518;refine awp_rs ?_;refine w4 (st_bin (v := dB (decide (((j519 : Nat) : Int) < ((p1.length : Nat) : Int)))) rfl rfl rfl) ?_;refine rw_nilk (awp_seq ?_);refine awp_ifT rfl (dlt hj519) ?_;refine awp_skip (nx_then (awp_seq (awp_block (awp_rs ?_))));refine w4 (st_ixDn sl23 rfl rfl hx519) ?_;refine w4 (st_ldD (v := dL 1 (eI .i64) x520) ta34 rfl rfl) ?_;refine w2 ?_;refine rw_nilk (awp_rs ?_);refine w1 ?_;refine w1 ?_;refine w4 (st_fn rfl rfl) ?_;refine ri (N := 9) (rs := [.tmp 4]) rfl rfl rfl rfl Try.func71 rfl rfl rfl (by kernel_rfl) rfl (fun _B => ?_);refine awp_rs ?_;refine w2 ?_;refine rw_nilk (awp_rs ?_);refine w1 ?_;refine w1 ?_;refine rw_jn (fun (s874 : Int) (g875 : Unit) => [(7, dI .i64 s874)]) (fun (s874 : Int) (g875 : Unit) => [Z100004_3 m0, Z100004_1 p0 p1, Z100004_2, Z100004_0]) h ?_ ?_
     ·clear h;intro s874 g875 h;refine w4 (st_bin (v := dB (decide (s874 ≥ 0))) rfl rfl rfl) ?_;refine w2 ?_;refine rw_nilk (awp_ret ?_);refine ret_in (v := dB (decide (s874 ≥ 0))) (resV_one (resVs_tmp rfl resVs_nil)) ?_
      show RW _ _ _ _ _ _ _
      refine w4 (st_un (v := dB (!(decide (s874 ≥ 0)))) rfl rfl) ?_;refine rw_nilk ?_;refine awp_ite (b := (!(decide (s874 ≥ 0)))) rfl (fun p877 => ?_) (fun p877 => ?_)
      ·replace h := ite_T p877 h;refine awp_rs ?_;refine w2 ?_;refine rw_nilk (awp_ret (rt_block (rt_then (rt_then (rt_block (rt_then ?_))))));refine ret_in (v := dB false) (resV_one (resVs_tmp rfl resVs_nil)) ?_;exact J515 false () _ _ h (gf ⟨km, ko, ko, ko, trivial⟩)
      ·replace h := ite_F p877 h;refine awp_skip (nx_block (nx_then (awp_rw ?_)));refine w4 (st_inc rfl rfl hj519 hl519) ?_;refine w1 ?_;refine rw_nil (nx_then ?_);refine awp_gh ?_ (ih518 () () h);exact (gf ⟨km, ko, ko, ko, trivial⟩)
     ·clear h;intro k876 h J876;refine ri (N := 19) (rs := [.tmp 4]) rfl rfl rfl rfl Try.func91 rfl rfl rfl (by kernel_rfl) rfl (fun _B => ?_);refine awp_rs ?_;refine w2 ?_;refine rw_nilk (awp_seq (awp_rs ?_));refine w1 ?_;refine w4 (st_lenD rfl un34) ?_;refine w1 ?_;refine rw_nilk (awp_block ?_);refine awp_len (t := 0) rfl (fun hl881 => ?_);rw [List.length_map] at hl881;refine awp_range (fun (j881 : Nat) (s878 : Unit) (g879 : Unit) => [(0, dL 1 (eI .i64) x520), (1, .fn 90 [.map 1025] []), (7, dI .i64 ((x520.length : Nat) : Int)), (8, dI .i64 ((j881 : Nat) : Int))]) (fun (s878 : Unit) (g879 : Unit) => [Z100004_3 m0, Z100004_1 p0 p1, Z100004_2, Z100004_0]) () (fun _ _ _ h => h) h (gf ⟨km, ko, ko, ko, trivial⟩) ?_ ?_
      ·clear h;intro j881 x882 s878 g879 k880 hj881 hx881 h ih880;refine awp_rs ?_;refine w4 (st_bin (v := dB (decide (((j881 : Nat) : Int) < ((x520.length : Nat) : Int)))) rfl rfl rfl) ?_;refine rw_nilk (awp_seq ?_);refine awp_ifT rfl (dlt hj881) ?_;refine awp_skip (nx_then (awp_seq (awp_block (awp_rs ?_))));refine w1 ?_;refine w2 ?_;refine rw_nilk (awp_rs ?_);refine w1 ?_;refine w1 ?_;refine w1 ?_;refine w4 (st_ixDn sl34 rfl rfl hx881) ?_;refine w4 (st_ldD (v := dI .i64 x882) ta3 rfl rfl) ?_;refine rw_jn (fun (s922 : Bool) (g923 : Unit) => [(0, dL 1 (eI .i64) x520), (1, .fn 90 [.map 1025] []), (5, dI .i64 ((j881 : Nat) : Int)), (7, dI .i64 ((x520.length : Nat) : Int)), (8, dI .i64 ((j881 : Nat) : Int)), (16, dB s922)]) (fun (s922 : Bool) (g923 : Unit) => [Z100004_3 m0, Z100004_1 p0 p1, Z100004_2, Z100004_0]) h ?_ ?_
       ·clear h;intro s922 g923 h;refine rw_nilk ?_;refine awp_ite (b := s922) rfl (fun p925 => ?_) (fun p925 => ?_)
        ·replace h := ite_T p925 h;refine awp_rs ?_;refine w1 ?_;refine w2 ?_;refine rw_nilk (awp_ret (rt_block (rt_then (rt_then (rt_block (rt_then ?_))))));refine ret_in (v := dI .i64 ((j881 : Nat) : Int)) (resV_one (resVs_tmp rfl resVs_nil)) ?_;exact J876 ((j881 : Nat) : Int) () _ _ h (gf ⟨km, ko, ko, ko, trivial⟩)
        ·replace h := ite_F p925 h;refine awp_skip (nx_block (nx_then (awp_rw ?_)));refine w4 (st_inc rfl rfl hj881 hl881) ?_;refine w1 ?_;refine rw_nil (nx_then ?_);refine awp_gh ?_ (ih880 () () h);exact (gf ⟨km, ko, ko, ko, trivial⟩)
       ·clear h;intro k924 h J924;refine ri (N := 15) (rs := [.tmp 4]) rfl rfl rfl rfl Try.func90 rfl rfl rfl (by kernel_rfl) rfl (fun _B => ?_);refine awp_rs ?_;refine w2 ?_;refine rw_nilk (awp_seq (awp_rs ?_));refine w1 ?_;refine w4 (st_bin (v := dB (decide (x882 < 0))) rfl rfl rfl) ?_;refine rw_nilk ?_;refine awp_ite (b := (decide (x882 < 0))) rfl (fun p926 => ?_) (fun p926 => ?_)
        ·replace h := ite_T p926 h;refine awp_rs ?_;refine w1 ?_;refine w1 ?_;refine w4 (st_un (v := dI .i64 (IntKind.wrap .i64 (0 - x882))) rfl rfl) ?_;refine w4 (st_look (vf := (fun (b : Bool) => dB b)) (z := false) (xs := m0) un77 un3 za4 rfl rfl rfl) ?_;refine w4 (st_un (v := dB (!((mget m0 (IntKind.wrap .i64 (0 - x882))).getD false))) rfl rfl) ?_;refine w2 ?_;refine rw_nilk (awp_ret (rt_then ?_));refine ret_in (v := dB (!((mget m0 (IntKind.wrap .i64 (0 - x882))).getD false))) (resV_one (resVs_tmp rfl resVs_nil)) ?_;exact J924 (!((mget m0 (IntKind.wrap .i64 (0 - x882))).getD false)) () _ _ h (gf ⟨km, ko, ko, ko, trivial⟩)
        ·replace h := ite_F p926 h;refine awp_skip (nx_then (awp_rs ?_));refine w1 ?_;refine w1 ?_;refine w4 (st_look (vf := (fun (b : Bool) => dB b)) (z := false) (xs := m0) un77 un3 za4 rfl rfl rfl) ?_;refine w2 ?_;refine rw_nilk (awp_ret ?_);refine ret_in (v := dB ((mget m0 x882).getD false)) (resV_one (resVs_tmp rfl resVs_nil)) ?_;exact J924 ((mget m0 x882).getD false) () _ _ h (gf ⟨km, ko, ko, ko, trivial⟩)
      ·clear h;intro s878 g879 h;refine awp_rs ?_;refine w4 (st_bin (v := dB (decide (((x520.length : Nat) : Int) < ((x520.length : Nat) : Int)))) rfl rfl rfl) ?_;refine rw_nilk (awp_seq ?_);refine awp_ifF rfl dge ?_;refine awp_exit (ex_out (ex_out (ex_in (nx_then (awp_rs ?_)))));refine w2 ?_;refine rw_nilk (awp_ret ?_);refine ret_in (v := dI .i64 (-1 : Int)) (resV_one (resVs_tmp rfl resVs_nil)) ?_;exact J876 (-1 : Int) () _ _ h (gf ⟨km, ko, ko, ko, trivial⟩)
    ·clear h;intro s516 g517 h;refine awp_rs ?_;refine w4 (st_bin (v := dB (decide (((p1.length : Nat) : Int) < ((p1.length : Nat) : Int)))) rfl rfl rfl) ?_;refine rw_nilk (awp_seq ?_);refine awp_ifF rfl dge ?_;refine awp_exit (ex_out (ex_out (ex_in (nx_then (awp_rs ?_)))));refine w2 ?_;refine rw_nilk (awp_ret ?_);refine ret_in (v := dB true) (resV_one (resVs_tmp rfl resVs_nil)) ?_;exact J515 true () _ _ h (gf ⟨km, ko, ko, ko, trivial⟩)
  ·replace h := ite_F p101 h;refine awp_skip (nx_then (awp_rs ?_));refine w4 (st_faP fo73_0 rfl) ?_;refine w4 (st_ldP (v := dL 2 e_S_truth_turn p0) ta71 rfl rfl rfl rfl) ?_;refine w1 ?_;obtain ⟨x927, h0927, hx927, h⟩ := getI_some h;refine w4 (st_ixD sl71 rfl rfl h0927 hx927) ?_;refine w4 (st_ldD (v := .agg [dI .i64 x927.v, dB x927.f_exists]) ta95 rfl rfl) ?_;refine w8 (r := 1031) (st_alloc zc95 rfl rfl) ?_;refine w9 (L' := [Z100004_3 m0, Z100004_1 p0 p1, Z100004_2, Z100004_0, (1031, .row 0 95 [[dI .i64 x927.v, dB x927.f_exists]])]) (st_stP ta95 rfl rfl rfl rfl rfl rfl rfl rfl) ?_;refine rw_nilk (awp_rs ?_);refine w4 (st_ldP (v := .map 1025) ta77 rfl rfl rfl rfl) ?_;refine w4 (st_faP fo95_0 rfl) ?_;refine w4 (st_ldP (v := dI .i64 x927.v) ta3 rfl rfl rfl rfl) ?_;refine w9 (L' := [(1025, mapO .i64 (fun (b : Bool) => dB b) (mset m0 x927.v false)), Z100004_1 p0 p1, Z100004_2, Z100004_0, (1031, .row 0 95 [[dI .i64 x927.v, dB x927.f_exists]])]) (st_mapUp (vf := (fun (b : Bool) => dB b)) (b := false) (xs := m0) un77 un3 rfl rfl rfl rfl) ?_
   refine rw_nilk (awp_seq ?_);refine awp_rds hmix ?_;refine w7 (st_ldP (v := .fn 68 [] [.ptr 1028 0 0 0, .ptr 1029 0 0 0, .ptr 1030 0 0 0]) ta84 rfl rfl rfl rfl) ?_;refine w7 (st_mv rfl) ?_;refine w7 (st_bin (v := dI .i64 (IntKind.wrap .i64 (b0 + 1))) rfl rfl rfl) ?_;obtain ⟨y932, hy932, h⟩ := bind_some_elim h;refine dcall (v := dB y932.1) (L0 := [(1025, mapO .i64 (fun (b : Bool) => dB b) (mset m0 x927.v false)), Z100004_1 p0 p1, Z100004_2, Z100004_0]) (L1 := [(1025, mapO .i64 (fun (b : Bool) => dB b) y932.2), Z100004_1 p0 p1, Z100004_2, Z100004_0]) (L' := [(1025, mapO .i64 (fun (b : Bool) => dB b) y932.2), Z100004_1 p0 p1, Z100004_2, Z100004_0, (1031, .row 0 95 [[dI .i64 x927.v, dB x927.f_exists]])]) rfl rfl rfl rfl (ih hy932) ⟨rfl, rfl, rfl, rfl, trivial⟩ rfl ⟨closM (fun _ => rfl), rfl, rfl, rfl, trivial⟩ rfl rfl ?_;refine w7 (st_faP fo95_1 rfl) ?_;refine w7 (st_ldP (v := dB x927.f_exists) ta4 rfl rfl rfl rfl) ?_
   refine w7 (st_binB (v := dB (y932.1 == x927.f_exists)) rfl rfl un4 rfl) ?_;refine rd_nil (by kernel_rfl) ?_;refine awp_ite (b := (y932.1 == x927.f_exists)) rfl (fun p933 => ?_) (fun p933 => ?_)
   ·replace h := ite_T p933 h;refine awp_rs ?_;refine w4 (st_faP fo95_1 rfl) ?_;refine w4 (st_ldP (v := dB x927.f_exists) ta4 rfl rfl rfl rfl) ?_;refine w2 ?_;refine rw_nilk (awp_ret (rt_then ?_));injection h with h;subst h;exact retM (v := dB x927.f_exists) (resV_one (resVs_tmp rfl resVs_nil)) rfl (.keep rfl) ⟨km, ko, ko, ko, trivial⟩
   ·replace h := ite_F p933 h;refine awp_skip (nx_then (awp_rs ?_));refine w4 (st_ldP (v := .map 1025) ta77 rfl rfl rfl rfl) ?_;refine w4 (st_faP fo95_0 rfl) ?_;refine w4 (st_ldP (v := dI .i64 x927.v) ta3 rfl rfl rfl rfl) ?_;refine w9 (L' := [(1025, mapO .i64 (fun (b : Bool) => dB b) (mset y932.2 x927.v true)), Z100004_1 p0 p1, Z100004_2, Z100004_0, (1031, .row 0 95 [[dI .i64 x927.v, dB x927.f_exists]])]) (st_mapUp (vf := (fun (b : Bool) => dB b)) (b := true) (xs := y932.2) un77 un3 rfl rfl rfl rfl) ?_;refine rw_nilk (awp_rs ?_);refine w4 (st_ldP (v := .fn 68 [] [.ptr 1028 0 0 0, .ptr 1029 0 0 0, .ptr 1030 0 0 0]) ta84 rfl rfl rfl rfl) ?_;refine w1 ?_;refine w4 (st_bin (v := dI .i64 (IntKind.wrap .i64 (b0 + 1))) rfl rfl rfl) ?_;obtain ⟨y935, hy935, h⟩ := bind_some_elim h
    refine rcall (v := dB y935.1) (L0 := [(1025, mapO .i64 (fun (b : Bool) => dB b) (mset y932.2 x927.v true)), Z100004_1 p0 p1, Z100004_2, Z100004_0]) (L1 := [(1025, mapO .i64 (fun (b : Bool) => dB b) y935.2), Z100004_1 p0 p1, Z100004_2, Z100004_0]) (L' := [(1025, mapO .i64 (fun (b : Bool) => dB b) y935.2), Z100004_1 p0 p1, Z100004_2, Z100004_0, (1031, .row 0 95 [[dI .i64 x927.v, dB x927.f_exists]])]) rfl rfl rfl rfl (ih hy935) ⟨rfl, rfl, rfl, rfl, trivial⟩ rfl ⟨closM (fun _ => rfl), rfl, rfl, rfl, trivial⟩ rfl rfl ?_;refine w2 ?_;refine rw_nilk (awp_ret ?_);injection h with h;subst h;exact retM (v := dB y935.1) (resV_one (resVs_tmp rfl resVs_nil)) rfl (.keep rfl) ⟨km, ko, ko, ko, trivial⟩

abbrev Z100005_0 : Nat × AObj := (1038, .row 0 84 [[.fn 68 [] [.ptr 1036 0 0 0, .ptr 1037 0 0 0, .ptr 1038 0 0 0]]])
abbrev Z100005_1 (p0 : (List S_truth_turn)) (p1 : (List (List Int))) : Nat × AObj := (1036, .row 0 73 [[dL 2 e_S_truth_turn p0, dL 1 (eL 1 (eI .i64)) p1]])
abbrev Z100005_2 : Nat × AObj := (1037, .row 0 77 [[.map 1033]])
abbrev Z100005_3 (m0 : (List (Int × Bool))) : Nat × AObj := (1033, mapO .i64 (fun (b : Bool) => dB b) m0)

theorem oc_truth_game_left_c1_5 : ∀ (n : Nat) {p0 : (List S_truth_turn)} {p1 : (List (List Int))} {b0 : Int} {m0 : (List (Int × Bool))} {r : Bool × (List (Int × Bool))} (h : F_truth_game_left_c1_5 n p0 p1 b0 m0 = some r), Ev Try.prog 68 [dI .i64 b0, .ptr 1036 0 0 0, .ptr 1037 0 0 0, .ptr 1038 0 0 0] [Z100005_3 m0, Z100005_1 p0 p1, Z100005_2, Z100005_0] (.ret (dB r.1)) [(1033, mapO .i64 (fun (b : Bool) => dB b) r.2), Z100005_1 p0 p1, Z100005_2, Z100005_0]
 | 0, _, _, _, _, _, h => by simp [F_truth_game_left_c1_5] at h
 | n + 1, p0, p1, b0, m0, r, h => by
  have ih : ∀ {p0 : (List S_truth_turn)} {p1 : (List (List Int))} {b0 : Int} {m0 : (List (Int × Bool))} {r : Bool × (List (Int × Bool))} (h : F_truth_game_left_c1_5 n p0 p1 b0 m0 = some r), Ev Try.prog 68 [dI .i64 b0, .ptr 1036 0 0 0, .ptr 1037 0 0 0, .ptr 1038 0 0 0] [Z100005_3 m0, Z100005_1 p0 p1, Z100005_2, Z100005_0] (.ret (dB r.1)) [(1033, mapO .i64 (fun (b : Bool) => dB b) r.2), Z100005_1 p0 p1, Z100005_2, Z100005_0] := oc_truth_game_left_c1_5 n
  simp only [F_truth_game_left_c1_5] at h;refine Ev.of_bodyM (N := 40) (rs := [.tmp 5]) Try.func68 (c := _) rfl rfl rfl (by kernel_rfl) rfl (Nat.le_of_ble_eq_true rfl) (fun _B => ?_);refine awp_rs ?_;refine w2 ?_;refine rw_nilk (awp_seq (awp_rs ?_));refine w1 ?_;refine w4 (st_faP fo73_0 rfl) ?_;refine w4 (st_ldP (v := dL 2 e_S_truth_turn p0) ta71 rfl rfl rfl rfl) ?_;refine w4 (st_lenD rfl un71) ?_;refine w4 (st_bin (v := dB (b0 == ((p0.length : Nat) : Int))) rfl rfl rfl) ?_;refine rw_nilk ?_;refine awp_ite (b := (b0 == ((p0.length : Nat) : Int))) rfl (fun p101 => ?_) (fun p101 => ?_)
  ·replace h := ite_T p101 h;refine awp_rs ?_;refine w4 (st_ldP (v := .map 1033) ta77 rfl rfl rfl rfl) ?_;refine w4 (st_faP fo73_1 rfl) ?_;refine w4 (st_ldP (v := dL 1 (eL 1 (eI .i64)) p1) ta23 rfl rfl rfl rfl) ?_;refine rw_jn (fun (s513 : Bool) (g514 : Unit) => [(15, dB s513)]) (fun (s513 : Bool) (g514 : Unit) => [Z100005_3 m0, Z100005_1 p0 p1, Z100005_2, Z100005_0]) h ?_ ?_
   ·clear h;intro s513 g514 h;refine w2 ?_;refine rw_nilk (awp_ret (rt_then ?_));injection h with h;subst h;exact retM (v := dB s513) (resV_one (resVs_tmp rfl resVs_nil)) rfl (.keep rfl) ⟨km, ko, ko, ko, trivial⟩
   ·clear h;intro k515 h J515;refine ri (N := 19) (rs := [.tmp 4]) rfl rfl rfl rfl Try.func67 rfl rfl rfl (by kernel_rfl) rfl (fun _B => ?_);refine awp_rs ?_;refine w2 ?_;refine rw_nilk (awp_seq (awp_rs ?_));refine w1 ?_;refine w4 (st_lenD rfl un23) ?_;refine w1 ?_;refine rw_nilk (awp_block ?_);refine awp_len (t := 1) rfl (fun hl519 => ?_);rw [List.length_map] at hl519;refine awp_range (fun (j519 : Nat) (s516 : Unit) (g517 : Unit) => [(0, .map 1033), (7, dL 1 (eL 1 (eI .i64)) p1), (8, dI .i64 ((p1.length : Nat) : Int)), (9, dI .i64 ((j519 : Nat) : Int))]) (fun (s516 : Unit) (g517 : Unit) => [Z100005_3 m0, Z100005_1 p0 p1, Z100005_2, Z100005_0]) () (fun _ _ _ h => h) h (gf ⟨km, ko, ko, ko, trivial⟩) ?_ ?_
    ·clear h;intro j519 x520 s516 g517 k518 hj519 hx519 h ih518;refine awp_rs ?_;refine w4 (st_bin (v := dB (decide (((j519 : Nat) : Int) < ((p1.length : Nat) : Int)))) rfl rfl rfl) ?_;refine rw_nilk (awp_seq ?_);refine awp_ifT rfl (dlt hj519) ?_;refine awp_skip (nx_then (awp_seq (awp_block (awp_rs ?_))));refine w4 (st_ixDn sl23 rfl rfl hx519) ?_;refine w4 (st_ldD (v := dL 1 (eI .i64) x520) ta34 rfl rfl) ?_;refine w2 ?_;refine rw_nilk (awp_rs ?_);refine w1 ?_;refine w1 ?_;refine w4 (st_fn rfl rfl) ?_;refine ri (N := 9) (rs := [.tmp 4]) rfl rfl rfl rfl Try.func71 rfl rfl rfl (by kernel_rfl) rfl (fun _B => ?_);refine awp_rs ?_;refine w2 ?_;refine rw_nilk (awp_rs ?_);refine w1 ?_;refine w1 ?_;refine rw_jn (fun (s874 : Int) (g875 : Unit) => [(7, dI .i64 s874)]) (fun (s874 : Int) (g875 : Unit) => [Z100005_3 m0, Z100005_1 p0 p1, Z100005_2, Z100005_0]) h ?_ ?_
     ·clear h;intro s874 g875 h;refine w4 (st_bin (v := dB (decide (s874 ≥ 0))) rfl rfl rfl) ?_;refine w2 ?_;refine rw_nilk (awp_ret ?_);refine ret_in (v := dB (decide (s874 ≥ 0))) (resV_one (resVs_tmp rfl resVs_nil)) ?_
      show RW _ _ _ _ _ _ _
      refine w4 (st_un (v := dB (!(decide (s874 ≥ 0)))) rfl rfl) ?_;refine rw_nilk ?_;refine awp_ite (b := (!(decide (s874 ≥ 0)))) rfl (fun p877 => ?_) (fun p877 => ?_)
      ·replace h := ite_T p877 h;refine awp_rs ?_;refine w2 ?_;refine rw_nilk (awp_ret (rt_block (rt_then (rt_then (rt_block (rt_then ?_))))));refine ret_in (v := dB false) (resV_one (resVs_tmp rfl resVs_nil)) ?_;exact J515 false () _ _ h (gf ⟨km, ko, ko, ko, trivial⟩)
      ·replace h := ite_F p877 h;refine awp_skip (nx_block (nx_then (awp_rw ?_)));refine w4 (st_inc rfl rfl hj519 hl519) ?_;refine w1 ?_;refine rw_nil (nx_then ?_);refine awp_gh ?_ (ih518 () () h);exact (gf ⟨km, ko, ko, ko, trivial⟩)
     ·clear h;intro k876 h J876;refine ri (N := 19) (rs := [.tmp 4]) rfl rfl rfl rfl Try.func91 rfl rfl rfl (by kernel_rfl) rfl (fun _B => ?_);refine awp_rs ?_;refine w2 ?_;refine rw_nilk (awp_seq (awp_rs ?_));refine w1 ?_;refine w4 (st_lenD rfl un34) ?_;refine w1 ?_;refine rw_nilk (awp_block ?_);refine awp_len (t := 0) rfl (fun hl881 => ?_);rw [List.length_map] at hl881;refine awp_range (fun (j881 : Nat) (s878 : Unit) (g879 : Unit) => [(0, dL 1 (eI .i64) x520), (1, .fn 90 [.map 1033] []), (7, dI .i64 ((x520.length : Nat) : Int)), (8, dI .i64 ((j881 : Nat) : Int))]) (fun (s878 : Unit) (g879 : Unit) => [Z100005_3 m0, Z100005_1 p0 p1, Z100005_2, Z100005_0]) () (fun _ _ _ h => h) h (gf ⟨km, ko, ko, ko, trivial⟩) ?_ ?_
      ·clear h;intro j881 x882 s878 g879 k880 hj881 hx881 h ih880;refine awp_rs ?_;refine w4 (st_bin (v := dB (decide (((j881 : Nat) : Int) < ((x520.length : Nat) : Int)))) rfl rfl rfl) ?_;refine rw_nilk (awp_seq ?_);refine awp_ifT rfl (dlt hj881) ?_;refine awp_skip (nx_then (awp_seq (awp_block (awp_rs ?_))));refine w1 ?_;refine w2 ?_;refine rw_nilk (awp_rs ?_);refine w1 ?_;refine w1 ?_;refine w1 ?_;refine w4 (st_ixDn sl34 rfl rfl hx881) ?_;refine w4 (st_ldD (v := dI .i64 x882) ta3 rfl rfl) ?_;refine rw_jn (fun (s922 : Bool) (g923 : Unit) => [(0, dL 1 (eI .i64) x520), (1, .fn 90 [.map 1033] []), (5, dI .i64 ((j881 : Nat) : Int)), (7, dI .i64 ((x520.length : Nat) : Int)), (8, dI .i64 ((j881 : Nat) : Int)), (16, dB s922)]) (fun (s922 : Bool) (g923 : Unit) => [Z100005_3 m0, Z100005_1 p0 p1, Z100005_2, Z100005_0]) h ?_ ?_
       ·clear h;intro s922 g923 h;refine rw_nilk ?_;refine awp_ite (b := s922) rfl (fun p925 => ?_) (fun p925 => ?_)
        ·replace h := ite_T p925 h;refine awp_rs ?_;refine w1 ?_;refine w2 ?_;refine rw_nilk (awp_ret (rt_block (rt_then (rt_then (rt_block (rt_then ?_))))));refine ret_in (v := dI .i64 ((j881 : Nat) : Int)) (resV_one (resVs_tmp rfl resVs_nil)) ?_;exact J876 ((j881 : Nat) : Int) () _ _ h (gf ⟨km, ko, ko, ko, trivial⟩)
        ·replace h := ite_F p925 h;refine awp_skip (nx_block (nx_then (awp_rw ?_)));refine w4 (st_inc rfl rfl hj881 hl881) ?_;refine w1 ?_;refine rw_nil (nx_then ?_);refine awp_gh ?_ (ih880 () () h);exact (gf ⟨km, ko, ko, ko, trivial⟩)
       ·clear h;intro k924 h J924;refine ri (N := 15) (rs := [.tmp 4]) rfl rfl rfl rfl Try.func90 rfl rfl rfl (by kernel_rfl) rfl (fun _B => ?_);refine awp_rs ?_;refine w2 ?_;refine rw_nilk (awp_seq (awp_rs ?_));refine w1 ?_;refine w4 (st_bin (v := dB (decide (x882 < 0))) rfl rfl rfl) ?_;refine rw_nilk ?_;refine awp_ite (b := (decide (x882 < 0))) rfl (fun p926 => ?_) (fun p926 => ?_)
        ·replace h := ite_T p926 h;refine awp_rs ?_;refine w1 ?_;refine w1 ?_;refine w4 (st_un (v := dI .i64 (IntKind.wrap .i64 (0 - x882))) rfl rfl) ?_;refine w4 (st_look (vf := (fun (b : Bool) => dB b)) (z := false) (xs := m0) un77 un3 za4 rfl rfl rfl) ?_;refine w4 (st_un (v := dB (!((mget m0 (IntKind.wrap .i64 (0 - x882))).getD false))) rfl rfl) ?_;refine w2 ?_;refine rw_nilk (awp_ret (rt_then ?_));refine ret_in (v := dB (!((mget m0 (IntKind.wrap .i64 (0 - x882))).getD false))) (resV_one (resVs_tmp rfl resVs_nil)) ?_;exact J924 (!((mget m0 (IntKind.wrap .i64 (0 - x882))).getD false)) () _ _ h (gf ⟨km, ko, ko, ko, trivial⟩)
        ·replace h := ite_F p926 h;refine awp_skip (nx_then (awp_rs ?_));refine w1 ?_;refine w1 ?_;refine w4 (st_look (vf := (fun (b : Bool) => dB b)) (z := false) (xs := m0) un77 un3 za4 rfl rfl rfl) ?_;refine w2 ?_;refine rw_nilk (awp_ret ?_);refine ret_in (v := dB ((mget m0 x882).getD false)) (resV_one (resVs_tmp rfl resVs_nil)) ?_;exact J924 ((mget m0 x882).getD false) () _ _ h (gf ⟨km, ko, ko, ko, trivial⟩)
      ·clear h;intro s878 g879 h;refine awp_rs ?_;refine w4 (st_bin (v := dB (decide (((x520.length : Nat) : Int) < ((x520.length : Nat) : Int)))) rfl rfl rfl) ?_;refine rw_nilk (awp_seq ?_);refine awp_ifF rfl dge ?_;refine awp_exit (ex_out (ex_out (ex_in (nx_then (awp_rs ?_)))));refine w2 ?_;refine rw_nilk (awp_ret ?_);refine ret_in (v := dI .i64 (-1 : Int)) (resV_one (resVs_tmp rfl resVs_nil)) ?_;exact J876 (-1 : Int) () _ _ h (gf ⟨km, ko, ko, ko, trivial⟩)
    ·clear h;intro s516 g517 h;refine awp_rs ?_;refine w4 (st_bin (v := dB (decide (((p1.length : Nat) : Int) < ((p1.length : Nat) : Int)))) rfl rfl rfl) ?_;refine rw_nilk (awp_seq ?_);refine awp_ifF rfl dge ?_;refine awp_exit (ex_out (ex_out (ex_in (nx_then (awp_rs ?_)))));refine w2 ?_;refine rw_nilk (awp_ret ?_);refine ret_in (v := dB true) (resV_one (resVs_tmp rfl resVs_nil)) ?_;exact J515 true () _ _ h (gf ⟨km, ko, ko, ko, trivial⟩)
  ·replace h := ite_F p101 h;refine awp_skip (nx_then (awp_rs ?_));refine w4 (st_faP fo73_0 rfl) ?_;refine w4 (st_ldP (v := dL 2 e_S_truth_turn p0) ta71 rfl rfl rfl rfl) ?_;refine w1 ?_;obtain ⟨x927, h0927, hx927, h⟩ := getI_some h;refine w4 (st_ixD sl71 rfl rfl h0927 hx927) ?_;refine w4 (st_ldD (v := .agg [dI .i64 x927.v, dB x927.f_exists]) ta95 rfl rfl) ?_;refine w8 (r := 1039) (st_alloc zc95 rfl rfl) ?_;refine w9 (L' := [Z100005_3 m0, Z100005_1 p0 p1, Z100005_2, Z100005_0, (1039, .row 0 95 [[dI .i64 x927.v, dB x927.f_exists]])]) (st_stP ta95 rfl rfl rfl rfl rfl rfl rfl rfl) ?_;refine rw_nilk (awp_rs ?_);refine w4 (st_ldP (v := .map 1033) ta77 rfl rfl rfl rfl) ?_;refine w4 (st_faP fo95_0 rfl) ?_;refine w4 (st_ldP (v := dI .i64 x927.v) ta3 rfl rfl rfl rfl) ?_;refine w9 (L' := [(1033, mapO .i64 (fun (b : Bool) => dB b) (mset m0 x927.v false)), Z100005_1 p0 p1, Z100005_2, Z100005_0, (1039, .row 0 95 [[dI .i64 x927.v, dB x927.f_exists]])]) (st_mapUp (vf := (fun (b : Bool) => dB b)) (b := false) (xs := m0) un77 un3 rfl rfl rfl rfl) ?_
   refine rw_nilk (awp_seq ?_);refine awp_rds hmix ?_;refine w7 (st_ldP (v := .fn 68 [] [.ptr 1036 0 0 0, .ptr 1037 0 0 0, .ptr 1038 0 0 0]) ta84 rfl rfl rfl rfl) ?_;refine w7 (st_mv rfl) ?_;refine w7 (st_bin (v := dI .i64 (IntKind.wrap .i64 (b0 + 1))) rfl rfl rfl) ?_;obtain ⟨y932, hy932, h⟩ := bind_some_elim h;refine dcall (v := dB y932.1) (L0 := [(1033, mapO .i64 (fun (b : Bool) => dB b) (mset m0 x927.v false)), Z100005_1 p0 p1, Z100005_2, Z100005_0]) (L1 := [(1033, mapO .i64 (fun (b : Bool) => dB b) y932.2), Z100005_1 p0 p1, Z100005_2, Z100005_0]) (L' := [(1033, mapO .i64 (fun (b : Bool) => dB b) y932.2), Z100005_1 p0 p1, Z100005_2, Z100005_0, (1039, .row 0 95 [[dI .i64 x927.v, dB x927.f_exists]])]) rfl rfl rfl rfl (ih hy932) ⟨rfl, rfl, rfl, rfl, trivial⟩ rfl ⟨closM (fun _ => rfl), rfl, rfl, rfl, trivial⟩ rfl rfl ?_;refine w7 (st_faP fo95_1 rfl) ?_;refine w7 (st_ldP (v := dB x927.f_exists) ta4 rfl rfl rfl rfl) ?_
   refine w7 (st_binB (v := dB (y932.1 == x927.f_exists)) rfl rfl un4 rfl) ?_;refine rd_nil (by kernel_rfl) ?_;refine awp_ite (b := (y932.1 == x927.f_exists)) rfl (fun p933 => ?_) (fun p933 => ?_)
   ·replace h := ite_T p933 h;refine awp_rs ?_;refine w4 (st_faP fo95_1 rfl) ?_;refine w4 (st_ldP (v := dB x927.f_exists) ta4 rfl rfl rfl rfl) ?_;refine w2 ?_;refine rw_nilk (awp_ret (rt_then ?_));injection h with h;subst h;exact retM (v := dB x927.f_exists) (resV_one (resVs_tmp rfl resVs_nil)) rfl (.keep rfl) ⟨km, ko, ko, ko, trivial⟩
   ·replace h := ite_F p933 h;refine awp_skip (nx_then (awp_rs ?_));refine w4 (st_ldP (v := .map 1033) ta77 rfl rfl rfl rfl) ?_;refine w4 (st_faP fo95_0 rfl) ?_;refine w4 (st_ldP (v := dI .i64 x927.v) ta3 rfl rfl rfl rfl) ?_;refine w9 (L' := [(1033, mapO .i64 (fun (b : Bool) => dB b) (mset y932.2 x927.v true)), Z100005_1 p0 p1, Z100005_2, Z100005_0, (1039, .row 0 95 [[dI .i64 x927.v, dB x927.f_exists]])]) (st_mapUp (vf := (fun (b : Bool) => dB b)) (b := true) (xs := y932.2) un77 un3 rfl rfl rfl rfl) ?_;refine rw_nilk (awp_rs ?_);refine w4 (st_ldP (v := .fn 68 [] [.ptr 1036 0 0 0, .ptr 1037 0 0 0, .ptr 1038 0 0 0]) ta84 rfl rfl rfl rfl) ?_;refine w1 ?_;refine w4 (st_bin (v := dI .i64 (IntKind.wrap .i64 (b0 + 1))) rfl rfl rfl) ?_;obtain ⟨y935, hy935, h⟩ := bind_some_elim h
    refine rcall (v := dB y935.1) (L0 := [(1033, mapO .i64 (fun (b : Bool) => dB b) (mset y932.2 x927.v true)), Z100005_1 p0 p1, Z100005_2, Z100005_0]) (L1 := [(1033, mapO .i64 (fun (b : Bool) => dB b) y935.2), Z100005_1 p0 p1, Z100005_2, Z100005_0]) (L' := [(1033, mapO .i64 (fun (b : Bool) => dB b) y935.2), Z100005_1 p0 p1, Z100005_2, Z100005_0, (1039, .row 0 95 [[dI .i64 x927.v, dB x927.f_exists]])]) rfl rfl rfl rfl (ih hy935) ⟨rfl, rfl, rfl, rfl, trivial⟩ rfl ⟨closM (fun _ => rfl), rfl, rfl, rfl, trivial⟩ rfl rfl ?_;refine w2 ?_;refine rw_nilk (awp_ret ?_);injection h with h;subst h;exact retM (v := dB y935.1) (resV_one (resVs_tmp rfl resVs_nil)) rfl (.keep rfl) ⟨km, ko, ko, ko, trivial⟩

abbrev Z19_0 (y236 : S_truth_game) : Nat × AObj := (1014, .row 0 73 [[dL 2 e_S_truth_turn y236.turns, dL 1 (eL 1 (eI .i64)) y236.clauses]])
abbrev Z19_1 (a0 : S_api_Qbf) : Nat × AObj := (1001, .row 0 25 [[dL 2 e_S_api_Block a0.Prefix, dL 1 (eL 1 (eI .i64)) a0.Clauses]])
abbrev Z19_2 (j245 : Nat) : Nat × AObj := (1019, .row 0 3 [[dI .i64 ((j245 : Nat) : Int)]])
abbrev Z19_3 (g171 : (Nat × Nat)) (s242 : (List S_api_Table)) : Nat × AObj := (1013, .row 0 41 [[.slice 1008 g171.2 0 s242.length]])
abbrev Z19_4 (g171 : (Nat × Nat)) (j245 : Nat) : Nat × AObj := (1020, .row 0 92 [[.ptr 1008 g171.2 j245 0]])
abbrev Z19_5 (g171 : (Nat × Nat)) (s170 : (Int × (List Int) × (List S_api_Table))) : Nat × AObj := (1008, .row g171.2 56 (List.map z_S_api_Table s170.2.2))
abbrev Z19_6 (s30005 : Int) : Nat × AObj := (1022, .row 0 3 [[dI .i64 s30005]])
abbrev Z19_7 : Nat × AObj := (1018, .row 0 84 [[.fn 68 [] [.ptr 1016 0 0 0, .ptr 1017 0 0 0, .ptr 1018 0 0 0]]])
abbrev Z19_8 : Nat × AObj := (1038, .row 0 84 [[.fn 68 [] [.ptr 1036 0 0 0, .ptr 1037 0 0 0, .ptr 1038 0 0 0]]])
abbrev Z19_9 (s35753 : (List (Int × Bool))) : Nat × AObj := (1033, mapO .i64 (fun (b : Bool) => dB b) s35753)
abbrev Z19_10 (y236 : S_truth_game) : Nat × AObj := (1016, .row 0 73 [[dL 2 e_S_truth_turn y236.turns, dL 1 (eL 1 (eI .i64)) y236.clauses]])
abbrev Z19_11 (y236 : S_truth_game) : Nat × AObj := (1036, .row 0 73 [[dL 2 e_S_truth_turn y236.turns, dL 1 (eL 1 (eI .i64)) y236.clauses]])
abbrev Z19_12 (x174 : S_truth_turn) : Nat × AObj := (1009, .row 0 95 [[dI .i64 x174.v, dB x174.f_exists]])
abbrev Z19_13 (g171 : (Nat × Nat)) (s170 : (Int × (List Int) × (List S_api_Table))) : Nat × AObj := (1005, rw' g171.1 3 (eI .i64) s170.2.1)
abbrev Z19_14 : Nat × AObj := (1015, mapO .i64 (fun (b : Bool) => dB b) ([] : List (Int × Bool)))
abbrev Z19_15 (y169 : S_truth_game) : Nat × AVal := (13, dI .i64 ((y169.turns.length : Nat) : Int))

theorem ok_truth_Herbrand {a0 : S_api_Qbf} {r : ((List S_api_Table) × Int)} (h : F_truth_Herbrand a0 = some r) : Fn Try.prog 19 [.agg [dL 2 e_S_api_Block a0.Prefix, dL 1 (eL 1 (eI .i64)) a0.Clauses]] (.tup [dL 3 e_S_api_Table r.1, dI .i64 r.2]) := by
 unfold F_truth_Herbrand at h;refine Fn.of_body (N := 87) (rs := [.tmp 2, .tmp 3]) Try.func19 (c := _) rfl rfl rfl (by kernel_rfl) (Nat.le_of_ble_eq_true rfl) (fun _B => ?_);refine awp_rs ?_;refine w8 (r := 1001) (st_box rfl rfl rfl co25 rfl rfl) ?_;refine w2 ?_;refine w2 ?_;refine rw_nilk (awp_seq (awp_rs ?_));refine w4 (st_ldP (v := .agg [dL 2 e_S_api_Block a0.Prefix, dL 1 (eL 1 (eI .i64)) a0.Clauses]) ta25 rfl rfl rfl rfl) ?_;obtain ⟨y101, hy101, h⟩ := bind_some_elim h;refine rf rfl rfl (ok_truth_small hy101) rfl rfl ?_;refine w2 ?_;refine rw_nilk (awp_rs ?_);refine w1 ?_;refine w4 (st_bin (v := dB (y101 != 0)) rfl rfl rfl) ?_;refine rw_nilk ?_;refine awp_ite (b := (y101 != 0)) rfl (fun p102 => ?_) (fun p102 => ?_)
 ·replace h := ite_T p102 h;refine awp_rs ?_;refine w1 ?_;refine w2 ?_;refine w2 ?_;refine rw_nilk (awp_ret (rt_then ?_));injection h with h;subst h;exact ret_out (v := .tup [.nilS, dI .i64 y101]) (resV_many (resVs_tmp rfl (resVs_tmp rfl resVs_nil))) (frz_tup ⟨(.nilS _), (.keep rfl), trivial⟩)
 ·replace h := ite_F p102 h;refine awp_skip (nx_then (awp_rs ?_));refine w4 (st_ldP (v := .agg [dL 2 e_S_api_Block a0.Prefix, dL 1 (eL 1 (eI .i64)) a0.Clauses]) ta25 rfl rfl rfl rfl) ?_;refine ri (N := 45) (rs := [.tmp 2, .tmp 3]) rfl rfl rfl rfl Try.func45 rfl rfl rfl (by kernel_rfl) rfl (fun _B => ?_);refine awp_rs ?_;refine w8 (r := 1002) (st_box rfl rfl rfl co25 rfl rfl) ?_;refine w2 ?_;refine w2 ?_;refine rw_nilk (awp_rs ?_);refine w2 ?_;refine rw_nilk (awp_rs ?_);refine w2 ?_;refine rw_nilk (awp_rs ?_);refine w2 ?_;refine rw_nilk (awp_seq (awp_rs ?_));refine w4 (st_ldP (v := .agg [dL 2 e_S_api_Block a0.Prefix, dL 1 (eL 1 (eI .i64)) a0.Clauses]) ta25 rfl rfl rfl rfl) ?_;obtain ⟨y169, hy169, h⟩ := bind_some_elim h;refine rf rfl rfl (ok_truth_of hy169) rfl rfl ?_;refine w4 (st_field (v := dL 2 e_S_truth_turn y169.turns) fo73_0 rfl rfl) ?_;refine w4 (st_lenD rfl un71) ?_;refine w1 ?_;refine rw_nilk (awp_block ?_);refine awp_len (t := 12) rfl (fun hl173 => ?_);rw [List.length_map] at hl173
  refine awp_range (fun (j173 : Nat) (s170 : (Int × (List Int) × (List S_api_Table))) (g171 : (Nat × Nat)) => [(4, .slice 1008 g171.2 0 s170.2.2.length), (5, .slice 1005 g171.1 0 s170.2.1.length), (6, dI .i64 s170.1), (12, dL 2 e_S_truth_turn y169.turns), Z19_15 y169, (14, dI .i64 ((j173 : Nat) : Int))]) (fun (s170 : (Int × (List Int) × (List S_api_Table))) (g171 : (Nat × Nat)) => [Z19_1 a0, Z19_13 g171 s170, Z19_5 g171 s170]) (0, 0) (fun _ _ _ h => h) h (Gh.trans (gh_nil (r := 1008) (E' := [(4, .slice 1008 0 0 (([] : List S_api_Table).length)), (5, .nilS), (6, dI .i64 0), (12, dL 2 e_S_truth_turn y169.turns), Z19_15 y169, (14, dI .i64 0)]) (L' := [Z19_1 a0, (1002, .row 0 25 [[dL 2 e_S_api_Block a0.Prefix, dL 1 (eL 1 (eI .i64)) a0.Clauses]])]) rfl co56 rfl rfl ⟨⟨_, rfl, .nil⟩, ⟨_, rfl, .keep _⟩, ⟨_, rfl, .keep _⟩, ⟨_, rfl, .keep _⟩, ⟨_, rfl, .keep _⟩, ⟨_, rfl, .keep _⟩, trivial⟩ ⟨⟨_, rfl, .keep _⟩, ⟨_, rfl, .keep _⟩, trivial⟩) (Gh.trans (gh_nil (r := 1005) (E' := [(4, .slice 1008 0 0 (([] : List S_api_Table).length)), (5, .slice 1005 0 0 (([] : List Int).length)), (6, dI .i64 0), (12, dL 2 e_S_truth_turn y169.turns), Z19_15 y169, (14, dI .i64 0)]) (L' := [Z19_1 a0, (1002, .row 0 25 [[dL 2 e_S_api_Block a0.Prefix, dL 1 (eL 1 (eI .i64)) a0.Clauses]]), (1008, .row 0 56 (List.map z_S_api_Table ([] : List S_api_Table)))]) rfl co3 rfl rfl ⟨⟨_, rfl, .keep _⟩, ⟨_, rfl, .nil⟩, ⟨_, rfl, .keep _⟩, ⟨_, rfl, .keep _⟩, ⟨_, rfl, .keep _⟩, ⟨_, rfl, .keep _⟩, trivial⟩ ⟨⟨_, rfl, .keep _⟩, ⟨_, rfl, .keep _⟩, ⟨_, rfl, .keep _⟩, trivial⟩) (gf ⟨ko, ⟨_, rfl, objRow (List.map (eI .i64) ([] : List Int))⟩, ⟨_, rfl, objZ (xs := ([] : List S_api_Table)) zk_S_api_Table⟩, trivial⟩))) ?_ ?_
  ·clear h;intro j173 x174 s170 g171 k172 hj173 hx173 h ih172;refine awp_rs ?_;refine w4 (st_bin (v := dB (decide (((j173 : Nat) : Int) < ((y169.turns.length : Nat) : Int)))) rfl rfl rfl) ?_;refine rw_nilk (awp_seq ?_);refine awp_ifT rfl (dlt hj173) ?_;refine awp_skip (nx_then ?_);refine awp_jn (fun (s226 : (Int × (List Int) × (List S_api_Table))) (g227 : (Nat × Nat)) => [(4, .slice 1008 g227.2 0 s226.2.2.length), (5, .slice 1005 g227.1 0 s226.2.1.length), (6, dI .i64 s226.1), (12, dL 2 e_S_truth_turn y169.turns), Z19_15 y169, (14, dI .i64 ((j173 : Nat) : Int))]) (fun (s226 : (Int × (List Int) × (List S_api_Table))) (g227 : (Nat × Nat)) => [Z19_1 a0, (1005, rw' g227.1 3 (eI .i64) s226.2.1), (1008, .row g227.2 56 (List.map z_S_api_Table s226.2.2))]) h ?_ ?_
   ·clear h;intro s226 g227 h;refine awp_rw ?_;refine w4 (st_inc rfl rfl hj173 hl173) ?_;refine w1 ?_;refine rw_nil (nx_then ?_);refine awp_gh ?_ (ih172 (s226.1, s226.2.1, s226.2.2) (g227.1, g227.2) h);exact (gf ⟨ko, kw, ⟨_, rfl, objZ zk_S_api_Table⟩, trivial⟩)
   ·clear h;intro k228 h J228;refine awp_block (awp_rs ?_);refine w4 (st_ixDn sl71 rfl rfl hx173) ?_;refine w4 (st_ldD (v := .agg [dI .i64 x174.v, dB x174.f_exists]) ta95 rfl rfl) ?_;refine w8 (r := 1009) (st_alloc zc95 rfl rfl) ?_;refine w9 (L' := [Z19_1 a0, Z19_13 g171 s170, Z19_5 g171 s170, Z19_12 x174]) (st_stP ta95 rfl rfl rfl rfl rfl rfl rfl rfl) ?_;refine rw_nilk (awp_seq (awp_rs ?_));refine w4 (st_faP fo95_1 rfl) ?_;refine w4 (st_ldP (v := dB x174.f_exists) ta4 rfl rfl rfl rfl) ?_;refine rw_nilk ?_;refine awp_ite (b := x174.f_exists) rfl (fun p229 => ?_) (fun p229 => ?_)
    ·replace h := ite_T p229 h;refine awp_rs ?_;refine w1 ?_;refine w4 (st_faP fo95_0 rfl) ?_;refine w4 (st_ldP (v := dI .i64 x174.v) ta3 rfl rfl rfl rfl) ?_;refine w8 (r := 1010) (st_bsl (els := [[dI .i64 x174.v]]) sl34 zc3 rfl rfl rfl rfl rfl) ?_;obtain ⟨c230, h⟩ := capN_some h;refine rn (r := 0) (L' := [Z19_1 a0, (1005, rw' (g171.1 + 2) 3 (eI .i64) (s170.2.1 ++ [x174.v])), Z19_5 g171 s170, Z19_12 x174, (1010, .row 1 3 [[dI .i64 x174.v]])]) rfl rfl (st_appR (f := (eI .i64)) (xs := s170.2.1) (ys := [x174.v]) sl34 zc3 rfl rfl rfl rfl rfl (news_one (a := x174.v) rfl rfl) c230) rfl ?_;refine w2 ?_;refine rw_nilk (awp_exit (ex_out (ex_in (nx_then ?_))));exact J228 (s170.1, (s170.2.1 ++ [x174.v]), s170.2.2) ((g171.1 + 2), g171.2) _ _ h (gf ⟨ko, kw, ⟨_, rfl, objZ zk_S_api_Table⟩, trivial⟩)
    ·replace h := ite_F p229 h;refine awp_skip (nx_then (awp_rs ?_));refine w1 ?_;obtain ⟨y231, hy231, h⟩ := bind_some_elim h;refine ownRZ (L' := [Z19_1 a0, Z19_13 g171 s170, Z19_5 g171 s170, Z19_12 x174, (1011, rw' 0 3 (eI .i64) y231)]) 1011 rfl rfl (oo_slices_Clone_int_int hy231) rfl ⟨frzT rfl rfl co3 rfl, trivial⟩ (fun _ => rfl) rfl rfl ?_;refine w2 ?_;refine rw_nilk (awp_rs ?_);refine w1 ?_;obtain ⟨c232, h⟩ := okI_some h;refine rcall (L0 := [(1011, rw' 0 3 (eI .i64) y231)]) (L1 := [(1011, rw' 0 3 (eI .i64) (srt y231))]) (L' := [Z19_1 a0, Z19_13 g171 s170, Z19_5 g171 s170, Z19_12 x174, (1011, rw' 0 3 (eI .i64) (srt y231))]) rfl rfl rfl rfl (ev_sort (xs := y231) co3 (by kernel_rfl) (Nat.lt_of_le_of_lt c232 (by decide)) Try.slices_Sort_int Try.slices_Sort_int_none) ⟨rfl, trivial⟩ rfl ⟨closT, trivial⟩ rfl rfl ?_
     rw [show y231.length = (srt y231).length from (srt_length _).symm]
     refine rw_nilk (awp_rs ?_);refine w1 ?_;refine w4 (st_faP fo95_0 rfl) ?_;refine w4 (st_ldP (v := dI .i64 x174.v) ta3 rfl rfl rfl rfl) ?_;refine w1 ?_;refine w4 (st_build (vs := [dI .i64 x174.v, .slice 1011 0 0 ((srt y231).length), .nilS]) bl56 rfl rfl) ?_;refine w8 (r := 1012) (st_bsl (els := [[dI .i64 x174.v, .slice 1011 0 0 ((srt y231).length), .nilS]]) sl41 zc56 rfl rfl rfl rfl rfl) ?_
     refine RW.gh (gh_frz (E' := [(5, .slice 1005 g171.1 0 s170.2.1.length), (6, dI .i64 s170.1), (9, dL 1 (eI .i64) (srt y231)), (12, dL 2 e_S_truth_turn y169.turns), Z19_15 y169, (14, dI .i64 ((j173 : Nat) : Int)), (29, .slice 1008 g171.2 0 s170.2.2.length), (34, .slice 1012 1 0 1)]) (L' := [Z19_1 a0, Z19_13 g171 s170, Z19_5 g171 s170, Z19_12 x174, (1012, .row 1 56 [[dI .i64 x174.v, dL 1 (eI .i64) (srt y231), .nilS]])]) rfl rfl ⟨kp, kp, ⟨_, rfl, frzT rfl rfl co3 rfl⟩, kp, kp, kp, kp, kp, trivial⟩ ⟨ko, kw, ⟨_, rfl, objZ zk_S_api_Table⟩, ko, ⟨_, rfl, objOne ⟨kc, ⟨rfl, frzT rfl rfl co3 rfl⟩, kc, trivial⟩⟩, trivial⟩) ?_;obtain ⟨c233, h⟩ := capN_some h
     refine rn (r := 0) (L' := [Z19_1 a0, Z19_13 g171 s170, (1008, .row (g171.2 + 2) 56 (List.map z_S_api_Table (s170.2.2 ++ ([(S_api_Table.mk x174.v (srt y231) ([] : List Bool))])))), Z19_12 x174, (1012, .row 1 56 [[dI .i64 x174.v, dL 1 (eI .i64) (srt y231), .nilS]])]) rfl rfl (st_apZR (F := z_S_api_Table) (xs := s170.2.2) (ys := [(S_api_Table.mk x174.v (srt y231) ([] : List Bool))]) sl41 zc56 rfl rfl rfl rfl rfl (els_one (F := z_S_api_Table) (a := (S_api_Table.mk x174.v (srt y231) ([] : List Bool))) rfl rfl) rfl c233) rfl ?_;refine w2 ?_;refine rw_nilk (awp_rw ?_);refine w1 ?_;refine w1 ?_;refine w4 (st_lenD rfl un34) ?_;refine w4 (st_min rfl rfl) ?_;obtain ⟨c234, h⟩ := okI_some h;refine w4 (st_shl rfl rfl c234) ?_;refine w4 (st_bin (v := dI .i64 (IntKind.wrap .i64 (s170.1 + (IntKind.wrap .i64 (1 * 2 ^ (min (imn (((srt y231).length : Nat) : Int) 13).toNat (IntKind.bits .i64))))))) rfl rfl rfl) ?_;refine w2 ?_;refine rw_nil (nx_block (nx_then ?_))
     exact J228 ((IntKind.wrap .i64 (s170.1 + (IntKind.wrap .i64 (1 * 2 ^ (min (imn (((srt y231).length : Nat) : Int) 13).toNat (IntKind.bits .i64)))))), s170.2.1, (s170.2.2 ++ ([(S_api_Table.mk x174.v (srt y231) ([] : List Bool))]))) (g171.1, (g171.2 + 2)) _ _ h (gf ⟨ko, kw, ⟨_, rfl, objZ zk_S_api_Table⟩, trivial⟩)
  ·clear h;intro s170 g171 h;refine awp_rs ?_;refine w4 (st_bin (v := dB (decide (((y169.turns.length : Nat) : Int) < ((y169.turns.length : Nat) : Int)))) rfl rfl rfl) ?_;refine rw_nilk (awp_seq ?_);refine awp_ifF rfl dge ?_;refine awp_exit (ex_out (ex_out (ex_in (nx_then (awp_rs ?_)))));refine w1 ?_;refine w1 ?_;refine w2 ?_;refine w2 ?_;refine rw_nilk (awp_ret ?_);refine ret_in (v := .tup [.slice 1008 g171.2 0 s170.2.2.length, dI .i64 s170.1]) (resV_many (resVs_tmp rfl (resVs_tmp rfl resVs_nil))) ?_
   show RW _ _ _ _ _ _ _
   refine w1 ?_;refine w4 (st_ext rfl rfl) ?_;refine w4 (st_ext rfl rfl) ?_;refine w8 (r := 1013) (st_alloc zc41 rfl rfl) ?_;refine w9 (L' := [Z19_1 a0, Z19_13 g171 s170, Z19_5 g171 s170, (1013, .row 0 41 [[.slice 1008 g171.2 0 s170.2.2.length]])]) (st_stP ta41 rfl rfl rfl rfl rfl rfl rfl rfl) ?_;refine w2 ?_;refine rw_nilk (awp_seq (awp_rs ?_));refine w1 ?_;refine w4 (st_bin (v := dB (decide (s170.1 > 4096))) rfl rfl rfl) ?_;refine rw_nilk ?_;refine awp_ite (b := (decide (s170.1 > 4096))) rfl (fun p235 => ?_) (fun p235 => ?_)
   ·replace h := ite_T p235 h;refine awp_rs ?_;refine w2 ?_;refine w2 ?_;refine rw_nilk ?_;refine awp_gh (gf (E' := [(2, .nilS), (3, dI .i64 3)]) (L' := []) trivial) ?_;refine awp_ret (rt_then ?_);injection h with h;subst h;exact ret_out (v := .tup [.nilS, dI .i64 3]) (resV_many (resVs_tmp rfl (resVs_tmp rfl resVs_nil))) (frz_tup ⟨(.nilS _), (.keep rfl), trivial⟩)
   ·replace h := ite_F p235 h;refine awp_skip (nx_then (awp_rs ?_));refine w4 (st_ldP (v := .agg [dL 2 e_S_api_Block a0.Prefix, dL 1 (eL 1 (eI .i64)) a0.Clauses]) ta25 rfl rfl rfl rfl) ?_;obtain ⟨y236, hy236, h⟩ := bind_some_elim h;refine rf rfl rfl (ok_truth_of hy236) rfl rfl ?_;refine w8 (r := 1014) (st_alloc zc73 rfl rfl) ?_;refine w9 (L' := [Z19_1 a0, Z19_13 g171 s170, Z19_5 g171 s170, (1013, .row 0 41 [[.slice 1008 g171.2 0 s170.2.2.length]]), Z19_0 y236]) (st_stP ta73 rfl rfl rfl rfl rfl rfl rfl rfl) ?_;refine rw_nilk (awp_seq (awp_rs ?_));refine w4 (st_ldP (v := .agg [dL 2 e_S_truth_turn y236.turns, dL 1 (eL 1 (eI .i64)) y236.clauses]) ta73 rfl rfl rfl rfl) ?_;refine rn (r := 1015) (L' := [Z19_1 a0, Z19_13 g171 s170, Z19_5 g171 s170, (1013, .row 0 41 [[.slice 1008 g171.2 0 s170.2.2.length]]), Z19_0 y236, Z19_14]) rfl rfl (st_mkM rfl) rfl ?_
    refine ri (N := 12) (rs := [.tmp 6]) rfl rfl rfl rfl Try.func33 rfl rfl rfl (by kernel_rfl) rfl (fun _B => ?_);refine awp_rs ?_;refine w8 (r := 1016) (st_box rfl rfl rfl co73 rfl rfl) ?_;refine w8 (r := 1017) (st_box rfl rfl rfl co77 rfl rfl) ?_;refine w2 ?_;refine rw_nilk (awp_rs ?_);refine w8 (r := 1018) (st_alloc zc84 rfl rfl) ?_;refine rw_nilk (awp_rs ?_);refine w4 (st_fn rfl rfl) ?_;refine w9 (L' := [Z19_1 a0, Z19_13 g171 s170, Z19_5 g171 s170, (1013, .row 0 41 [[.slice 1008 g171.2 0 s170.2.2.length]]), Z19_0 y236, Z19_14, Z19_10 y236, (1017, .row 0 77 [[.map 1015]]), Z19_7]) (st_stP ta84 rfl rfl rfl rfl rfl rfl rfl rfl) ?_;refine rw_nilk (awp_rs ?_);refine w4 (st_ldP (v := .fn 68 [] [.ptr 1016 0 0 0, .ptr 1017 0 0 0, .ptr 1018 0 0 0]) ta84 rfl rfl rfl rfl) ?_;refine w1 ?_;obtain ⟨y240, hy240, h⟩ := bind_some_elim h
    refine rcall (v := dB y240.1) (L0 := [Z19_14, Z19_10 y236, (1017, .row 0 77 [[.map 1015]]), Z19_7]) (L1 := [(1015, mapO .i64 (fun (b : Bool) => dB b) y240.2), Z19_10 y236, (1017, .row 0 77 [[.map 1015]]), Z19_7]) (L' := [Z19_1 a0, Z19_13 g171 s170, Z19_5 g171 s170, (1013, .row 0 41 [[.slice 1008 g171.2 0 s170.2.2.length]]), Z19_0 y236, (1015, mapO .i64 (fun (b : Bool) => dB b) y240.2), Z19_10 y236, (1017, .row 0 77 [[.map 1015]]), Z19_7]) rfl rfl rfl rfl (oc_truth_game_left_c1_3 1000000 hy240) ⟨rfl, rfl, rfl, rfl, trivial⟩ rfl ⟨closM (fun _ => rfl), rfl, rfl, rfl, trivial⟩ rfl rfl ?_;refine w2 ?_;refine rw_nilk (awp_ret ?_);refine ret_in (v := dB y240.1) (resV_one (resVs_tmp rfl resVs_nil)) ?_
    show RW _ _ _ _ _ _ _
    refine rw_nilk ?_;refine awp_ite (b := y240.1) rfl (fun p241 => ?_) (fun p241 => ?_)
    ·replace h := ite_T p241 h;refine awp_rs ?_;refine w2 ?_;refine w2 ?_;refine rw_nilk ?_;refine awp_gh (gf (E' := [(2, .nilS), (3, dI .i64 6)]) (L' := []) trivial) ?_;refine awp_ret (rt_then ?_);injection h with h;subst h;exact ret_out (v := .tup [.nilS, dI .i64 6]) (resV_many (resVs_tmp rfl (resVs_tmp rfl resVs_nil))) (frz_tup ⟨(.nilS _), (.keep rfl), trivial⟩)
    ·replace h := ite_F p241 h;refine awp_skip (nx_then (awp_seq (awp_rs ?_)));refine w4 (st_ldP (v := .slice 1008 g171.2 0 s170.2.2.length) ta41 rfl rfl rfl rfl) ?_;refine w4 (st_lenR rfl un41 rfl) ?_;refine w1 ?_;refine rw_nilk (awp_block ?_);refine awp_lenZ (r := 1008) rfl (fun hl245 => ?_);refine awp_range (fun (j245 : Nat) (s242 : (List S_api_Table)) (g243 : Unit) => [(5, .ptr 1013 0 0 0), (7, .ptr 1014 0 0 0), (33, dI .i64 ((s170.2.2.length : Nat) : Int)), (34, dI .i64 ((j245 : Nat) : Int))]) (fun (s242 : (List S_api_Table)) (g243 : Unit) => [(1008, .row g171.2 56 (List.map z_S_api_Table s242)), Z19_3 g171 s242, Z19_0 y236]) () (fun _ _ _ h => h) h (gf ⟨⟨_, rfl, objZ zk_S_api_Table⟩, ko, ko, trivial⟩) ?_ ?_
     ·clear h;intro j245 x246 s242 g243 k244 hj245 hx245 h ih244;refine awp_rs ?_;refine w4 (st_bin (v := dB (decide (((j245 : Nat) : Int) < ((s170.2.2.length : Nat) : Int)))) rfl rfl rfl) ?_;refine rw_nilk (awp_seq ?_);refine awp_ifT rfl (dlt hj245) ?_;refine awp_skip (nx_then (awp_seq (awp_block (awp_rs ?_))));refine w1 ?_;refine w8 (r := 1019) (st_alloc zc3 rfl rfl) ?_;refine w9 (L' := [(1008, .row g171.2 56 (List.map z_S_api_Table s242)), Z19_3 g171 s242, Z19_0 y236, Z19_2 j245]) (st_stP ta3 rfl rfl rfl rfl rfl rfl rfl rfl) ?_;refine rw_nilk (awp_rs ?_);refine w4 (st_ldP (v := .slice 1008 g171.2 0 s242.length) ta41 rfl rfl rfl rfl) ?_;refine w4 (st_ldP (v := dI .i64 ((j245 : Nat) : Int)) ta3 rfl rfl rfl rfl) ?_;obtain ⟨x29994, h029994, hx29994, h⟩ := getI_some h;rw [Int.toNat_natCast] at hx29994;obtain ⟨c29995, h⟩ := okI_some h;refine w4 (st_ixZn (a := x29994) (xs := s242) sl41 rfl rfl rfl hx29994 rfl) ?_
      refine RW.gh (gf (E' := [(5, .ptr 1013 0 0 0), (7, .ptr 1014 0 0 0), (8, .ptr 1019 0 0 0), (33, dI .i64 ((s170.2.2.length : Nat) : Int)), (34, dI .i64 ((j245 : Nat) : Int)), (39, .ptr 1008 g171.2 j245 0)]) (L' := [(1008, .row g171.2 56 ((List.map z_S_api_Table s242).set j245 [dI .i64 x29994.Var, dL 1 (eI .i64) x29994.On, .nilS])), Z19_3 g171 s242, Z19_0 y236, Z19_2 j245]) ⟨⟨_, rfl, objZO hx29994 zk_S_api_Table ⟨kc, kc, ⟨rfl, frz_bzN c29995⟩, trivial⟩⟩, ko, ko, ko, trivial⟩) ?_;refine w8 (r := 1020) (st_alloc zc92 rfl rfl) ?_;refine w9 (L' := [(1008, .row g171.2 56 ((List.map z_S_api_Table s242).set j245 [dI .i64 x29994.Var, dL 1 (eI .i64) x29994.On, .nilS])), Z19_3 g171 s242, Z19_0 y236, Z19_2 j245, Z19_4 g171 j245]) (st_stP ta92 rfl rfl rfl rfl rfl rfl rfl rfl) ?_;refine rw_nilk (awp_rs ?_)
      refine w4 (st_faP fo73_0 rfl) ?_;refine w4 (st_ldP (v := dL 2 e_S_truth_turn y236.turns) ta71 rfl rfl rfl rfl) ?_;refine w4 (st_fn rfl rfl) ?_;refine rw_jn (fun (s30005 : Int) (g30006 : Unit) => [(5, .ptr 1013 0 0 0), (7, .ptr 1014 0 0 0), (8, .ptr 1019 0 0 0), (9, .ptr 1020 0 0 0), (33, dI .i64 ((s170.2.2.length : Nat) : Int)), (34, dI .i64 ((j245 : Nat) : Int)), (43, dI .i64 s30005)]) (fun (s30005 : Int) (g30006 : Unit) => [(1008, .row g171.2 56 ((List.map z_S_api_Table s242).set j245 [dI .i64 x29994.Var, dL 1 (eI .i64) x29994.On, .nilS])), Z19_3 g171 s242, Z19_0 y236, Z19_2 j245, Z19_4 g171 j245]) h ?_ ?_
      ·clear h;intro s30005 g30006 h;refine w8 (r := 1022) (st_alloc zc3 rfl rfl) ?_;refine w9 (L' := [(1008, .row g171.2 56 ((List.map z_S_api_Table s242).set j245 [dI .i64 x29994.Var, dL 1 (eI .i64) x29994.On, .nilS])), Z19_3 g171 s242, Z19_0 y236, Z19_2 j245, Z19_4 g171 j245, Z19_6 s30005]) (st_stP ta3 rfl rfl rfl rfl rfl rfl rfl rfl) ?_;refine rw_nilk (awp_rs ?_);refine w4 (st_ldP (v := .ptr 1008 g171.2 j245 0) ta92 rfl rfl rfl rfl) ?_;refine w4 (st_nilP rfl) ?_;refine w4 (st_faP fo56_1 rfl) ?_;refine w4 (st_ldP (v := dL 1 (eI .i64) x29994.On) ta34 rfl rfl (mapSet_get hx29994) rfl) ?_;refine ri (N := 4) (rs := [.tmp 2]) rfl rfl rfl rfl Try.func48 rfl rfl rfl (by kernel_rfl) rfl (fun _B => ?_);refine awp_rs ?_;refine w8 (r := 1023) (st_box rfl rfl rfl co34 rfl rfl) ?_;refine w2 ?_;refine rw_nilk (awp_rs ?_);refine w4 (st_fn rfl rfl) ?_;refine w2 ?_;refine rw_nilk (awp_ret ?_);refine ret_in (v := .fn 80 [] [.ptr 1023 0 0 0]) (resV_one (resVs_tmp rfl resVs_nil)) ?_
       show RW _ _ _ _ _ _ _
       refine rw_nilk (awp_block ?_);refine awp_rangeFuncR 1024 [(5, .ptr 1013 0 0 0), (7, .ptr 1014 0 0 0), (8, .ptr 1019 0 0 0), (9, .ptr 1020 0 0 0), (10, .ptr 1022 0 0 0)] rfl rfl rfl ⟨rfl, rfl, rfl, rfl, rfl, trivial⟩ Try.func80 rfl rfl (N' := 35) rfl (by kernel_rfl) rfl (fun O30008 hO30008 _B => ?_);refine awp_rs ?_;refine w4 (st_ldP (v := dL 1 (eI .i64) x29994.On) ta34 rfl rfl rfl rfl) ?_;refine w4 (st_lenD rfl un34) ?_;obtain ⟨c30009, h⟩ := okI_some h;refine w4 (st_shl rfl rfl c30009) ?_;refine w1 ?_;refine rw_nilk (awp_block ?_);obtain ⟨hl30013, h⟩ := okI_some h
       refine awp_up (fun (j30013 : Int) (s30010 : (List Bool)) (g30011 : Nat) => [(0, .yld 1024), (1, .ptr 1023 0 0 0), (9, dI .i64 (IntKind.wrap .i64 (1 * 2 ^ (min ((x29994.On.length : Nat) : Int).toNat (IntKind.bits .i64))))), (10, dI .i64 j30013)]) (fun (s30010 : (List Bool)) (g30011 : Nat) => [(1008, .row g171.2 56 ((List.map z_S_api_Table s242).set j245 [dI .i64 x29994.Var, dL 1 (eI .i64) x29994.On, .slice 1032 g30011 0 s30010.length])), Z19_3 g171 s242, Z19_0 y236, Z19_2 j245, Z19_4 g171 j245, Z19_6 s30005, (1023, .row 0 34 [[dL 1 (eI .i64) x29994.On]]), (1024, O30008 .ready none), (1032, rw' g30011 4 eB s30010)]) 0 (fun _ _ _ h => h) h (Gh.trans (gh_nil (r := 1032) (E' := [(0, .yld 1024), (1, .ptr 1023 0 0 0), (9, dI .i64 (IntKind.wrap .i64 (1 * 2 ^ (min ((x29994.On.length : Nat) : Int).toNat (IntKind.bits .i64))))), (10, dI .i64 0)]) (L' := [(1008, .row g171.2 56 ((List.map z_S_api_Table s242).set j245 [dI .i64 x29994.Var, dL 1 (eI .i64) x29994.On, .slice 1032 0 0 (([] : List Bool).length)])), Z19_3 g171 s242, Z19_0 y236, Z19_2 j245, Z19_4 g171 j245, Z19_6 s30005, (1023, .row 0 34 [[dL 1 (eI .i64) x29994.On]]), (1024, O30008 .ready none)]) rfl co4 rfl rfl ⟨⟨_, rfl, .keep _⟩, ⟨_, rfl, .keep _⟩, ⟨_, rfl, .keep _⟩, ⟨_, rfl, .keep _⟩, trivial⟩ ⟨⟨_, rfl, nilSetE ⟨.keep _, .keep _, .nil, trivial⟩⟩, ⟨_, rfl, .keep _⟩, ⟨_, rfl, .keep _⟩, ⟨_, rfl, .keep _⟩, ⟨_, rfl, .keep _⟩, ⟨_, rfl, .keep _⟩, ⟨_, rfl, .keep _⟩, ⟨_, rfl, .keep _⟩, trivial⟩) (gf ⟨⟨_, rfl, objZP zk_S_api_Table ⟨kc, kc, kc, trivial⟩⟩, ⟨_, rfl, objOne ⟨⟨rfl, frzN rfl (by first | exact List.length_replicate.symm | exact (srt_length _).symm | simp [srt_length] | simp)⟩, trivial⟩⟩, ko, ko, ko, ko, ko, ⟨_, rfl, objLoop (hO30008 _ _) rfl⟩, ⟨_, rfl, objRow (List.map eB ([] : List Bool))⟩, trivial⟩)) ?_ ?_
       ·clear h;intro j30013 s30010 g30011 k30012 hj30013 hx30013 h ih30012;refine awp_rs ?_;refine w4 (st_bin (v := dB (decide (j30013 < (IntKind.wrap .i64 (1 * 2 ^ (min ((x29994.On.length : Nat) : Int).toNat (IntKind.bits .i64))))))) rfl rfl rfl) ?_;refine rw_nilk (awp_seq ?_);refine awp_ifT rfl (dltI (upT hj30013 hx30013)) ?_;refine awp_skip (nx_then (awp_seq (awp_block (awp_rs ?_))));refine w1 ?_;refine w2 ?_;refine rw_nilk (awp_rs ?_);refine rn (r := 1033) (L' := [(1008, .row g171.2 56 ((List.map z_S_api_Table s242).set j245 [dI .i64 x29994.Var, dL 1 (eI .i64) x29994.On, .slice 1032 g30011 0 s30010.length])), Z19_3 g171 s242, Z19_0 y236, Z19_2 j245, Z19_4 g171 j245, Z19_6 s30005, (1023, .row 0 34 [[dL 1 (eI .i64) x29994.On]]), (1024, O30008 .ready none), (1032, rw' g30011 4 eB s30010), (1033, mapO .i64 (fun (b : Bool) => dB b) ([] : List (Int × Bool)))]) rfl rfl (st_mkM rfl) rfl ?_;refine w2 ?_;refine rw_nilk (awp_seq (awp_rs ?_));refine w4 (st_ldP (v := dL 1 (eI .i64) x29994.On) ta34 rfl rfl rfl rfl) ?_;refine w4 (st_lenD rfl un34) ?_;refine w1 ?_;refine rw_nilk (awp_block ?_);refine awp_len (t := 14) rfl (fun hl35198 => ?_);rw [List.length_map] at hl35198
        refine awp_range (fun (j35198 : Nat) (s35195 : (List (Int × Bool))) (g35196 : Unit) => [(0, .yld 1024), (1, .ptr 1023 0 0 0), (3, dI .i64 j30013), (4, .map 1033), (9, dI .i64 (IntKind.wrap .i64 (1 * 2 ^ (min ((x29994.On.length : Nat) : Int).toNat (IntKind.bits .i64))))), (10, dI .i64 j30013), (14, dL 1 (eI .i64) x29994.On), (15, dI .i64 ((x29994.On.length : Nat) : Int)), (16, dI .i64 ((j35198 : Nat) : Int))]) (fun (s35195 : (List (Int × Bool))) (g35196 : Unit) => [(1008, .row g171.2 56 ((List.map z_S_api_Table s242).set j245 [dI .i64 x29994.Var, dL 1 (eI .i64) x29994.On, .slice 1032 g30011 0 s30010.length])), Z19_3 g171 s242, Z19_0 y236, Z19_2 j245, Z19_4 g171 j245, Z19_6 s30005, (1023, .row 0 34 [[dL 1 (eI .i64) x29994.On]]), (1024, O30008 .ready none), (1032, rw' g30011 4 eB s30010), (1033, mapO .i64 (fun (b : Bool) => dB b) s35195)]) () (fun _ _ _ h => h) h (gf ⟨⟨_, rfl, objZP zk_S_api_Table ⟨kc, kc, kc, trivial⟩⟩, ⟨_, rfl, objOne ⟨⟨rfl, frzN rfl (by first | exact List.length_replicate.symm | exact (srt_length _).symm | simp [srt_length] | simp)⟩, trivial⟩⟩, ko, ko, ko, ko, ko, ⟨_, rfl, objLoop (hO30008 _ _) rfl⟩, kw, km, trivial⟩) ?_ ?_
        ·clear h;intro j35198 x35199 s35195 g35196 k35197 hj35198 hx35198 h ih35197;refine awp_rs ?_;refine w4 (st_bin (v := dB (decide (((j35198 : Nat) : Int) < ((x29994.On.length : Nat) : Int)))) rfl rfl rfl) ?_;refine rw_nilk (awp_seq ?_);refine awp_ifT rfl (dlt hj35198) ?_;refine awp_skip (nx_then (awp_seq (awp_block (awp_rs ?_))));refine w1 ?_;refine w4 (st_ixDn sl34 rfl rfl hx35198) ?_;refine w4 (st_ldD (v := dI .i64 x35199) ta3 rfl rfl) ?_;refine w2 ?_;refine w2 ?_;refine rw_nilk (awp_rw ?_);refine w1 ?_;refine w1 ?_;refine w1 ?_;refine w1 ?_;obtain ⟨c35202, h⟩ := okI_some h;refine w4 (st_shr rfl rfl c35202) ?_;refine w4 (st_bin (v := dI .i64 (IntKind.wrap .i64 ((BitVec.ofInt (IntKind.bits .i64) (Int.fdiv j30013 (2 ^ (min ((j35198 : Nat) : Int).toNat (IntKind.bits .i64)))) &&& BitVec.ofInt (IntKind.bits .i64) 1).toNat : Int))) rfl rfl rfl) ?_;refine w4 (st_bin (v := dB ((IntKind.wrap .i64 ((BitVec.ofInt (IntKind.bits .i64) (Int.fdiv j30013 (2 ^ (min ((j35198 : Nat) : Int).toNat (IntKind.bits .i64)))) &&& BitVec.ofInt (IntKind.bits .i64) 1).toNat : Int)) == 1)) rfl rfl rfl) ?_
         refine w9 (L' := [(1008, .row g171.2 56 ((List.map z_S_api_Table s242).set j245 [dI .i64 x29994.Var, dL 1 (eI .i64) x29994.On, .slice 1032 g30011 0 s30010.length])), Z19_3 g171 s242, Z19_0 y236, Z19_2 j245, Z19_4 g171 j245, Z19_6 s30005, (1023, .row 0 34 [[dL 1 (eI .i64) x29994.On]]), (1024, O30008 .ready none), (1032, rw' g30011 4 eB s30010), (1033, mapO .i64 (fun (b : Bool) => dB b) (mset s35195 x35199 ((IntKind.wrap .i64 ((BitVec.ofInt (IntKind.bits .i64) (Int.fdiv j30013 (2 ^ (min ((j35198 : Nat) : Int).toNat (IntKind.bits .i64)))) &&& BitVec.ofInt (IntKind.bits .i64) 1).toNat : Int)) == 1)))]) (st_mapUp (vf := (fun (b : Bool) => dB b)) (b := ((IntKind.wrap .i64 ((BitVec.ofInt (IntKind.bits .i64) (Int.fdiv j30013 (2 ^ (min ((j35198 : Nat) : Int).toNat (IntKind.bits .i64)))) &&& BitVec.ofInt (IntKind.bits .i64) 1).toNat : Int)) == 1)) (xs := s35195) un77 un3 rfl rfl rfl rfl) ?_;refine rw_nil (nx_block (nx_then (awp_rw ?_)));refine w4 (st_inc rfl rfl hj35198 hl35198) ?_;refine w1 ?_;refine rw_nil (nx_then ?_)
         refine awp_gh ?_ (ih35197 (mset s35195 x35199 ((IntKind.wrap .i64 ((BitVec.ofInt (IntKind.bits .i64) (Int.fdiv j30013 (2 ^ (min ((j35198 : Nat) : Int).toNat (IntKind.bits .i64)))) &&& BitVec.ofInt (IntKind.bits .i64) 1).toNat : Int)) == 1)) () h);exact (gf ⟨⟨_, rfl, objZP zk_S_api_Table ⟨kc, kc, kc, trivial⟩⟩, ⟨_, rfl, objOne ⟨⟨rfl, frzN rfl (by first | exact List.length_replicate.symm | exact (srt_length _).symm | simp [srt_length] | simp)⟩, trivial⟩⟩, ko, ko, ko, ko, ko, ⟨_, rfl, objLoop (hO30008 _ _) rfl⟩, kw, km, trivial⟩)
        ·clear h;intro s35195 g35196 h;refine awp_rs ?_;refine w4 (st_bin (v := dB (decide (((x29994.On.length : Nat) : Int) < ((x29994.On.length : Nat) : Int)))) rfl rfl rfl) ?_;refine rw_nilk (awp_seq ?_);refine awp_ifF rfl dge ?_;refine awp_exit (ex_out (ex_out (ex_in (nx_then (awp_rs ?_)))));refine w1 ?_;refine w1 ?_;refine w1 ?_;refine rw_yld (N := 87) rfl rfl rfl rfl hO30008 rfl rfl rfl (fun _B _F _hF => ?_);refine awp_rw ?_;refine w2 ?_;refine rw_nil ?_;refine as_n rfl ?_;refine awp_block (awp_seq (awp_rs ?_));refine w4 (st_ldP (v := .slice 1008 g171.2 0 s242.length) ta41 rfl rfl rfl rfl) ?_;refine w4 (st_ldP (v := dI .i64 ((j245 : Nat) : Int)) ta3 rfl rfl rfl rfl) ?_;obtain ⟨c35752, h⟩ := okI_some h;refine w4 (st_slRHi sl41 rfl rfl rfl c35752.1 c35752.2) ?_;refine w4 (st_lenR rfl un41 rfl) ?_;refine w1 ?_;refine rw_nilk (awp_block ?_);obtain ⟨hl35756, h⟩ := okI_some h
         refine awp_up (fun (j35756 : Int) (s35753 : (List (Int × Bool))) (g35754 : Unit) => [(7, .ptr 1014 0 0 0), (9, .ptr 1020 0 0 0), (10, .ptr 1022 0 0 0), (12, .map 1033), (53, .slice 1008 g171.2 0 (((j245 : Nat) : Int).toNat)), (54, dI .i64 ((((j245 : Nat) : Int).toNat : Nat) : Int)), (55, dI .i64 j35756)]) (fun (s35753 : (List (Int × Bool))) (g35754 : Unit) => [(1008, .row g171.2 56 ((List.map z_S_api_Table s242).set j245 [dI .i64 x29994.Var, dL 1 (eI .i64) x29994.On, .slice 1032 g30011 0 s30010.length])), Z19_3 g171 s242, Z19_0 y236, Z19_2 j245, Z19_4 g171 j245, Z19_6 s30005, (1023, .row 0 34 [[dL 1 (eI .i64) x29994.On]]), (1024, O30008 .busy none), (1032, rw' g30011 4 eB s30010), Z19_9 s35753]) () (fun _ _ _ h => h) h (gf ⟨⟨_, rfl, objZP zk_S_api_Table ⟨kc, kc, kc, trivial⟩⟩, ⟨_, rfl, objOne ⟨⟨rfl, frzN rfl (by first | exact List.length_replicate.symm | exact (srt_length _).symm | simp [srt_length] | simp)⟩, trivial⟩⟩, ko, ko, ko, ko, ko, ⟨_, rfl, objLoop (hO30008 _ _) rfl⟩, kw, km, trivial⟩) ?_ ?_
         ·clear h;intro j35756 s35753 g35754 k35755 hj35756 hx35756 h ih35755;refine awp_rs ?_;refine w4 (st_bin (v := dB (decide (j35756 < ((((j245 : Nat) : Int).toNat : Nat) : Int)))) rfl rfl rfl) ?_;refine rw_nilk (awp_seq ?_);refine awp_ifT rfl (dltI (upT hj35756 hx35756)) ?_;refine awp_skip (nx_then (awp_seq (awp_block (awp_rs ?_))));obtain ⟨c35873, h⟩ := okI_some h;obtain ⟨x35872, h035872, hx35872, h⟩ := getI_some h;refine w4 (st_ixR0 sl41 rfl rfl rfl h035872 c35873.1) ?_;refine w4 (st_ldP (v := .agg [dI .i64 x35872.Var, dL 1 (eI .i64) x35872.On, bz 1 eB x35872.Bits]) ta56 rfl rfl (mapSet_ne hx35872 c35873.2) rfl) ?_
          refine RW.gh (gh_frz (E' := [(7, .ptr 1014 0 0 0), (9, .ptr 1020 0 0 0), (10, .ptr 1022 0 0 0), (12, .map 1033), (53, .slice 1008 g171.2 0 (((j245 : Nat) : Int).toNat)), (54, dI .i64 ((((j245 : Nat) : Int).toNat : Nat) : Int)), (55, dI .i64 j35756), (58, .agg [dI .i64 x35872.Var, dL 1 (eI .i64) x35872.On, dL 1 eB x35872.Bits])]) (L' := [(1008, .row g171.2 56 ((List.map z_S_api_Table s242).set j245 [dI .i64 x29994.Var, dL 1 (eI .i64) x29994.On, .slice 1032 g30011 0 s30010.length])), Z19_3 g171 s242, Z19_0 y236, Z19_2 j245, Z19_4 g171 j245, Z19_6 s30005, (1023, .row 0 34 [[dL 1 (eI .i64) x29994.On]]), (1024, O30008 .busy none), (1032, rw' g30011 4 eB s30010), Z19_9 s35753]) rfl rfl ⟨kp, kp, kp, kp, kp, kp, kp, ⟨_, rfl, frz_agg ⟨(.keep rfl), (.keep rfl), (frz_bz), trivial⟩⟩, trivial⟩ ⟨⟨_, rfl, objZP zk_S_api_Table ⟨kc, kc, kc, trivial⟩⟩, ⟨_, rfl, objOne ⟨⟨rfl, frzN rfl (by first | exact List.length_replicate.symm | exact (srt_length _).symm | simp [srt_length] | simp)⟩, trivial⟩⟩, ko, ko, ko, ko, ko, ⟨_, rfl, objLoop (hO30008 _ _) rfl⟩, kw, km, trivial⟩) ?_
          refine w8 (r := 1034) (st_alloc zc56 rfl rfl) ?_;refine w9 (L' := [(1008, .row g171.2 56 ((List.map z_S_api_Table s242).set j245 [dI .i64 x29994.Var, dL 1 (eI .i64) x29994.On, .slice 1032 g30011 0 s30010.length])), Z19_3 g171 s242, Z19_0 y236, Z19_2 j245, Z19_4 g171 j245, Z19_6 s30005, (1023, .row 0 34 [[dL 1 (eI .i64) x29994.On]]), (1024, O30008 .busy none), (1032, rw' g30011 4 eB s30010), Z19_9 s35753, (1034, .row 0 56 [[dI .i64 x35872.Var, dL 1 (eI .i64) x35872.On, dL 1 eB x35872.Bits]])]) (st_stP ta56 rfl rfl rfl rfl rfl rfl rfl rfl) ?_;refine rw_nilk ?_;refine awp_rd hmix ?_;refine w7 (st_mv rfl) ?_;refine w7 (st_faP fo56_0 rfl) ?_;refine w7 (st_ldP (v := dI .i64 x35872.Var) ta3 rfl rfl rfl rfl) ?_;refine w7 (st_mv rfl) ?_;refine w7 (st_ldP (v := .agg [dI .i64 x35872.Var, dL 1 (eI .i64) x35872.On, dL 1 eB x35872.Bits]) ta56 rfl rfl rfl rfl) ?_;obtain ⟨y35901, hy35901, h⟩ := bind_some_elim h
          refine dcall (v := dB y35901) (L0 := [Z19_9 s35753]) (L1 := [Z19_9 s35753]) (L' := [(1008, .row g171.2 56 ((List.map z_S_api_Table s242).set j245 [dI .i64 x29994.Var, dL 1 (eI .i64) x29994.On, .slice 1032 g30011 0 s30010.length])), Z19_3 g171 s242, Z19_0 y236, Z19_2 j245, Z19_4 g171 j245, Z19_6 s30005, (1023, .row 0 34 [[dL 1 (eI .i64) x29994.On]]), (1024, O30008 .busy none), (1032, rw' g30011 4 eB s30010), Z19_9 s35753, (1034, .row 0 56 [[dI .i64 x35872.Var, dL 1 (eI .i64) x35872.On, dL 1 eB x35872.Bits]])]) rfl rfl rfl rfl ?_ ⟨rfl, trivial⟩ rfl ⟨closM (fun _ => rfl), trivial⟩ rfl rfl ?_
          ·replace h := hy35901;refine Ev.of_bodyX (N := 29) (rs := [.tmp 4]) Try.func49 (c := _) rfl rfl rfl (by kernel_rfl) rfl (Nat.le_of_ble_eq_true rfl) (fun _B => ?_);refine awp_rs ?_;refine w8 (r := 1035) (st_box rfl rfl rfl co56 rfl rfl) ?_;refine w2 ?_;refine rw_nilk (awp_rs ?_);refine w2 ?_;refine rw_nilk (awp_seq (awp_rs ?_));refine w4 (st_faP fo56_1 rfl) ?_;refine w4 (st_ldP (v := dL 1 (eI .i64) x35872.On) ta34 rfl rfl rfl rfl) ?_;refine w4 (st_lenD rfl un34) ?_;refine w1 ?_;refine rw_nilk (awp_block ?_);refine awp_len (t := 9) rfl (fun hl35905 => ?_);rw [List.length_map] at hl35905;refine awp_range (fun (j35905 : Nat) (s35902 : Int) (g35903 : Unit) => [(0, .map 1033), (3, .ptr 1035 0 0 0), (5, dI .i64 s35902), (9, dL 1 (eI .i64) x35872.On), (10, dI .i64 ((x35872.On.length : Nat) : Int)), (11, dI .i64 ((j35905 : Nat) : Int))]) (fun (s35902 : Int) (g35903 : Unit) => [Z19_9 s35753, (1035, .row 0 56 [[dI .i64 x35872.Var, dL 1 (eI .i64) x35872.On, dL 1 eB x35872.Bits]])]) () (fun _ _ _ h => h) h (gf ⟨km, ko, trivial⟩) ?_ ?_
           ·clear h;intro j35905 x35906 s35902 g35903 k35904 hj35905 hx35905 h ih35904;refine awp_rs ?_;refine w4 (st_bin (v := dB (decide (((j35905 : Nat) : Int) < ((x35872.On.length : Nat) : Int)))) rfl rfl rfl) ?_;refine rw_nilk (awp_seq ?_);refine awp_ifT rfl (dlt hj35905) ?_;refine awp_skip (nx_then ?_);refine awp_jn (fun (s35923 : Int) (g35924 : Unit) => [(0, .map 1033), (3, .ptr 1035 0 0 0), (5, dI .i64 s35923), (9, dL 1 (eI .i64) x35872.On), (10, dI .i64 ((x35872.On.length : Nat) : Int)), (11, dI .i64 ((j35905 : Nat) : Int))]) (fun (s35923 : Int) (g35924 : Unit) => [Z19_9 s35753, (1035, .row 0 56 [[dI .i64 x35872.Var, dL 1 (eI .i64) x35872.On, dL 1 eB x35872.Bits]])]) h ?_ ?_
            ·clear h;intro s35923 g35924 h;refine awp_rw ?_;refine w4 (st_inc rfl rfl hj35905 hl35905) ?_;refine w1 ?_;refine rw_nil (nx_then ?_);refine awp_gh ?_ (ih35904 s35923 () h);exact (gf ⟨km, ko, trivial⟩)
            ·clear h;intro k35925 h J35925;refine awp_block (awp_rs ?_);refine w1 ?_;refine w4 (st_ixDn sl34 rfl rfl hx35905) ?_;refine w4 (st_ldD (v := dI .i64 x35906) ta3 rfl rfl) ?_;refine w2 ?_;refine w2 ?_;refine rw_nilk (awp_rs ?_);refine w1 ?_;refine w1 ?_;refine w4 (st_look (vf := (fun (b : Bool) => dB b)) (z := false) (xs := s35753) un77 un3 za4 rfl rfl rfl) ?_;refine rw_nilk ?_;refine awp_ite (b := ((mget s35753 x35906).getD false)) rfl (fun p35926 => ?_) (fun p35926 => ?_)
             ·replace h := ite_T p35926 h;refine awp_rw ?_;refine w1 ?_;refine w1 ?_;obtain ⟨c35927, h⟩ := okI_some h;refine w4 (st_shl rfl rfl c35927) ?_;refine w4 (st_bin (v := dI .i64 (IntKind.wrap .i64 ((BitVec.ofInt (IntKind.bits .i64) s35902 ||| BitVec.ofInt (IntKind.bits .i64) (IntKind.wrap .i64 (1 * 2 ^ (min ((j35905 : Nat) : Int).toNat (IntKind.bits .i64))))).toNat : Int))) rfl rfl rfl) ?_;refine w2 ?_;refine rw_nil (nx_block (nx_then ?_));exact J35925 (IntKind.wrap .i64 ((BitVec.ofInt (IntKind.bits .i64) s35902 ||| BitVec.ofInt (IntKind.bits .i64) (IntKind.wrap .i64 (1 * 2 ^ (min ((j35905 : Nat) : Int).toNat (IntKind.bits .i64))))).toNat : Int)) () _ _ h (gf ⟨km, ko, trivial⟩)
             ·replace h := ite_F p35926 h;refine awp_skip (nx_block (nx_then ?_));exact J35925 s35902 () _ _ h (gf ⟨km, ko, trivial⟩)
           ·clear h;intro s35902 g35903 h;refine awp_rs ?_;refine w4 (st_bin (v := dB (decide (((x35872.On.length : Nat) : Int) < ((x35872.On.length : Nat) : Int)))) rfl rfl rfl) ?_;refine rw_nilk (awp_seq ?_);refine awp_ifF rfl dge ?_;refine awp_exit (ex_out (ex_out (ex_in (nx_then (awp_rs ?_)))));refine w4 (st_faP fo56_2 rfl) ?_;refine w4 (st_ldP (v := dL 1 eB x35872.Bits) ta54 rfl rfl rfl rfl) ?_;refine w1 ?_;obtain ⟨x35928, h035928, hx35928, h⟩ := getI_some h;refine w4 (st_ixD sl54 rfl rfl h035928 hx35928) ?_;refine w4 (st_ldD (v := dB x35928) ta4 rfl rfl) ?_;refine w2 ?_;refine rw_nilk (awp_ret ?_);injection h with h;subst h;exact retX (v := dB x35928) (resV_one (resVs_tmp rfl resVs_nil)) (.keep rfl) ⟨km, trivial⟩
          ·refine dx (L' := [(1008, .row g171.2 56 ((List.map z_S_api_Table s242).set j245 [dI .i64 x29994.Var, dL 1 (eI .i64) x29994.On, .slice 1032 g30011 0 s30010.length])), Z19_3 g171 s242, Z19_0 y236, Z19_2 j245, Z19_4 g171 j245, Z19_6 s30005, (1023, .row 0 34 [[dL 1 (eI .i64) x29994.On]]), (1024, O30008 .busy none), (1032, rw' g30011 4 eB s30010), (1033, mapO .i64 (fun (b : Bool) => dB b) (mset s35753 x35872.Var y35901)), (1034, .row 0 56 [[dI .i64 x35872.Var, dL 1 (eI .i64) x35872.On, dL 1 eB x35872.Bits]])]) rfl rfl (st_mapUp (vf := (fun (b : Bool) => dB b)) (b := y35901) (xs := s35753) un77 un3 rfl rfl rfl rfl) rfl rfl rfl rfl ?_;refine rd_nil (by kernel_rfl) ?_;refine nx_block (nx_then (awp_rw ?_));refine w4 (st_incU rfl rfl hl35756 hj35756 hx35756) ?_;refine w1 ?_;refine rw_nil (nx_then ?_);refine awp_gh ?_ (ih35755 (mset s35753 x35872.Var y35901) () h)
           exact (gf ⟨⟨_, rfl, objZP zk_S_api_Table ⟨kc, kc, kc, trivial⟩⟩, ⟨_, rfl, objOne ⟨⟨rfl, frzN rfl (by first | exact List.length_replicate.symm | exact (srt_length _).symm | simp [srt_length] | simp)⟩, trivial⟩⟩, ko, ko, ko, ko, ko, ⟨_, rfl, objLoop (hO30008 _ _) rfl⟩, kw, km, trivial⟩)
         ·clear h;intro s35753 g35754 h;refine awp_rs ?_;refine w4 (st_bin (v := dB (decide ((0 + (((((((j245 : Nat) : Int).toNat : Nat) : Int) - 0).toNat : Nat) : Int)) < ((((j245 : Nat) : Int).toNat : Nat) : Int)))) rfl rfl rfl) ?_;refine rw_nilk (awp_seq ?_);refine awp_ifF rfl (dgeI upD) ?_;refine awp_exit (ex_out (ex_out (ex_in (nx_then (awp_rs ?_)))));refine w1 ?_;refine w4 (st_ldP (v := .ptr 1008 g171.2 j245 0) ta92 rfl rfl rfl rfl) ?_;refine w4 (st_nilP rfl) ?_;refine w4 (st_faP fo56_0 rfl) ?_;refine w4 (st_ldP (v := dI .i64 x29994.Var) ta3 rfl rfl (mapSet_get hx29994) rfl) ?_;refine w9 (L' := [(1008, .row g171.2 56 ((List.map z_S_api_Table s242).set j245 [dI .i64 x29994.Var, dL 1 (eI .i64) x29994.On, .slice 1032 g30011 0 s30010.length])), Z19_3 g171 s242, Z19_0 y236, Z19_2 j245, Z19_4 g171 j245, Z19_6 s30005, (1023, .row 0 34 [[dL 1 (eI .i64) x29994.On]]), (1024, O30008 .busy none), (1032, rw' g30011 4 eB s30010), (1033, mapO .i64 (fun (b : Bool) => dB b) (mset s35753 x29994.Var false))]) (st_mapUp (vf := (fun (b : Bool) => dB b)) (b := false) (xs := s35753) un77 un3 rfl rfl rfl rfl) ?_;refine rw_nilk ?_;refine awp_rd hmix ?_
          refine w7 (st_ldP (v := .ptr 1008 g171.2 j245 0) ta92 rfl rfl rfl rfl) ?_;refine w7 (st_ldP (v := .ptr 1008 g171.2 j245 0) ta92 rfl rfl rfl rfl) ?_;refine w7 (st_nilP rfl) ?_;refine w7 (st_faP fo56_2 rfl) ?_;refine w7 (st_ldP (v := .slice 1032 g30011 0 s30010.length) ta54 rfl rfl (mapSet_get hx29994) rfl) ?_;refine w7 (st_ldP (v := .agg [dL 2 e_S_truth_turn y236.turns, dL 1 (eL 1 (eI .i64)) y236.clauses]) ta73 rfl rfl rfl rfl) ?_;refine w7 (st_ldP (v := dI .i64 s30005) ta3 rfl rfl rfl rfl) ?_;refine w7 (st_bin (v := dI .i64 (IntKind.wrap .i64 (s30005 + 1))) rfl rfl rfl) ?_;refine w7 (st_mv rfl) ?_;obtain ⟨y35931, hy35931, h⟩ := bind_some_elim h
          refine dcall (v := dB y35931.1) (L0 := [(1033, mapO .i64 (fun (b : Bool) => dB b) (mset s35753 x29994.Var false))]) (L1 := [(1033, mapO .i64 (fun (b : Bool) => dB b) y35931.2)]) (L' := [(1008, .row g171.2 56 ((List.map z_S_api_Table s242).set j245 [dI .i64 x29994.Var, dL 1 (eI .i64) x29994.On, .slice 1032 g30011 0 s30010.length])), Z19_3 g171 s242, Z19_0 y236, Z19_2 j245, Z19_4 g171 j245, Z19_6 s30005, (1023, .row 0 34 [[dL 1 (eI .i64) x29994.On]]), (1024, O30008 .busy none), (1032, rw' g30011 4 eB s30010), (1033, mapO .i64 (fun (b : Bool) => dB b) y35931.2)]) rfl rfl rfl rfl ?_ ⟨rfl, trivial⟩ rfl ⟨closM (fun _ => rfl), trivial⟩ rfl rfl ?_
          ·replace h := hy35931;refine Ev.of_bodyX (N := 12) (rs := [.tmp 6]) Try.func33 (c := _) rfl rfl rfl (by kernel_rfl) rfl (Nat.le_of_ble_eq_true rfl) (fun _B => ?_);refine awp_rs ?_;refine w8 (r := 1036) (st_box rfl rfl rfl co73 rfl rfl) ?_;refine w8 (r := 1037) (st_box rfl rfl rfl co77 rfl rfl) ?_;refine w2 ?_;refine rw_nilk (awp_rs ?_);refine w8 (r := 1038) (st_alloc zc84 rfl rfl) ?_;refine rw_nilk (awp_rs ?_);refine w4 (st_fn rfl rfl) ?_;refine w9 (L' := [(1033, mapO .i64 (fun (b : Bool) => dB b) (mset s35753 x29994.Var false)), Z19_11 y236, (1037, .row 0 77 [[.map 1033]]), Z19_8]) (st_stP ta84 rfl rfl rfl rfl rfl rfl rfl rfl) ?_;refine rw_nilk (awp_rs ?_);refine w4 (st_ldP (v := .fn 68 [] [.ptr 1036 0 0 0, .ptr 1037 0 0 0, .ptr 1038 0 0 0]) ta84 rfl rfl rfl rfl) ?_;refine w1 ?_;obtain ⟨y35933, hy35933, h⟩ := bind_some_elim h
           refine rcall (v := dB y35933.1) (L0 := [(1033, mapO .i64 (fun (b : Bool) => dB b) (mset s35753 x29994.Var false)), Z19_11 y236, (1037, .row 0 77 [[.map 1033]]), Z19_8]) (L1 := [(1033, mapO .i64 (fun (b : Bool) => dB b) y35933.2), Z19_11 y236, (1037, .row 0 77 [[.map 1033]]), Z19_8]) (L' := [(1033, mapO .i64 (fun (b : Bool) => dB b) y35933.2), Z19_11 y236, (1037, .row 0 77 [[.map 1033]]), Z19_8]) rfl rfl rfl rfl (oc_truth_game_left_c1_5 1000000 hy35933) ⟨rfl, rfl, rfl, rfl, trivial⟩ rfl ⟨closM (fun _ => rfl), rfl, rfl, rfl, trivial⟩ rfl rfl ?_;refine w2 ?_;refine rw_nilk (awp_ret ?_);injection h with h;subst h;exact retX (v := dB y35933.1) (resV_one (resVs_tmp rfl resVs_nil)) (.keep rfl) ⟨km, trivial⟩
          ·refine dn (r := 1039) rfl rfl (st_bsl (els := [[dB y35931.1]]) sl54 zc4 rfl rfl rfl rfl rfl) rfl rfl rfl rfl ?_;obtain ⟨c35934, h⟩ := capN_some h;refine dn (r := 0) (L' := [(1008, .row g171.2 56 ((List.map z_S_api_Table s242).set j245 [dI .i64 x29994.Var, dL 1 (eI .i64) x29994.On, .slice 1032 g30011 0 s30010.length])), Z19_3 g171 s242, Z19_0 y236, Z19_2 j245, Z19_4 g171 j245, Z19_6 s30005, (1023, .row 0 34 [[dL 1 (eI .i64) x29994.On]]), (1024, O30008 .busy none), (1032, rw' (g30011 + 2) 4 eB (s30010 ++ [y35931.1])), (1033, mapO .i64 (fun (b : Bool) => dB b) y35931.2), (1039, .row 1 4 [[dB y35931.1]])]) rfl rfl (st_appR (f := eB) (xs := s30010) (ys := [y35931.1]) sl54 zc4 rfl rfl rfl rfl rfl (news_one (a := y35931.1) rfl rfl) c35934) rfl rfl rfl rfl ?_;refine w7 (st_nilP rfl) ?_;refine w7 (st_faP fo56_2 rfl) ?_
           refine dx (L' := [(1008, .row g171.2 56 ((List.map z_S_api_Table s242).set j245 [dI .i64 x29994.Var, dL 1 (eI .i64) x29994.On, .slice 1032 (g30011 + 2) 0 ((s30010 ++ [y35931.1]).length)])), Z19_3 g171 s242, Z19_0 y236, Z19_2 j245, Z19_4 g171 j245, Z19_6 s30005, (1023, .row 0 34 [[dL 1 (eI .i64) x29994.On]]), (1024, O30008 .busy none), (1032, rw' (g30011 + 2) 4 eB (s30010 ++ [y35931.1])), (1033, mapO .i64 (fun (b : Bool) => dB b) y35931.2), (1039, .row 1 4 [[dB y35931.1]])]) rfl rfl (st_stZ (us := [dI .i64 x29994.Var, dL 1 (eI .i64) x29994.On, .slice 1032 (g30011 + 2) 0 ((s30010 ++ [y35931.1]).length)]) ta54 rfl rfl rfl hx29994 rfl rfl rfl rfl rfl) rfl rfl rfl rfl ?_;refine rd_nil (by kernel_rfl) ?_;refine nx_block ?_;refine rk_n rfl ?_
           show RW _ _ _ _ _ _ _
           refine w4 (st_un (v := dB false) rfl rfl) ?_;refine rw_nilk ?_;refine awp_condF rfl ?_;refine awp_skip (nx_block (nx_then (awp_rw ?_)));refine w4 (st_incU rfl rfl hl30013 hj30013 hx30013) ?_;refine w1 ?_;refine rw_nil (nx_then ?_);refine awp_gh ?_ (ih30012 (s30010 ++ [y35931.1]) (g30011 + 2) h);exact (gf ⟨⟨_, rfl, objZP zk_S_api_Table ⟨kc, kc, kc, trivial⟩⟩, ⟨_, rfl, objOne ⟨⟨rfl, frzN rfl (by first | exact List.length_replicate.symm | exact (srt_length _).symm | simp [srt_length] | simp)⟩, trivial⟩⟩, ko, ko, ko, ko, ko, ⟨_, rfl, objLoop (hO30008 _ _) rfl⟩, kw, trivial⟩)
       ·clear h;intro s30010 g30011 h;refine awp_rs ?_;refine w4 (st_bin (v := dB (decide ((0 + ((((IntKind.wrap .i64 (1 * 2 ^ (min ((x29994.On.length : Nat) : Int).toNat (IntKind.bits .i64)))) - 0).toNat : Nat) : Int)) < (IntKind.wrap .i64 (1 * 2 ^ (min ((x29994.On.length : Nat) : Int).toNat (IntKind.bits .i64))))))) rfl rfl rfl) ?_;refine rw_nilk (awp_seq ?_);refine awp_ifF rfl (dgeI upD) ?_;refine awp_exit (ex_out (ex_out (ex_in ?_)));refine ret_inN (v := .tup []) (resV_none resVs_nil) ?_;refine ⟨_, _, _, rfl, rfl, (by intro h; cases h), ?_⟩;refine bh_0 (nx_block (nx_block (nx_then (awp_rw ?_))));refine w4 (st_inc rfl rfl hj245 hl245) ?_;refine w1 ?_;refine rw_nil ?_;obtain ⟨c35935, h⟩ := okI_some h;refine nx_then ?_;refine awp_gh ?_ (ih244 (s242.set j245 (S_api_Table.mk x29994.Var x29994.On s30010)) () h);exact (gf ⟨⟨_, rfl, objZC zk_S_api_Table ⟨kc, kc, ⟨sc_bz, frz_toBz c35935 (frzT rfl rfl co4 rfl)⟩, trivial⟩⟩, ⟨_, rfl, objOne ⟨⟨rfl, frzN rfl (by first | exact List.length_replicate.symm | exact (srt_length _).symm | simp [srt_length] | simp)⟩, trivial⟩⟩, ko, trivial⟩)
      ·clear h;intro k30007 h J30007;refine ri (N := 19) (rs := [.tmp 4]) rfl rfl rfl rfl Try.func46 rfl rfl rfl (by kernel_rfl) rfl (fun _B => ?_);refine awp_rs ?_;refine w2 ?_;refine rw_nilk (awp_seq (awp_rs ?_));refine w1 ?_;refine w4 (st_lenD rfl un71) ?_;refine w1 ?_;refine rw_nilk (awp_block ?_);refine awp_len (t := 0) rfl (fun hl35939 => ?_);rw [List.length_map] at hl35939
       refine awp_range (fun (j35939 : Nat) (s35936 : Unit) (g35937 : Unit) => [(0, dL 2 e_S_truth_turn y236.turns), (1, .fn 47 [] [.ptr 1020 0 0 0]), (7, dI .i64 ((y236.turns.length : Nat) : Int)), (8, dI .i64 ((j35939 : Nat) : Int))]) (fun (s35936 : Unit) (g35937 : Unit) => [(1008, .row g171.2 56 ((List.map z_S_api_Table s242).set j245 [dI .i64 x29994.Var, dL 1 (eI .i64) x29994.On, .nilS])), Z19_3 g171 s242, Z19_0 y236, Z19_2 j245, Z19_4 g171 j245]) () (fun _ _ _ h => h) h (gf ⟨⟨_, rfl, objZP zk_S_api_Table ⟨kc, kc, kc, trivial⟩⟩, ⟨_, rfl, objOne ⟨⟨rfl, frzN rfl (by first | exact List.length_replicate.symm | exact (srt_length _).symm | simp [srt_length] | simp)⟩, trivial⟩⟩, ko, ko, ko, trivial⟩) ?_ ?_
       ·clear h;intro j35939 x35940 s35936 g35937 k35938 hj35939 hx35939 h ih35938;refine awp_rs ?_;refine w4 (st_bin (v := dB (decide (((j35939 : Nat) : Int) < ((y236.turns.length : Nat) : Int)))) rfl rfl rfl) ?_;refine rw_nilk (awp_seq ?_);refine awp_ifT rfl (dlt hj35939) ?_;refine awp_skip (nx_then (awp_seq (awp_block (awp_rs ?_))));refine w1 ?_;refine w2 ?_;refine rw_nilk (awp_rs ?_);refine w1 ?_;refine w1 ?_;refine w1 ?_;refine w4 (st_ixDn sl71 rfl rfl hx35939) ?_;refine w4 (st_ldD (v := .agg [dI .i64 x35940.v, dB x35940.f_exists]) ta95 rfl rfl) ?_;refine ri (N := 11) (rs := [.tmp 3]) rfl rfl rfl rfl Try.func47 rfl rfl rfl (by kernel_rfl) rfl (fun _B => ?_);refine awp_rs ?_;refine w8 (r := 1021) (st_box rfl rfl rfl co95 rfl rfl) ?_;refine w2 ?_;refine rw_nilk ?_;refine awp_rds hmix ?_;refine w7 (st_faP fo95_0 rfl) ?_;refine w7 (st_ldP (v := dI .i64 x35940.v) ta3 rfl rfl rfl rfl) ?_;refine w7 (st_ldP (v := .ptr 1008 g171.2 j245 0) ta92 rfl rfl rfl rfl) ?_;refine w7 (st_nilP rfl) ?_;refine w7 (st_faP fo56_0 rfl) ?_;refine w7 (st_ldP (v := dI .i64 x29994.Var) ta3 rfl rfl (mapSet_get hx29994) rfl) ?_;refine w7 (st_bin (v := dB (x35940.v == x29994.Var)) rfl rfl rfl) ?_;refine w7 (st_as rfl) ?_
        refine rd_nil (by kernel_rfl) ?_;refine awp_ret ?_;refine ret_in (v := dB (x35940.v == x29994.Var)) (resV_one (resVs_tmp rfl resVs_nil)) ?_
        show RW _ _ _ _ _ _ _
        refine rw_nilk ?_;refine awp_ite (b := (x35940.v == x29994.Var)) rfl (fun p35944 => ?_) (fun p35944 => ?_)
        ·replace h := ite_T p35944 h;refine awp_rs ?_;refine w1 ?_;refine w2 ?_;refine rw_nilk (awp_ret (rt_block (rt_then (rt_then (rt_block (rt_then ?_))))));refine ret_in (v := dI .i64 ((j35939 : Nat) : Int)) (resV_one (resVs_tmp rfl resVs_nil)) ?_;exact J30007 ((j35939 : Nat) : Int) () _ _ h (gf ⟨⟨_, rfl, objZP zk_S_api_Table ⟨kc, kc, kc, trivial⟩⟩, ⟨_, rfl, objOne ⟨⟨rfl, frzN rfl (by first | exact List.length_replicate.symm | exact (srt_length _).symm | simp [srt_length] | simp)⟩, trivial⟩⟩, ko, ko, ko, trivial⟩)
        ·replace h := ite_F p35944 h;refine awp_skip (nx_block (nx_then (awp_rw ?_)));refine w4 (st_inc rfl rfl hj35939 hl35939) ?_;refine w1 ?_;refine rw_nil (nx_then ?_);refine awp_gh ?_ (ih35938 () () h);exact (gf ⟨⟨_, rfl, objZP zk_S_api_Table ⟨kc, kc, kc, trivial⟩⟩, ⟨_, rfl, objOne ⟨⟨rfl, frzN rfl (by first | exact List.length_replicate.symm | exact (srt_length _).symm | simp [srt_length] | simp)⟩, trivial⟩⟩, ko, ko, ko, trivial⟩)
       ·clear h;intro s35936 g35937 h;refine awp_rs ?_;refine w4 (st_bin (v := dB (decide (((y236.turns.length : Nat) : Int) < ((y236.turns.length : Nat) : Int)))) rfl rfl rfl) ?_;refine rw_nilk (awp_seq ?_);refine awp_ifF rfl dge ?_;refine awp_exit (ex_out (ex_out (ex_in (nx_then (awp_rs ?_)))));refine w2 ?_;refine rw_nilk (awp_ret ?_);refine ret_in (v := dI .i64 (-1 : Int)) (resV_one (resVs_tmp rfl resVs_nil)) ?_;exact J30007 (-1 : Int) () _ _ h (gf ⟨⟨_, rfl, objZP zk_S_api_Table ⟨kc, kc, kc, trivial⟩⟩, ⟨_, rfl, objOne ⟨⟨rfl, frzN rfl (by first | exact List.length_replicate.symm | exact (srt_length _).symm | simp [srt_length] | simp)⟩, trivial⟩⟩, ko, ko, ko, trivial⟩)
     ·clear h;intro s242 g243 h;refine awp_rs ?_;refine w4 (st_bin (v := dB (decide (((s170.2.2.length : Nat) : Int) < ((s170.2.2.length : Nat) : Int)))) rfl rfl rfl) ?_;refine rw_nilk (awp_seq ?_);refine awp_ifF rfl dge ?_;refine awp_exit (ex_out (ex_out (ex_in (nx_then (awp_rs ?_)))));refine w4 (st_ldP (v := .slice 1008 g171.2 0 s242.length) ta41 rfl rfl rfl rfl) ?_;refine w2 ?_;refine w2 ?_;refine rw_nilk ?_;refine awp_gh (gf (E' := [(2, .slice 1008 g171.2 0 s242.length), (3, dI .i64 0)]) (L' := [(1008, rw' g171.2 56 e_S_api_Table s242)]) ⟨⟨_, rfl, objZT zt_S_api_Table⟩, trivial⟩) ?_;refine awp_ret ?_;injection h with h;subst h;exact ret_out (v := .tup [.slice 1008 g171.2 0 s242.length, dI .i64 0]) (resV_many (resVs_tmp rfl (resVs_tmp rfl resVs_nil))) (frz_tup ⟨(frzT rfl rfl co56 rfl), (.keep rfl), trivial⟩)

theorem ok_slices_Equal_int_int {a0 : (List Int)} {a1 : (List Int)} {r : Bool} (h : F_slices_Equal_int_int a0 a1 = some r) : Fn Try.prog 86 [dL 1 (eI .i64) a0, dL 1 (eI .i64) a1] (dB r) := by
 unfold F_slices_Equal_int_int at h;refine Fn.of_body (N := 26) (rs := [.tmp 4]) Try.func86 (c := _) rfl rfl rfl (by kernel_rfl) (Nat.le_of_ble_eq_true rfl) (fun _B => ?_);refine awp_rs ?_;refine w2 ?_;refine rw_nilk (awp_seq (awp_rs ?_));refine w1 ?_;refine w4 (st_lenD rfl un34) ?_;refine w1 ?_;refine w4 (st_lenD rfl un34) ?_;refine w4 (st_bin (v := dB (((a0.length : Nat) : Int) != ((a1.length : Nat) : Int))) rfl rfl rfl) ?_;refine rw_nilk ?_;refine awp_ite (b := (((a0.length : Nat) : Int) != ((a1.length : Nat) : Int))) rfl (fun p101 => ?_) (fun p101 => ?_)
 ·replace h := ite_T p101 h;refine awp_rs ?_;refine w2 ?_;refine rw_nilk (awp_ret (rt_then ?_));injection h with h;subst h;exact ret_out (v := dB false) (resV_one (resVs_tmp rfl resVs_nil)) (.keep rfl)
 ·replace h := ite_F p101 h;refine awp_skip (nx_then (awp_seq (awp_rs ?_)));refine w1 ?_;refine w4 (st_lenD rfl un34) ?_;refine w1 ?_;refine rw_nilk (awp_block ?_);refine awp_len (t := 0) rfl (fun hl105 => ?_);rw [List.length_map] at hl105;refine awp_range (fun (j105 : Nat) (s102 : Unit) (g103 : Unit) => [(0, dL 1 (eI .i64) a0), (1, dL 1 (eI .i64) a1), (12, dI .i64 ((a0.length : Nat) : Int)), (13, dI .i64 ((j105 : Nat) : Int))]) (fun (s102 : Unit) (g103 : Unit) => []) () (fun _ _ _ h => h) h (gf trivial) ?_ ?_
  ·clear h;intro j105 x106 s102 g103 k104 hj105 hx105 h ih104;refine awp_rs ?_;refine w4 (st_bin (v := dB (decide (((j105 : Nat) : Int) < ((a0.length : Nat) : Int)))) rfl rfl rfl) ?_;refine rw_nilk (awp_seq ?_);refine awp_ifT rfl (dlt hj105) ?_;refine awp_skip (nx_then (awp_seq (awp_block (awp_rs ?_))));refine w1 ?_;refine w2 ?_;refine rw_nilk ?_;refine awp_rds hmix ?_;refine w7 (st_mv rfl) ?_;refine w7 (st_mv rfl) ?_;refine w7 (st_ixDn sl34 rfl rfl hx105) ?_;refine w7 (st_ldD (v := dI .i64 x106) ta3 rfl rfl) ?_;refine w7 (st_mv rfl) ?_;refine w7 (st_mv rfl) ?_;obtain ⟨x109, h0109, hx109, h⟩ := getI_some h;refine w7 (st_ixD sl34 rfl rfl h0109 hx109) ?_;refine w7 (st_ldD (v := dI .i64 x109) ta3 rfl rfl) ?_;refine w7 (st_bin (v := dB (x106 != x109)) rfl rfl rfl) ?_;refine rd_nil (by kernel_rfl) ?_;refine awp_ite (b := (x106 != x109)) rfl (fun p110 => ?_) (fun p110 => ?_)
   ·replace h := ite_T p110 h;refine awp_rs ?_;refine w2 ?_;refine rw_nilk (awp_ret (rt_block (rt_then (rt_then (rt_block (rt_then ?_))))));injection h with h;subst h;exact ret_out (v := dB false) (resV_one (resVs_tmp rfl resVs_nil)) (.keep rfl)
   ·replace h := ite_F p110 h;refine awp_skip (nx_block (nx_then (awp_rw ?_)));refine w4 (st_inc rfl rfl hj105 hl105) ?_;refine w1 ?_;refine rw_nil (nx_then ?_);refine awp_gh ?_ (ih104 () () h);exact (gf trivial)
  ·clear h;intro s102 g103 h;refine awp_rs ?_;refine w4 (st_bin (v := dB (decide (((a0.length : Nat) : Int) < ((a0.length : Nat) : Int)))) rfl rfl rfl) ?_;refine rw_nilk (awp_seq ?_);refine awp_ifF rfl dge ?_;refine awp_exit (ex_out (ex_out (ex_in (nx_then (awp_rs ?_)))));refine w2 ?_;refine rw_nilk (awp_ret ?_);injection h with h;subst h;exact ret_out (v := dB true) (resV_one (resVs_tmp rfl resVs_nil)) (.keep rfl)

theorem ok_truth_alike {a0 : (List S_api_Table)} {a1 : (List S_api_Table)} {r : Bool} (h : F_truth_alike a0 a1 = some r) : Fn Try.prog 59 [dL 3 e_S_api_Table a0, dL 3 e_S_api_Table a1] (dB r) := by
 unfold F_truth_alike at h;refine Fn.of_body (N := 8) (rs := [.tmp 4]) Try.func59 (c := _) rfl rfl rfl (by kernel_rfl) (Nat.le_of_ble_eq_true rfl) (fun _B => ?_);refine awp_rs ?_;refine w2 ?_;refine rw_nilk (awp_rs ?_);refine w1 ?_;refine w1 ?_;refine rw_jn (fun (s299 : Bool) (g300 : Unit) => [(7, dB s299)]) (fun (s299 : Bool) (g300 : Unit) => []) h ?_ ?_
 ·clear h;intro s299 g300 h;refine w2 ?_;refine rw_nilk (awp_ret ?_);injection h with h;subst h;exact ret_out (v := dB s299) (resV_one (resVs_tmp rfl resVs_nil)) (.keep rfl)
 ·clear h;intro k301 h J301;refine ri (N := 32) (rs := [.tmp 6]) rfl rfl rfl rfl Try.func84 rfl rfl rfl (by kernel_rfl) rfl (fun _B => ?_);refine awp_rs ?_;refine w2 ?_;refine rw_nilk (awp_seq (awp_rs ?_));refine w1 ?_;refine w4 (st_lenD rfl un41) ?_;refine w1 ?_;refine w4 (st_lenD rfl un41) ?_;refine w4 (st_bin (v := dB (((a0.length : Nat) : Int) != ((a1.length : Nat) : Int))) rfl rfl rfl) ?_;refine rw_nilk ?_;refine awp_ite (b := (((a0.length : Nat) : Int) != ((a1.length : Nat) : Int))) rfl (fun p302 => ?_) (fun p302 => ?_)
  ·replace h := ite_T p302 h;refine awp_rs ?_;refine w2 ?_;refine rw_nilk (awp_ret (rt_then ?_));refine ret_in (v := dB false) (resV_one (resVs_tmp rfl resVs_nil)) ?_;exact J301 false () _ _ h (gf trivial)
  ·replace h := ite_F p302 h;refine awp_skip (nx_then (awp_seq (awp_rs ?_)));refine w1 ?_;refine w4 (st_lenD rfl un41) ?_;refine w1 ?_;refine rw_nilk (awp_block ?_);refine awp_len (t := 0) rfl (fun hl306 => ?_);rw [List.length_map] at hl306;refine awp_range (fun (j306 : Nat) (s303 : Unit) (g304 : Unit) => [(1, dL 3 e_S_api_Table a1), (2, .fn 85 [] []), (15, dL 3 e_S_api_Table a0), (16, dI .i64 ((a0.length : Nat) : Int)), (17, dI .i64 ((j306 : Nat) : Int))]) (fun (s303 : Unit) (g304 : Unit) => []) () (fun _ _ _ h => h) h (gf trivial) ?_ ?_
   ·clear h;intro j306 x307 s303 g304 k305 hj306 hx306 h ih305;refine awp_rs ?_;refine w4 (st_bin (v := dB (decide (((j306 : Nat) : Int) < ((a0.length : Nat) : Int)))) rfl rfl rfl) ?_;refine rw_nilk (awp_seq ?_);refine awp_ifT rfl (dlt hj306) ?_;refine awp_skip (nx_then (awp_seq (awp_block (awp_rs ?_))));refine w1 ?_;refine w4 (st_ixDn sl41 rfl rfl hx306) ?_;refine w4 (st_ldD (v := .agg [dI .i64 x307.Var, dL 1 (eI .i64) x307.On, dL 1 eB x307.Bits]) ta56 rfl rfl) ?_;refine w8 (r := 1001) (st_alloc zc56 rfl rfl) ?_;refine w2 ?_;refine w9 (L' := [(1001, .row 0 56 [[dI .i64 x307.Var, dL 1 (eI .i64) x307.On, dL 1 eB x307.Bits]])]) (st_stP ta56 rfl rfl rfl rfl rfl rfl rfl rfl) ?_;refine rw_nilk (awp_rs ?_);refine w1 ?_;refine w1 ?_;obtain ⟨x452, h0452, hx452, h⟩ := getI_some h;refine w4 (st_ixD sl41 rfl rfl h0452 hx452) ?_;refine w4 (st_ldD (v := .agg [dI .i64 x452.Var, dL 1 (eI .i64) x452.On, dL 1 eB x452.Bits]) ta56 rfl rfl) ?_;refine w8 (r := 1002) (st_alloc zc56 rfl rfl) ?_;refine w9 (L' := [(1001, .row 0 56 [[dI .i64 x307.Var, dL 1 (eI .i64) x307.On, dL 1 eB x307.Bits]]), (1002, .row 0 56 [[dI .i64 x452.Var, dL 1 (eI .i64) x452.On, dL 1 eB x452.Bits]])]) (st_stP ta56 rfl rfl rfl rfl rfl rfl rfl rfl) ?_;refine rw_nilk (awp_rs ?_);refine w1 ?_
    refine w4 (st_ldP (v := .agg [dI .i64 x307.Var, dL 1 (eI .i64) x307.On, dL 1 eB x307.Bits]) ta56 rfl rfl rfl rfl) ?_;refine w4 (st_ldP (v := .agg [dI .i64 x452.Var, dL 1 (eI .i64) x452.On, dL 1 eB x452.Bits]) ta56 rfl rfl rfl rfl) ?_;refine rw_jn (fun (s486 : Bool) (g487 : Unit) => [(1, dL 3 e_S_api_Table a1), (2, .fn 85 [] []), (15, dL 3 e_S_api_Table a0), (16, dI .i64 ((a0.length : Nat) : Int)), (17, dI .i64 ((j306 : Nat) : Int)), (29, dB s486)]) (fun (s486 : Bool) (g487 : Unit) => []) h ?_ ?_
    ·clear h;intro s486 g487 h;refine w4 (st_un (v := dB (!s486)) rfl rfl) ?_;refine rw_nilk ?_;refine awp_ite (b := (!s486)) rfl (fun p489 => ?_) (fun p489 => ?_)
     ·replace h := ite_T p489 h;refine awp_rs ?_;refine w2 ?_;refine rw_nilk (awp_ret (rt_block (rt_then (rt_then (rt_block (rt_then ?_))))));refine ret_in (v := dB false) (resV_one (resVs_tmp rfl resVs_nil)) ?_;exact J301 false () _ _ h (gf trivial)
     ·replace h := ite_F p489 h;refine awp_skip (nx_block (nx_then (awp_rw ?_)));refine w4 (st_inc rfl rfl hj306 hl306) ?_;refine w1 ?_;refine rw_nil (nx_then ?_);refine awp_gh ?_ (ih305 () () h);exact (gf trivial)
    ·clear h;intro k488 h J488;refine ri (N := 33) (rs := [.tmp 4]) rfl rfl rfl rfl Try.func85 rfl rfl rfl (by kernel_rfl) rfl (fun _B => ?_);refine awp_rs ?_;refine w8 (r := 1003) (st_box rfl rfl rfl co56 rfl rfl) ?_;refine w8 (r := 1004) (st_box rfl rfl rfl co56 rfl rfl) ?_;refine w2 ?_;refine rw_nilk ?_;refine awp_rds hmix ?_;refine w7 (st_faP fo56_0 rfl) ?_;refine w7 (st_ldP (v := dI .i64 x307.Var) ta3 rfl rfl rfl rfl) ?_;refine w7 (st_faP fo56_0 rfl) ?_;refine w7 (st_ldP (v := dI .i64 x452.Var) ta3 rfl rfl rfl rfl) ?_;refine w7 (st_bin (v := dB (x307.Var == x452.Var)) rfl rfl rfl) ?_;refine w7 (st_mv rfl) ?_;refine bool_split (x307.Var == x452.Var) (fun p495 => ?_) (fun p495 => ?_)
     ·replace h := ite_T p495 h;rw [p495];refine w7 (st_faP fo56_1 rfl) ?_;refine w7 (st_ldP (v := dL 1 (eI .i64) x307.On) ta34 rfl rfl rfl rfl) ?_;refine w7 (st_faP fo56_1 rfl) ?_;refine w7 (st_ldP (v := dL 1 (eI .i64) x452.On) ta34 rfl rfl rfl rfl) ?_;obtain ⟨y496, hy496, h⟩ := bind_some_elim h;refine df rfl rfl (ok_slices_Equal_int_int hy496) rfl rfl ?_;refine w7 (st_pickT rfl rfl) ?_;refine w7 (st_mv rfl) ?_;refine bool_split y496 (fun p497 => ?_) (fun p497 => ?_)
      ·replace h := ite_T p497 h;rw [p497];refine w7 (st_faP fo56_1 rfl) ?_;refine w7 (st_ldP (v := dL 1 (eI .i64) x452.On) ta34 rfl rfl rfl rfl) ?_;refine w7 (st_lenD rfl un34) ?_;refine w7 (st_bin (v := dB (decide (((x452.On.length : Nat) : Int) < 60))) rfl rfl rfl) ?_;refine w7 (st_pickT rfl rfl) ?_;refine w7 (st_mv rfl) ?_;refine bool_split (decide (((x452.On.length : Nat) : Int) < 60)) (fun p498 => ?_) (fun p498 => ?_)
       ·replace h := ite_T p498 h;rw [p498];refine w7 (st_faP fo56_2 rfl) ?_;refine w7 (st_ldP (v := dL 1 eB x452.Bits) ta54 rfl rfl rfl rfl) ?_;refine w7 (st_lenD rfl un54) ?_;refine w7 (st_faP fo56_1 rfl) ?_;refine w7 (st_ldP (v := dL 1 (eI .i64) x452.On) ta34 rfl rfl rfl rfl) ?_;refine w7 (st_lenD rfl un34) ?_;obtain ⟨c499, h⟩ := okI_some h;refine w7 (st_shl rfl rfl c499) ?_;refine w7 (st_bin (v := dB (((x452.Bits.length : Nat) : Int) == (IntKind.wrap .i64 (1 * 2 ^ (min ((x452.On.length : Nat) : Int).toNat (IntKind.bits .i64)))))) rfl rfl rfl) ?_;refine w7 (st_pickT rfl rfl) ?_;refine w7 (st_as rfl) ?_;refine rd_nil (by kernel_rfl) ?_;refine awp_ret ?_;refine ret_in (v := dB (((x452.Bits.length : Nat) : Int) == (IntKind.wrap .i64 (1 * 2 ^ (min ((x452.On.length : Nat) : Int).toNat (IntKind.bits .i64)))))) (resV_one (resVs_tmp rfl resVs_nil)) ?_;exact J488 (((x452.Bits.length : Nat) : Int) == (IntKind.wrap .i64 (1 * 2 ^ (min ((x452.On.length : Nat) : Int).toNat (IntKind.bits .i64))))) () _ _ h (gf trivial)
       ·replace h := ite_F p498 h;rw [p498];refine w5 ?_;refine w5 ?_;refine w5 ?_;refine w5 ?_;refine w5 ?_;refine w5 ?_;refine w5 ?_;refine w5 ?_;refine w7 (st_pickF rfl rfl) ?_;refine w7 (st_as rfl) ?_;refine rd_nil (by kernel_rfl) ?_;refine awp_ret ?_;refine ret_in (v := dB false) (resV_one (resVs_tmp rfl resVs_nil)) ?_;exact J488 false () _ _ h (gf trivial)
      ·replace h := ite_F p497 h;rw [p497];refine w5 ?_;refine w5 ?_;refine w5 ?_;refine w5 ?_;refine w7 (st_pickF rfl rfl) ?_;refine w7 (st_mv rfl) ?_;refine w5 ?_;refine w5 ?_;refine w5 ?_;refine w5 ?_;refine w5 ?_;refine w5 ?_;refine w5 ?_;refine w5 ?_;refine w7 (st_pickF rfl rfl) ?_;refine w7 (st_as rfl) ?_;refine rd_nil (by kernel_rfl) ?_;refine awp_ret ?_;refine ret_in (v := dB false) (resV_one (resVs_tmp rfl resVs_nil)) ?_;exact J488 false () _ _ h (gf trivial)
     ·replace h := ite_F p495 h;rw [p495];refine w5 ?_;refine w5 ?_;refine w5 ?_;refine w5 ?_;refine w5 ?_;refine w7 (st_pickF rfl rfl) ?_;refine w7 (st_mv rfl) ?_;refine w5 ?_;refine w5 ?_;refine w5 ?_;refine w5 ?_;refine w7 (st_pickF rfl rfl) ?_;refine w7 (st_mv rfl) ?_;refine w5 ?_;refine w5 ?_;refine w5 ?_;refine w5 ?_;refine w5 ?_;refine w5 ?_;refine w5 ?_;refine w5 ?_;refine w7 (st_pickF rfl rfl) ?_;refine w7 (st_as rfl) ?_;refine rd_nil (by kernel_rfl) ?_;refine awp_ret ?_;refine ret_in (v := dB false) (resV_one (resVs_tmp rfl resVs_nil)) ?_;exact J488 false () _ _ h (gf trivial)
   ·clear h;intro s303 g304 h;refine awp_rs ?_;refine w4 (st_bin (v := dB (decide (((a0.length : Nat) : Int) < ((a0.length : Nat) : Int)))) rfl rfl rfl) ?_;refine rw_nilk (awp_seq ?_);refine awp_ifF rfl dge ?_;refine awp_exit (ex_out (ex_out (ex_in (nx_then (awp_rs ?_)))));refine w2 ?_;refine rw_nilk (awp_ret ?_);refine ret_in (v := dB true) (resV_one (resVs_tmp rfl resVs_nil)) ?_;exact J301 true () _ _ h (gf trivial)

abbrev Z60_0 (a0 : S_api_Dqbf) : Nat × AObj := (1001, .row 0 37 [[dL 1 (eI .i64) a0.Univ, dL 2 e_S_api_Dep a0.Exist, dL 1 (eL 1 (eI .i64)) a0.Clauses]])
abbrev Z60_1 (a0 : S_api_Dqbf) : Nat × AObj := (1004, .row 0 34 [[dL 1 (eI .i64) a0.Univ]])
abbrev Z60_2 (a1 : (List S_api_Table)) : Nat × AObj := (1002, .row 0 41 [[dL 3 e_S_api_Table a1]])
abbrev Z60_3 (s31055 : (List (Int × Bool))) : Nat × AObj := (1006, mapO .i64 (fun (b : Bool) => dB b) s31055)
abbrev Z60_4 : Nat × AObj := (1003, .row 0 4 [[dB false]])
abbrev Z60_5 (x31059 : S_api_Table) : Nat × AObj := (1007, .row 0 56 [[dI .i64 x31059.Var, dL 1 (eI .i64) x31059.On, dL 1 eB x31059.Bits]])

theorem ok_truth_wins {a0 : S_api_Dqbf} {a1 : (List S_api_Table)} {r : Bool} (h : F_truth_wins a0 a1 = some r) : Fn Try.prog 60 [.agg [dL 1 (eI .i64) a0.Univ, dL 2 e_S_api_Dep a0.Exist, dL 1 (eL 1 (eI .i64)) a0.Clauses], dL 3 e_S_api_Table a1] (dB r) := by
 unfold F_truth_wins at h;refine Fn.of_body (N := 32) (rs := [.cell 4 4]) Try.func60 (c := _) rfl rfl rfl (by kernel_rfl) (Nat.le_of_ble_eq_true rfl) (fun _B => ?_);refine awp_rs ?_;refine w8 (r := 1001) (st_box rfl rfl rfl co37 rfl rfl) ?_;refine w8 (r := 1002) (st_box rfl rfl rfl co41 rfl rfl) ?_;refine w8 (r := 1003) (st_alloc zc4 rfl rfl) ?_;refine rw_nilk (awp_seq (awp_rs ?_));refine w4 (st_faP fo37_0 rfl) ?_;refine w4 (st_ldP (v := dL 1 (eI .i64) a0.Univ) ta34 rfl rfl rfl rfl) ?_;refine ri (N := 4) (rs := [.tmp 2]) rfl rfl rfl rfl Try.func48 rfl rfl rfl (by kernel_rfl) rfl (fun _B => ?_);refine awp_rs ?_;refine w8 (r := 1004) (st_box rfl rfl rfl co34 rfl rfl) ?_;refine w2 ?_;refine rw_nilk (awp_rs ?_);refine w4 (st_fn rfl rfl) ?_;refine w2 ?_;refine rw_nilk (awp_ret ?_);refine ret_in (v := .fn 80 [] [.ptr 1004 0 0 0]) (resV_one (resVs_tmp rfl resVs_nil)) ?_
 show RW _ _ _ _ _ _ _
 refine rw_nilk (awp_block ?_);refine awp_rangeFuncR 1005 [(2, .ptr 1001 0 0 0), (3, .ptr 1002 0 0 0), (4, .ptr 1003 0 0 0)] rfl rfl rfl ⟨rfl, rfl, rfl, trivial⟩ Try.func80 rfl rfl (N' := 35) rfl (by kernel_rfl) rfl (fun O16076 hO16076 _B => ?_);refine awp_rs ?_;refine w4 (st_ldP (v := dL 1 (eI .i64) a0.Univ) ta34 rfl rfl rfl rfl) ?_;refine w4 (st_lenD rfl un34) ?_;obtain ⟨c16077, h⟩ := okI_some h;refine w4 (st_shl rfl rfl c16077) ?_;refine w1 ?_;refine rw_nilk (awp_block ?_);obtain ⟨hl16081, h⟩ := okI_some h
 refine awp_up (fun (j16081 : Int) (s16078 : Unit) (g16079 : Unit) => [(0, .yld 1005), (1, .ptr 1004 0 0 0), (9, dI .i64 (IntKind.wrap .i64 (1 * 2 ^ (min ((a0.Univ.length : Nat) : Int).toNat (IntKind.bits .i64))))), (10, dI .i64 j16081)]) (fun (s16078 : Unit) (g16079 : Unit) => [Z60_0 a0, Z60_2 a1, Z60_4, Z60_1 a0, (1005, O16076 .ready none)]) () (fun _ _ _ h => h) h (gf ⟨ko, ko, ko, ko, ⟨_, rfl, objLoop (hO16076 _ _) rfl⟩, trivial⟩) ?_ ?_
 ·clear h;intro j16081 s16078 g16079 k16080 hj16081 hx16081 h ih16080;refine awp_rs ?_;refine w4 (st_bin (v := dB (decide (j16081 < (IntKind.wrap .i64 (1 * 2 ^ (min ((a0.Univ.length : Nat) : Int).toNat (IntKind.bits .i64))))))) rfl rfl rfl) ?_;refine rw_nilk (awp_seq ?_);refine awp_ifT rfl (dltI (upT hj16081 hx16081)) ?_;refine awp_skip (nx_then (awp_seq (awp_block (awp_rs ?_))));refine w1 ?_;refine w2 ?_;refine rw_nilk (awp_rs ?_);refine rn (r := 1006) (L' := [Z60_0 a0, Z60_2 a1, Z60_4, Z60_1 a0, (1005, O16076 .ready none), (1006, mapO .i64 (fun (b : Bool) => dB b) ([] : List (Int × Bool)))]) rfl rfl (st_mkM rfl) rfl ?_;refine w2 ?_;refine rw_nilk (awp_seq (awp_rs ?_));refine w4 (st_ldP (v := dL 1 (eI .i64) a0.Univ) ta34 rfl rfl rfl rfl) ?_;refine w4 (st_lenD rfl un34) ?_;refine w1 ?_;refine rw_nilk (awp_block ?_);refine awp_len (t := 14) rfl (fun hl28062 => ?_);rw [List.length_map] at hl28062
  refine awp_range (fun (j28062 : Nat) (s28059 : (List (Int × Bool))) (g28060 : Unit) => [(0, .yld 1005), (1, .ptr 1004 0 0 0), (3, dI .i64 j16081), (4, .map 1006), (9, dI .i64 (IntKind.wrap .i64 (1 * 2 ^ (min ((a0.Univ.length : Nat) : Int).toNat (IntKind.bits .i64))))), (10, dI .i64 j16081), (14, dL 1 (eI .i64) a0.Univ), (15, dI .i64 ((a0.Univ.length : Nat) : Int)), (16, dI .i64 ((j28062 : Nat) : Int))]) (fun (s28059 : (List (Int × Bool))) (g28060 : Unit) => [Z60_0 a0, Z60_2 a1, Z60_4, Z60_1 a0, (1005, O16076 .ready none), (1006, mapO .i64 (fun (b : Bool) => dB b) s28059)]) () (fun _ _ _ h => h) h (gf ⟨ko, ko, ko, ko, ⟨_, rfl, objLoop (hO16076 _ _) rfl⟩, km, trivial⟩) ?_ ?_
  ·clear h;intro j28062 x28063 s28059 g28060 k28061 hj28062 hx28062 h ih28061;refine awp_rs ?_;refine w4 (st_bin (v := dB (decide (((j28062 : Nat) : Int) < ((a0.Univ.length : Nat) : Int)))) rfl rfl rfl) ?_;refine rw_nilk (awp_seq ?_);refine awp_ifT rfl (dlt hj28062) ?_;refine awp_skip (nx_then (awp_seq (awp_block (awp_rs ?_))));refine w1 ?_;refine w4 (st_ixDn sl34 rfl rfl hx28062) ?_;refine w4 (st_ldD (v := dI .i64 x28063) ta3 rfl rfl) ?_;refine w2 ?_;refine w2 ?_;refine rw_nilk (awp_rw ?_);refine w1 ?_;refine w1 ?_;refine w1 ?_;refine w1 ?_;obtain ⟨c28066, h⟩ := okI_some h;refine w4 (st_shr rfl rfl c28066) ?_;refine w4 (st_bin (v := dI .i64 (IntKind.wrap .i64 ((BitVec.ofInt (IntKind.bits .i64) (Int.fdiv j16081 (2 ^ (min ((j28062 : Nat) : Int).toNat (IntKind.bits .i64)))) &&& BitVec.ofInt (IntKind.bits .i64) 1).toNat : Int))) rfl rfl rfl) ?_;refine w4 (st_bin (v := dB ((IntKind.wrap .i64 ((BitVec.ofInt (IntKind.bits .i64) (Int.fdiv j16081 (2 ^ (min ((j28062 : Nat) : Int).toNat (IntKind.bits .i64)))) &&& BitVec.ofInt (IntKind.bits .i64) 1).toNat : Int)) == 1)) rfl rfl rfl) ?_
   refine w9 (L' := [Z60_0 a0, Z60_2 a1, Z60_4, Z60_1 a0, (1005, O16076 .ready none), (1006, mapO .i64 (fun (b : Bool) => dB b) (mset s28059 x28063 ((IntKind.wrap .i64 ((BitVec.ofInt (IntKind.bits .i64) (Int.fdiv j16081 (2 ^ (min ((j28062 : Nat) : Int).toNat (IntKind.bits .i64)))) &&& BitVec.ofInt (IntKind.bits .i64) 1).toNat : Int)) == 1)))]) (st_mapUp (vf := (fun (b : Bool) => dB b)) (b := ((IntKind.wrap .i64 ((BitVec.ofInt (IntKind.bits .i64) (Int.fdiv j16081 (2 ^ (min ((j28062 : Nat) : Int).toNat (IntKind.bits .i64)))) &&& BitVec.ofInt (IntKind.bits .i64) 1).toNat : Int)) == 1)) (xs := s28059) un77 un3 rfl rfl rfl rfl) ?_;refine rw_nil (nx_block (nx_then (awp_rw ?_)));refine w4 (st_inc rfl rfl hj28062 hl28062) ?_;refine w1 ?_;refine rw_nil (nx_then ?_);refine awp_gh ?_ (ih28061 (mset s28059 x28063 ((IntKind.wrap .i64 ((BitVec.ofInt (IntKind.bits .i64) (Int.fdiv j16081 (2 ^ (min ((j28062 : Nat) : Int).toNat (IntKind.bits .i64)))) &&& BitVec.ofInt (IntKind.bits .i64) 1).toNat : Int)) == 1)) () h)
   exact (gf ⟨ko, ko, ko, ko, ⟨_, rfl, objLoop (hO16076 _ _) rfl⟩, km, trivial⟩)
  ·clear h;intro s28059 g28060 h;refine awp_rs ?_;refine w4 (st_bin (v := dB (decide (((a0.Univ.length : Nat) : Int) < ((a0.Univ.length : Nat) : Int)))) rfl rfl rfl) ?_;refine rw_nilk (awp_seq ?_);refine awp_ifF rfl dge ?_;refine awp_exit (ex_out (ex_out (ex_in (nx_then (awp_rs ?_)))));refine w1 ?_;refine w1 ?_;refine w1 ?_;refine rw_yld (N := 32) rfl rfl rfl rfl hO16076 rfl rfl rfl (fun _B _F _hF => ?_);refine awp_rw ?_;refine w2 ?_;refine rw_nil ?_;refine as_n rfl ?_;refine awp_block (awp_seq (awp_rs ?_));refine w4 (st_ldP (v := dL 3 e_S_api_Table a1) ta41 rfl rfl rfl rfl) ?_;refine w4 (st_lenD rfl un41) ?_;refine w1 ?_;refine rw_nilk (awp_block ?_);refine awp_len (t := 14) rfl (fun hl31058 => ?_);rw [List.length_map] at hl31058
   refine awp_range (fun (j31058 : Nat) (s31055 : (List (Int × Bool))) (g31056 : Unit) => [(2, .ptr 1001 0 0 0), (4, .ptr 1003 0 0 0), (6, .map 1006), (14, dL 3 e_S_api_Table a1), (15, dI .i64 ((a1.length : Nat) : Int)), (16, dI .i64 ((j31058 : Nat) : Int))]) (fun (s31055 : (List (Int × Bool))) (g31056 : Unit) => [Z60_0 a0, Z60_2 a1, Z60_4, Z60_1 a0, (1005, O16076 .busy none), Z60_3 s31055]) () (fun _ _ _ h => h) h (gf ⟨ko, ko, ko, ko, ⟨_, rfl, objLoop (hO16076 _ _) rfl⟩, km, trivial⟩) ?_ ?_
   ·clear h;intro j31058 x31059 s31055 g31056 k31057 hj31058 hx31058 h ih31057;refine awp_rs ?_;refine w4 (st_bin (v := dB (decide (((j31058 : Nat) : Int) < ((a1.length : Nat) : Int)))) rfl rfl rfl) ?_;refine rw_nilk (awp_seq ?_);refine awp_ifT rfl (dlt hj31058) ?_;refine awp_skip (nx_then (awp_seq (awp_block (awp_rs ?_))));refine w4 (st_ixDn sl41 rfl rfl hx31058) ?_;refine w4 (st_ldD (v := .agg [dI .i64 x31059.Var, dL 1 (eI .i64) x31059.On, dL 1 eB x31059.Bits]) ta56 rfl rfl) ?_;refine w8 (r := 1007) (st_alloc zc56 rfl rfl) ?_;refine w9 (L' := [Z60_0 a0, Z60_2 a1, Z60_4, Z60_1 a0, (1005, O16076 .busy none), Z60_3 s31055, Z60_5 x31059]) (st_stP ta56 rfl rfl rfl rfl rfl rfl rfl rfl) ?_;refine rw_nilk ?_;refine awp_rd hmix ?_;refine w7 (st_mv rfl) ?_;refine w7 (st_faP fo56_0 rfl) ?_;refine w7 (st_ldP (v := dI .i64 x31059.Var) ta3 rfl rfl rfl rfl) ?_;refine w7 (st_mv rfl) ?_;refine w7 (st_ldP (v := .agg [dI .i64 x31059.Var, dL 1 (eI .i64) x31059.On, dL 1 eB x31059.Bits]) ta56 rfl rfl rfl rfl) ?_
    obtain ⟨y31197, hy31197, h⟩ := bind_some_elim h;refine dcall (v := dB y31197) (L0 := [Z60_3 s31055]) (L1 := [Z60_3 s31055]) (L' := [Z60_0 a0, Z60_2 a1, Z60_4, Z60_1 a0, (1005, O16076 .busy none), Z60_3 s31055, Z60_5 x31059]) rfl rfl rfl rfl ?_ ⟨rfl, trivial⟩ rfl ⟨closM (fun _ => rfl), trivial⟩ rfl rfl ?_
    ·replace h := hy31197;refine Ev.of_bodyX (N := 29) (rs := [.tmp 4]) Try.func49 (c := _) rfl rfl rfl (by kernel_rfl) rfl (Nat.le_of_ble_eq_true rfl) (fun _B => ?_);refine awp_rs ?_;refine w8 (r := 1008) (st_box rfl rfl rfl co56 rfl rfl) ?_;refine w2 ?_;refine rw_nilk (awp_rs ?_);refine w2 ?_;refine rw_nilk (awp_seq (awp_rs ?_));refine w4 (st_faP fo56_1 rfl) ?_;refine w4 (st_ldP (v := dL 1 (eI .i64) x31059.On) ta34 rfl rfl rfl rfl) ?_;refine w4 (st_lenD rfl un34) ?_;refine w1 ?_;refine rw_nilk (awp_block ?_);refine awp_len (t := 9) rfl (fun hl31201 => ?_);rw [List.length_map] at hl31201;refine awp_range (fun (j31201 : Nat) (s31198 : Int) (g31199 : Unit) => [(0, .map 1006), (3, .ptr 1008 0 0 0), (5, dI .i64 s31198), (9, dL 1 (eI .i64) x31059.On), (10, dI .i64 ((x31059.On.length : Nat) : Int)), (11, dI .i64 ((j31201 : Nat) : Int))]) (fun (s31198 : Int) (g31199 : Unit) => [Z60_3 s31055, (1008, .row 0 56 [[dI .i64 x31059.Var, dL 1 (eI .i64) x31059.On, dL 1 eB x31059.Bits]])]) () (fun _ _ _ h => h) h (gf ⟨km, ko, trivial⟩) ?_ ?_
     ·clear h;intro j31201 x31202 s31198 g31199 k31200 hj31201 hx31201 h ih31200;refine awp_rs ?_;refine w4 (st_bin (v := dB (decide (((j31201 : Nat) : Int) < ((x31059.On.length : Nat) : Int)))) rfl rfl rfl) ?_;refine rw_nilk (awp_seq ?_);refine awp_ifT rfl (dlt hj31201) ?_;refine awp_skip (nx_then ?_);refine awp_jn (fun (s31219 : Int) (g31220 : Unit) => [(0, .map 1006), (3, .ptr 1008 0 0 0), (5, dI .i64 s31219), (9, dL 1 (eI .i64) x31059.On), (10, dI .i64 ((x31059.On.length : Nat) : Int)), (11, dI .i64 ((j31201 : Nat) : Int))]) (fun (s31219 : Int) (g31220 : Unit) => [Z60_3 s31055, (1008, .row 0 56 [[dI .i64 x31059.Var, dL 1 (eI .i64) x31059.On, dL 1 eB x31059.Bits]])]) h ?_ ?_
      ·clear h;intro s31219 g31220 h;refine awp_rw ?_;refine w4 (st_inc rfl rfl hj31201 hl31201) ?_;refine w1 ?_;refine rw_nil (nx_then ?_);refine awp_gh ?_ (ih31200 s31219 () h);exact (gf ⟨km, ko, trivial⟩)
      ·clear h;intro k31221 h J31221;refine awp_block (awp_rs ?_);refine w1 ?_;refine w4 (st_ixDn sl34 rfl rfl hx31201) ?_;refine w4 (st_ldD (v := dI .i64 x31202) ta3 rfl rfl) ?_;refine w2 ?_;refine w2 ?_;refine rw_nilk (awp_rs ?_);refine w1 ?_;refine w1 ?_;refine w4 (st_look (vf := (fun (b : Bool) => dB b)) (z := false) (xs := s31055) un77 un3 za4 rfl rfl rfl) ?_;refine rw_nilk ?_;refine awp_ite (b := ((mget s31055 x31202).getD false)) rfl (fun p31222 => ?_) (fun p31222 => ?_)
       ·replace h := ite_T p31222 h;refine awp_rw ?_;refine w1 ?_;refine w1 ?_;obtain ⟨c31223, h⟩ := okI_some h;refine w4 (st_shl rfl rfl c31223) ?_;refine w4 (st_bin (v := dI .i64 (IntKind.wrap .i64 ((BitVec.ofInt (IntKind.bits .i64) s31198 ||| BitVec.ofInt (IntKind.bits .i64) (IntKind.wrap .i64 (1 * 2 ^ (min ((j31201 : Nat) : Int).toNat (IntKind.bits .i64))))).toNat : Int))) rfl rfl rfl) ?_;refine w2 ?_;refine rw_nil (nx_block (nx_then ?_));exact J31221 (IntKind.wrap .i64 ((BitVec.ofInt (IntKind.bits .i64) s31198 ||| BitVec.ofInt (IntKind.bits .i64) (IntKind.wrap .i64 (1 * 2 ^ (min ((j31201 : Nat) : Int).toNat (IntKind.bits .i64))))).toNat : Int)) () _ _ h (gf ⟨km, ko, trivial⟩)
       ·replace h := ite_F p31222 h;refine awp_skip (nx_block (nx_then ?_));exact J31221 s31198 () _ _ h (gf ⟨km, ko, trivial⟩)
     ·clear h;intro s31198 g31199 h;refine awp_rs ?_;refine w4 (st_bin (v := dB (decide (((x31059.On.length : Nat) : Int) < ((x31059.On.length : Nat) : Int)))) rfl rfl rfl) ?_;refine rw_nilk (awp_seq ?_);refine awp_ifF rfl dge ?_;refine awp_exit (ex_out (ex_out (ex_in (nx_then (awp_rs ?_)))));refine w4 (st_faP fo56_2 rfl) ?_;refine w4 (st_ldP (v := dL 1 eB x31059.Bits) ta54 rfl rfl rfl rfl) ?_;refine w1 ?_;obtain ⟨x31224, h031224, hx31224, h⟩ := getI_some h;refine w4 (st_ixD sl54 rfl rfl h031224 hx31224) ?_;refine w4 (st_ldD (v := dB x31224) ta4 rfl rfl) ?_;refine w2 ?_;refine rw_nilk (awp_ret ?_);injection h with h;subst h;exact retX (v := dB x31224) (resV_one (resVs_tmp rfl resVs_nil)) (.keep rfl) ⟨km, trivial⟩
    ·refine dx (L' := [Z60_0 a0, Z60_2 a1, Z60_4, Z60_1 a0, (1005, O16076 .busy none), (1006, mapO .i64 (fun (b : Bool) => dB b) (mset s31055 x31059.Var y31197)), Z60_5 x31059]) rfl rfl (st_mapUp (vf := (fun (b : Bool) => dB b)) (b := y31197) (xs := s31055) un77 un3 rfl rfl rfl rfl) rfl rfl rfl rfl ?_;refine rd_nil (by kernel_rfl) ?_;refine nx_block (nx_then (awp_rw ?_));refine w4 (st_inc rfl rfl hj31058 hl31058) ?_;refine w1 ?_;refine rw_nil (nx_then ?_);refine awp_gh ?_ (ih31057 (mset s31055 x31059.Var y31197) () h);exact (gf ⟨ko, ko, ko, ko, ⟨_, rfl, objLoop (hO16076 _ _) rfl⟩, km, trivial⟩)
   ·clear h;intro s31055 g31056 h;refine awp_rs ?_;refine w4 (st_bin (v := dB (decide (((a1.length : Nat) : Int) < ((a1.length : Nat) : Int)))) rfl rfl rfl) ?_;refine rw_nilk (awp_seq ?_);refine awp_ifF rfl dge ?_;refine awp_exit (ex_out (ex_out (ex_in (nx_then (awp_rs ?_)))));refine w1 ?_;refine w4 (st_faP fo37_2 rfl) ?_;refine w4 (st_ldP (v := dL 1 (eL 1 (eI .i64)) a0.Clauses) ta23 rfl rfl rfl rfl) ?_;refine rw_jn (fun (s31636 : Bool) (g31637 : Unit) => [(4, .ptr 1003 0 0 0), (30, dB s31636)]) (fun (s31636 : Bool) (g31637 : Unit) => [Z60_0 a0, Z60_2 a1, Z60_4, Z60_1 a0, (1005, O16076 .busy none), Z60_3 s31055]) h ?_ ?_
    ·clear h;intro s31636 g31637 h;refine w4 (st_un (v := dB (!s31636)) rfl rfl) ?_;refine rw_nilk ?_;refine awp_ite (b := (!s31636)) rfl (fun p31639 => ?_) (fun p31639 => ?_)
     ·replace h := ite_T p31639 h;refine awp_rs ?_;refine w9 (L' := [Z60_0 a0, Z60_2 a1, Z60_4, Z60_1 a0, (1005, O16076 .busy none), Z60_3 s31055]) (st_stP ta4 rfl rfl rfl rfl rfl rfl rfl rfl) ?_;refine rw_nilk (awp_ret (rt_block ?_));refine rk_r rfl ?_
      show RW _ _ _ _ _ _ _
      refine w4 (st_un (v := dB true) rfl rfl) ?_;refine rw_nilk ?_;refine awp_condT rfl ?_;refine awp_ret (rt_block (rt_then (rt_then (rt_block ?_))));refine ret_in (v := .tup []) (resV_none resVs_nil) ?_;refine ⟨_, _, _, rfl, rfl, (by intro h; cases h), ?_⟩;refine bh_r (rt_block (rt_then ?_));injection h with h;subst h;exact ret_out (v := dB false) (resV_one (resVs_cell (v := dB false) ta4 rfl rfl rfl rfl resVs_nil)) (.keep rfl)
     ·replace h := ite_F p31639 h;refine awp_skip (nx_block ?_);refine rk_n rfl ?_
      show RW _ _ _ _ _ _ _
      refine w4 (st_un (v := dB false) rfl rfl) ?_;refine rw_nilk ?_;refine awp_condF rfl ?_;refine awp_skip (nx_block (nx_then (awp_rw ?_)));refine w4 (st_incU rfl rfl hl16081 hj16081 hx16081) ?_;refine w1 ?_;refine rw_nil (nx_then ?_);refine awp_gh ?_ (ih16080 () () h);exact (gf ⟨ko, ko, ko, ko, ⟨_, rfl, objLoop (hO16076 _ _) rfl⟩, trivial⟩)
    ·clear h;intro k31638 h J31638;refine ri (N := 19) (rs := [.tmp 4]) rfl rfl rfl rfl Try.func67 rfl rfl rfl (by kernel_rfl) rfl (fun _B => ?_);refine awp_rs ?_;refine w2 ?_;refine rw_nilk (awp_seq (awp_rs ?_));refine w1 ?_;refine w4 (st_lenD rfl un23) ?_;refine w1 ?_;refine rw_nilk (awp_block ?_);refine awp_len (t := 1) rfl (fun hl31643 => ?_);rw [List.length_map] at hl31643;refine awp_range (fun (j31643 : Nat) (s31640 : Unit) (g31641 : Unit) => [(0, .map 1006), (7, dL 1 (eL 1 (eI .i64)) a0.Clauses), (8, dI .i64 ((a0.Clauses.length : Nat) : Int)), (9, dI .i64 ((j31643 : Nat) : Int))]) (fun (s31640 : Unit) (g31641 : Unit) => [Z60_0 a0, Z60_2 a1, Z60_4, Z60_1 a0, (1005, O16076 .busy none), Z60_3 s31055]) () (fun _ _ _ h => h) h (gf ⟨ko, ko, ko, ko, ⟨_, rfl, objLoop (hO16076 _ _) rfl⟩, km, trivial⟩) ?_ ?_
     ·clear h;intro j31643 x31644 s31640 g31641 k31642 hj31643 hx31643 h ih31642;refine awp_rs ?_;refine w4 (st_bin (v := dB (decide (((j31643 : Nat) : Int) < ((a0.Clauses.length : Nat) : Int)))) rfl rfl rfl) ?_;refine rw_nilk (awp_seq ?_);refine awp_ifT rfl (dlt hj31643) ?_;refine awp_skip (nx_then (awp_seq (awp_block (awp_rs ?_))));refine w4 (st_ixDn sl23 rfl rfl hx31643) ?_;refine w4 (st_ldD (v := dL 1 (eI .i64) x31644) ta34 rfl rfl) ?_;refine w2 ?_;refine rw_nilk (awp_rs ?_);refine w1 ?_;refine w1 ?_;refine w4 (st_fn rfl rfl) ?_;refine ri (N := 9) (rs := [.tmp 4]) rfl rfl rfl rfl Try.func71 rfl rfl rfl (by kernel_rfl) rfl (fun _B => ?_);refine awp_rs ?_;refine w2 ?_;refine rw_nilk (awp_rs ?_);refine w1 ?_;refine w1 ?_;refine rw_jn (fun (s31998 : Int) (g31999 : Unit) => [(7, dI .i64 s31998)]) (fun (s31998 : Int) (g31999 : Unit) => [Z60_0 a0, Z60_2 a1, Z60_4, Z60_1 a0, (1005, O16076 .busy none), Z60_3 s31055]) h ?_ ?_
      ·clear h;intro s31998 g31999 h;refine w4 (st_bin (v := dB (decide (s31998 ≥ 0))) rfl rfl rfl) ?_;refine w2 ?_;refine rw_nilk (awp_ret ?_);refine ret_in (v := dB (decide (s31998 ≥ 0))) (resV_one (resVs_tmp rfl resVs_nil)) ?_
       show RW _ _ _ _ _ _ _
       refine w4 (st_un (v := dB (!(decide (s31998 ≥ 0)))) rfl rfl) ?_;refine rw_nilk ?_;refine awp_ite (b := (!(decide (s31998 ≥ 0)))) rfl (fun p32001 => ?_) (fun p32001 => ?_)
       ·replace h := ite_T p32001 h;refine awp_rs ?_;refine w2 ?_;refine rw_nilk (awp_ret (rt_block (rt_then (rt_then (rt_block (rt_then ?_))))));refine ret_in (v := dB false) (resV_one (resVs_tmp rfl resVs_nil)) ?_;exact J31638 false () _ _ h (gf ⟨ko, ko, ko, ko, ⟨_, rfl, objLoop (hO16076 _ _) rfl⟩, km, trivial⟩)
       ·replace h := ite_F p32001 h;refine awp_skip (nx_block (nx_then (awp_rw ?_)));refine w4 (st_inc rfl rfl hj31643 hl31643) ?_;refine w1 ?_;refine rw_nil (nx_then ?_);refine awp_gh ?_ (ih31642 () () h);exact (gf ⟨ko, ko, ko, ko, ⟨_, rfl, objLoop (hO16076 _ _) rfl⟩, km, trivial⟩)
      ·clear h;intro k32000 h J32000;refine ri (N := 19) (rs := [.tmp 4]) rfl rfl rfl rfl Try.func91 rfl rfl rfl (by kernel_rfl) rfl (fun _B => ?_);refine awp_rs ?_;refine w2 ?_;refine rw_nilk (awp_seq (awp_rs ?_));refine w1 ?_;refine w4 (st_lenD rfl un34) ?_;refine w1 ?_;refine rw_nilk (awp_block ?_);refine awp_len (t := 0) rfl (fun hl32005 => ?_);rw [List.length_map] at hl32005;refine awp_range (fun (j32005 : Nat) (s32002 : Unit) (g32003 : Unit) => [(0, dL 1 (eI .i64) x31644), (1, .fn 90 [.map 1006] []), (7, dI .i64 ((x31644.length : Nat) : Int)), (8, dI .i64 ((j32005 : Nat) : Int))]) (fun (s32002 : Unit) (g32003 : Unit) => [Z60_0 a0, Z60_2 a1, Z60_4, Z60_1 a0, (1005, O16076 .busy none), Z60_3 s31055]) () (fun _ _ _ h => h) h (gf ⟨ko, ko, ko, ko, ⟨_, rfl, objLoop (hO16076 _ _) rfl⟩, km, trivial⟩) ?_ ?_
       ·clear h;intro j32005 x32006 s32002 g32003 k32004 hj32005 hx32005 h ih32004;refine awp_rs ?_;refine w4 (st_bin (v := dB (decide (((j32005 : Nat) : Int) < ((x31644.length : Nat) : Int)))) rfl rfl rfl) ?_;refine rw_nilk (awp_seq ?_);refine awp_ifT rfl (dlt hj32005) ?_;refine awp_skip (nx_then (awp_seq (awp_block (awp_rs ?_))));refine w1 ?_;refine w2 ?_;refine rw_nilk (awp_rs ?_);refine w1 ?_;refine w1 ?_;refine w1 ?_;refine w4 (st_ixDn sl34 rfl rfl hx32005) ?_;refine w4 (st_ldD (v := dI .i64 x32006) ta3 rfl rfl) ?_;refine rw_jn (fun (s32046 : Bool) (g32047 : Unit) => [(0, dL 1 (eI .i64) x31644), (1, .fn 90 [.map 1006] []), (5, dI .i64 ((j32005 : Nat) : Int)), (7, dI .i64 ((x31644.length : Nat) : Int)), (8, dI .i64 ((j32005 : Nat) : Int)), (16, dB s32046)]) (fun (s32046 : Bool) (g32047 : Unit) => [Z60_0 a0, Z60_2 a1, Z60_4, Z60_1 a0, (1005, O16076 .busy none), Z60_3 s31055]) h ?_ ?_
        ·clear h;intro s32046 g32047 h;refine rw_nilk ?_;refine awp_ite (b := s32046) rfl (fun p32049 => ?_) (fun p32049 => ?_)
         ·replace h := ite_T p32049 h;refine awp_rs ?_;refine w1 ?_;refine w2 ?_;refine rw_nilk (awp_ret (rt_block (rt_then (rt_then (rt_block (rt_then ?_))))));refine ret_in (v := dI .i64 ((j32005 : Nat) : Int)) (resV_one (resVs_tmp rfl resVs_nil)) ?_;exact J32000 ((j32005 : Nat) : Int) () _ _ h (gf ⟨ko, ko, ko, ko, ⟨_, rfl, objLoop (hO16076 _ _) rfl⟩, km, trivial⟩)
         ·replace h := ite_F p32049 h;refine awp_skip (nx_block (nx_then (awp_rw ?_)));refine w4 (st_inc rfl rfl hj32005 hl32005) ?_;refine w1 ?_;refine rw_nil (nx_then ?_);refine awp_gh ?_ (ih32004 () () h);exact (gf ⟨ko, ko, ko, ko, ⟨_, rfl, objLoop (hO16076 _ _) rfl⟩, km, trivial⟩)
        ·clear h;intro k32048 h J32048;refine ri (N := 15) (rs := [.tmp 4]) rfl rfl rfl rfl Try.func90 rfl rfl rfl (by kernel_rfl) rfl (fun _B => ?_);refine awp_rs ?_;refine w2 ?_;refine rw_nilk (awp_seq (awp_rs ?_));refine w1 ?_;refine w4 (st_bin (v := dB (decide (x32006 < 0))) rfl rfl rfl) ?_;refine rw_nilk ?_;refine awp_ite (b := (decide (x32006 < 0))) rfl (fun p32050 => ?_) (fun p32050 => ?_)
         ·replace h := ite_T p32050 h;refine awp_rs ?_;refine w1 ?_;refine w1 ?_;refine w4 (st_un (v := dI .i64 (IntKind.wrap .i64 (0 - x32006))) rfl rfl) ?_;refine w4 (st_look (vf := (fun (b : Bool) => dB b)) (z := false) (xs := s31055) un77 un3 za4 rfl rfl rfl) ?_;refine w4 (st_un (v := dB (!((mget s31055 (IntKind.wrap .i64 (0 - x32006))).getD false))) rfl rfl) ?_;refine w2 ?_;refine rw_nilk (awp_ret (rt_then ?_));refine ret_in (v := dB (!((mget s31055 (IntKind.wrap .i64 (0 - x32006))).getD false))) (resV_one (resVs_tmp rfl resVs_nil)) ?_;exact J32048 (!((mget s31055 (IntKind.wrap .i64 (0 - x32006))).getD false)) () _ _ h (gf ⟨ko, ko, ko, ko, ⟨_, rfl, objLoop (hO16076 _ _) rfl⟩, km, trivial⟩)
         ·replace h := ite_F p32050 h;refine awp_skip (nx_then (awp_rs ?_));refine w1 ?_;refine w1 ?_;refine w4 (st_look (vf := (fun (b : Bool) => dB b)) (z := false) (xs := s31055) un77 un3 za4 rfl rfl rfl) ?_;refine w2 ?_;refine rw_nilk (awp_ret ?_);refine ret_in (v := dB ((mget s31055 x32006).getD false)) (resV_one (resVs_tmp rfl resVs_nil)) ?_;exact J32048 ((mget s31055 x32006).getD false) () _ _ h (gf ⟨ko, ko, ko, ko, ⟨_, rfl, objLoop (hO16076 _ _) rfl⟩, km, trivial⟩)
       ·clear h;intro s32002 g32003 h;refine awp_rs ?_;refine w4 (st_bin (v := dB (decide (((x31644.length : Nat) : Int) < ((x31644.length : Nat) : Int)))) rfl rfl rfl) ?_;refine rw_nilk (awp_seq ?_);refine awp_ifF rfl dge ?_;refine awp_exit (ex_out (ex_out (ex_in (nx_then (awp_rs ?_)))));refine w2 ?_;refine rw_nilk (awp_ret ?_);refine ret_in (v := dI .i64 (-1 : Int)) (resV_one (resVs_tmp rfl resVs_nil)) ?_;exact J32000 (-1 : Int) () _ _ h (gf ⟨ko, ko, ko, ko, ⟨_, rfl, objLoop (hO16076 _ _) rfl⟩, km, trivial⟩)
     ·clear h;intro s31640 g31641 h;refine awp_rs ?_;refine w4 (st_bin (v := dB (decide (((a0.Clauses.length : Nat) : Int) < ((a0.Clauses.length : Nat) : Int)))) rfl rfl rfl) ?_;refine rw_nilk (awp_seq ?_);refine awp_ifF rfl dge ?_;refine awp_exit (ex_out (ex_out (ex_in (nx_then (awp_rs ?_)))));refine w2 ?_;refine rw_nilk (awp_ret ?_);refine ret_in (v := dB true) (resV_one (resVs_tmp rfl resVs_nil)) ?_;exact J31638 true () _ _ h (gf ⟨ko, ko, ko, ko, ⟨_, rfl, objLoop (hO16076 _ _) rfl⟩, km, trivial⟩)
 ·clear h;intro s16078 g16079 h;refine awp_rs ?_;refine w4 (st_bin (v := dB (decide ((0 + ((((IntKind.wrap .i64 (1 * 2 ^ (min ((a0.Univ.length : Nat) : Int).toNat (IntKind.bits .i64)))) - 0).toNat : Nat) : Int)) < (IntKind.wrap .i64 (1 * 2 ^ (min ((a0.Univ.length : Nat) : Int).toNat (IntKind.bits .i64))))))) rfl rfl rfl) ?_;refine rw_nilk (awp_seq ?_);refine awp_ifF rfl (dgeI upD) ?_;refine awp_exit (ex_out (ex_out (ex_in ?_)));refine ret_inN (v := .tup []) (resV_none resVs_nil) ?_;refine ⟨_, _, _, rfl, rfl, (by intro h; cases h), ?_⟩;refine bh_0 (nx_block (nx_then (awp_rs ?_)));refine w9 (L' := [Z60_0 a0, Z60_2 a1, (1003, .row 0 4 [[dB true]]), Z60_1 a0, (1005, O16076 .exhausted none)]) (st_stP ta4 rfl rfl rfl rfl rfl rfl rfl rfl) ?_;refine rw_nilk (awp_ret ?_);injection h with h;subst h;exact ret_out (v := dB true) (resV_one (resVs_cell (v := dB true) ta4 rfl rfl rfl rfl resVs_nil)) (.keep rfl)

abbrev Z23_0 (a0 : S_api_Dqbf) : Nat × AObj := (1001, .row 0 37 [[dL 1 (eI .i64) a0.Univ, dL 2 e_S_api_Dep a0.Exist, dL 1 (eL 1 (eI .i64)) a0.Clauses]])

theorem ok_truth_Wins {a0 : S_api_Dqbf} {a1 : (List S_api_Table)} {r : (Bool × Int)} (h : F_truth_Wins a0 a1 = some r) : Fn Try.prog 23 [.agg [dL 1 (eI .i64) a0.Univ, dL 2 e_S_api_Dep a0.Exist, dL 1 (eL 1 (eI .i64)) a0.Clauses], dL 3 e_S_api_Table a1] (.tup [dB r.1, dI .i64 r.2]) := by
 unfold F_truth_Wins at h;refine Fn.of_body (N := 41) (rs := [.tmp 4, .tmp 5]) Try.func23 (c := _) rfl rfl rfl (by kernel_rfl) (Nat.le_of_ble_eq_true rfl) (fun _B => ?_);refine awp_rs ?_;refine w8 (r := 1001) (st_box rfl rfl rfl co37 rfl rfl) ?_;refine w2 ?_;refine w2 ?_;refine rw_nilk (awp_seq (awp_rs ?_));refine w4 (st_ldP (v := .agg [dL 1 (eI .i64) a0.Univ, dL 2 e_S_api_Dep a0.Exist, dL 1 (eL 1 (eI .i64)) a0.Clauses]) ta37 rfl rfl rfl rfl) ?_;obtain ⟨y101, hy101, h⟩ := bind_some_elim h;refine rf rfl rfl (ok_prefix_MayDqbf hy101) rfl rfl ?_;refine w4 (st_un (v := dB (!y101)) rfl rfl) ?_;refine rw_nilk ?_;refine awp_ite (b := (!y101)) rfl (fun p102 => ?_) (fun p102 => ?_)
 ·replace h := ite_T p102 h;refine awp_rs ?_;refine w2 ?_;refine w2 ?_;refine rw_nilk (awp_ret (rt_then ?_));injection h with h;subst h;exact ret_out (v := .tup [dB false, dI .i64 2]) (resV_many (resVs_tmp rfl (resVs_tmp rfl resVs_nil))) (.keep rfl)
 ·replace h := ite_F p102 h;refine awp_skip (nx_then (awp_rs ?_));refine w2 ?_;refine rw_nilk (awp_seq (awp_rs ?_));refine w4 (st_faP fo37_1 rfl) ?_;refine w4 (st_ldP (v := dL 2 e_S_api_Dep a0.Exist) ta35 rfl rfl rfl rfl) ?_;refine w4 (st_lenD rfl un35) ?_;refine w1 ?_;refine rw_nilk (awp_block ?_);refine awp_len (t := 14) rfl (fun hl106 => ?_);rw [List.length_map] at hl106
  refine awp_range (fun (j106 : Nat) (s103 : (List S_api_Table)) (g104 : Nat) => [(1, dL 3 e_S_api_Table a1), (2, .ptr 1001 0 0 0), (6, .slice 1004 g104 0 s103.length), (14, dL 2 e_S_api_Dep a0.Exist), (15, dI .i64 ((a0.Exist.length : Nat) : Int)), (16, dI .i64 ((j106 : Nat) : Int))]) (fun (s103 : (List S_api_Table)) (g104 : Nat) => [Z23_0 a0, (1004, rw' g104 56 e_S_api_Table s103)]) 0 (fun _ _ _ h => h) h (Gh.trans (gh_nil (r := 1004) (E' := [(1, dL 3 e_S_api_Table a1), (2, .ptr 1001 0 0 0), (6, .slice 1004 0 0 (([] : List S_api_Table).length)), (14, dL 2 e_S_api_Dep a0.Exist), (15, dI .i64 ((a0.Exist.length : Nat) : Int)), (16, dI .i64 0)]) (L' := [Z23_0 a0]) rfl co56 rfl rfl ⟨⟨_, rfl, .keep _⟩, ⟨_, rfl, .keep _⟩, ⟨_, rfl, .nil⟩, ⟨_, rfl, .keep _⟩, ⟨_, rfl, .keep _⟩, ⟨_, rfl, .keep _⟩, trivial⟩ ⟨⟨_, rfl, .keep _⟩, trivial⟩) (gf ⟨ko, ⟨_, rfl, objRow (List.map e_S_api_Table ([] : List S_api_Table))⟩, trivial⟩)) ?_ ?_
  ·clear h;intro j106 x107 s103 g104 k105 hj106 hx106 h ih105;refine awp_rs ?_;refine w4 (st_bin (v := dB (decide (((j106 : Nat) : Int) < ((a0.Exist.length : Nat) : Int)))) rfl rfl rfl) ?_;refine rw_nilk (awp_seq ?_);refine awp_ifT rfl (dlt hj106) ?_;refine awp_skip (nx_then (awp_seq (awp_block (awp_rs ?_))));refine w4 (st_ixDn sl35 rfl rfl hx106) ?_;refine w4 (st_ldD (v := .agg [dI .i64 x107.Var, dL 1 (eI .i64) x107.On]) ta51 rfl rfl) ?_;refine w8 (r := 1005) (st_alloc zc51 rfl rfl) ?_;refine w9 (L' := [Z23_0 a0, (1004, rw' g104 56 e_S_api_Table s103), (1005, .row 0 51 [[dI .i64 x107.Var, dL 1 (eI .i64) x107.On]])]) (st_stP ta51 rfl rfl rfl rfl rfl rfl rfl rfl) ?_;refine rw_nilk (awp_rw ?_);refine w1 ?_;refine w4 (st_faP fo51_0 rfl) ?_;refine w4 (st_ldP (v := dI .i64 x107.Var) ta3 rfl rfl rfl rfl) ?_;refine w4 (st_faP fo51_1 rfl) ?_;refine w4 (st_ldP (v := dL 1 (eI .i64) x107.On) ta34 rfl rfl rfl rfl) ?_;refine w4 (st_build (vs := [dI .i64 x107.Var, dL 1 (eI .i64) x107.On, .nilS]) bl56 rfl rfl) ?_;refine w8 (r := 1006) (st_bsl (els := [[dI .i64 x107.Var, dL 1 (eI .i64) x107.On, .nilS]]) sl41 zc56 rfl rfl rfl rfl rfl) ?_
   refine RW.gh (gf (E' := [(1, dL 3 e_S_api_Table a1), (2, .ptr 1001 0 0 0), (14, dL 2 e_S_api_Dep a0.Exist), (15, dI .i64 ((a0.Exist.length : Nat) : Int)), (16, dI .i64 ((j106 : Nat) : Int)), (20, .slice 1004 g104 0 s103.length), (26, .slice 1006 1 0 1)]) (L' := [Z23_0 a0, (1004, rw' g104 56 e_S_api_Table s103), (1005, .row 0 51 [[dI .i64 x107.Var, dL 1 (eI .i64) x107.On]]), (1006, .row 1 56 [[dI .i64 x107.Var, dL 1 (eI .i64) x107.On, dL 1 eB ([] : List Bool)]])]) ⟨ko, kw, ko, ⟨_, rfl, objOne ⟨kc, kc, ⟨rfl, .nilS _⟩, trivial⟩⟩, trivial⟩) ?_;obtain ⟨c111, h⟩ := capN_some h
   refine rn (r := 0) (L' := [Z23_0 a0, (1004, rw' (g104 + 2) 56 e_S_api_Table (s103 ++ ([(S_api_Table.mk x107.Var x107.On ([] : List Bool))]))), (1005, .row 0 51 [[dI .i64 x107.Var, dL 1 (eI .i64) x107.On]]), (1006, .row 1 56 [[dI .i64 x107.Var, dL 1 (eI .i64) x107.On, dL 1 eB ([] : List Bool)]])]) rfl rfl (st_appR (f := e_S_api_Table) (xs := s103) (ys := [(S_api_Table.mk x107.Var x107.On ([] : List Bool))]) sl41 zc56 rfl rfl rfl rfl rfl (news_one (a := (S_api_Table.mk x107.Var x107.On ([] : List Bool))) rfl rfl) c111) rfl ?_;refine w2 ?_;refine rw_nil (nx_block (nx_then (awp_rw ?_)));refine w4 (st_inc rfl rfl hj106 hl106) ?_;refine w1 ?_;refine rw_nil (nx_then ?_);refine awp_gh ?_ (ih105 (s103 ++ ([(S_api_Table.mk x107.Var x107.On ([] : List Bool))])) (g104 + 2) h);exact (gf ⟨ko, kw, trivial⟩)
  ·clear h;intro s103 g104 h;refine awp_rs ?_;refine w4 (st_bin (v := dB (decide (((a0.Exist.length : Nat) : Int) < ((a0.Exist.length : Nat) : Int)))) rfl rfl rfl) ?_;refine rw_nilk (awp_seq ?_);refine awp_ifF rfl dge ?_;refine awp_exit (ex_out (ex_out (ex_in (nx_then (awp_seq (awp_rs ?_))))));refine w1 ?_;refine w1 ?_;obtain ⟨y112, hy112, h⟩ := bind_some_elim h;refine rl rfl rfl (ok_truth_alike hy112) rfl ⟨frzT rfl rfl co56 rfl, .keep rfl, trivial⟩ rfl ?_;refine w4 (st_un (v := dB (!y112)) rfl rfl) ?_;refine rw_nilk ?_;refine awp_ite (b := (!y112)) rfl (fun p113 => ?_) (fun p113 => ?_)
   ·replace h := ite_T p113 h;refine awp_rs ?_;refine w2 ?_;refine w2 ?_;refine rw_nilk (awp_ret (rt_then ?_));injection h with h;subst h;exact ret_out (v := .tup [dB false, dI .i64 2]) (resV_many (resVs_tmp rfl (resVs_tmp rfl resVs_nil))) (.keep rfl)
   ·replace h := ite_F p113 h;refine awp_skip (nx_then (awp_seq (awp_rs ?_)));refine w4 (st_ldP (v := .agg [dL 1 (eI .i64) a0.Univ, dL 2 e_S_api_Dep a0.Exist, dL 1 (eL 1 (eI .i64)) a0.Clauses]) ta37 rfl rfl rfl rfl) ?_;obtain ⟨y114, hy114, h⟩ := bind_some_elim h;refine rf rfl rfl (ok_truth_few hy114) rfl rfl ?_;refine w2 ?_;refine rw_nilk (awp_rs ?_);refine w1 ?_;refine w4 (st_bin (v := dB (y114 != 0)) rfl rfl rfl) ?_;refine rw_nilk ?_;refine awp_ite (b := (y114 != 0)) rfl (fun p115 => ?_) (fun p115 => ?_)
    ·replace h := ite_T p115 h;refine awp_rs ?_;refine w1 ?_;refine w2 ?_;refine w2 ?_;refine rw_nilk (awp_ret (rt_then ?_));injection h with h;subst h;exact ret_out (v := .tup [dB false, dI .i64 y114]) (resV_many (resVs_tmp rfl (resVs_tmp rfl resVs_nil))) (.keep rfl)
    ·replace h := ite_F p115 h;refine awp_skip (nx_then (awp_rs ?_));refine w4 (st_ldP (v := .agg [dL 1 (eI .i64) a0.Univ, dL 2 e_S_api_Dep a0.Exist, dL 1 (eL 1 (eI .i64)) a0.Clauses]) ta37 rfl rfl rfl rfl) ?_;refine w1 ?_;obtain ⟨y116, hy116, h⟩ := bind_some_elim h;refine rf rfl rfl (ok_truth_wins hy116) rfl rfl ?_;refine w2 ?_;refine w2 ?_;refine rw_nilk (awp_ret ?_);injection h with h;subst h;exact ret_out (v := .tup [dB y116, dI .i64 0]) (resV_many (resVs_tmp rfl (resVs_tmp rfl resVs_nil))) (.keep rfl)

theorem ok_skolemref03_Abs {a0 : Int} {r : Int} (h : F_skolemref03_Abs a0 = some r) : Fn Try.prog 83 [dI .i64 a0] (dI .i64 r) := by
 unfold F_skolemref03_Abs at h;refine Fn.of_body (N := 8) (rs := [.tmp 2]) Try.func83 (c := _) rfl rfl rfl (by kernel_rfl) (Nat.le_of_ble_eq_true rfl) (fun _B => ?_);refine awp_rs ?_;refine w2 ?_;refine rw_nilk (awp_seq (awp_rs ?_));refine w1 ?_;refine w4 (st_bin (v := dB (decide (a0 < 0))) rfl rfl rfl) ?_;refine rw_nilk ?_;refine awp_ite (b := (decide (a0 < 0))) rfl (fun p101 => ?_) (fun p101 => ?_)
 ·replace h := ite_T p101 h;refine awp_rs ?_;refine w1 ?_;refine w4 (st_un (v := dI .i64 (IntKind.wrap .i64 (0 - a0))) rfl rfl) ?_;refine w2 ?_;refine rw_nilk (awp_ret (rt_then ?_));injection h with h;subst h;exact ret_out (v := dI .i64 (IntKind.wrap .i64 (0 - a0))) (resV_one (resVs_tmp rfl resVs_nil)) (.keep rfl)
 ·replace h := ite_F p101 h;refine awp_skip (nx_then (awp_rs ?_));refine w1 ?_;refine w2 ?_;refine rw_nilk (awp_ret ?_);injection h with h;subst h;exact ret_out (v := dI .i64 a0) (resV_one (resVs_tmp rfl resVs_nil)) (.keep rfl)

theorem ok_skolemref03_Normal {a0 : (List Int)} {r : Bool} (h : F_skolemref03_Normal a0 = some r) : Fn Try.prog 82 [dL 1 (eI .i64) a0] (dB r) := by
 unfold F_skolemref03_Normal at h;refine Fn.of_body (N := 47) (rs := [.tmp 2]) Try.func82 (c := _) rfl rfl rfl (by kernel_rfl) (Nat.le_of_ble_eq_true rfl) (fun _B => ?_);refine awp_rs ?_;refine w2 ?_;refine rw_nilk (awp_seq (awp_rs ?_));refine w2 ?_;refine rw_nilk (awp_block ?_);refine awp_len (t := 0) rfl (fun hl104 => ?_);rw [List.length_map] at hl104;refine awp_range (fun (j104 : Nat) (s101 : Unit) (g102 : Unit) => [(0, dL 1 (eI .i64) a0), (3, dI .i64 ((j104 : Nat) : Int))]) (fun (s101 : Unit) (g102 : Unit) => []) () (fun _ _ _ h => h) h (gf trivial) ?_ ?_
 ·clear h;intro j104 x105 s101 g102 k103 hj104 hx104 h ih103;refine awp_seq (awp_rs ?_);refine w1 ?_;refine w1 ?_;refine w4 (st_lenD rfl un34) ?_;refine w4 (st_bin (v := dB (decide (((j104 : Nat) : Int) < ((a0.length : Nat) : Int)))) rfl rfl rfl) ?_;refine rw_nilk ?_;refine awp_ifT rfl (dlt hj104) ?_;refine awp_skip (nx_then (awp_seq (awp_block ?_)));refine awp_jn (fun (s167 : Bool) (g168 : Unit) => [(0, dL 1 (eI .i64) a0), (3, dI .i64 ((j104 : Nat) : Int)), (46, dB s167)]) (fun (s167 : Bool) (g168 : Unit) => []) h ?_ ?_
  ·clear h;intro s167 g168 h;refine awp_ite (b := s167) rfl (fun p170 => ?_) (fun p170 => ?_)
   ·replace h := ite_T p170 h;refine awp_rs ?_;refine w2 ?_;refine rw_nilk (awp_ret (rt_block (rt_then (rt_then (rt_block (rt_then ?_))))));injection h with h;subst h;exact ret_out (v := dB false) (resV_one (resVs_tmp rfl resVs_nil)) (.keep rfl)
   ·replace h := ite_F p170 h;refine awp_skip (nx_block (nx_then (awp_rw ?_)));refine w1 ?_;refine w4 (st_inc rfl rfl hj104 hl104) ?_;refine w2 ?_;refine rw_nil (nx_then ?_);refine awp_gh ?_ (ih103 () () h);exact (gf trivial)
  ·clear h;intro k169 h J169;refine awp_rd hmix ?_;refine w7 (st_mv rfl) ?_;refine w7 (st_mv rfl) ?_;refine w7 (st_ixDn sl34 rfl rfl hx104) ?_;refine w7 (st_ldD (v := dI .i64 x105) ta3 rfl rfl) ?_;refine w7 (st_bin (v := dB (x105 == 0)) rfl rfl rfl) ?_;refine w7 (st_mv rfl) ?_;refine bool_split (x105 == 0) (fun p171 => ?_) (fun p171 => ?_)
   ·replace h := ite_T p171 h;rw [p171];refine w5 ?_;refine w5 ?_;refine w5 ?_;refine w5 ?_;refine w5 ?_;refine w7 (st_pickT rfl rfl) ?_;refine w7 (st_mv rfl) ?_;refine w5 ?_;refine w5 ?_;refine w5 ?_;refine w5 ?_;refine w5 ?_;refine w7 (st_pickT rfl rfl) ?_;refine w7 (st_mv rfl) ?_;refine w5 ?_;refine w5 ?_;refine w5 ?_;refine w5 ?_;refine w5 ?_;refine w5 ?_;refine w5 ?_;refine w5 ?_;refine w5 ?_;refine w5 ?_;refine w5 ?_;refine w5 ?_;refine w5 ?_;refine w5 ?_;refine w5 ?_;refine w5 ?_;refine w7 (st_pickT rfl rfl) ?_;refine rd_nil (by kernel_rfl) ?_;refine nx_then ?_;exact J169 true () _ _ h (gf trivial)
   ·replace h := ite_F p171 h;rw [p171];refine w7 (st_mv rfl) ?_;refine w7 (st_mv rfl) ?_;refine w7 (st_ixDn sl34 rfl rfl hx104) ?_;refine w7 (st_ldD (v := dI .i64 x105) ta3 rfl rfl) ?_;refine w7 (st_bin (v := dB (decide (x105 < (-65536 : Int)))) rfl rfl rfl) ?_;refine w7 (st_pickF rfl rfl) ?_;refine w7 (st_mv rfl) ?_;refine bool_split (decide (x105 < (-65536 : Int))) (fun p172 => ?_) (fun p172 => ?_)
    ·replace h := ite_T p172 h;rw [p172];refine w5 ?_;refine w5 ?_;refine w5 ?_;refine w5 ?_;refine w5 ?_;refine w7 (st_pickT rfl rfl) ?_;refine w7 (st_mv rfl) ?_;refine w5 ?_;refine w5 ?_;refine w5 ?_;refine w5 ?_;refine w5 ?_;refine w5 ?_;refine w5 ?_;refine w5 ?_;refine w5 ?_;refine w5 ?_;refine w5 ?_;refine w5 ?_;refine w5 ?_;refine w5 ?_;refine w5 ?_;refine w5 ?_;refine w7 (st_pickT rfl rfl) ?_;refine rd_nil (by kernel_rfl) ?_;refine nx_then ?_;exact J169 true () _ _ h (gf trivial)
    ·replace h := ite_F p172 h;rw [p172];refine w7 (st_mv rfl) ?_;refine w7 (st_mv rfl) ?_;refine w7 (st_ixDn sl34 rfl rfl hx104) ?_;refine w7 (st_ldD (v := dI .i64 x105) ta3 rfl rfl) ?_;refine w7 (st_bin (v := dB (decide (x105 > 65536))) rfl rfl rfl) ?_;refine w7 (st_pickF rfl rfl) ?_;refine w7 (st_mv rfl) ?_;refine bool_split (decide (x105 > 65536)) (fun p173 => ?_) (fun p173 => ?_)
     ·replace h := ite_T p173 h;rw [p173];refine w5 ?_;refine w5 ?_;refine w5 ?_;refine w5 ?_;refine w5 ?_;refine w5 ?_;refine w5 ?_;refine w5 ?_;refine w5 ?_;refine w5 ?_;refine w5 ?_;refine w5 ?_;refine w5 ?_;refine w5 ?_;refine w5 ?_;refine w5 ?_;refine w7 (st_pickT rfl rfl) ?_;refine rd_nil (by kernel_rfl) ?_;refine nx_then ?_;exact J169 true () _ _ h (gf trivial)
     ·replace h := ite_F p173 h;rw [p173];refine w7 (st_mv rfl) ?_;refine w7 (st_bin (v := dB (decide (((j104 : Nat) : Int) > 0))) rfl rfl rfl) ?_;refine w7 (st_mv rfl) ?_;refine bool_split (decide (((j104 : Nat) : Int) > 0)) (fun p174 => ?_) (fun p174 => ?_)
      ·replace h := ite_T p174 h;rw [p174];refine w7 (st_mv rfl) ?_;refine w7 (st_mv rfl) ?_;refine w7 (st_bin (v := dI .i64 (IntKind.wrap .i64 (((j104 : Nat) : Int) - 1))) rfl rfl rfl) ?_;obtain ⟨x175, h0175, hx175, h⟩ := getI_some h;refine w7 (st_ixD sl34 rfl rfl h0175 hx175) ?_;refine w7 (st_ldD (v := dI .i64 x175) ta3 rfl rfl) ?_;obtain ⟨y176, hy176, h⟩ := bind_some_elim h;refine df rfl rfl (ok_skolemref03_Abs hy176) rfl rfl ?_;refine w7 (st_mv rfl) ?_;refine w7 (st_mv rfl) ?_;refine w7 (st_ixDn sl34 rfl rfl hx104) ?_;refine w7 (st_ldD (v := dI .i64 x105) ta3 rfl rfl) ?_;obtain ⟨y177, hy177, h⟩ := bind_some_elim h;refine df rfl rfl (ok_skolemref03_Abs hy177) rfl rfl ?_;refine w7 (st_bin (v := dB (decide (y176 ≥ y177))) rfl rfl rfl) ?_;refine w7 (st_pickT rfl rfl) ?_;refine w7 (st_pickF rfl rfl) ?_;refine rd_nil (by kernel_rfl) ?_;refine nx_then ?_;exact J169 (decide (y176 ≥ y177)) () _ _ h (gf trivial)
      ·replace h := ite_F p174 h;rw [p174];refine w5 ?_;refine w5 ?_;refine w5 ?_;refine w5 ?_;refine w5 ?_;refine w5 ?_;refine w5 ?_;refine w5 ?_;refine w5 ?_;refine w5 ?_;refine w5 ?_;refine w5 ?_;refine w7 (st_pickF rfl rfl) ?_;refine w7 (st_pickF rfl rfl) ?_;refine rd_nil (by kernel_rfl) ?_;refine nx_then ?_;exact J169 false () _ _ h (gf trivial)
 ·clear h;intro s101 g102 h;refine awp_seq (awp_rs ?_);refine w1 ?_;refine w1 ?_;refine w4 (st_lenD rfl un34) ?_;refine w4 (st_bin (v := dB (decide (((a0.length : Nat) : Int) < ((a0.length : Nat) : Int)))) rfl rfl rfl) ?_;refine rw_nilk ?_;refine awp_ifF rfl dge ?_;refine awp_exit (ex_out (ex_out (ex_in (nx_then (awp_rs ?_)))));refine w2 ?_;refine rw_nilk (awp_ret ?_);injection h with h;subst h;exact ret_out (v := dB true) (resV_one (resVs_tmp rfl resVs_nil)) (.keep rfl)

theorem ok_skolemref03_Cnf {a0 : (List (List Int))} {r : Bool} (h : F_skolemref03_Cnf a0 = some r) : Fn Try.prog 56 [dL 1 (eL 1 (eI .i64)) a0] (dB r) := by
 unfold F_skolemref03_Cnf at h;refine Fn.of_body (N := 31) (rs := [.tmp 2]) Try.func56 (c := _) rfl rfl rfl (by kernel_rfl) (Nat.le_of_ble_eq_true rfl) (fun _B => ?_);refine awp_rs ?_;refine w2 ?_;refine rw_nilk (awp_rs ?_);refine w2 ?_;refine rw_nilk (awp_seq (awp_rs ?_));refine w2 ?_;refine rw_nilk (awp_block ?_);refine awp_len (t := 0) rfl (fun hl104 => ?_);rw [List.length_map] at hl104;refine awp_range (fun (j104 : Nat) (s101 : Int) (g102 : Unit) => [(0, dL 1 (eL 1 (eI .i64)) a0), (3, dI .i64 s101), (4, dI .i64 ((j104 : Nat) : Int))]) (fun (s101 : Int) (g102 : Unit) => []) () (fun _ _ _ h => h) h (gf trivial) ?_ ?_
 ·clear h;intro j104 x105 s101 g102 k103 hj104 hx104 h ih103;refine awp_seq (awp_rs ?_);refine w1 ?_;refine w1 ?_;refine w4 (st_lenD rfl un23) ?_;refine w4 (st_bin (v := dB (decide (((j104 : Nat) : Int) < ((a0.length : Nat) : Int)))) rfl rfl rfl) ?_;refine rw_nilk ?_;refine awp_ifT rfl (dlt hj104) ?_;refine awp_skip (nx_then (awp_seq (awp_block (awp_rs ?_))));refine w1 ?_;refine w1 ?_;refine w1 ?_;refine w4 (st_ixDn sl23 rfl rfl hx104) ?_;refine w4 (st_ldD (v := dL 1 (eI .i64) x105) ta34 rfl rfl) ?_;refine w4 (st_lenD rfl un34) ?_;refine w4 (st_bin (v := dI .i64 (IntKind.wrap .i64 (s101 + ((x105.length : Nat) : Int)))) rfl rfl rfl) ?_;refine w2 ?_;refine rw_nilk (awp_rs ?_);refine w1 ?_;refine w1 ?_;refine w4 (st_ixDn sl23 rfl rfl hx104) ?_;refine w4 (st_ldD (v := dL 1 (eI .i64) x105) ta34 rfl rfl) ?_;obtain ⟨y110, hy110, h⟩ := bind_some_elim h;refine rf rfl rfl (ok_skolemref03_Normal hy110) rfl rfl ?_;refine w4 (st_un (v := dB (!y110)) rfl rfl) ?_;refine rw_nilk ?_;refine awp_ite (b := (!y110)) rfl (fun p111 => ?_) (fun p111 => ?_)
  ·replace h := ite_T p111 h;refine awp_rs ?_;refine w2 ?_;refine rw_nilk (awp_ret (rt_block (rt_then (rt_then (rt_block (rt_then ?_))))));injection h with h;subst h;exact ret_out (v := dB false) (resV_one (resVs_tmp rfl resVs_nil)) (.keep rfl)
  ·replace h := ite_F p111 h;refine awp_skip (nx_block (nx_then (awp_rw ?_)));refine w1 ?_;refine w4 (st_inc rfl rfl hj104 hl104) ?_;refine w2 ?_;refine rw_nil (nx_then ?_);refine awp_gh ?_ (ih103 (IntKind.wrap .i64 (s101 + ((x105.length : Nat) : Int))) () h);exact (gf trivial)
 ·clear h;intro s101 g102 h;refine awp_seq (awp_rs ?_);refine w1 ?_;refine w1 ?_;refine w4 (st_lenD rfl un23) ?_;refine w4 (st_bin (v := dB (decide (((a0.length : Nat) : Int) < ((a0.length : Nat) : Int)))) rfl rfl rfl) ?_;refine rw_nilk ?_;refine awp_ifF rfl dge ?_;refine awp_exit (ex_out (ex_out (ex_in (nx_then (awp_rs ?_)))));refine w1 ?_;refine w4 (st_lenD rfl un23) ?_;refine w4 (st_bin (v := dB (decide (((a0.length : Nat) : Int) ≤ 20000))) rfl rfl rfl) ?_;refine w1 ?_;refine bool_split (decide (((a0.length : Nat) : Int) ≤ 20000)) (fun p113 => ?_) (fun p113 => ?_)
  ·replace h := ite_T p113 h;rw [p113];refine w1 ?_;refine w4 (st_bin (v := dB (decide (s101 ≤ 200000))) rfl rfl rfl) ?_;refine w4 (st_pickT rfl rfl) ?_;refine w2 ?_;refine rw_nilk (awp_ret ?_);injection h with h;subst h;exact ret_out (v := dB (decide (s101 ≤ 200000))) (resV_one (resVs_tmp rfl resVs_nil)) (.keep rfl)
  ·replace h := ite_F p113 h;rw [p113];refine w3 ?_;refine w3 ?_;refine w4 (st_pickF rfl rfl) ?_;refine w2 ?_;refine rw_nilk (awp_ret ?_);injection h with h;subst h;exact ret_out (v := dB false) (resV_one (resVs_tmp rfl resVs_nil)) (.keep rfl)

theorem ok_skolemref03_Has {a0 : (List Int)} {a1 : Int} {r : Bool} (h : F_skolemref03_Has a0 a1 = some r) : Fn Try.prog 81 [dL 1 (eI .i64) a0, dI .i64 a1] (dB r) := by
 unfold F_skolemref03_Has at h;refine Fn.of_body (N := 18) (rs := [.tmp 4]) Try.func81 (c := _) rfl rfl rfl (by kernel_rfl) (Nat.le_of_ble_eq_true rfl) (fun _B => ?_);refine awp_rs ?_;refine w2 ?_;refine rw_nilk (awp_seq (awp_rs ?_));refine w2 ?_;refine rw_nilk (awp_block ?_);refine awp_len (t := 0) rfl (fun hl104 => ?_);rw [List.length_map] at hl104;refine awp_range (fun (j104 : Nat) (s101 : Unit) (g102 : Unit) => [(0, dL 1 (eI .i64) a0), (1, dI .i64 a1), (5, dI .i64 ((j104 : Nat) : Int))]) (fun (s101 : Unit) (g102 : Unit) => []) () (fun _ _ _ h => h) h (gf trivial) ?_ ?_
 ·clear h;intro j104 x105 s101 g102 k103 hj104 hx104 h ih103;refine awp_seq (awp_rs ?_);refine w1 ?_;refine w1 ?_;refine w4 (st_lenD rfl un34) ?_;refine w4 (st_bin (v := dB (decide (((j104 : Nat) : Int) < ((a0.length : Nat) : Int)))) rfl rfl rfl) ?_;refine rw_nilk ?_;refine awp_ifT rfl (dlt hj104) ?_;refine awp_skip (nx_then (awp_seq (awp_block (awp_rs ?_))));refine w1 ?_;refine w1 ?_;refine w4 (st_ixDn sl34 rfl rfl hx104) ?_;refine w4 (st_ldD (v := dI .i64 x105) ta3 rfl rfl) ?_;refine w1 ?_;refine w4 (st_bin (v := dB (x105 == a1)) rfl rfl rfl) ?_;refine rw_nilk ?_;refine awp_ite (b := (x105 == a1)) rfl (fun p107 => ?_) (fun p107 => ?_)
  ·replace h := ite_T p107 h;refine awp_rs ?_;refine w2 ?_;refine rw_nilk (awp_ret (rt_block (rt_then (rt_then (rt_block (rt_then ?_))))));injection h with h;subst h;exact ret_out (v := dB true) (resV_one (resVs_tmp rfl resVs_nil)) (.keep rfl)
  ·replace h := ite_F p107 h;refine awp_skip (nx_block (nx_then (awp_rw ?_)));refine w1 ?_;refine w4 (st_inc rfl rfl hj104 hl104) ?_;refine w2 ?_;refine rw_nil (nx_then ?_);refine awp_gh ?_ (ih103 () () h);exact (gf trivial)
 ·clear h;intro s101 g102 h;refine awp_seq (awp_rs ?_);refine w1 ?_;refine w1 ?_;refine w4 (st_lenD rfl un34) ?_;refine w4 (st_bin (v := dB (decide (((a0.length : Nat) : Int) < ((a0.length : Nat) : Int)))) rfl rfl rfl) ?_;refine rw_nilk ?_;refine awp_ifF rfl dge ?_;refine awp_exit (ex_out (ex_out (ex_in (nx_then (awp_rs ?_)))));refine w2 ?_;refine rw_nilk (awp_ret ?_);injection h with h;subst h;exact ret_out (v := dB false) (resV_one (resVs_tmp rfl resVs_nil)) (.keep rfl)

theorem ok_skolemref03_within {a0 : (List (List Int))} {a1 : (List Int)} {r : Bool} (h : F_skolemref03_within a0 a1 = some r) : Fn Try.prog 57 [dL 1 (eL 1 (eI .i64)) a0, dL 1 (eI .i64) a1] (dB r) := by
 unfold F_skolemref03_within at h;refine Fn.of_body (N := 33) (rs := [.tmp 4]) Try.func57 (c := _) rfl rfl rfl (by kernel_rfl) (Nat.le_of_ble_eq_true rfl) (fun _B => ?_);refine awp_rs ?_;refine w2 ?_;refine rw_nilk (awp_seq (awp_rs ?_));refine w2 ?_;refine rw_nilk (awp_block ?_);refine awp_len (t := 0) rfl (fun hl104 => ?_);rw [List.length_map] at hl104;refine awp_range (fun (j104 : Nat) (s101 : Unit) (g102 : Unit) => [(0, dL 1 (eL 1 (eI .i64)) a0), (1, dL 1 (eI .i64) a1), (5, dI .i64 ((j104 : Nat) : Int))]) (fun (s101 : Unit) (g102 : Unit) => []) () (fun _ _ _ h => h) h (gf trivial) ?_ ?_
 ·clear h;intro j104 x105 s101 g102 k103 hj104 hx104 h ih103;refine awp_seq (awp_rs ?_);refine w1 ?_;refine w1 ?_;refine w4 (st_lenD rfl un23) ?_;refine w4 (st_bin (v := dB (decide (((j104 : Nat) : Int) < ((a0.length : Nat) : Int)))) rfl rfl rfl) ?_;refine rw_nilk ?_;refine awp_ifT rfl (dlt hj104) ?_;refine awp_skip (nx_then (awp_seq (awp_block (awp_rs ?_))));refine w2 ?_;refine rw_nilk (awp_block ?_);refine awp_while (fun (s128 : Int) (g129 : Unit) => [(0, dL 1 (eL 1 (eI .i64)) a0), (1, dL 1 (eI .i64) a1), (5, dI .i64 ((j104 : Nat) : Int)), (6, dI .i64 s128)]) (fun (s128 : Int) (g129 : Unit) => []) () (fun _ _ _ h => h) h (gf trivial) ?_;clear h;intro s128 g129 k130 h ih130;refine awp_seq (awp_rs ?_);refine w1 ?_;refine w1 ?_;refine w1 ?_;refine w4 (st_ixDn sl23 rfl rfl hx104) ?_;refine w4 (st_ldD (v := dL 1 (eI .i64) x105) ta34 rfl rfl) ?_;refine w4 (st_lenD rfl un34) ?_;refine w4 (st_bin (v := dB (decide (s128 < ((x105.length : Nat) : Int)))) rfl rfl rfl) ?_;refine rw_nilk ?_;refine awp_ite (b := (decide (s128 < ((x105.length : Nat) : Int)))) rfl (fun p145 => ?_) (fun p145 => ?_)
  ·replace h := ite_T p145 h;refine awp_skip (nx_then (awp_seq (awp_block (awp_rs ?_))));refine w1 ?_;refine w1 ?_;refine w1 ?_;refine w4 (st_ixDn sl23 rfl rfl hx104) ?_;refine w4 (st_ldD (v := dL 1 (eI .i64) x105) ta34 rfl rfl) ?_;refine w1 ?_;obtain ⟨x146, h0146, hx146, h⟩ := getI_some h;refine w4 (st_ixD sl34 rfl rfl h0146 hx146) ?_;refine w4 (st_ldD (v := dI .i64 x146) ta3 rfl rfl) ?_;obtain ⟨y147, hy147, h⟩ := bind_some_elim h;refine rf rfl rfl (ok_skolemref03_Abs hy147) rfl rfl ?_;obtain ⟨y148, hy148, h⟩ := bind_some_elim h;refine rf rfl rfl (ok_skolemref03_Has hy148) rfl rfl ?_;refine w4 (st_un (v := dB (!y148)) rfl rfl) ?_;refine rw_nilk ?_;refine awp_ite (b := (!y148)) rfl (fun p149 => ?_) (fun p149 => ?_)
   ·replace h := ite_T p149 h;refine awp_rs ?_;refine w2 ?_;refine rw_nilk (awp_ret (rt_block (rt_then (rt_then (rt_block (rt_block (rt_then (rt_then (rt_block (rt_then ?_))))))))));injection h with h;subst h;exact ret_out (v := dB false) (resV_one (resVs_tmp rfl resVs_nil)) (.keep rfl)
   ·replace h := ite_F p149 h;refine awp_skip (nx_block (nx_then (awp_rw ?_)));refine w1 ?_;refine w4 (st_bin (v := dI .i64 (IntKind.wrap .i64 (s128 + 1))) rfl rfl rfl) ?_;refine w2 ?_;refine rw_nil (nx_then ?_);refine awp_gh ?_ (ih130 (IntKind.wrap .i64 (s128 + 1)) () h);exact (gf trivial)
  ·replace h := ite_F p145 h;refine awp_exit (ex_out (ex_out (ex_in (nx_block (nx_then (awp_rw ?_))))));refine w1 ?_;refine w4 (st_inc rfl rfl hj104 hl104) ?_;refine w2 ?_;refine rw_nil (nx_then ?_);refine awp_gh ?_ (ih103 () () h);exact (gf trivial)
 ·clear h;intro s101 g102 h;refine awp_seq (awp_rs ?_);refine w1 ?_;refine w1 ?_;refine w4 (st_lenD rfl un23) ?_;refine w4 (st_bin (v := dB (decide (((a0.length : Nat) : Int) < ((a0.length : Nat) : Int)))) rfl rfl rfl) ?_;refine rw_nilk ?_;refine awp_ifF rfl dge ?_;refine awp_exit (ex_out (ex_out (ex_in (nx_then (awp_rs ?_)))));refine w2 ?_;refine rw_nilk (awp_ret ?_);injection h with h;subst h;exact ret_out (v := dB true) (resV_one (resVs_tmp rfl resVs_nil)) (.keep rfl)

theorem ok_skolemref03_single {a0 : (List Int)} {r : Bool} (h : F_skolemref03_single a0 = some r) : Fn Try.prog 54 [dL 1 (eI .i64) a0] (dB r) := by
 unfold F_skolemref03_single at h;refine Fn.of_body (N := 32) (rs := [.tmp 2]) Try.func54 (c := _) rfl rfl rfl (by kernel_rfl) (Nat.le_of_ble_eq_true rfl) (fun _B => ?_);refine awp_rs ?_;refine w2 ?_;refine rw_nilk (awp_seq (awp_rs ?_));refine w2 ?_;refine rw_nilk (awp_block ?_);refine awp_len (t := 0) rfl (fun hl104 => ?_);rw [List.length_map] at hl104;refine awp_range (fun (j104 : Nat) (s101 : Unit) (g102 : Unit) => [(0, dL 1 (eI .i64) a0), (3, dI .i64 ((j104 : Nat) : Int))]) (fun (s101 : Unit) (g102 : Unit) => []) () (fun _ _ _ h => h) h (gf trivial) ?_ ?_
 ·clear h;intro j104 x105 s101 g102 k103 hj104 hx104 h ih103;refine awp_seq (awp_rs ?_);refine w1 ?_;refine w1 ?_;refine w4 (st_lenD rfl un34) ?_;refine w4 (st_bin (v := dB (decide (((j104 : Nat) : Int) < ((a0.length : Nat) : Int)))) rfl rfl rfl) ?_;refine rw_nilk ?_;refine awp_ifT rfl (dlt hj104) ?_;refine awp_skip (nx_then (awp_seq (awp_block ?_)));refine awp_jn (fun (s146 : Bool) (g147 : Unit) => [(0, dL 1 (eI .i64) a0), (3, dI .i64 ((j104 : Nat) : Int)), (31, dB s146)]) (fun (s146 : Bool) (g147 : Unit) => []) h ?_ ?_
  ·clear h;intro s146 g147 h;refine awp_ite (b := s146) rfl (fun p149 => ?_) (fun p149 => ?_)
   ·replace h := ite_T p149 h;refine awp_rs ?_;refine w2 ?_;refine rw_nilk (awp_ret (rt_block (rt_then (rt_then (rt_block (rt_then ?_))))));injection h with h;subst h;exact ret_out (v := dB false) (resV_one (resVs_tmp rfl resVs_nil)) (.keep rfl)
   ·replace h := ite_F p149 h;refine awp_skip (nx_block (nx_then (awp_rw ?_)));refine w1 ?_;refine w4 (st_inc rfl rfl hj104 hl104) ?_;refine w2 ?_;refine rw_nil (nx_then ?_);refine awp_gh ?_ (ih103 () () h);exact (gf trivial)
  ·clear h;intro k148 h J148;refine awp_rd hmix ?_;refine w7 (st_mv rfl) ?_;refine w7 (st_mv rfl) ?_;refine w7 (st_ixDn sl34 rfl rfl hx104) ?_;refine w7 (st_ldD (v := dI .i64 x105) ta3 rfl rfl) ?_;refine w7 (st_bin (v := dB (decide (x105 < 1))) rfl rfl rfl) ?_;refine w7 (st_mv rfl) ?_;refine bool_split (decide (x105 < 1)) (fun p150 => ?_) (fun p150 => ?_)
   ·replace h := ite_T p150 h;rw [p150];refine w5 ?_;refine w5 ?_;refine w5 ?_;refine w5 ?_;refine w5 ?_;refine w7 (st_pickT rfl rfl) ?_;refine w7 (st_mv rfl) ?_;refine w5 ?_;refine w5 ?_;refine w5 ?_;refine w5 ?_;refine w5 ?_;refine w5 ?_;refine w5 ?_;refine w5 ?_;refine w7 (st_pickT rfl rfl) ?_;refine rd_nil (by kernel_rfl) ?_;refine nx_then ?_;exact J148 true () _ _ h (gf trivial)
   ·replace h := ite_F p150 h;rw [p150];refine w7 (st_mv rfl) ?_;refine w7 (st_mv rfl) ?_;refine w7 (st_ixDn sl34 rfl rfl hx104) ?_;refine w7 (st_ldD (v := dI .i64 x105) ta3 rfl rfl) ?_;refine w7 (st_bin (v := dB (decide (x105 > 65536))) rfl rfl rfl) ?_;refine w7 (st_pickF rfl rfl) ?_;refine w7 (st_mv rfl) ?_;refine bool_split (decide (x105 > 65536)) (fun p151 => ?_) (fun p151 => ?_)
    ·replace h := ite_T p151 h;rw [p151];refine w5 ?_;refine w5 ?_;refine w5 ?_;refine w5 ?_;refine w5 ?_;refine w5 ?_;refine w5 ?_;refine w5 ?_;refine w7 (st_pickT rfl rfl) ?_;refine rd_nil (by kernel_rfl) ?_;refine nx_then ?_;exact J148 true () _ _ h (gf trivial)
    ·replace h := ite_F p151 h;rw [p151];refine w7 (st_mv rfl) ?_;refine w7 (st_mv rfl) ?_;obtain ⟨c152, h⟩ := okI_some h;refine w7 (st_slHi sl34 rfl rfl c152.1 c152.2) ?_;refine w7 (st_mv rfl) ?_;refine w7 (st_mv rfl) ?_;refine w7 (st_ixDn sl34 rfl rfl hx104) ?_;refine w7 (st_ldD (v := dI .i64 x105) ta3 rfl rfl) ?_;obtain ⟨y153, hy153, h⟩ := bind_some_elim h;refine df rfl rfl (ok_skolemref03_Has hy153) rfl rfl ?_;refine w7 (st_pickF rfl rfl) ?_;refine rd_nil (by kernel_rfl) ?_;refine nx_then ?_;exact J148 y153 () _ _ h (gf trivial)
 ·clear h;intro s101 g102 h;refine awp_seq (awp_rs ?_);refine w1 ?_;refine w1 ?_;refine w4 (st_lenD rfl un34) ?_;refine w4 (st_bin (v := dB (decide (((a0.length : Nat) : Int) < ((a0.length : Nat) : Int)))) rfl rfl rfl) ?_;refine rw_nilk ?_;refine awp_ifF rfl dge ?_;refine awp_exit (ex_out (ex_out (ex_in (nx_then (awp_rs ?_)))));refine w2 ?_;refine rw_nilk (awp_ret ?_);injection h with h;subst h;exact ret_out (v := dB true) (resV_one (resVs_tmp rfl resVs_nil)) (.keep rfl)

theorem ok_skolemref03_Flat {a0 : (List S_api_Block)} {r : (List Int)} (h : F_skolemref03_Flat a0 = some r) : Fn Try.prog 62 [dL 2 e_S_api_Block a0] (dL 1 (eI .i64) r) := by
 unfold F_skolemref03_Flat at h;refine Fn.of_body (N := 19) (rs := [.tmp 2]) Try.func62 (c := _) rfl rfl rfl (by kernel_rfl) (Nat.le_of_ble_eq_true rfl) (fun _B => ?_);refine awp_rs ?_;refine w2 ?_;refine rw_nilk (awp_rs ?_);refine w2 ?_;refine rw_nilk (awp_seq (awp_rs ?_));refine w2 ?_;refine rw_nilk (awp_block ?_);refine awp_len (t := 0) rfl (fun hl104 => ?_);rw [List.length_map] at hl104;refine awp_range (fun (j104 : Nat) (s101 : (List Int)) (g102 : Nat) => [(0, dL 2 e_S_api_Block a0), (3, .slice 1001 g102 0 s101.length), (4, dI .i64 ((j104 : Nat) : Int))]) (fun (s101 : (List Int)) (g102 : Nat) => [(1001, rw' g102 3 (eI .i64) s101)]) 0 (fun _ _ _ h => h) h (Gh.trans (gh_nil (r := 1001) (E' := [(0, dL 2 e_S_api_Block a0), (3, .slice 1001 0 0 (([] : List Int).length)), (4, dI .i64 0)]) (L' := []) rfl co3 rfl rfl ⟨⟨_, rfl, .keep _⟩, ⟨_, rfl, .nil⟩, ⟨_, rfl, .keep _⟩, trivial⟩ trivial) (gf ⟨⟨_, rfl, objRow (List.map (eI .i64) ([] : List Int))⟩, trivial⟩)) ?_ ?_
 ·clear h;intro j104 x105 s101 g102 k103 hj104 hx104 h ih103;refine awp_seq (awp_rs ?_);refine w1 ?_;refine w1 ?_;refine w4 (st_lenD rfl un22) ?_;refine w4 (st_bin (v := dB (decide (((j104 : Nat) : Int) < ((a0.length : Nat) : Int)))) rfl rfl rfl) ?_;refine rw_nilk ?_;refine awp_ifT rfl (dlt hj104) ?_;refine awp_skip (nx_then (awp_seq (awp_block (awp_rw ?_))));refine w1 ?_;refine w1 ?_;refine w1 ?_;refine w4 (st_ixDn sl22 rfl rfl hx104) ?_;refine w4 (st_faD fo65_1 rfl) ?_;refine w4 (st_ldD (v := dL 1 (eI .i64) x105.Vars) ta34 rfl rfl) ?_;obtain ⟨c109, h⟩ := capN_some h;refine rn (r := 0) (L' := [(1001, rw' (g102 + 2) 3 (eI .i64) (s101 ++ x105.Vars))]) rfl rfl (st_appR (f := (eI .i64)) (xs := s101) (ys := x105.Vars) sl34 zc3 rfl rfl rfl rfl rfl news_dat c109) rfl ?_;refine w2 ?_;refine rw_nil (nx_block (nx_then (awp_rw ?_)));refine w1 ?_;refine w4 (st_inc rfl rfl hj104 hl104) ?_;refine w2 ?_;refine rw_nil (nx_then ?_);refine awp_gh ?_ (ih103 (s101 ++ x105.Vars) (g102 + 2) h);exact (gf ⟨kw, trivial⟩)
 ·clear h;intro s101 g102 h;refine awp_seq (awp_rs ?_);refine w1 ?_;refine w1 ?_;refine w4 (st_lenD rfl un22) ?_;refine w4 (st_bin (v := dB (decide (((a0.length : Nat) : Int) < ((a0.length : Nat) : Int)))) rfl rfl rfl) ?_;refine rw_nilk ?_;refine awp_ifF rfl dge ?_;refine awp_exit (ex_out (ex_out (ex_in (nx_then (awp_rs ?_)))));refine w1 ?_;refine w2 ?_;refine rw_nilk (awp_ret ?_);injection h with h;subst h;exact ret_out (v := .slice 1001 g102 0 s101.length) (resV_one (resVs_tmp rfl resVs_nil)) (frzT rfl rfl co3 rfl)

theorem ok_skolemref03_May {a0 : (List S_api_Block)} {r : Bool} (h : F_skolemref03_May a0 = some r) : Fn Try.prog 61 [dL 2 e_S_api_Block a0] (dB r) := by
 unfold F_skolemref03_May at h;refine Fn.of_body (N := 45) (rs := [.tmp 2]) Try.func61 (c := _) rfl rfl rfl (by kernel_rfl) (Nat.le_of_ble_eq_true rfl) (fun _B => ?_);refine awp_rs ?_;refine w2 ?_;refine rw_nilk (awp_seq (awp_rs ?_));refine w2 ?_;refine rw_nilk (awp_block ?_);refine awp_len (t := 0) rfl (fun hl104 => ?_);rw [List.length_map] at hl104;refine awp_range (fun (j104 : Nat) (s101 : Unit) (g102 : Unit) => [(0, dL 2 e_S_api_Block a0), (3, dI .i64 ((j104 : Nat) : Int))]) (fun (s101 : Unit) (g102 : Unit) => []) () (fun _ _ _ h => h) h (gf trivial) ?_ ?_
 ·clear h;intro j104 x105 s101 g102 k103 hj104 hx104 h ih103;refine awp_seq (awp_rs ?_);refine w1 ?_;refine w1 ?_;refine w4 (st_lenD rfl un22) ?_;refine w4 (st_bin (v := dB (decide (((j104 : Nat) : Int) < ((a0.length : Nat) : Int)))) rfl rfl rfl) ?_;refine rw_nilk ?_;refine awp_ifT rfl (dlt hj104) ?_;refine awp_skip (nx_then (awp_seq (awp_block ?_)));refine awp_jn (fun (s139 : Bool) (g140 : Unit) => [(0, dL 2 e_S_api_Block a0), (3, dI .i64 ((j104 : Nat) : Int)), (35, dB s139)]) (fun (s139 : Bool) (g140 : Unit) => []) h ?_ ?_
  ·clear h;intro s139 g140 h;refine awp_ite (b := s139) rfl (fun p142 => ?_) (fun p142 => ?_)
   ·replace h := ite_T p142 h;refine awp_rs ?_;refine w2 ?_;refine rw_nilk (awp_ret (rt_block (rt_then (rt_then (rt_block (rt_then ?_))))));injection h with h;subst h;exact ret_out (v := dB false) (resV_one (resVs_tmp rfl resVs_nil)) (.keep rfl)
   ·replace h := ite_F p142 h;refine awp_skip (nx_block (nx_then (awp_rw ?_)));refine w1 ?_;refine w4 (st_inc rfl rfl hj104 hl104) ?_;refine w2 ?_;refine rw_nil (nx_then ?_);refine awp_gh ?_ (ih103 () () h);exact (gf trivial)
  ·clear h;intro k141 h J141;refine awp_rd hmix ?_;refine w7 (st_mv rfl) ?_;refine w7 (st_mv rfl) ?_;refine w7 (st_ixDn sl22 rfl rfl hx104) ?_;refine w7 (st_faD fo65_1 rfl) ?_;refine w7 (st_ldD (v := dL 1 (eI .i64) x105.Vars) ta34 rfl rfl) ?_;refine w7 (st_lenD rfl un34) ?_;refine w7 (st_bin (v := dB (((x105.Vars.length : Nat) : Int) == 0)) rfl rfl rfl) ?_;refine w7 (st_mv rfl) ?_;refine bool_split (((x105.Vars.length : Nat) : Int) == 0) (fun p143 => ?_) (fun p143 => ?_)
   ·replace h := ite_T p143 h;rw [p143];refine w5 ?_;refine w5 ?_;refine w5 ?_;refine w5 ?_;refine w5 ?_;refine w5 ?_;refine w5 ?_;refine w5 ?_;refine w5 ?_;refine w5 ?_;refine w5 ?_;refine w5 ?_;refine w5 ?_;refine w5 ?_;refine w5 ?_;refine w5 ?_;refine w7 (st_pickT rfl rfl) ?_;refine rd_nil (by kernel_rfl) ?_;refine nx_then ?_;exact J141 true () _ _ h (gf trivial)
   ·replace h := ite_F p143 h;rw [p143];refine w7 (st_mv rfl) ?_;refine w7 (st_bin (v := dB (decide (((j104 : Nat) : Int) > 0))) rfl rfl rfl) ?_;refine w7 (st_mv rfl) ?_;refine bool_split (decide (((j104 : Nat) : Int) > 0)) (fun p144 => ?_) (fun p144 => ?_)
    ·replace h := ite_T p144 h;rw [p144];refine w7 (st_mv rfl) ?_;refine w7 (st_mv rfl) ?_;refine w7 (st_bin (v := dI .i64 (IntKind.wrap .i64 (((j104 : Nat) : Int) - 1))) rfl rfl rfl) ?_;obtain ⟨x145, h0145, hx145, h⟩ := getI_some h;refine w7 (st_ixD sl22 rfl rfl h0145 hx145) ?_;refine w7 (st_faD fo65_0 rfl) ?_;refine w7 (st_ldD (v := dB x145.Exists) ta4 rfl rfl) ?_;refine w7 (st_mv rfl) ?_;refine w7 (st_mv rfl) ?_;refine w7 (st_ixDn sl22 rfl rfl hx104) ?_;refine w7 (st_faD fo65_0 rfl) ?_;refine w7 (st_ldD (v := dB x105.Exists) ta4 rfl rfl) ?_;refine w7 (st_binB (v := dB (x145.Exists == x105.Exists)) rfl rfl un4 rfl) ?_;refine w7 (st_pickT rfl rfl) ?_;refine w7 (st_pickF rfl rfl) ?_;refine rd_nil (by kernel_rfl) ?_;refine nx_then ?_;exact J141 (x145.Exists == x105.Exists) () _ _ h (gf trivial)
    ·replace h := ite_F p144 h;rw [p144];refine w5 ?_;refine w5 ?_;refine w5 ?_;refine w5 ?_;refine w5 ?_;refine w5 ?_;refine w5 ?_;refine w5 ?_;refine w5 ?_;refine w5 ?_;refine w5 ?_;refine w5 ?_;refine w7 (st_pickF rfl rfl) ?_;refine w7 (st_pickF rfl rfl) ?_;refine rd_nil (by kernel_rfl) ?_;refine nx_then ?_;exact J141 false () _ _ h (gf trivial)
 ·clear h;intro s101 g102 h;refine awp_seq (awp_rs ?_);refine w1 ?_;refine w1 ?_;refine w4 (st_lenD rfl un22) ?_;refine w4 (st_bin (v := dB (decide (((a0.length : Nat) : Int) < ((a0.length : Nat) : Int)))) rfl rfl rfl) ?_;refine rw_nilk ?_;refine awp_ifF rfl dge ?_;refine awp_exit (ex_out (ex_out (ex_in (nx_then (awp_rs ?_)))));refine w1 ?_;obtain ⟨y146, hy146, h⟩ := bind_some_elim h;refine rf rfl rfl (ok_skolemref03_Flat hy146) rfl rfl ?_;refine w2 ?_;refine rw_nilk (awp_rs ?_);refine w1 ?_;refine w4 (st_lenD rfl un34) ?_;refine w4 (st_bin (v := dB (decide (((y146.length : Nat) : Int) ≤ 1024))) rfl rfl rfl) ?_;refine w1 ?_;refine bool_split (decide (((y146.length : Nat) : Int) ≤ 1024)) (fun p149 => ?_) (fun p149 => ?_)
  ·replace h := ite_T p149 h;rw [p149];refine w1 ?_;obtain ⟨y150, hy150, h⟩ := bind_some_elim h;refine rf rfl rfl (ok_skolemref03_single hy150) rfl rfl ?_;refine w4 (st_pickT rfl rfl) ?_;refine w2 ?_;refine rw_nilk (awp_ret ?_);injection h with h;subst h;exact ret_out (v := dB y150) (resV_one (resVs_tmp rfl resVs_nil)) (.keep rfl)
  ·replace h := ite_F p149 h;rw [p149];refine w3 ?_;refine w3 ?_;refine w4 (st_pickF rfl rfl) ?_;refine w2 ?_;refine rw_nilk (awp_ret ?_);injection h with h;subst h;exact ret_out (v := dB false) (resV_one (resVs_tmp rfl resVs_nil)) (.keep rfl)

theorem ok_skolemref03_MayQbf {a0 : S_api_Qbf} {r : Bool} (h : F_skolemref03_MayQbf a0 = some r) : Fn Try.prog 24 [.agg [dL 2 e_S_api_Block a0.Prefix, dL 1 (eL 1 (eI .i64)) a0.Clauses]] (dB r) := by
 unfold F_skolemref03_MayQbf at h;refine Fn.of_body (N := 19) (rs := [.tmp 2]) Try.func24 (c := _) rfl rfl rfl (by kernel_rfl) (Nat.le_of_ble_eq_true rfl) (fun _B => ?_);refine awp_rs ?_;refine w8 (r := 1001) (st_box rfl rfl rfl co25 rfl rfl) ?_;refine w2 ?_;refine rw_nilk ?_;refine awp_rds hmix ?_;refine w7 (st_faP fo25_0 rfl) ?_;refine w7 (st_ldP (v := dL 2 e_S_api_Block a0.Prefix) ta22 rfl rfl rfl rfl) ?_;obtain ⟨y107, hy107, h⟩ := bind_some_elim h;refine df rfl rfl (ok_skolemref03_May hy107) rfl rfl ?_;refine w7 (st_mv rfl) ?_;refine bool_split y107 (fun p108 => ?_) (fun p108 => ?_)
 ·replace h := ite_T p108 h;rw [p108];refine w7 (st_faP fo25_1 rfl) ?_;refine w7 (st_ldP (v := dL 1 (eL 1 (eI .i64)) a0.Clauses) ta23 rfl rfl rfl rfl) ?_;obtain ⟨y109, hy109, h⟩ := bind_some_elim h;refine df rfl rfl (ok_skolemref03_Cnf hy109) rfl rfl ?_;refine w7 (st_pickT rfl rfl) ?_;refine w7 (st_mv rfl) ?_;refine bool_split y109 (fun p110 => ?_) (fun p110 => ?_)
  ·replace h := ite_T p110 h;rw [p110];refine w7 (st_faP fo25_1 rfl) ?_;refine w7 (st_ldP (v := dL 1 (eL 1 (eI .i64)) a0.Clauses) ta23 rfl rfl rfl rfl) ?_;refine w7 (st_faP fo25_0 rfl) ?_;refine w7 (st_ldP (v := dL 2 e_S_api_Block a0.Prefix) ta22 rfl rfl rfl rfl) ?_;obtain ⟨y111, hy111, h⟩ := bind_some_elim h;refine df rfl rfl (ok_skolemref03_Flat hy111) rfl rfl ?_;obtain ⟨y112, hy112, h⟩ := bind_some_elim h;refine df rfl rfl (ok_skolemref03_within hy112) rfl rfl ?_;refine w7 (st_pickT rfl rfl) ?_;refine w7 (st_as rfl) ?_;refine rd_nil (by kernel_rfl) ?_;refine awp_ret ?_;injection h with h;subst h;exact ret_out (v := dB y112) (resV_one (resVs_tmp rfl resVs_nil)) (.keep rfl)
  ·replace h := ite_F p110 h;rw [p110];refine w5 ?_;refine w5 ?_;refine w5 ?_;refine w5 ?_;refine w5 ?_;refine w5 ?_;refine w7 (st_pickF rfl rfl) ?_;refine w7 (st_as rfl) ?_;refine rd_nil (by kernel_rfl) ?_;refine awp_ret ?_;injection h with h;subst h;exact ret_out (v := dB false) (resV_one (resVs_tmp rfl resVs_nil)) (.keep rfl)
 ·replace h := ite_F p108 h;rw [p108];refine w5 ?_;refine w5 ?_;refine w5 ?_;refine w7 (st_pickF rfl rfl) ?_;refine w7 (st_mv rfl) ?_;refine w5 ?_;refine w5 ?_;refine w5 ?_;refine w5 ?_;refine w5 ?_;refine w5 ?_;refine w7 (st_pickF rfl rfl) ?_;refine w7 (st_as rfl) ?_;refine rd_nil (by kernel_rfl) ?_;refine awp_ret ?_;injection h with h;subst h;exact ret_out (v := dB false) (resV_one (resVs_tmp rfl resVs_nil)) (.keep rfl)

theorem ok_skolemref03_Put {a0 : (List Int)} {a1 : Int} {r : (List Int)} (h : F_skolemref03_Put a0 a1 = some r) : Fn Try.prog 22 [dL 1 (eI .i64) a0, dI .i64 a1] (dL 1 (eI .i64) r) := by
 unfold F_skolemref03_Put at h;refine Fn.of_body (N := 49) (rs := [.tmp 4]) Try.func22 (c := _) rfl rfl rfl (by kernel_rfl) (Nat.le_of_ble_eq_true rfl) (fun _B => ?_);refine awp_rs ?_;refine w2 ?_;refine rw_nilk (awp_rs ?_);refine w2 ?_;refine rw_nilk (awp_rs ?_);refine w2 ?_;refine rw_nilk (awp_seq (awp_rs ?_));refine w2 ?_;refine rw_nilk (awp_block ?_);refine awp_len (t := 0) rfl (fun hl104 => ?_);rw [List.length_map] at hl104;refine awp_range (fun (j104 : Nat) (s101 : (Bool × (List Int))) (g102 : Nat) => [(0, dL 1 (eI .i64) a0), (1, dI .i64 a1), (5, .slice 1002 g102 0 s101.2.length), (6, dB s101.1), (7, dI .i64 ((j104 : Nat) : Int))]) (fun (s101 : (Bool × (List Int))) (g102 : Nat) => [(1002, rw' g102 3 (eI .i64) s101.2)]) 0 (fun _ _ _ h => h) h (Gh.trans (gh_nil (r := 1002) (E' := [(0, dL 1 (eI .i64) a0), (1, dI .i64 a1), (5, .slice 1002 0 0 (([] : List Int).length)), (6, dB false), (7, dI .i64 0)]) (L' := []) rfl co3 rfl rfl ⟨⟨_, rfl, .keep _⟩, ⟨_, rfl, .keep _⟩, ⟨_, rfl, .nil⟩, ⟨_, rfl, .keep _⟩, ⟨_, rfl, .keep _⟩, trivial⟩ trivial) (gf ⟨⟨_, rfl, objRow (List.map (eI .i64) ([] : List Int))⟩, trivial⟩)) ?_ ?_
 ·clear h;intro j104 x105 s101 g102 k103 hj104 hx104 h ih103;refine awp_seq (awp_rs ?_);refine w1 ?_;refine w1 ?_;refine w4 (st_lenD rfl un34) ?_;refine w4 (st_bin (v := dB (decide (((j104 : Nat) : Int) < ((a0.length : Nat) : Int)))) rfl rfl rfl) ?_;refine rw_nilk ?_;refine awp_ifT rfl (dlt hj104) ?_;refine awp_skip (nx_then (awp_seq (awp_block (awp_seq (awp_rs ?_)))));refine w1 ?_;refine w1 ?_;refine w4 (st_ixDn sl34 rfl rfl hx104) ?_;refine w4 (st_ldD (v := dI .i64 x105) ta3 rfl rfl) ?_;refine w1 ?_;refine w4 (st_bin (v := dB (x105 == a1)) rfl rfl rfl) ?_;refine rw_nilk ?_;refine awp_ite (b := (x105 == a1)) rfl (fun p199 => ?_) (fun p199 => ?_)
  ·replace h := ite_T p199 h;refine awp_rs ?_;refine w1 ?_;refine w2 ?_;refine rw_nilk (awp_ret (rt_then (rt_block (rt_then (rt_then (rt_block (rt_then ?_)))))));injection h with h;subst h;exact ret_out (v := dL 1 (eI .i64) a0) (resV_one (resVs_tmp rfl resVs_nil)) (.keep rfl)
  ·replace h := ite_F p199 h;refine awp_skip (nx_then ?_);refine awp_jn (fun (s207 : (Bool × (List Int))) (g208 : Nat) => [(0, dL 1 (eI .i64) a0), (1, dI .i64 a1), (5, .slice 1002 g208 0 s207.2.length), (6, dB s207.1), (7, dI .i64 ((j104 : Nat) : Int))]) (fun (s207 : (Bool × (List Int))) (g208 : Nat) => [(1002, rw' g208 3 (eI .i64) s207.2)]) h ?_ ?_
   ·clear h;intro s207 g208 h;refine awp_rw ?_;refine w1 ?_;refine w1 ?_;refine w1 ?_;refine w4 (st_ixDn sl34 rfl rfl hx104) ?_;refine w4 (st_ldD (v := dI .i64 x105) ta3 rfl rfl) ?_;refine w8 (r := 1004) (st_bsl (els := [[dI .i64 x105]]) sl34 zc3 rfl rfl rfl rfl rfl) ?_;obtain ⟨c210, h⟩ := capN_some h;refine rn (r := 0) (L' := [(1002, rw' (g208 + 2) 3 (eI .i64) (s207.2 ++ [x105])), (1004, .row 1 3 [[dI .i64 x105]])]) rfl rfl (st_appR (f := (eI .i64)) (xs := s207.2) (ys := [x105]) sl34 zc3 rfl rfl rfl rfl rfl (news_one (a := x105) rfl rfl) c210) rfl ?_;refine w2 ?_;refine rw_nil (nx_block (nx_then (awp_rw ?_)));refine w1 ?_;refine w4 (st_inc rfl rfl hj104 hl104) ?_;refine w2 ?_;refine rw_nil (nx_then ?_);refine awp_gh ?_ (ih103 (s207.1, (s207.2 ++ [x105])) (g208 + 2) h);exact (gf ⟨kw, trivial⟩)
   ·clear h;intro k209 h J209;refine awp_jn (fun (s212 : Bool) (g213 : Unit) => [(0, dL 1 (eI .i64) a0), (1, dI .i64 a1), (5, .slice 1002 g102 0 s101.2.length), (6, dB s101.1), (7, dI .i64 ((j104 : Nat) : Int)), (30, dB s212)]) (fun (s212 : Bool) (g213 : Unit) => [(1002, rw' g102 3 (eI .i64) s101.2)]) h ?_ ?_
    ·clear h;intro s212 g213 h;refine awp_ite (b := s212) rfl (fun p215 => ?_) (fun p215 => ?_)
     ·replace h := ite_T p215 h;refine awp_rs ?_;refine w1 ?_;refine w1 ?_;refine w8 (r := 1003) (st_bsl (els := [[dI .i64 a1]]) sl34 zc3 rfl rfl rfl rfl rfl) ?_;obtain ⟨c216, h⟩ := capN_some h;refine rn (r := 0) (L' := [(1002, rw' (g102 + 2) 3 (eI .i64) (s101.2 ++ [a1])), (1003, .row 1 3 [[dI .i64 a1]])]) rfl rfl (st_appR (f := (eI .i64)) (xs := s101.2) (ys := [a1]) sl34 zc3 rfl rfl rfl rfl rfl (news_one (a := a1) rfl rfl) c216) rfl ?_;refine w2 ?_;refine rw_nilk (awp_rw ?_);refine w2 ?_;refine rw_nil (nx_then ?_);exact J209 (true, (s101.2 ++ [a1])) (g102 + 2) _ _ h (gf ⟨kw, trivial⟩)
     ·replace h := ite_F p215 h;refine awp_skip (nx_then ?_);exact J209 (s101.1, s101.2) g102 _ _ h (gf ⟨kw, trivial⟩)
    ·clear h;intro k214 h J214;refine awp_rw ?_;refine w1 ?_;refine w4 (st_un (v := dB (!s101.1)) rfl rfl) ?_;refine w1 ?_;refine bool_split (!s101.1) (fun p217 => ?_) (fun p217 => ?_)
     ·replace h := ite_T p217 h;rw [p217];refine w1 ?_;refine w1 ?_;refine w4 (st_ixDn sl34 rfl rfl hx104) ?_;refine w4 (st_ldD (v := dI .i64 x105) ta3 rfl rfl) ?_;refine w1 ?_;refine w4 (st_bin (v := dB (decide (x105 > a1))) rfl rfl rfl) ?_;refine w4 (st_pickT rfl rfl) ?_;refine rw_nil (nx_then ?_);exact J214 (decide (x105 > a1)) () _ _ h (gf ⟨kw, trivial⟩)
     ·replace h := ite_F p217 h;rw [p217];refine w3 ?_;refine w3 ?_;refine w3 ?_;refine w3 ?_;refine w3 ?_;refine w3 ?_;refine w4 (st_pickF rfl rfl) ?_;refine rw_nil (nx_then ?_);exact J214 false () _ _ h (gf ⟨kw, trivial⟩)
 ·clear h;intro s101 g102 h;refine awp_seq (awp_rs ?_);refine w1 ?_;refine w1 ?_;refine w4 (st_lenD rfl un34) ?_;refine w4 (st_bin (v := dB (decide (((a0.length : Nat) : Int) < ((a0.length : Nat) : Int)))) rfl rfl rfl) ?_;refine rw_nilk ?_;refine awp_ifF rfl dge ?_;refine awp_exit (ex_out (ex_out (ex_in (nx_then (awp_seq (awp_rs ?_))))));refine w1 ?_;refine w4 (st_un (v := dB (!s101.1)) rfl rfl) ?_;refine rw_nilk ?_;refine awp_ite (b := (!s101.1)) rfl (fun p220 => ?_) (fun p220 => ?_)
  ·replace h := ite_T p220 h;refine awp_rw ?_;refine w1 ?_;refine w1 ?_;refine w8 (r := 1005) (st_bsl (els := [[dI .i64 a1]]) sl34 zc3 rfl rfl rfl rfl rfl) ?_;obtain ⟨c221, h⟩ := capN_some h;refine rn (r := 0) (L' := [(1002, rw' (g102 + 2) 3 (eI .i64) (s101.2 ++ [a1])), (1005, .row 1 3 [[dI .i64 a1]])]) rfl rfl (st_appR (f := (eI .i64)) (xs := s101.2) (ys := [a1]) sl34 zc3 rfl rfl rfl rfl rfl (news_one (a := a1) rfl rfl) c221) rfl ?_;refine w2 ?_;refine rw_nil (nx_then (awp_rs ?_));refine w1 ?_;refine w2 ?_;refine rw_nilk (awp_ret ?_);injection h with h;subst h;exact ret_out (v := .slice 1002 (g102 + 2) 0 ((s101.2 ++ [a1]).length)) (resV_one (resVs_tmp rfl resVs_nil)) (frzT rfl rfl co3 rfl)
  ·replace h := ite_F p220 h;refine awp_skip (nx_then (awp_rs ?_));refine w1 ?_;refine w2 ?_;refine rw_nilk (awp_ret ?_);injection h with h;subst h;exact ret_out (v := .slice 1002 g102 0 s101.2.length) (resV_one (resVs_tmp rfl resVs_nil)) (frzT rfl rfl co3 rfl)

theorem ok_skolemref03_Vars {a0 : (List S_api_Block)} {r : (List Int)} (h : F_skolemref03_Vars a0 = some r) : Fn Try.prog 63 [dL 2 e_S_api_Block a0] (dL 1 (eI .i64) r) := by
 unfold F_skolemref03_Vars at h;refine Fn.of_body (N := 21) (rs := [.tmp 2]) Try.func63 (c := _) rfl rfl rfl (by kernel_rfl) (Nat.le_of_ble_eq_true rfl) (fun _B => ?_);refine awp_rs ?_;refine w2 ?_;refine rw_nilk (awp_rs ?_);refine w2 ?_;refine rw_nilk (awp_rs ?_);refine w1 ?_;obtain ⟨y101, hy101, h⟩ := bind_some_elim h;refine rf rfl rfl (ok_skolemref03_Flat hy101) rfl rfl ?_;refine w2 ?_;refine rw_nilk (awp_seq (awp_rs ?_));refine w2 ?_;refine rw_nilk (awp_block ?_);refine awp_len (t := 4) rfl (fun hl105 => ?_);rw [List.length_map] at hl105;refine awp_range (fun (j105 : Nat) (s102 : (List Int)) (g103 : Unit) => [(3, dL 1 (eI .i64) s102), (4, dL 1 (eI .i64) y101), (5, dI .i64 ((j105 : Nat) : Int))]) (fun (s102 : (List Int)) (g103 : Unit) => []) () (fun _ _ _ h => h) h (Gh.trans (gh_frz (E' := [(3, dL 1 (eI .i64) ([] : List Int)), (4, dL 1 (eI .i64) y101), (5, dI .i64 0)]) (L' := []) rfl rfl ⟨⟨_, rfl, .nilS _⟩, kp, kp, trivial⟩ trivial) (gf trivial)) ?_ ?_
 ·clear h;intro j105 x106 s102 g103 k104 hj105 hx105 h ih104;refine awp_seq (awp_rs ?_);refine w1 ?_;refine w1 ?_;refine w4 (st_lenD rfl un34) ?_;refine w4 (st_bin (v := dB (decide (((j105 : Nat) : Int) < ((y101.length : Nat) : Int)))) rfl rfl rfl) ?_;refine rw_nilk ?_;refine awp_ifT rfl (dlt hj105) ?_;refine awp_skip (nx_then (awp_seq (awp_block (awp_rw ?_))));refine w1 ?_;refine w1 ?_;refine w1 ?_;refine w4 (st_ixDn sl34 rfl rfl hx105) ?_;refine w4 (st_ldD (v := dI .i64 x106) ta3 rfl rfl) ?_;obtain ⟨y110, hy110, h⟩ := bind_some_elim h;refine rf rfl rfl (ok_skolemref03_Put hy110) rfl rfl ?_;refine w2 ?_;refine rw_nil (nx_block (nx_then (awp_rw ?_)));refine w1 ?_;refine w4 (st_inc rfl rfl hj105 hl105) ?_;refine w2 ?_;refine rw_nil (nx_then ?_);refine awp_gh ?_ (ih104 y110 () h);exact (gf trivial)
 ·clear h;intro s102 g103 h;refine awp_seq (awp_rs ?_);refine w1 ?_;refine w1 ?_;refine w4 (st_lenD rfl un34) ?_;refine w4 (st_bin (v := dB (decide (((y101.length : Nat) : Int) < ((y101.length : Nat) : Int)))) rfl rfl rfl) ?_;refine rw_nilk ?_;refine awp_ifF rfl dge ?_;refine awp_exit (ex_out (ex_out (ex_in (nx_then (awp_rs ?_)))));refine w1 ?_;refine w2 ?_;refine rw_nilk (awp_ret ?_);injection h with h;subst h;exact ret_out (v := dL 1 (eI .i64) s102) (resV_one (resVs_tmp rfl resVs_nil)) (.keep rfl)

theorem ok_skolemref03_Find {a0 : (List S_api_Block)} {a1 : Int} {r : (Int × Bool × Bool)} (h : F_skolemref03_Find a0 a1 = some r) : Fn Try.prog 64 [dL 2 e_S_api_Block a0, dI .i64 a1] (.tup [dI .i64 r.1, dB r.2.1, dB r.2.2]) := by
 unfold F_skolemref03_Find at h;refine Fn.of_body (N := 27) (rs := [.tmp 4, .tmp 5, .tmp 6]) Try.func64 (c := _) rfl rfl rfl (by kernel_rfl) (Nat.le_of_ble_eq_true rfl) (fun _B => ?_);refine awp_rs ?_;refine w2 ?_;refine w2 ?_;refine w2 ?_;refine rw_nilk (awp_seq (awp_rs ?_));refine w2 ?_;refine rw_nilk (awp_block ?_);refine awp_len (t := 0) rfl (fun hl104 => ?_);rw [List.length_map] at hl104;refine awp_range (fun (j104 : Nat) (s101 : Unit) (g102 : Unit) => [(0, dL 2 e_S_api_Block a0), (1, dI .i64 a1), (7, dI .i64 ((j104 : Nat) : Int))]) (fun (s101 : Unit) (g102 : Unit) => []) () (fun _ _ _ h => h) h (gf trivial) ?_ ?_
 ·clear h;intro j104 x105 s101 g102 k103 hj104 hx104 h ih103;refine awp_seq (awp_rs ?_);refine w1 ?_;refine w1 ?_;refine w4 (st_lenD rfl un22) ?_;refine w4 (st_bin (v := dB (decide (((j104 : Nat) : Int) < ((a0.length : Nat) : Int)))) rfl rfl rfl) ?_;refine rw_nilk ?_;refine awp_ifT rfl (dlt hj104) ?_;refine awp_skip (nx_then (awp_seq (awp_block (awp_rs ?_))));refine w1 ?_;refine w1 ?_;refine w4 (st_ixDn sl22 rfl rfl hx104) ?_;refine w4 (st_faD fo65_1 rfl) ?_;refine w4 (st_ldD (v := dL 1 (eI .i64) x105.Vars) ta34 rfl rfl) ?_;refine w1 ?_;obtain ⟨y108, hy108, h⟩ := bind_some_elim h;refine rf rfl rfl (ok_skolemref03_Has hy108) rfl rfl ?_;refine rw_nilk ?_;refine awp_ite (b := y108) rfl (fun p109 => ?_) (fun p109 => ?_)
  ·replace h := ite_T p109 h;refine awp_rds hmix ?_;refine w7 (st_mv rfl) ?_;refine w7 (st_mv rfl) ?_;refine w7 (st_mv rfl) ?_;refine w7 (st_ixDn sl22 rfl rfl hx104) ?_;refine w7 (st_faD fo65_0 rfl) ?_;refine w7 (st_ldD (v := dB x105.Exists) ta4 rfl rfl) ?_;refine w7 (st_as rfl) ?_;refine w7 (st_as rfl) ?_;refine w7 (st_as rfl) ?_;refine rd_nil (by kernel_rfl) ?_;refine awp_ret (rt_block (rt_then (rt_then (rt_block (rt_then ?_)))));injection h with h;subst h;exact ret_out (v := .tup [dI .i64 ((j104 : Nat) : Int), dB x105.Exists, dB true]) (resV_many (resVs_tmp rfl (resVs_tmp rfl (resVs_tmp rfl resVs_nil)))) (.keep rfl)
  ·replace h := ite_F p109 h;refine awp_skip (nx_block (nx_then (awp_rw ?_)));refine w1 ?_;refine w4 (st_inc rfl rfl hj104 hl104) ?_;refine w2 ?_;refine rw_nil (nx_then ?_);refine awp_gh ?_ (ih103 () () h);exact (gf trivial)
 ·clear h;intro s101 g102 h;refine awp_seq (awp_rs ?_);refine w1 ?_;refine w1 ?_;refine w4 (st_lenD rfl un22) ?_;refine w4 (st_bin (v := dB (decide (((a0.length : Nat) : Int) < ((a0.length : Nat) : Int)))) rfl rfl rfl) ?_;refine rw_nilk ?_;refine awp_ifF rfl dge ?_;refine awp_exit (ex_out (ex_out (ex_in (nx_then (awp_rs ?_)))));refine w2 ?_;refine w2 ?_;refine w2 ?_;refine rw_nilk (awp_ret ?_);injection h with h;subst h;exact ret_out (v := .tup [dI .i64 0, dB false, dB false]) (resV_many (resVs_tmp rfl (resVs_tmp rfl (resVs_tmp rfl resVs_nil)))) (.keep rfl)

theorem ok_skolemref03_On {a0 : (List S_api_Block)} {a1 : Int} {r : ((List Int) × Int)} (h : F_skolemref03_On a0 a1 = some r) : Fn Try.prog 65 [dL 2 e_S_api_Block a0, dI .i64 a1] (.tup [dL 1 (eI .i64) r.1, dI .i64 r.2]) := by
 unfold F_skolemref03_On at h;refine Fn.of_body (N := 59) (rs := [.tmp 4, .tmp 5]) Try.func65 (c := _) rfl rfl rfl (by kernel_rfl) (Nat.le_of_ble_eq_true rfl) (fun _B => ?_);refine awp_rs ?_;refine w2 ?_;refine w2 ?_;refine rw_nilk (awp_seq (awp_rs ?_));refine w1 ?_;obtain ⟨y101, hy101, h⟩ := bind_some_elim h;refine rf rfl rfl (ok_skolemref03_May hy101) rfl rfl ?_;refine w4 (st_un (v := dB (!y101)) rfl rfl) ?_;refine rw_nilk ?_;refine awp_ite (b := (!y101)) rfl (fun p102 => ?_) (fun p102 => ?_)
 ·replace h := ite_T p102 h;refine awp_rs ?_;refine w2 ?_;refine w2 ?_;refine rw_nilk (awp_ret (rt_then ?_));injection h with h;subst h;exact ret_out (v := .tup [.nilS, dI .i64 2]) (resV_many (resVs_tmp rfl (resVs_tmp rfl resVs_nil))) (frz_tup ⟨(.nilS _), (.keep rfl), trivial⟩)
 ·replace h := ite_F p102 h;refine awp_skip (nx_then (awp_rs ?_));refine w1 ?_;refine w1 ?_;obtain ⟨y103, hy103, h⟩ := bind_some_elim h;refine rf rfl rfl (ok_skolemref03_Find hy103) rfl rfl ?_;refine w1 ?_;refine w4 (st_ext rfl rfl) ?_;refine w4 (st_ext rfl rfl) ?_;refine w4 (st_ext rfl rfl) ?_;refine w2 ?_;refine w2 ?_;refine w2 ?_;refine rw_nilk (awp_seq (awp_rs ?_));refine w1 ?_;refine w4 (st_un (v := dB (!y103.2.2)) rfl rfl) ?_;refine rw_nilk ?_;refine awp_ite (b := (!y103.2.2)) rfl (fun p104 => ?_) (fun p104 => ?_)
  ·replace h := ite_T p104 h;refine awp_rs ?_;refine w2 ?_;refine w2 ?_;refine rw_nilk (awp_ret (rt_then ?_));injection h with h;subst h;exact ret_out (v := .tup [.nilS, dI .i64 6]) (resV_many (resVs_tmp rfl (resVs_tmp rfl resVs_nil))) (frz_tup ⟨(.nilS _), (.keep rfl), trivial⟩)
  ·replace h := ite_F p104 h;refine awp_skip (nx_then (awp_rs ?_));refine w2 ?_;refine rw_nilk (awp_seq (awp_rs ?_));refine w2 ?_;refine rw_nilk (awp_block ?_);obtain ⟨hl108, h⟩ := okI_some h;refine awp_up (fun (j108 : Int) (s105 : (List Int)) (g106 : Unit) => [(0, dL 2 e_S_api_Block a0), (6, dI .i64 y103.1), (7, dB y103.2.1), (9, dL 1 (eI .i64) s105), (10, dI .i64 j108)]) (fun (s105 : (List Int)) (g106 : Unit) => []) () (fun _ _ _ h => h) h (Gh.trans (gh_frz (E' := [(0, dL 2 e_S_api_Block a0), (6, dI .i64 y103.1), (7, dB y103.2.1), (9, dL 1 (eI .i64) ([] : List Int)), (10, dI .i64 0)]) (L' := []) rfl rfl ⟨kp, kp, kp, ⟨_, rfl, .nilS _⟩, kp, trivial⟩ trivial) (gf trivial)) ?_ ?_
   ·clear h;intro j108 s105 g106 k107 hj108 hx108 h ih107;refine awp_seq (awp_rs ?_);refine w1 ?_;refine w1 ?_;refine w4 (st_bin (v := dB (decide (j108 < y103.1))) rfl rfl rfl) ?_;refine rw_nilk ?_;refine awp_ifT rfl (dltI (upT hj108 hx108)) ?_;refine awp_skip (nx_then (awp_seq (awp_block (awp_rs ?_))));refine w2 ?_;refine rw_nilk (awp_block ?_);refine awp_while (fun (s315 : ((List Int) × Int)) (g316 : Unit) => [(0, dL 2 e_S_api_Block a0), (6, dI .i64 y103.1), (7, dB y103.2.1), (9, dL 1 (eI .i64) s315.1), (10, dI .i64 j108), (11, dI .i64 s315.2)]) (fun (s315 : ((List Int) × Int)) (g316 : Unit) => []) () (fun _ _ _ h => h) h (gf trivial) ?_;clear h;intro s315 g316 k317 h ih317;refine awp_seq ?_;refine awp_jn (fun (s368 : Bool) (g369 : Unit) => [(0, dL 2 e_S_api_Block a0), (6, dI .i64 y103.1), (7, dB y103.2.1), (9, dL 1 (eI .i64) s315.1), (10, dI .i64 j108), (11, dI .i64 s315.2), (45, dB s368)]) (fun (s368 : Bool) (g369 : Unit) => []) h ?_ ?_
    ·clear h;intro s368 g369 h;refine awp_ite (b := s368) rfl (fun p371 => ?_) (fun p371 => ?_)
     ·replace h := ite_T p371 h;refine awp_skip (nx_then (awp_seq (awp_block (awp_rw ?_))));refine w1 ?_;refine w1 ?_;refine w1 ?_;obtain ⟨x372, h0372, hx372, h⟩ := getI_some h;refine w4 (st_ixD sl22 rfl rfl h0372 hx372) ?_;refine w4 (st_faD fo65_1 rfl) ?_;refine w4 (st_ldD (v := dL 1 (eI .i64) x372.Vars) ta34 rfl rfl) ?_;refine w1 ?_;obtain ⟨x373, h0373, hx373, h⟩ := getI_some h;refine w4 (st_ixD sl34 rfl rfl h0373 hx373) ?_;refine w4 (st_ldD (v := dI .i64 x373) ta3 rfl rfl) ?_;obtain ⟨y374, hy374, h⟩ := bind_some_elim h;refine rf rfl rfl (ok_skolemref03_Put hy374) rfl rfl ?_;refine w2 ?_;refine rw_nil (nx_block (nx_then (awp_rw ?_)));refine w1 ?_;refine w4 (st_bin (v := dI .i64 (IntKind.wrap .i64 (s315.2 + 1))) rfl rfl rfl) ?_;refine w2 ?_;refine rw_nil (nx_then ?_);refine awp_gh ?_ (ih317 (y374, (IntKind.wrap .i64 (s315.2 + 1))) () h);exact (gf trivial)
     ·replace h := ite_F p371 h;refine awp_exit (ex_out (ex_out (ex_in (nx_block (nx_then (awp_rw ?_))))));refine w1 ?_;refine w4 (st_incU rfl rfl hl108 hj108 hx108) ?_;refine w2 ?_;refine rw_nil (nx_then ?_);refine awp_gh ?_ (ih107 s315.1 () h);exact (gf trivial)
    ·clear h;intro k370 h J370;refine awp_rw ?_;refine w1 ?_;refine w1 ?_;refine w1 ?_;obtain ⟨x375, h0375, hx375, h⟩ := getI_some h;refine w4 (st_ixD sl22 rfl rfl h0375 hx375) ?_;refine w4 (st_faD fo65_1 rfl) ?_;refine w4 (st_ldD (v := dL 1 (eI .i64) x375.Vars) ta34 rfl rfl) ?_;refine w4 (st_lenD rfl un34) ?_;refine w4 (st_bin (v := dB (decide (s315.2 < ((x375.Vars.length : Nat) : Int)))) rfl rfl rfl) ?_;refine w1 ?_;refine bool_split (decide (s315.2 < ((x375.Vars.length : Nat) : Int))) (fun p376 => ?_) (fun p376 => ?_)
     ·replace h := ite_T p376 h;rw [p376];refine w1 ?_;refine w1 ?_;refine w4 (st_ixD sl22 rfl rfl h0375 hx375) ?_;refine w4 (st_faD fo65_0 rfl) ?_;refine w4 (st_ldD (v := dB x375.Exists) ta4 rfl rfl) ?_;refine w1 ?_;refine w4 (st_binB (v := dB (!(x375.Exists == y103.2.1))) rfl rfl un4 rfl) ?_;refine w4 (st_pickT rfl rfl) ?_;refine rw_nil (nx_then ?_);exact J370 (!(x375.Exists == y103.2.1)) () _ _ h (gf trivial)
     ·replace h := ite_F p376 h;rw [p376];refine w3 ?_;refine w3 ?_;refine w3 ?_;refine w3 ?_;refine w3 ?_;refine w3 ?_;refine w3 ?_;refine w4 (st_pickF rfl rfl) ?_;refine rw_nil (nx_then ?_);exact J370 false () _ _ h (gf trivial)
   ·clear h;intro s105 g106 h;refine awp_seq (awp_rs ?_);refine w1 ?_;refine w1 ?_;refine w4 (st_bin (v := dB (decide ((0 + (((y103.1 - 0).toNat : Nat) : Int)) < y103.1))) rfl rfl rfl) ?_;refine rw_nilk ?_;refine awp_ifF rfl (dgeI upD) ?_;refine awp_exit (ex_out (ex_out (ex_in (nx_then (awp_rs ?_)))));refine w1 ?_;refine w2 ?_;refine w2 ?_;refine rw_nilk (awp_ret ?_);injection h with h;subst h;exact ret_out (v := .tup [dL 1 (eI .i64) s105, dI .i64 0]) (resV_many (resVs_tmp rfl (resVs_tmp rfl resVs_nil))) (.keep rfl)

abbrev Z25_0 (a0 : S_api_Qbf) : Nat × AObj := (1001, .row 0 25 [[dL 2 e_S_api_Block a0.Prefix, dL 1 (eL 1 (eI .i64)) a0.Clauses]])
abbrev Z25_1 : Nat × AObj := (1002, .row 0 37 [[.nilS, .nilS, .nilS]])
abbrev Z25_2 (a0 : S_api_Qbf) (g105 : (Nat × Nat)) (s104 : ((List Int) × (List S_api_Dep))) : Nat × AObj := (1003, .row 0 37 [[.slice 1007 g105.1 0 s104.1.length, .slice 1009 g105.2 0 s104.2.length, dL 1 (eL 1 (eI .i64)) a0.Clauses]])

theorem ok_skolemref03_Dqbf {a0 : S_api_Qbf} {r : (S_api_Dqbf × Int)} (h : F_skolemref03_Dqbf a0 = some r) : Fn Try.prog 25 [.agg [dL 2 e_S_api_Block a0.Prefix, dL 1 (eL 1 (eI .i64)) a0.Clauses]] (.tup [.agg [dL 1 (eI .i64) r.1.Univ, dL 2 e_S_api_Dep r.1.Exist, dL 1 (eL 1 (eI .i64)) r.1.Clauses], dI .i64 r.2]) := by
 unfold F_skolemref03_Dqbf at h;refine Fn.of_body (N := 71) (rs := [.cell 2 37, .tmp 3]) Try.func25 (c := _) rfl rfl rfl (by kernel_rfl) (Nat.le_of_ble_eq_true rfl) (fun _B => ?_);refine awp_rs ?_;refine w8 (r := 1001) (st_box rfl rfl rfl co25 rfl rfl) ?_;refine w8 (r := 1002) (st_alloc zc37 rfl rfl) ?_;refine w2 ?_;refine rw_nilk (awp_seq (awp_rs ?_));refine w4 (st_ldP (v := .agg [dL 2 e_S_api_Block a0.Prefix, dL 1 (eL 1 (eI .i64)) a0.Clauses]) ta25 rfl rfl rfl rfl) ?_;obtain ⟨y101, hy101, h⟩ := bind_some_elim h;refine rf rfl rfl (ok_skolemref03_MayQbf hy101) rfl rfl ?_;refine w4 (st_un (v := dB (!y101)) rfl rfl) ?_;refine rw_nilk ?_;refine awp_ite (b := (!y101)) rfl (fun p102 => ?_) (fun p102 => ?_)
 ·replace h := ite_T p102 h;refine awp_rs ?_;refine w4 (st_build (vs := [.nilS, .nilS, .nilS]) bl37 rfl rfl) ?_;refine w9 (L' := [Z25_0 a0, Z25_1]) (st_stP ta37 rfl rfl rfl rfl rfl rfl rfl rfl) ?_;refine w2 ?_;refine rw_nilk (awp_ret (rt_then ?_));injection h with h;subst h;exact ret_out (v := .tup [.agg [.nilS, .nilS, .nilS], dI .i64 2]) (resV_many (resVs_cell (v := .agg [.nilS, .nilS, .nilS]) ta37 rfl rfl rfl rfl (resVs_tmp rfl resVs_nil))) (frz_tup ⟨(frz_agg ⟨(.nilS _), (.nilS _), (.nilS _), trivial⟩), (.keep rfl), trivial⟩)
 ·replace h := ite_F p102 h;refine awp_skip (nx_then (awp_rs ?_));refine w4 (st_faP fo25_1 rfl) ?_;refine w4 (st_ldP (v := dL 1 (eL 1 (eI .i64)) a0.Clauses) ta23 rfl rfl rfl rfl) ?_;refine w4 (st_build (vs := [.nilS, .nilS, dL 1 (eL 1 (eI .i64)) a0.Clauses]) bl37 rfl rfl) ?_;refine w8 (r := 1003) (st_alloc zc37 rfl rfl) ?_;refine w9 (L' := [Z25_0 a0, Z25_1, (1003, .row 0 37 [[.nilS, .nilS, dL 1 (eL 1 (eI .i64)) a0.Clauses]])]) (st_stP ta37 rfl rfl rfl rfl rfl rfl rfl rfl) ?_;refine rw_nilk (awp_rs ?_);refine w4 (st_faP fo25_0 rfl) ?_;refine w4 (st_ldP (v := dL 2 e_S_api_Block a0.Prefix) ta22 rfl rfl rfl rfl) ?_;obtain ⟨y103, hy103, h⟩ := bind_some_elim h;refine rf rfl rfl (ok_skolemref03_Vars hy103) rfl rfl ?_;refine w2 ?_;refine rw_nilk (awp_seq (awp_rs ?_));refine w2 ?_;refine rw_nilk (awp_block ?_);refine awp_len (t := 5) rfl (fun hl107 => ?_);rw [List.length_map] at hl107
  refine awp_range (fun (j107 : Nat) (s104 : ((List Int) × (List S_api_Dep))) (g105 : (Nat × Nat)) => [(1, .ptr 1001 0 0 0), (2, .ptr 1002 0 0 0), (4, .ptr 1003 0 0 0), (5, dL 1 (eI .i64) y103), (6, dI .i64 ((j107 : Nat) : Int))]) (fun (s104 : ((List Int) × (List S_api_Dep))) (g105 : (Nat × Nat)) => [Z25_0 a0, Z25_1, Z25_2 a0 g105 s104, (1007, rw' g105.1 3 (eI .i64) s104.1), (1009, rw' g105.2 51 e_S_api_Dep s104.2)]) (0, 0) (fun _ _ _ h => h) h (Gh.trans (gh_nil (r := 1007) (E' := [(1, .ptr 1001 0 0 0), (2, .ptr 1002 0 0 0), (4, .ptr 1003 0 0 0), (5, dL 1 (eI .i64) y103), (6, dI .i64 0)]) (L' := [Z25_0 a0, Z25_1, (1003, .row 0 37 [[.slice 1007 0 0 (([] : List Int).length), .nilS, dL 1 (eL 1 (eI .i64)) a0.Clauses]])]) rfl co3 rfl rfl ⟨⟨_, rfl, .keep _⟩, ⟨_, rfl, .keep _⟩, ⟨_, rfl, .keep _⟩, ⟨_, rfl, .keep _⟩, ⟨_, rfl, .keep _⟩, trivial⟩ ⟨⟨_, rfl, .keep _⟩, ⟨_, rfl, .keep _⟩, ⟨_, rfl, nilOne ⟨.nil, .keep _, .keep _, trivial⟩⟩, trivial⟩) (Gh.trans (gh_nil (r := 1009) (E' := [(1, .ptr 1001 0 0 0), (2, .ptr 1002 0 0 0), (4, .ptr 1003 0 0 0), (5, dL 1 (eI .i64) y103), (6, dI .i64 0)]) (L' := [Z25_0 a0, Z25_1, (1003, .row 0 37 [[.slice 1007 0 0 (([] : List Int).length), .slice 1009 0 0 (([] : List S_api_Dep).length), dL 1 (eL 1 (eI .i64)) a0.Clauses]]), (1007, rw' 0 3 (eI .i64) ([] : List Int))]) rfl co51 rfl rfl ⟨⟨_, rfl, .keep _⟩, ⟨_, rfl, .keep _⟩, ⟨_, rfl, .keep _⟩, ⟨_, rfl, .keep _⟩, ⟨_, rfl, .keep _⟩, trivial⟩ ⟨⟨_, rfl, .keep _⟩, ⟨_, rfl, .keep _⟩, ⟨_, rfl, nilOne ⟨.keep _, .nil, .keep _, trivial⟩⟩, ⟨_, rfl, .keep _⟩, trivial⟩) (gf ⟨ko, ko, ko, ⟨_, rfl, objRow (List.map (eI .i64) ([] : List Int))⟩, ⟨_, rfl, objRow (List.map e_S_api_Dep ([] : List S_api_Dep))⟩, trivial⟩))) ?_ ?_
  ·clear h;intro j107 x108 s104 g105 k106 hj107 hx107 h ih106;refine awp_seq (awp_rs ?_);refine w1 ?_;refine w1 ?_;refine w4 (st_lenD rfl un34) ?_;refine w4 (st_bin (v := dB (decide (((j107 : Nat) : Int) < ((y103.length : Nat) : Int)))) rfl rfl rfl) ?_;refine rw_nilk ?_;refine awp_ifT rfl (dlt hj107) ?_;refine awp_skip (nx_then ?_);refine awp_jn (fun (s174 : ((List Int) × (List S_api_Dep))) (g175 : (Nat × Nat)) => [(1, .ptr 1001 0 0 0), (2, .ptr 1002 0 0 0), (4, .ptr 1003 0 0 0), (5, dL 1 (eI .i64) y103), (6, dI .i64 ((j107 : Nat) : Int))]) (fun (s174 : ((List Int) × (List S_api_Dep))) (g175 : (Nat × Nat)) => [Z25_0 a0, Z25_1, (1003, .row 0 37 [[.slice 1007 g175.1 0 s174.1.length, .slice 1009 g175.2 0 s174.2.length, dL 1 (eL 1 (eI .i64)) a0.Clauses]]), (1007, rw' g175.1 3 (eI .i64) s174.1), (1009, rw' g175.2 51 e_S_api_Dep s174.2)]) h ?_ ?_
   ·clear h;intro s174 g175 h;refine awp_rw ?_;refine w1 ?_;refine w4 (st_inc rfl rfl hj107 hl107) ?_;refine w2 ?_;refine rw_nil (nx_then ?_);refine awp_gh ?_ (ih106 (s174.1, s174.2) (g175.1, g175.2) h);exact (gf ⟨ko, ko, ko, kw, kw, trivial⟩)
   ·clear h;intro k176 h J176;refine awp_block ?_;refine awp_rds hmix ?_;refine w7 (st_faP fo25_0 rfl) ?_;refine w7 (st_ldP (v := dL 2 e_S_api_Block a0.Prefix) ta22 rfl rfl rfl rfl) ?_;refine w7 (st_mv rfl) ?_;refine w7 (st_mv rfl) ?_;refine w7 (st_ixDn sl34 rfl rfl hx107) ?_;refine w7 (st_ldD (v := dI .i64 x108) ta3 rfl rfl) ?_;obtain ⟨y177, hy177, h⟩ := bind_some_elim h;refine df rfl rfl (ok_skolemref03_Find hy177) rfl rfl ?_;refine w7 (st_mv rfl) ?_;refine w7 (st_ext rfl rfl) ?_;refine w7 (st_ext rfl rfl) ?_;refine w7 (st_ext rfl rfl) ?_;refine w7 (st_as rfl) ?_;refine w7 (st_as rfl) ?_;refine w7 (st_as rfl) ?_;refine rd_nil (by kernel_rfl) ?_;refine awp_rs ?_;refine w1 ?_;refine rw_nilk ?_;refine awp_ite (b := y177.2.1) rfl (fun p178 => ?_) (fun p178 => ?_)
    ·replace h := ite_T p178 h;refine awp_rds hmix ?_;refine w7 (st_faP fo25_0 rfl) ?_;refine w7 (st_ldP (v := dL 2 e_S_api_Block a0.Prefix) ta22 rfl rfl rfl rfl) ?_;refine w7 (st_mv rfl) ?_;refine w7 (st_mv rfl) ?_;refine w7 (st_ixDn sl34 rfl rfl hx107) ?_;refine w7 (st_ldD (v := dI .i64 x108) ta3 rfl rfl) ?_;obtain ⟨y179, hy179, h⟩ := bind_some_elim h;refine df rfl rfl (ok_skolemref03_On hy179) rfl rfl ?_;refine w7 (st_mv rfl) ?_;refine w7 (st_ext rfl rfl) ?_;refine w7 (st_ext rfl rfl) ?_;refine w7 (st_as rfl) ?_;refine w7 (st_as rfl) ?_;refine rd_nil (by kernel_rfl) ?_;refine awp_rd hmix ?_;refine w7 (st_faP fo37_1 rfl) ?_;refine w7 (st_ldP (v := .slice 1009 g105.2 0 s104.2.length) ta35 rfl rfl rfl rfl) ?_;refine w7 (st_mv rfl) ?_;refine w7 (st_mv rfl) ?_;refine w7 (st_ixDn sl34 rfl rfl hx107) ?_;refine w7 (st_ldD (v := dI .i64 x108) ta3 rfl rfl) ?_;refine w7 (st_mv rfl) ?_;refine w7 (st_build (vs := [dI .i64 x108, dL 1 (eI .i64) y179.1]) bl51 rfl rfl) ?_
     refine dn (r := 1010) rfl rfl (st_bsl (els := [[dI .i64 x108, dL 1 (eI .i64) y179.1]]) sl35 zc51 rfl rfl rfl rfl rfl) rfl rfl rfl rfl ?_;obtain ⟨c180, h⟩ := capN_some h;refine dn (r := 0) (L' := [Z25_0 a0, Z25_1, Z25_2 a0 g105 s104, (1007, rw' g105.1 3 (eI .i64) s104.1), (1009, rw' (g105.2 + 2) 51 e_S_api_Dep (s104.2 ++ [(S_api_Dep.mk x108 y179.1)])), (1010, .row 1 51 [[dI .i64 x108, dL 1 (eI .i64) y179.1]])]) rfl rfl (st_appR (f := e_S_api_Dep) (xs := s104.2) (ys := [(S_api_Dep.mk x108 y179.1)]) sl35 zc51 rfl rfl rfl rfl rfl (news_one (a := (S_api_Dep.mk x108 y179.1)) rfl rfl) c180) rfl rfl rfl rfl ?_;refine w7 (st_faP fo37_1 rfl) ?_;refine dx (L' := [Z25_0 a0, Z25_1, (1003, .row 0 37 [[.slice 1007 g105.1 0 s104.1.length, .slice 1009 (g105.2 + 2) 0 ((s104.2 ++ [(S_api_Dep.mk x108 y179.1)]).length), dL 1 (eL 1 (eI .i64)) a0.Clauses]]), (1007, rw' g105.1 3 (eI .i64) s104.1), (1009, rw' (g105.2 + 2) 51 e_S_api_Dep (s104.2 ++ [(S_api_Dep.mk x108 y179.1)])), (1010, .row 1 51 [[dI .i64 x108, dL 1 (eI .i64) y179.1]])]) rfl rfl (st_stP ta35 rfl rfl rfl rfl rfl rfl rfl rfl) rfl rfl rfl rfl ?_;refine rd_nil (by kernel_rfl) ?_
     refine nx_block (nx_then ?_);exact J176 (s104.1, (s104.2 ++ [(S_api_Dep.mk x108 y179.1)])) (g105.1, (g105.2 + 2)) _ _ h (gf ⟨ko, ko, ko, kw, kw, trivial⟩)
    ·replace h := ite_F p178 h;refine awp_rd hmix ?_;refine w7 (st_faP fo37_0 rfl) ?_;refine w7 (st_ldP (v := .slice 1007 g105.1 0 s104.1.length) ta34 rfl rfl rfl rfl) ?_;refine w7 (st_mv rfl) ?_;refine w7 (st_mv rfl) ?_;refine w7 (st_ixDn sl34 rfl rfl hx107) ?_;refine w7 (st_ldD (v := dI .i64 x108) ta3 rfl rfl) ?_;refine dn (r := 1011) rfl rfl (st_bsl (els := [[dI .i64 x108]]) sl34 zc3 rfl rfl rfl rfl rfl) rfl rfl rfl rfl ?_;obtain ⟨c181, h⟩ := capN_some h;refine dn (r := 0) (L' := [Z25_0 a0, Z25_1, Z25_2 a0 g105 s104, (1007, rw' (g105.1 + 2) 3 (eI .i64) (s104.1 ++ [x108])), (1009, rw' g105.2 51 e_S_api_Dep s104.2), (1011, .row 1 3 [[dI .i64 x108]])]) rfl rfl (st_appR (f := (eI .i64)) (xs := s104.1) (ys := [x108]) sl34 zc3 rfl rfl rfl rfl rfl (news_one (a := x108) rfl rfl) c181) rfl rfl rfl rfl ?_;refine w7 (st_faP fo37_0 rfl) ?_
     refine dx (L' := [Z25_0 a0, Z25_1, (1003, .row 0 37 [[.slice 1007 (g105.1 + 2) 0 ((s104.1 ++ [x108]).length), .slice 1009 g105.2 0 s104.2.length, dL 1 (eL 1 (eI .i64)) a0.Clauses]]), (1007, rw' (g105.1 + 2) 3 (eI .i64) (s104.1 ++ [x108])), (1009, rw' g105.2 51 e_S_api_Dep s104.2), (1011, .row 1 3 [[dI .i64 x108]])]) rfl rfl (st_stP ta34 rfl rfl rfl rfl rfl rfl rfl rfl) rfl rfl rfl rfl ?_;refine rd_nil (by kernel_rfl) ?_;refine nx_block (nx_then ?_);exact J176 ((s104.1 ++ [x108]), s104.2) ((g105.1 + 2), g105.2) _ _ h (gf ⟨ko, ko, ko, kw, kw, trivial⟩)
  ·clear h;intro s104 g105 h;refine awp_seq (awp_rs ?_);refine w1 ?_;refine w1 ?_;refine w4 (st_lenD rfl un34) ?_;refine w4 (st_bin (v := dB (decide (((y103.length : Nat) : Int) < ((y103.length : Nat) : Int)))) rfl rfl rfl) ?_;refine rw_nilk ?_;refine awp_ifF rfl dge ?_;refine awp_exit (ex_out (ex_out (ex_in (nx_then (awp_rs ?_)))));refine w4 (st_ldP (v := .agg [.slice 1007 g105.1 0 s104.1.length, .slice 1009 g105.2 0 s104.2.length, dL 1 (eL 1 (eI .i64)) a0.Clauses]) ta37 rfl rfl rfl rfl) ?_;refine w9 (L' := [Z25_0 a0, (1002, .row 0 37 [[.slice 1007 g105.1 0 s104.1.length, .slice 1009 g105.2 0 s104.2.length, dL 1 (eL 1 (eI .i64)) a0.Clauses]]), Z25_2 a0 g105 s104, (1007, rw' g105.1 3 (eI .i64) s104.1), (1009, rw' g105.2 51 e_S_api_Dep s104.2)]) (st_stP ta37 rfl rfl rfl rfl rfl rfl rfl rfl) ?_;refine w2 ?_;refine rw_nilk (awp_ret ?_);injection h with h;subst h
   exact ret_out (v := .tup [.agg [.slice 1007 g105.1 0 s104.1.length, .slice 1009 g105.2 0 s104.2.length, dL 1 (eL 1 (eI .i64)) a0.Clauses], dI .i64 0]) (resV_many (resVs_cell (v := .agg [.slice 1007 g105.1 0 s104.1.length, .slice 1009 g105.2 0 s104.2.length, dL 1 (eL 1 (eI .i64)) a0.Clauses]) ta37 rfl rfl rfl rfl (resVs_tmp rfl resVs_nil))) (frz_tup ⟨(frz_agg ⟨(frzT rfl rfl co3 rfl), (frzT rfl rfl co51 rfl), (.keep rfl), trivial⟩), (.keep rfl), trivial⟩)
end Go.Sk.X
