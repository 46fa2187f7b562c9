/- A part of the proofs of this seat: ghost steps, typed steps, loops over plain functions, arguments read as plain data. It has no conditions. -/
import Derived.Test.YtppmnjikhealeaaSk4
import Derived.Test.YtppmnjikhealeaaSk6
import Derived.Sort.OwnSortedInts
import Derived.Test.YtppmnjikhealeaaSk5
import Derived.DefersIn
import Derived.RecoverIn
import Derived.ControlIn
import Derived.ChangeArms
import Derived.Carry
set_option linter.unusedVariables false
set_option linter.unusedSimpArgs false
namespace Go.Sk
open Go
def Gh (X : Cx) (E : Env) (L : LH) (E' : Env) (L' : LH) : Prop :=
  ∀ ρ a w, Sat X.P X.N X.B ρ E L a w → ∃ ρ', Sat X.P X.N X.B ρ' E' L' a w ∧ Fr X.K ρ w ρ' w
section
variable {X : Cx} {E E' E2 : Env} {L L' L2 : LH} {Q : Ex → Env → LH → Prop}
theorem Gh.refl : Gh X E L E L := fun ρ a w h => ⟨ρ, h, .refl ..⟩
theorem Gh.trans (h : Gh X E L E' L') (h' : Gh X E' L' E2 L2) : Gh X E L E2 L2 := fun ρ a w hS => by
  obtain ⟨ρ', h1, h2⟩ := h ρ a w hS
  obtain ⟨ρ2, h3, h4⟩ := h' ρ' a w h1
  exact ⟨ρ2, h3, h2.trans h4⟩
theorem awp_gh {c : Code} (h : Gh X E L E' L') (h2 : AWP X c E' L' Q) : AWP X c E L Q := fun ρ a w hS => by
  obtain ⟨ρ', h3, h4⟩ := h ρ a w hS
  exact wpIn_mono (h2 ρ' a w h3) (fun _ _ _ hq => hq.after h4)
def FrzE (P : Program) (L : LH) (S : Nat → Bool) (E : Env) : Env → Prop
  | [] => True
  | (t, u) :: l => (∃ v, aget E t = some v ∧ Frz P L S v u) ∧ FrzE P L S E l
theorem FrzE.get {P : Program} {S : Nat → Bool} : ∀ {E' : Env}, FrzE P L S E E' → ∀ {t : Nat} {u : AVal}, aget E' t = some u → ∃ v, aget E t = some v ∧ Frz P L S v u
  | [], _, t, u, h => by simp [aget] at h
  | (k, x) :: l, hh, t, u, h => by
    simp only [aget] at h
    split at h
    · rename_i e; subst e; injection h with h; subst h; exact hh.1
    · exact FrzE.get hh.2 h
def FrzO (P : Program) (L : LH) (S : Nat → Bool) : LH → Prop
  | [] => True
  | (r, o') :: l => (∃ o, aget L r = some o ∧ ObjFrz P L S o o') ∧ FrzO P L S l
theorem FrzO.get {P : Program} {S : Nat → Bool} : ∀ {L' : LH}, FrzO P L S L' → ∀ {r : Nat} {o' : AObj}, aget L' r = some o' → ∃ o, aget L r = some o ∧ ObjFrz P L S o o'
  | [], _, t, u, h => by simp [aget] at h
  | (k, x) :: l, hh, t, u, h => by
    simp only [aget] at h
    split at h
    · rename_i e; subst e; injection h with h; subst h; exact hh.1
    · exact FrzO.get hh.2 h
def allIn (L0 L' : LH) : Bool := L0.all fun p => inL L' p.1
theorem allIn_get {L0 L' : LH} (h : allIn L0 L' = true) {r : Nat} (hr : ids L0 r) : inL L' r = true := by
  unfold ids at hr
  obtain ⟨o, ho⟩ := Option.isSome_iff_exists.1 hr
  have : ∃ o, (r, o) ∈ L0 := by
    clear h hr
    induction L0 with
    | nil => simp [aget] at ho
    | cons p l ih =>
      obtain ⟨k, x⟩ := p
      simp only [aget] at ho
      split at ho
      · rename_i e; subst e; injection ho with ho; subst ho; exact ⟨_, List.mem_cons_self⟩
      · obtain ⟨o, h⟩ := ih ho; exact ⟨o, List.mem_cons_of_mem _ h⟩
  obtain ⟨o, hm⟩ := this
  exact List.all_eq_true.1 h _ hm
theorem gh_frz {L0 : LH} (hX : X.K = ids L0) (hK : allIn L0 L' = true) (hE : FrzE X.P L (inL L') E E') (hL : FrzO X.P L (inL L') L') : Gh X E L E' L' := fun ρ a w hS => by
  have ha := restr_agree ρ (inL L')
  have hwk : Wk X.P L L' := ⟨fun r o' ho' => hL.get ho'⟩
  have hk : ∀ r, X.K r → inL L' r = true := fun r hr => allIn_get hK (by rw [← hX]; exact hr)
  refine ⟨restr ρ (inL L'), ⟨hS.n, fun t u ht => ?_, hwk.sound hS.heap, hS.marks.fr (restr_fr ρ w (inL L') X.K hk), hS.base⟩, restr_fr ρ w (inL L') X.K hk⟩
  obtain ⟨v, hv, hz⟩ := hE.get ht
  obtain ⟨h1, h2⟩ := hS.env t v hv
  exact ⟨h1, hz.sound hS.heap ha (fun r x hx => restr_m hx) rfl h2⟩
theorem objKeep {P : Program} {S : Nat → Bool} {g e : Nat} {els : List (List AVal)} (h : (els.all fun el => el.all fun v => sc v && closedV S v) = true) : ObjFrz P L S (.row g e els) (.row g e els) := by
  refine ⟨rfl, rfl, rfl, fun i el el' h1 h2 => ?_⟩
  rw [h1] at h2; injection h2 with h2; subst h2
  refine ⟨rfl, fun j v u h3 h4 => ?_⟩
  rw [h3] at h4; injection h4 with h4; subst h4
  have := List.all_eq_true.1 (List.all_eq_true.1 h el (List.mem_of_getElem? h1)) v (List.mem_of_getElem? h3)
  simp only [Bool.and_eq_true] at this
  exact ⟨this.1, .keep this.2⟩
theorem all_rowOf {S : Nat → Bool} (ds : List (List Dat)) : ((rowOf ds).all fun el => el.all fun v => sc v && closedV S v) = true := by
  simp only [rowOf, List.all_map, List.all_eq_true, Function.comp]
  intro el _ d _
  rfl
theorem objRow {P : Program} {S : Nat → Bool} {g e : Nat} (ds : List (List Dat)) : ObjFrz P L S (.row g e (rowOf ds)) (.row g e (rowOf ds)) := objKeep (all_rowOf ds)
def FrzVs (P : Program) (L : LH) (S : Nat → Bool) : List AVal → List AVal → Prop
  | [], [] => True
  | v :: vs, u :: us => (sc u = true ∧ Frz P L S v u) ∧ FrzVs P L S vs us
  | _, _ => False
theorem FrzVs.len {P : Program} {S : Nat → Bool} : ∀ {vs us : List AVal}, FrzVs P L S vs us → vs.length = us.length
  | [], [], _ => rfl
  | v :: vs, u :: us, h => by simp [FrzVs.len h.2]
  | [], _ :: _, h => h.elim
  | _ :: _, [], h => h.elim
theorem FrzVs.get {P : Program} {S : Nat → Bool} : ∀ {vs us : List AVal}, FrzVs P L S vs us → ∀ (i : Nat) (v u : AVal), vs[i]? = some v → us[i]? = some u → sc u = true ∧ Frz P L S v u
  | [], [], _, i, v, u, h1, _ => by simp at h1
  | v :: vs, u :: us, h, 0, x, y, h1, h2 => by
    simp only [List.getElem?_cons_zero, Option.some.injEq] at h1 h2
    subst h1; subst h2; exact h.1
  | v :: vs, u :: us, h, i + 1, x, y, h1, h2 => FrzVs.get h.2 i x y (by simpa using h1) (by simpa using h2)
  | [], _ :: _, h, _, _, _, _, _ => h.elim
  | _ :: _, [], h, _, _, _, _, _ => h.elim
theorem objOne {P : Program} {S : Nat → Bool} {g e : Nat} {vs us : List AVal} (h : FrzVs P L S vs us) : ObjFrz P L S (.row g e [vs]) (.row g e [us]) := by
  refine ⟨rfl, rfl, rfl, fun i el el' h1 h2 => ?_⟩
  cases i with
  | succ i => simp at h1
  | zero =>
    simp only [List.getElem?_cons_zero, Option.some.injEq] at h1 h2
    subst h1; subst h2
    exact ⟨h.len, fun j v u a b => h.get j v u a b⟩
theorem asubl_all {α : Type} (l : List α) : asubl l 0 (0 + l.length) = l := by simp [asubl]
theorem frz_row {P : Program} {S : Nat → Bool} {r g e n sz : Nat} {ds : List (List Dat)} (ho : aget L r = some (.row g e (rowOf ds))) (hS : S r = false) (hsz : P.cellsOf e = sz) (hn : n = ds.length) :
    Frz P L S (.slice r g 0 n) (.dat (.sl sz ds)) := by
  subst hn; subst hsz
  have := Frz.slice (P := P) (S := S) (off := 0) (len := ds.length) ho hS
  rw [asubl_all] at this
  exact this
def FrzL (P : Program) (L : LH) (S : Nat → Bool) : List AVal → List AVal → Prop
  | [], [] => True
  | v :: vs, u :: us => Frz P L S v u ∧ FrzL P L S vs us
  | _, _ => False
theorem FrzL.len {P : Program} {S : Nat → Bool} : ∀ {vs us : List AVal}, FrzL P L S vs us → vs.length = us.length
  | [], [], _ => rfl
  | v :: vs, u :: us, h => by simp [FrzL.len h.2]
  | [], _ :: _, h => h.elim
  | _ :: _, [], h => h.elim
theorem FrzL.get {P : Program} {S : Nat → Bool} : ∀ {vs us : List AVal}, FrzL P L S vs us → ∀ (i : Nat) (v u : AVal), vs[i]? = some v → us[i]? = some u → Frz P L S v u
  | [], [], _, i, v, u, h1, _ => by simp at h1
  | v :: vs, u :: us, h, 0, x, y, h1, h2 => by
    simp only [List.getElem?_cons_zero, Option.some.injEq] at h1 h2
    subst h1; subst h2; exact h.1
  | v :: vs, u :: us, h, i + 1, x, y, h1, h2 => FrzL.get h.2 i x y (by simpa using h1) (by simpa using h2)
  | [], _ :: _, h, _, _, _, _, _ => h.elim
  | _ :: _, [], h, _, _, _, _, _ => h.elim
theorem frz_agg {P : Program} {S : Nat → Bool} {vs us : List AVal} (h : FrzL P L S vs us) : Frz P L S (.agg vs) (.agg us) := .agg h.len h.get
theorem frz_tup {P : Program} {S : Nat → Bool} {vs us : List AVal} (h : FrzL P L S vs us) : Frz P L S (.tup vs) (.tup us) := .tup h.len h.get
inductive NilTo (r : Nat) : AVal → AVal → Prop
  | keep (v : AVal) : NilTo r v v
  | nil : NilTo r .nilS (.slice r 0 0 0)
def NilE (r : Nat) (E : Env) : Env → Prop
  | [] => True
  | (t, u) :: l => (∃ v, aget E t = some v ∧ NilTo r v u) ∧ NilE r E l
theorem NilE.get {r : Nat} : ∀ {E' : Env}, NilE r E E' → ∀ {t : Nat} {u : AVal}, aget E' t = some u → ∃ v, aget E t = some v ∧ NilTo r v u
  | [], _, t, u, h => by simp [aget] at h
  | (k, x) :: l, hh, t, u, h => by
    simp only [aget] at h
    split at h
    · rename_i e; subst e; injection h with h; subst h; exact hh.1
    · exact NilE.get hh.2 h
inductive NilO (r : Nat) : AObj → AObj → Prop
  | keep (o : AObj) : NilO r o o
  | one {g e : Nat} {vs us : List AVal} (hl : vs.length = us.length) (h : ∀ (i : Nat) (v u : AVal), vs[i]? = some v → us[i]? = some u → NilTo r v u) : NilO r (.row g e [vs]) (.row g e [us])
  | els {g e : Nat} {vs us : List (List AVal)} (hl : vs.length = us.length) (h : ∀ (i : Nat) el el', vs[i]? = some el → us[i]? = some el' → el.length = el'.length ∧ ∀ (j : Nat) v u, el[j]? = some v → el'[j]? = some u → NilTo r v u) : NilO r (.row g e vs) (.row g e us)
def NilL (r : Nat) (L : LH) : LH → Prop
  | [] => True
  | (k, o') :: l => (∃ o, aget L k = some o ∧ NilO r o o') ∧ NilL r L l
theorem NilL.get {r : Nat} : ∀ {L' : LH}, NilL r L L' → ∀ {k : Nat} {o' : AObj}, aget L' k = some o' → ∃ o, aget L k = some o ∧ NilO r o o'
  | [], _, t, u, h => by simp [aget] at h
  | (k, x) :: l, hh, t, u, h => by
    simp only [aget] at h
    split at h
    · rename_i e; subst e; injection h with h; subst h; exact hh.1
    · exact NilL.get hh.2 h
def NilVs (r : Nat) : List AVal → List AVal → Prop
  | [], [] => True
  | v :: vs, u :: us => NilTo r v u ∧ NilVs r vs us
  | _, _ => False
theorem NilVs.len {r : Nat} : ∀ {vs us : List AVal}, NilVs r vs us → vs.length = us.length
  | [], [], _ => rfl
  | v :: vs, u :: us, h => by simp [NilVs.len h.2]
  | [], _ :: _, h => h.elim
  | _ :: _, [], h => h.elim
theorem NilVs.get {r : Nat} : ∀ {vs us : List AVal}, NilVs r vs us → ∀ (i : Nat) (v u : AVal), vs[i]? = some v → us[i]? = some u → NilTo r v u
  | [], [], _, i, v, u, h1, _ => by simp at h1
  | v :: vs, u :: us, h, 0, x, y, h1, h2 => by
    simp only [List.getElem?_cons_zero, Option.some.injEq] at h1 h2
    subst h1; subst h2; exact h.1
  | v :: vs, u :: us, h, i + 1, x, y, h1, h2 => NilVs.get h.2 i x y (by simpa using h1) (by simpa using h2)
  | [], _ :: _, h, _, _, _, _, _ => h.elim
  | _ :: _, [], h, _, _, _, _, _ => h.elim
theorem nilOne {r g e : Nat} {vs us : List AVal} (h : NilVs r vs us) : NilO r (.row g e [vs]) (.row g e [us]) := .one h.len h.get
end
end Go.Sk
namespace Go.Sk
open Go
section
variable {X : Cx} {E E' E2 : Env} {L L' L2 : LH} {Q : Ex → Env → LH → Prop}
theorem gh_nil {r e sz : Nat} (hr : aget L r = none) (hs : X.P.cellsOf e = sz) (h0 : Nat.blt 0 sz = true) (hN : allIn L L' = true) (hE : NilE r E E') (hL : NilL r L L') :
    Gh X E L E' ((r, .row 0 e []) :: L') := fun ρ a w hS => by
  subst hs
  have h0 : 0 < X.P.cellsOf e := by simpa [Nat.blt_eq] using h0
  obtain ⟨h1, h2⟩ := new_row (w' := w) hS.heap (r := r) (g := 0) (e := e) (sz := X.P.cellsOf e) (v := .slice none 0 0) (els := []) (xs := []) (fun h => by simp at h) hr (World.grownBy.refl w none) rfl h0
    (fun el h => by simp at h) ⟨by simp, .inl ⟨rfl, rfl⟩⟩ (fun i x h => by simp at h)
  have hS2 : Sat X.P X.N X.B (upd ρ r (0, .row (.slice none 0 0) e (X.P.cellsOf e))) E (aset L r (.row 0 e [])) a w :=
    ⟨hS.n, hS.env.fr h2, h1, hS.marks.fr h2, Nat.le_trans hS.base h2.size⟩
  generalize hρ : upd ρ r (0, .row (.slice none 0 0) e (X.P.cellsOf e)) = ρ' at h1 h2 hS2
  have hm : ρ'.m r = some (0, .row (.slice none 0 0) e (X.P.cellsOf e)) := by subst hρ; exact upd_same ..
  have key : ∀ {v u : AVal} {c : Value}, NilTo r v u → VRel w ρ' v c → VRel w ρ' u c := by
    intro v u c hn hv
    cases hn with
    | keep => exact hv
    | nil =>
      cases hv
      exact .slice hm (Nat.le_refl _) (fun _ => ⟨rfl, rfl, rfl, rfl, rfl⟩)
  refine ⟨ρ', ⟨hS2.n, fun t u ht => ?_, ⟨fun k o' ho' => ?_, fun k x hx => ?_, hS2.heap.inj, hS2.heap.dis, hS2.heap.elt⟩, hS2.marks, hS2.base⟩, h2.mono (fun _ _ => trivial)⟩
  · obtain ⟨v, hv, hn⟩ := hE.get ht
    exact ⟨(hS2.env t v hv).1, key hn (hS2.env t v hv).2⟩
  · simp only [aget] at ho'
    split at ho'
    · rename_i e'; subst e'
      injection ho' with ho'; subst ho'
      exact hS2.heap.obj r _ (by rw [aget_aset, if_pos rfl])
    · rename_i hne
      obtain ⟨o, ho, hn⟩ := hL.get ho'
      obtain ⟨l, hl, hO⟩ := hS2.heap.obj k o (by rw [aget_aset, if_neg hne]; exact ho)
      cases hn with
      | keep => exact ⟨l, hl, hO⟩
      | @one g e2 vs us hlen hget =>
        refine ⟨l, hl, ?_⟩
        cases l with
        | map _ => exact hO.elim
        | loop _ => exact hO.elim
        | glob _ => exact hO.elim
        | row v0 e0 sz0 =>
          obtain ⟨k1, k2, k3, k4, xs, k5, k6⟩ := hO
          refine ⟨k1, k2, k3, ?_, xs, k5, fun i x hi => ?_⟩
          · intro el hel
            simp only [List.mem_singleton] at hel
            subst hel
            rw [← hlen]
            exact k4 vs (by simp)
          · simp only [List.flatten_cons, List.flatten_nil, List.append_nil] at hi k6
            have hlt : i < vs.length := by rw [hlen]; exact (List.getElem?_eq_some_iff.1 hi).1
            have hv := List.getElem?_eq_getElem hlt
            have hn := hget i _ x hv hi
            obtain ⟨q1, q2⟩ := k6 i _ hv
            generalize vs[i] = y at hn q1 q2
            refine ⟨?_, key hn q2⟩
            cases hn with
            | keep => exact q1
            | nil => rfl
      | @els g e2 vs us hlen hget =>
        refine ⟨l, hl, ?_⟩
        cases l with
        | map _ => exact hO.elim
        | loop _ => exact hO.elim
        | glob _ => exact hO.elim
        | row v0 e0 sz0 =>
          obtain ⟨k1, k2, k3, k4, xs, k5, k6⟩ := hO
          refine ⟨k1, k2, k3, fun el hel => ?_, xs, by rw [← hlen]; exact k5, fun i x hi => ?_⟩
          · obtain ⟨i, hi⟩ := List.mem_iff_getElem?.1 hel
            have hlt : i < vs.length := by rw [hlen]; exact (List.getElem?_eq_some_iff.1 hi).1
            rw [← (hget i _ _ (List.getElem?_eq_getElem hlt) hi).1]
            exact k4 _ (List.getElem_mem hlt)
          · obtain ⟨y, hy, hn⟩ := flat_pair (R := NilTo r) hlen hget i x hi
            obtain ⟨q1, q2⟩ := k6 i _ hy
            refine ⟨?_, key hn q2⟩
            cases hn with
            | keep => exact q1
            | nil => rfl
  · simp only [aget]
    by_cases e' : r = k
    · exact ⟨_, by rw [if_pos e']⟩
    · rw [if_neg e']
      obtain ⟨o, ho⟩ := hS2.heap.dom k x hx
      rw [aget_aset, if_neg e'] at ho
      exact Option.isSome_iff_exists.1 (allIn_get hN (by unfold ids; rw [ho]; rfl))
def RW (X : Cx) (Q : Ex → Env → LH → Prop) (ops : Array Oper) (i : Nat) (l : List Oper) (E : Env) (L : LH) : Prop :=
  ops.toList.drop i = l → ∀ ρ0 w0 ρ a w, Sat X.P X.N X.B ρ E L a w → Fr X.K ρ0 w0 ρ w →
    wpOpsIn X.F 0 X.P ops (QQ X.P X.N X.B X.K Q ρ0 w0) (List.range' i l.length) a w
theorem awp_rw {id : Nat} {ops : List Oper} (h : RW X Q ops.toArray 0 ops E L) : AWP X (.region id ops.toArray false) E L Q := fun ρ a w hS =>
  wpIn_region (by
    have := h rfl ρ w ρ a w hS (Fr.refl ..)
    rw [List.range_eq_range']
    simpa using this)
theorem awp_rs {id : Nat} {ops : List Oper} {y : Code} (h : RW X (thenX (fun E L => AWP X y E L Q) Q) ops.toArray 0 ops E L) : AWP X (.seq (.region id ops.toArray false) y) E L Q := awp_seq (awp_rw h)
variable {ops : Array Oper} {rest : List Oper} {i : Nat}
theorem rw_nil (h : Q .normal E L) : RW X Q ops i [] E L := fun _ ρ0 w0 ρ a w hS hf => ⟨ρ, E, L, .normal, trivial, h, hS, hf⟩
theorem rw_nilk {y : Code} (h : AWP X y E L Q) : RW X (thenX (fun E L => AWP X y E L Q) Q) ops i [] E L := rw_nil h
theorem RW.gh (h : Gh X E L E' L') (h2 : RW X Q ops i rest E' L') : RW X Q ops i rest E L := fun hp ρ0 w0 ρ a w hS hf => by
  obtain ⟨ρ', h3, h4⟩ := h ρ a w hS
  exact h2 hp ρ0 w0 ρ' a w h3 (hf.trans h4)
theorem dstN_ok {N : Nat} {d : Option Nat} (h : Nat.blt (d.getD 0) N = true) : dstOk N d := by
  cases d with
  | none => trivial
  | some d =>
    have : d < N := by simpa [Nat.blt_eq] using h
    exact this
theorem drop_cons {α : Type} {l rest : List α} {o : α} {i : Nat} (h : l.drop i = o :: rest) : l[i]? = some o ∧ l.drop (i + 1) = rest := by
  have hi : l[i]? = some o := by
    have := congrArg (fun l : List α => l[0]?) h
    simpa using this
  refine ⟨hi, ?_⟩
  have := congrArg List.tail h
  simpa using this
theorem rw_wanted {o : Oper} (hg : gval ops.toList E o.guard = some true)
    (h : ops.toList.drop i = o :: rest → ∀ ρ0 w0 ρ a w, Sat X.P X.N X.B ρ E L a w → Fr X.K ρ0 w0 ρ w →
      o.wpIn X.F 0 X.P a w (wpOpsIn X.F 0 X.P ops (QQ X.P X.N X.B X.K Q ρ0 w0) (List.range' (i + 1) rest.length)) (QQ X.P X.N X.B X.K Q ρ0 w0)) : RW X Q ops i (o :: rest) E L := fun hp ρ0 w0 ρ a w hS hf => by
  have hi : ops[i]? = some o := by
    have := (drop_cons hp).1
    simpa using this
  simp only [List.length_cons, List.range'_succ, wpOpsIn, hi]
  rw [if_pos (gval_sound hg hS.env)]
  exact h hp ρ0 w0 ρ a w hS hf
theorem rw_skip {d : Option Nat} {op : Op} {ty : TypeId} {pos : String} {af : Array Edge} {g : Option (Nat × Bool)} (hN : Nat.blt (d.getD 0) X.N = true) (hg : gval ops.toList E g = some false)
    (h : RW X Q ops (i + 1) rest (putE E d (.tup [])) L) : RW X Q ops i (Oper.mk d op ty pos af g :: rest) E L := fun hp ρ0 w0 ρ a w hS hf => by
  have hi : ops[i]? = some (Oper.mk d op ty pos af g) := by
    have := (drop_cons hp).1
    simpa using this
  simp only [List.length_cons, List.range'_succ, wpOpsIn, hi]
  rw [if_neg (by rw [gval_sound (o := Oper.mk d op ty pos af g) hg hS.env]; simp)]
  exact ⟨fun f _ => X.wide.fn f, h (drop_cons hp).2 ρ0 w0 ρ _ w (hS.put hS.heap (.refl ..) (dstN_ok hN) (VRel.tup0 ..)) hf⟩
theorem rw_op {d : Option Nat} {op : Op} {ty : TypeId} {pos : String} {af : Array Edge} {g : Option (Nat × Bool)} {r0 : Option Nat} {v : AVal} (hN : Nat.blt (d.getD 0) X.N = true) (hg : gval ops.toList E g = some true)
    (hs : opStep X.P r0 op E L = some (v, L')) (h : RW X Q ops (i + 1) rest (putE E d v) L') : RW X Q ops i (Oper.mk d op ty pos af g :: rest) E L :=
  rw_wanted hg (fun hp ρ0 w0 ρ a w hS hf => by
    obtain ⟨w', ρ', nx, g1, g2, g3, g4⟩ := opStep_sound (o := Oper.mk d op ty pos af g) hs hS.heap hS.env
    have hsem : (Oper.mk d op ty pos af g).semAt X.F.round a.eval = execOp a.eval (Oper.mk d op ty pos af g) := Oper.semAt_eq _ _ _ (fun c hc => by
      have hc : op = _ := hc
      subst hc; simp [opStep] at hs)
    refine ⟨fun f _ => X.wide.fn f, ?_⟩
    rw [hsem, g1]
    have hf' : Fr X.K ρ0 w0 ρ' w' := hf.trans (g4.mono fun _ _ => trivial)
    cases nx with
    | value c => exact h (drop_cons hp).2 ρ0 w0 ρ' _ w' (hS.put g3 g4 (dstN_ok hN) g2) hf'
    | skip =>
      have e : v = .tup [] := g2
      subst e
      exact h (drop_cons hp).2 ρ0 w0 ρ' _ w' (hS.put g3 g4 (dstN_ok hN) (VRel.tup0 ..)) hf'
    | _ => exact g2.elim)
def EvR (P : Program) (f : FuncId) (args : List AVal) (L : LH) (R : Out → LH → Prop) : Prop :=
  enters P f = true ∧ ∀ (ρ : Rho) (w : World) (cs : List Value), LsRel w ρ args cs → SatL P ρ L w →
    CallsIn Fence.wide 0 P f cs.toArray w fun e w' => ∃ ρ' out L', R out L' ∧ OutR w' ρ' out e ∧ SatL P ρ' L' w' ∧ Fr All ρ w ρ' w'
theorem Ev.toR {P : Program} {f : FuncId} {args : List AVal} {out : Out} (h : Ev P f args L out L') : EvR P f args L (fun o l => o = out ∧ l = L') :=
  ⟨h.1, fun ρ w cs h1 h2 => (h.2 ρ w cs h1 h2).mono fun e w' he => by
    obtain ⟨ρ', a, b, c⟩ := he
    exact ⟨ρ', out, L', ⟨rfl, rfl⟩, a, b, c⟩⟩
theorem EvR.toEv {P : Program} {f : FuncId} {args : List AVal} {out : Out} (h : EvR P f args L (fun o l => o = out ∧ l = L')) : Ev P f args L out L' :=
  ⟨h.1, fun ρ w cs h1 h2 => (h.2 ρ w cs h1 h2).mono fun e w' he => by
    obtain ⟨ρ', _, _, ⟨rfl, rfl⟩, a, b, c⟩ := he
    exact ⟨ρ', a, b, c⟩⟩
theorem rw_call {d : Option Nat} {f : Operand} {args : Array Operand} {ats : Array TypeId} {ty : TypeId} {pos : String} {af : Array Edge} {g : Option (Nat × Bool)} {fid : FuncId} {bs caps vs : List AVal} {R : Out → LH → Prop}
    (hN : Nat.blt (d.getD 0) X.N = true) (hg : gval ops.toList E g = some true) (hf : ev E f = some (.fn fid bs caps)) (ha : evl E args.toList = some vs) (hev : EvR X.P fid (bs ++ vs ++ caps) L R)
    (hk : ∀ v L', R (.ret v) L' → RW X Q ops (i + 1) rest (putE E d v) L') (hp : ∀ v L', R (.panic v) L' → Q (.panic v) E L') :
    RW X Q ops i (Oper.mk d (.call { callee := .value f, args, argTypes := ats }) ty pos af g :: rest) E L :=
  rw_wanted hg (fun hpp ρ0 w0 ρ a w hS hf0 => by
    generalize ho : Oper.mk d (.call { callee := .value f, args, argTypes := ats }) ty pos af g = o
    have hop : o.op = .call { callee := .value f, args, argTypes := ats } := by subst ho; rfl
    have hdd : o.dst = d := by subst ho; rfl
    refine ⟨fun f _ => X.wide.fn f, ?_⟩
    have hsem : o.semAt X.F.round a.eval = execOp a.eval o := Oper.semAt_eq _ _ _ (fun c hc => by rw [hop] at hc; cases hc)
    rw [hsem]
    have hfr := hS.env.ev hf
    have hvr := evl_sound hS.env ha
    cases hfr' : a.eval f with
    | func fn first captured =>
      rw [hfr'] at hfr
      cases hfr with
      | fn hs0 hh0 hs hh =>
        have hargs : LsRel w ρ (bs ++ vs ++ caps) (first.toList ++ args.toList.map a.eval ++ captured.toList) := ((LsRel.of_cs (by simpa using ⟨hs0, hh0⟩)).append hvr).append (LsRel.of_cs (by simpa using ⟨hs, hh⟩))
        have hrun : (execOp a.eval o).run X.P w = .ok (.enter fid (first.toList ++ args.toList.map a.eval ++ captured.toList).toArray) w := by
          have e1 : (first.toList ++ args.toList.map a.eval ++ captured.toList).toArray = first ++ args.map a.eval ++ captured := by simp
          rw [e1]
          simp [execOp, hop, resolve, hfr', Deferred.ofValue, invoke, run_callFunc hev.1]
        rw [hrun]
        refine ⟨fun h => by rw [X.wide.depth] at h; simp at h, CallsIn.wide X.wide ((hev.2 ρ w _ hargs hS.heap).mono fun e w' he => ?_) _⟩
        obtain ⟨ρ', out, L', hR, h1, h2, h3⟩ := he
        have hfr2 : Fr X.K ρ0 w0 ρ' w' := hf0.trans (h3.mono fun _ _ => trivial)
        cases out with
        | ret v =>
          cases e with
          | returned c => 
            show wpOpsIn _ _ _ _ _ _ (a.put o.dst c) w'
            rw [hdd]
            exact hk v L' hR (drop_cons hpp).2 ρ0 w0 ρ' _ w' (hS.put h2 h3 (dstN_ok hN) h1) hfr2
          | panicked ch => exact h1.elim
          | outgrown => exact h1.elim
        | panic v =>
          cases e with
          | returned c => exact h1.elim
          | panicked ch => exact ⟨ρ', E, L', .panic v, h1, hp v L' hR, hS.put (d := none) (v := .tup []) (c := undef) h2 h3 trivial (VRel.tup0 ..), hfr2⟩
          | outgrown => exact h1.elim
    | _ => rw [hfr'] at hfr; cases hfr)
theorem evR_pure {P : Program} {f : FuncId} {args : List AVal} {v : AVal} (h : Fn P f args v) (hc : closedL (fun _ => false) args = true) : EvR P f args L (fun o l => o = .ret v ∧ l = L) := by
  have := h.frame (L := L) (fun r o ho => by simp [aget] at ho) hc (fun r o ho => by simp [aget] at ho) (fun r hr => by simp [inL, aget] at hr)
  exact Ev.toR this
theorem rw_callF {d : Option Nat} {fid : FuncId} {args : Array Operand} {ats : Array TypeId} {ty : TypeId} {pos : String} {af : Array Edge} {g : Option (Nat × Bool)} {vs : List AVal} {v : AVal}
    (hN : Nat.blt (d.getD 0) X.N = true) (hg : gval ops.toList E g = some true) (ha : evl E args.toList = some vs) (hev : Fn X.P fid vs v) (hc : closedL (fun _ => false) vs = true)
    (hk : RW X Q ops (i + 1) rest (putE E d v) L) :
    RW X Q ops i (Oper.mk d (.call { callee := .value (.func fid), args, argTypes := ats }) ty pos af g :: rest) E L :=
  rw_call hN hg rfl ha (by rw [List.append_nil, List.nil_append]; exact evR_pure hev hc) (fun v' L' h => by
    obtain ⟨h1, h2⟩ := h
    injection h1 with h1
    subst h1; subst h2
    exact hk) (fun v' L' h => by cases h.1)
def RetR (P : Program) (rs : List ResultVar) (R : Out → LH → Prop) : Ex → Env → LH → Prop
  | .normal, E, L => ∃ v, resV P L E rs = some v ∧ R (.ret v) L
  | .ret, E, L => ∃ v, resV P L E rs = some v ∧ R (.ret v) L
  | .panic v, E, L => R (.panic v) L
  | _, _, _ => False
theorem RetR.noGo {P : Program} {rs : List ResultVar} {R : Out → LH → Prop} : NoGo (RetR P rs R) := fun _ _ _ h => h
theorem EvR.of_body {P : Program} {f : FuncId} {fn : Func} {c : Code} {args : List AVal} {L0 : LH} {R : Out → LH → Prop} (hf : P.funcs[f]? = some fn) (hb : fn.body = some c) (hen : enters P f = true)
    (hlen : args.length ≤ fn.ntmps) (h : ∀ B, AWP (fcx P fn.ntmps B L0) c (argE 0 args) L0 (RetR P fn.results.toList R)) : EvR P f args L0 R := by
  refine ⟨hen, fun ρ w cs hcs hL => callsIn_of_wp_marks hf hb trivial ?_ rfl⟩
  have hl := hcs.len
  have hS : Sat P fn.ntmps w.heap.size ρ (argE 0 args) L0 { tmps := cs.toArray ++ Array.replicate (fn.ntmps - cs.toArray.size) undef, defers := [] } w := by
    refine ⟨by simp; omega, fun t v ht => ?_, hL, ⟨[], .nil, List.nodup_nil, by simp⟩, Nat.le_refl _⟩
    obtain ⟨j, rfl, hj⟩ := argE_get ht
    obtain ⟨c, hc, hv⟩ := hcs.get hj
    have hjl : j < cs.length := (List.getElem?_eq_some_iff.1 hc).1
    refine ⟨by simp; omega, ?_⟩
    have e : (cs.toArray ++ Array.replicate (fn.ntmps - cs.toArray.size) undef).getD (0 + j) undef = c := by
      rw [Nat.zero_add]
      simp only [Array.getD_eq_getD_getElem?]
      rw [Array.getElem?_append_left (by simpa using hjl)]
      simp [hc]
    rw [e]
    exact hv
  refine wpIn_mono (h w.heap.size ρ _ w hS) (fun e a' w' hh => ?_)
  obtain ⟨ρ', E', L1, x, h1, h2, h3, h4⟩ := hh
  obtain ⟨ms, m1, m2, m3⟩ := h3.marks
  replace m1 : a'.defers = ms.map mk1 := m1.plain
  have hm := marks_fold (P := P) (ρ := ρ') (L := L1) (B := w.heap.size) ms w' m2 m3 h3.heap
  generalize hw2 : ms.foldl (fun w b => setO w b (.deferred none)) w' = w2 at hm
  obtain ⟨g1, g2, g3, g4, g5, g6, g7, g8⟩ := hm
  have fin : Fr All ρ w ρ' w2 := by
    refine ⟨g4.trans h4.os, g5.trans h4.tape, g6.trans h4.output, by rw [g7]; exact h4.size, fun b hb ho => ?_, h4.new, h4.ext, fun r x _ hx => ?_⟩
    · rw [g8 b hb]; exact h4.blk b hb ho
    · obtain ⟨o, ho⟩ := hL.dom r x hx
      have hin : ids L0 r := by unfold ids; rw [ho]; rfl
      exact h4.keep r x hin hx
  have good : ∀ {v : AVal}, resV P L1 E' fn.results.toList = some v → R (.ret v) L1 →
      LeavesInM Fence.wide 0 P fn a'.tmps (fun e w' => ∃ ρ' out L', R out L' ∧ OutR w' ρ' out e ∧ SatL P ρ' L' w' ∧ Fr All ρ w ρ' w') a'.defers .returning w' := by
    intro v hv hR
    rw [m1]
    refine leaves_marks (ρ := ρ') (L := L1) _ (by simp) ms w' m2 (fun b hb => (m3 b hb).2) ?_
    rw [hw2]
    obtain ⟨c, r1, r2⟩ := resV_sound (g3 a' E' h3.env) g1 hv
    exact ⟨c, r1, ρ', _, _, hR, r2, g1, fin⟩
  cases x with
  | normal =>
    cases e <;> first | exact h1.elim | skip
    obtain ⟨v, hv, hR⟩ := h2
    exact good hv hR
  | ret =>
    cases e <;> first | exact h1.elim | skip
    obtain ⟨v, hv, hR⟩ := h2
    exact good hv hR
  | panic v =>
    cases e <;> first | exact h1.elim | skip
    rename_i ch
    obtain ⟨c, rfl, hv⟩ := h1
    show LeavesInM _ _ _ _ _ _ a'.defers (.panicking (chain1 c)) w'
    rw [m1]
    refine leaves_marks (ρ := ρ') (L := L1) _ (by simp) ms w' m2 (fun b hb => (m3 b hb).2) ?_
    rw [hw2]
    exact ⟨ρ', _, _, h2, ⟨c, rfl, g2 _ _ hv⟩, g1, fin⟩
  | exit id => exact h2.elim
  | goto l => exact h2.elim
theorem rw_in {d : Option Nat} {f : Operand} {args : Array Operand} {ats : Array TypeId} {ty : TypeId} {pos : String} {af : Array Edge} {g : Option (Nat × Bool)} {fid : FuncId} {bs caps vs : List AVal} {fn : Func} {c : Code} {N : Nat} {rs : List ResultVar}
    (hN : Nat.blt (d.getD 0) X.N = true) (hg : gval ops.toList E g = some true) (hf : ev E f = some (.fn fid bs caps)) (ha : evl E args.toList = some vs)
    (hfn : X.P.funcs[fid]? = some fn) (hb : fn.body = some c) (hNN : fn.ntmps = N) (hr : fn.results.toList = rs) (hen : enters X.P fid = true) (hlen : Nat.ble (bs ++ vs ++ caps).length N = true)
    (h : ∀ B, AWP (fcx X.P N B L) c (argE 0 (bs ++ vs ++ caps)) L (RetR X.P rs (fun o L' => match o with
      | .ret v => RW X Q ops (i + 1) rest (putE E d v) L'
      | .panic v => Q (.panic v) E L'))) :
    RW X Q ops i (Oper.mk d (.call { callee := .value f, args, argTypes := ats }) ty pos af g :: rest) E L := by
  subst hNN; subst hr
  exact rw_call hN hg hf ha (EvR.of_body hfn hb hen (Nat.le_of_ble_eq_true hlen) h) (fun v L' h => h) (fun v L' h => h)
def flat : AVal → Bool
  | .dat (.bool _) | .dat (.int _ _) | .dat (.str _) => true
  | .tup vs => vs.all fun
    | .dat (.bool _) | .dat (.int _ _) | .dat (.str _) => true
    | _ => false
  | _ => false
theorem flat_vrel {w : World} {ρ ρ' : Rho} {v : AVal} {c : Value} (hv : flat v = true) (h : VRel w ρ v c) : VRel w ρ' v c := by
  cases h with
  | dat h =>
    cases h with
    | bool b => exact .dat (.bool b)
    | int k n => exact .dat (.int k n)
    | str s => exact .dat (.str s)
    | nil => simp [flat] at hv
    | sl => simp [flat] at hv
  | tup hs hh =>
    refine .tup hs (fun i v hi => ?_)
    have h1 := hh i v hi
    have h2 := List.all_eq_true.1 (by simpa [flat] using hv) v (List.mem_of_getElem? hi)
    generalize h1e : (_ : Array Value).getD i undef = cc at h1 ⊢
    cases h1 with
    | dat h =>
      cases h with
      | bool b => exact .dat (.bool b)
      | int k n => exact .dat (.int k n)
      | str s => exact .dat (.str s)
      | nil => simp at h2
      | sl => simp at h2
    | _ => simp at h2
  | _ => simp [flat] at hv
theorem evR_lend {P : Program} {f : FuncId} {args args' : List AVal} {v : AVal} (h : Fn P f args' v) (hz : FrzL P L (fun _ => false) args args') (hv : flat v = true) : EvR P f args L (fun o l => o = .ret v ∧ l = L) := by
  refine ⟨h.1, fun ρ w cs hcs hL => ?_⟩
  have ha : Agree (fun _ => false) ρ (restr ρ (fun _ => false)) := restr_agree ρ _
  have hcs' : LsRel w (restr ρ (fun _ => false)) args' cs := by
    clear h
    induction hcs generalizing args' with
    | nil => cases args' with
      | nil => exact .nil
      | cons _ _ => exact hz.elim
    | cons h1 _ ih =>
      cases args' with
      | nil => exact hz.elim
      | cons u us => exact .cons (hz.1.sound hL ha (fun r x hx => restr_m hx) rfl h1) (ih hz.2)
  have h0 : SatL P (restr ρ (fun _ => false)) [] w := by
    refine ⟨fun r o ho => by simp [aget] at ho, fun r x hx => ?_, fun r r' x x' b h1 => ?_, fun b hb => ?_, hL.elt⟩
    · have := (restr_m hx).1; simp at this
    · have := (restr_m h1).1; simp at this
    · obtain ⟨r, g, l, h1, _⟩ := hb
      have := (restr_m h1).1; simp at this
  refine (h.2 _ w cs hcs' h0).mono fun e w' he => ?_
  obtain ⟨ρ', h1, h2, h3⟩ := he
  have hno : ∀ b, ¬ ownM (restr ρ (fun _ => false)) b := by
    rintro b ⟨r, g, l, h1, _⟩
    have := (restr_m h1).1; simp at this
  have hf : Fr All ρ w ρ w' := ⟨h3.os, h3.tape, h3.output, h3.size, fun b hb _ => h3.blk b hb (hno b), fun _ _ h => h, rfl, fun r x _ hx => ⟨x, hx, .refl x⟩⟩
  refine ⟨ρ, .ret v, L, ⟨rfl, rfl⟩, ?_, ?_, hf⟩
  · cases e with
    | returned c => exact flat_vrel hv h1
    | panicked _ => exact h1.elim
    | outgrown => exact h1.elim
  · refine ⟨fun r o ho => ?_, hL.dom, hL.inj, hL.dis, fun b hb => Nat.lt_of_lt_of_le (hL.elt b hb) h3.size⟩
    obtain ⟨l, hl, hO⟩ := hL.obj r o ho
    exact ⟨l, hl, hO.same hf (fun b hb => h3.blk b (hL.lt ⟨r, _, l, hl, hb⟩) (hno b))⟩
theorem rw_callL {d : Option Nat} {fid : FuncId} {args : Array Operand} {ats : Array TypeId} {ty : TypeId} {pos : String} {af : Array Edge} {g : Option (Nat × Bool)} {vs us : List AVal} {v : AVal}
    (hN : Nat.blt (d.getD 0) X.N = true) (hg : gval ops.toList E g = some true) (ha : evl E args.toList = some vs) (hev : Fn X.P fid us v) (hz : FrzL X.P L (fun _ => false) vs us) (hv : flat v = true)
    (hk : RW X Q ops (i + 1) rest (putE E d v) L) :
    RW X Q ops i (Oper.mk d (.call { callee := .value (.func fid), args, argTypes := ats }) ty pos af g :: rest) E L :=
  rw_call hN hg rfl ha (by rw [List.append_nil, List.nil_append]; exact evR_lend hev hz hv) (fun v' L' h => by
    obtain ⟨h1, h2⟩ := h
    injection h1 with h1
    subst h1; subst h2
    exact hk) (fun v' L' h => by cases h.1)
theorem dat_len {w : World} {o : Nat → Prop} {sz : Nat} {els : List (List Dat)} {v : Value} (h : DRel w o (.sl sz els) v) : els.length ≤ 9223372036854775807 := by
  cases h with
  | nil => simp
  | sl els sz cap a cv hsz hcap hm hc hd => exact Nat.le_trans hcap hm
theorem awp_len {c : Code} {t sz : Nat} {els : List (List Dat)} (ht : aget E t = some (.dat (.sl sz els))) (h : els.length ≤ 9223372036854775807 → AWP X c E L Q) : AWP X c E L Q := fun ρ a w hS => by
  have := (hS.env t _ ht).2
  cases this with
  | dat hd => exact h (dat_len hd) ρ a w hS
theorem awp_lenR {c : Code} {r g e : Nat} {els : List (List AVal)} (hr : aget L r = some (.row g e els)) (h : els.length ≤ 9223372036854775807 → AWP X c E L Q) : AWP X c E L Q := fun ρ a w hS => by
  obtain ⟨v, sz, xs, _, _, _, _, hown, _⟩ := cur_row hS.heap hr
  refine h ?_ ρ a w hS
  rcases own_form hown with ⟨_, h0⟩ | ⟨b, cap, _, h1, h2⟩
  · rw [h0]; exact Nat.zero_le _
  · exact Nat.le_trans h1 h2
end
end Go.Sk
namespace Go.Sk
open Go
abbrev eI (k : IntKind) (x : Int) : List Dat := [.int k x]
abbrev eB (b : Bool) : List Dat := [.bool b]
abbrev dI (k : IntKind) (x : Int) : AVal := .dat (.int k x)
abbrev dB (b : Bool) : AVal := .dat (.bool b)
abbrev dL {α : Type} (sz : Nat) (f : α → List Dat) (xs : List α) : AVal := .dat (.sl sz (xs.map f))
abbrev eL {α : Type} (sz : Nat) (f : α → List Dat) (xs : List α) : List Dat := [.sl sz (xs.map f)]
abbrev rw' {α : Type} (g e : Nat) (f : α → List Dat) (xs : List α) : AObj := .row g e (rowOf (xs.map f))
theorem rowOf_map_get {α : Type} {f : α → List Dat} {xs : List α} {i : Nat} {a : α} (h : xs[i]? = some a) : (rowOf (xs.map f))[i]? = some ((f a).map .dat) := by
  simp [rowOf, h]
theorem rowOf_map_set {α : Type} {f : α → List Dat} {xs : List α} {i : Nat} {a : α} {vs : List AVal} (h : vs = (f a).map .dat) : (rowOf (xs.map f)).set i vs = rowOf ((xs.set i a).map f) := by
  subst h; simp [rowOf, List.map_set]
theorem rowOf_map_app {α : Type} {f : α → List Dat} {xs ys : List α} : rowOf (xs.map f) ++ rowOf (ys.map f) = rowOf ((xs ++ ys).map f) := by simp [rowOf]
section
variable {P : Program} {E : Env} {L L' : LH} {r0 : Option Nat}
theorem st_mv {x : Operand} {v : AVal} (h : ev E x = some v) : opStep P r0 (.move x) E L = some (v, L) := by simp [opStep, h]
theorem st_as {x : Operand} {v : AVal} (h : ev E x = some v) : opStep P r0 (.assign x) E L = some (v, L) := by simp [opStep, h]
theorem st_pickT {c a b : Operand} {v : AVal} (hc : ev E c = some (dB true)) (h : ev E a = some v) : opStep P r0 (.pick c a b) E L = some (v, L) := by simp [opStep, hc, h]
theorem st_pickF {c a b : Operand} {v : AVal} (hc : ev E c = some (dB false)) (h : ev E b = some v) : opStep P r0 (.pick c a b) E L = some (v, L) := by simp [opStep, hc, h]
theorem st_bin {op : BinOp} {t t' : TypeId} {x y : Operand} {k k' : IntKind} {a b : Int} {v : AVal} (hx : ev E x = some (dI k a)) (hy : ev E y = some (dI k' b)) (h : abin op (dI k a) (dI k' b) = some v) :
    opStep P r0 (.binOp op t x y t') E L = some (v, L) := by
  simp [opStep, hx, hy, abin2L, abin2, h]
theorem wrap64_id {n : Int} (h0 : -9223372036854775808 ≤ n) (h1 : n ≤ 9223372036854775807) : IntKind.wrap .i64 n = n := by
  simp only [IntKind.wrap, IntKind.bits, IntKind.signed]
  simp only [Bool.true_and]
  split <;> rename_i h <;> simp only [ge_iff_le, decide_eq_true_eq] at h <;> omega
theorem st_inc {t t' : TypeId} {x y : Operand} {j n : Nat} (hx : ev E x = some (dI .i64 (j : Int))) (hy : ev E y = some (dI .i64 1)) (hj : j < n) (hn : n ≤ 9223372036854775807) :
    opStep P r0 (.binOp .add t x y t') E L = some (dI .i64 ((j + 1 : Nat) : Int), L) := by
  refine st_bin hx hy ?_
  show (some (AVal.dat (.int .i64 (IntKind.wrap .i64 ((j : Int) + 1)))) : Option AVal) = _
  rw [wrap64_id (by omega) (by omega)]
  rfl
theorem st_binB {op : BinOp} {t t' : TypeId} {x y : Operand} {a b : Bool} {v : AVal} (hx : ev E x = some (dB a)) (hy : ev E y = some (dB b)) (ht : P.underlying t = some .bool)
    (h : (match op with | .eql => some (dB (a == b)) | .neq => some (dB (!(a == b))) | _ => none) = some v) : opStep P r0 (.binOp op t x y t') E L = some (v, L) := by
  simp only [opStep, hx, hy, Option.bind_some, abin2L, abin2, ht]
  cases op <;> simp_all
theorem st_un {op : UnOp} {t : TypeId} {x : Operand} {u v : AVal} (hx : ev E x = some u) (h : aun op u = some v) : opStep P r0 (.unOp op t x) E L = some (v, L) := by simp [opStep, hx, h]
theorem st_ext {x : Operand} {i : Nat} {vs : List AVal} {v : AVal} (hx : ev E x = some (.tup vs)) (h : vs[i]? = some v) : opStep P r0 (.extract x i) E L = some (v, L) := by simp [opStep, hx, aextract, h]
theorem st_max {x y : Operand} {ts : Array TypeId} {k k' : IntKind} {a b : Int} (hx : ev E x = some (dI k a)) (hy : ev E y = some (dI k' b)) :
    opStep P r0 (.call { callee := .builtin .max, args := #[x, y], argTypes := ts }) E L = some (dI k (imx a b), L) := by simp [opStep, stBuiltin, hx, hy, amm, imx]
theorem st_min {x y : Operand} {ts : Array TypeId} {k k' : IntKind} {a b : Int} (hx : ev E x = some (dI k a)) (hy : ev E y = some (dI k' b)) :
    opStep P r0 (.call { callee := .builtin .min, args := #[x, y], argTypes := ts }) E L = some (dI k (imn a b), L) := by simp [opStep, stBuiltin, hx, hy, amm, imn]
theorem st_lenD {α : Type} {f : α → List Dat} {xs : List α} {sz : Nat} {x : Operand} {t e : TypeId} (hx : ev E x = some (dL sz f xs)) (ht : P.underlying t = some (.slice e)) :
    opStep P r0 (.call { callee := .builtin .len, args := #[x], argTypes := #[t] }) E L = some (dI .i64 (xs.length : Int), L) := by simp [opStep, stBuiltin, hx, alenP, ht, goI]
theorem st_lenR {r g off n e' : Nat} {els : List (List AVal)} {x : Operand} {t e : TypeId} (hx : ev E x = some (.slice r g off n)) (ht : P.underlying t = some (.slice e)) (hr : aget L r = some (.row g e' els)) :
    opStep P r0 (.call { callee := .builtin .len, args := #[x], argTypes := #[t] }) E L = some (dI .i64 (n : Int), L) := by simp [opStep, stBuiltin, hx, alenP, ht, goI, hr]
theorem st_ixD {α : Type} {f : α → List Dat} {xs : List α} {sz b : Nat} {x i : Operand} {t e : TypeId} {k : IntKind} {n : Int} {a : α} (hs : slE P t = some (e, sz, b)) (hx : ev E x = some (dL sz f xs)) (hi : ev E i = some (dI k n))
    (h0 : 0 ≤ n) (ha : xs[n.toNat]? = some a) : opStep P r0 (.indexAddr t x i) E L = some (.pdat (f a) 0, L) := by
  simp [opStep, hx, hi, aindexAddr, hs, h0, ha]
theorem st_ixDn {α : Type} {f : α → List Dat} {xs : List α} {sz b : Nat} {x i : Operand} {t e : TypeId} {k : IntKind} {j : Nat} {a : α} (hs : slE P t = some (e, sz, b)) (hx : ev E x = some (dL sz f xs)) (hi : ev E i = some (dI k (j : Int)))
    (ha : xs[j]? = some a) : opStep P r0 (.indexAddr t x i) E L = some (.pdat (f a) 0, L) := st_ixD hs hx hi (by omega) (by simpa using ha)
theorem st_ixR {r g off len sz b : Nat} {els : List (List AVal)} {x i : Operand} {t e : TypeId} {k : IntKind} {n : Int} (hs : slE P t = some (e, sz, b)) (hx : ev E x = some (.slice r g off len)) (hi : ev E i = some (dI k n))
    (hr : aget L r = some (.row g e els)) (h0 : 0 ≤ n) (ha : n.toNat < len) : opStep P r0 (.indexAddr t x i) E L = some (.ptr r g (off + n.toNat) 0, L) := by
  have ha' : n < (len : Int) := by omega
  simp [opStep, hx, hi, aindexAddr, hs, h0, ha', hr]
theorem st_ixR0 {r g len sz b : Nat} {els : List (List AVal)} {x i : Operand} {t e : TypeId} {k : IntKind} {n : Int} (hs : slE P t = some (e, sz, b)) (hx : ev E x = some (.slice r g 0 len)) (hi : ev E i = some (dI k n))
    (hr : aget L r = some (.row g e els)) (h0 : 0 ≤ n) (ha : n.toNat < len) : opStep P r0 (.indexAddr t x i) E L = some (.ptr r g n.toNat 0, L) := by
  have := st_ixR (P := P) (r0 := r0) hs hx hi hr h0 ha
  simpa using this
theorem st_faP {s : TypeId} {x : Operand} {f r g i k off n : Nat} {b : Bool} (hf : fOff P s f = some (off, n, b)) (hx : ev E x = some (.ptr r g i k)) : opStep P r0 (.fieldAddr s x f) E L = some (.ptr r g i (k + off), L) := by
  simp [opStep, hx, afieldAddr, hf, mkPtrField]
theorem st_faD {s : TypeId} {x : Operand} {f k off n : Nat} {cells : List Dat} {b : Bool} (hf : fOff P s f = some (off, n, b)) (hx : ev E x = some (.pdat cells k)) : opStep P r0 (.fieldAddr s x f) E L = some (.pdat cells (k + off), L) := by
  simp [opStep, hx, afieldAddr, hf, mkPtrField]
theorem st_field {s : TypeId} {x : Operand} {f off n : Nat} {vs : List AVal} {b : Bool} {v : AVal} (hf : fOff P s f = some (off, n, b)) (hx : ev E x = some (.agg vs)) (h : apart b n off vs = some v) : opStep P r0 (.field s x f) E L = some (v, L) := by
  simp [opStep, hx, afield, hf, h]
def cv (ta : Bool × Nat) (cs : List AVal) : Option AVal :=
  match ta with
  | (true, n) => if n ≤ cs.length then some (.agg (cs.take n)) else none
  | (false, _) => cs.head?
theorem cellsVal_cv {t : TypeId} {ta : Bool × Nat} {cs : List AVal} (h : tAgg P t = some ta) : cellsVal P t cs = cv ta cs := by
  unfold cellsVal cv
  rw [h]
  obtain ⟨b, n⟩ := ta
  cases b <;> rfl
theorem st_ldD {t : TypeId} {x : Operand} {cells : List Dat} {k : Nat} {ta : Bool × Nat} {v : AVal} (ht : tAgg P t = some ta) (hx : ev E x = some (.pdat cells k)) (h : cv ta ((cells.drop k).map .dat) = some v) : opStep P r0 (.load t x) E L = some (v, L) := by
  simp only [opStep, evG_of hx, Option.bind_some, aload, cellsVal_cv ht, h, Option.map_some]
theorem st_ldP {t : TypeId} {x : Operand} {r g i k e : Nat} {els : List (List AVal)} {el : List AVal} {ta : Bool × Nat} {v : AVal} (ht : tAgg P t = some ta) (hx : ev E x = some (.ptr r g i k)) (hr : aget L r = some (.row g e els)) (hel : els[i]? = some el)
    (h : cv ta (el.drop k) = some v) : opStep P r0 (.load t x) E L = some (v, L) := by
  simp [opStep, evG_of hx, aload, hr, hel, cellsVal_cv ht, h]
theorem st_stP {t : TypeId} {a x : Operand} {r g i k e : Nat} {els : List (List AVal)} {el vs : List AVal} {v : AVal} {ta : Bool × Nat} (ht : tAgg P t = some ta) (ha : ev E a = some (.ptr r g i k)) (hx : ev E x = some v) (hr : aget L r = some (.row g e els)) (hel : els[i]? = some el)
    (hv : acells v = some vs) (hsc : allSc vs = true) (hl : Nat.beq vs.length ta.2 = true) (hk : Nat.ble (k + vs.length) el.length = true) : opStep P r0 (.store t a x) E L = some (.tup [], aset L r (.row g e (els.set i (setRange el k vs)))) := by
  have hl := Nat.eq_of_beq_eq_true hl
  have hk := Nat.le_of_ble_eq_true hk
  simp only [opStep, ha, hx, Option.bind_some, stStore, hr, hel, hv, ht]
  rw [if_pos ⟨trivial, hsc, hl, hk⟩]
  rfl
theorem st_stT {α : Type} {f : α → List Dat} {xs : List α} {t : TypeId} {a x : Operand} {r g i k e : Nat} {vs : List AVal} {v : AVal} {ta : Bool × Nat} {y z : α} (ht : tAgg P t = some ta) (ha : ev E a = some (.ptr r g i k)) (hx : ev E x = some v) (hr : aget L r = some (rw' g e f xs)) (hel : xs[i]? = some y)
    (hv : acells v = some vs) (hsc : allSc vs = true) (hl : Nat.beq vs.length ta.2 = true) (hk : Nat.ble (k + vs.length) (f y).length = true) (hz : setRange ((f y).map .dat) k vs = (f z).map .dat) :
    opStep P r0 (.store t a x) E L = some (.tup [], aset L r (rw' g e f (xs.set i z))) := by
  rw [st_stP ht ha hx hr (rowOf_map_get hel) hv hsc hl (by simpa using hk), rowOf_map_set hz]
theorem st_box {t r : Nat} {x : Operand} {v : AVal} {vs : List AVal} (hx : ev E x = some v) (hv : acells v = some vs) (hr : aget L r = none) (hl : P.cellsOf t = vs.length) (h0 : Nat.blt 0 vs.length = true) (hs : allSc vs = true) :
    opStep P (some r) (.box t x) E L = some (.ptr r 0 0 0, aset L r (.row 0 t [vs])) := by
  have h0 : 0 < vs.length := by simpa [Nat.blt_eq] using h0
  simp [opStep, hx, stBox, hv, hr, hl, h0, hs]
theorem st_alloc {t r : Nat} {vs : List AVal} (hz : zCells P t = some vs) (hr : aget L r = none) (hs : allSc vs = true) : opStep P (some r) (.alloc t) E L = some (.ptr r 0 0 0, aset L r (.row 0 t [vs])) := by
  simp [opStep, stAlloc, hz, hr, hs]
theorem st_bsl {t r n : Nat} {parts : Array (Nat × Operand)} {e sz b : Nat} {zc : List AVal} {ps : List (Nat × AVal)} {els : List (List AVal)} (hs : slE P t = some (e, sz, b)) (hz : zCells P e = some zc) (hp : evs E parts.toList = some ps) (hr : aget L r = none)
    (hn : Nat.ble (n * sz) 16777216 = true) (hsc : allSc zc = true) (he : asetEls (List.replicate n zc) sz ps = some els) : opStep P (some r) (.buildSlice t n parts) E L = some (.slice r 1 0 n, aset L r (.row 1 e els)) := by
  have hn := Nat.le_of_ble_eq_true hn
  simp only [opStep, Option.bind_some, hp, stBuildSlice, hs, hz]
  rw [if_pos ⟨by rw [hr]; rfl, hn, hsc⟩, he]
  rfl
theorem st_mk {α : Type} {f : α → List Dat} {z : α} {t r : Nat} {x : Operand} {e sz b : Nat} {zc : List AVal} {n : Int} {k : IntKind} (hs : slE P t = some (e, sz, b)) (hz : zCells P e = some zc) (hx : ev E x = some (dI k n)) (hr : aget L r = none)
    (hb : Nat.ble b 256 = true) (hsc : allSc zc = true) (hzc : zc = (f z).map .dat) (h0 : 0 ≤ n) (hn : n.toNat ≤ 1099511627776) :
    opStep P (some r) (.makeSlice t x x) E L = some (.slice r 1 0 n.toNat, aset L r (rw' 1 e f (List.replicate n.toNat z))) := by
  have hb := Nat.le_of_ble_eq_true hb
  simp only [opStep, Option.bind_some, hx, stMakeSlice, hs, hz]
  have e1 : zCells P e = some zc := hz
  have e2 : b * n.toNat ≤ 281474976710656 := Nat.le_trans (Nat.mul_le_mul hb hn) (by decide)
  subst hzc
  rw [if_pos ⟨by rw [hr]; rfl, hsc, h0, h0, .inr trivial, e2, by omega⟩]
  simp [rowOf, rw']
theorem st_build {t : TypeId} {parts : Array (Nat × Operand)} {ps : List (Nat × AVal)} {zc : List AVal} {pl : Places} {vs : List AVal} (hb : bLay P t = some (zc, pl)) (hp : evs E parts.toList = some ps) (hf : afill pl zc ps = some vs) :
    opStep P r0 (.build t parts) E L = some (.agg vs, L) := by
  simp [opStep, hp, abuild, hb, hf]
theorem rowOf_sc (ds : List (List Dat)) : (rowOf ds).flatten.all sc = true := by
  rw [rowOf_flatten]
  simp [sc]
structure News {α : Type} (P : Program) (L : LH) (e sz : Nat) (f : α → List Dat) (x : AVal) (ys : List α) : Prop where
  h : elsOf L e sz x = some (rowOf (ys.map f))
theorem news_one {α : Type} {f : α → List Dat} {r g e sz : Nat} {cells : List AVal} {a : α} (hr : aget L r = some (.row g e [cells])) (h : cells = (f a).map .dat) : News P L e sz f (.slice r g 0 1) [a] :=
  ⟨by simp [elsOf, hr, asubl, rowOf, h]⟩
theorem news_dat {α : Type} {f : α → List Dat} {e sz : Nat} {ys : List α} : News P L e sz f (dL sz f ys) ys := ⟨by simp [elsOf]⟩
theorem st_appR {α : Type} {f : α → List Dat} {xs ys : List α} {r g n t e sz b : Nat} {s x : Operand} {xv : AVal} {zc : List AVal} {r1 : Nat} (hs : slE P t = some (e, sz, b)) (hz : zCells P e = some zc) (hS : ev E s = some (.slice r g 0 n)) (hx : ev E x = some xv)
    (hr : aget L r = some (rw' g e f xs)) (hn : n = xs.length) (hb : Nat.ble b 128 = true) (hw : News P L e sz f xv ys) (hl : xs.length + ys.length ≤ 1099511627776) :
    opStep P (some r1) (.call { callee := .builtin .append, args := #[s, x], argTypes := #[t, t] }) E L = some (.slice r (g + 2) 0 (xs ++ ys).length, aset L r (rw' (g + 2) e f (xs ++ ys))) := by
  have hb := Nat.le_of_ble_eq_true hb
  subst hn
  have hbb : (xs.length + ys.length) * b ≤ 140737488355328 := by
    calc (xs.length + ys.length) * b ≤ 1099511627776 * 128 := Nat.mul_le_mul hl hb
      _ = 140737488355328 := by decide
  simp only [opStep, stBuiltin, if_true, Option.bind_some, hS, hx, stAppend, hs, hz, hw.h, rowOf_sc, hr]
  have h1 : (rowOf (xs.map f)).length = xs.length := by simp [rowOf]
  have h2 : (rowOf (ys.map f)).length = ys.length := by simp [rowOf]
  rw [if_pos ⟨trivial, trivial, trivial, h1.symm, by rw [h2]; exact hbb, by rw [h2]; omega⟩, rowOf_map_app, h2, List.length_append]
theorem st_slHi {α : Type} {f : α → List Dat} {xs : List α} {sz b t e : Nat} {x hi : Operand} {k : IntKind} {n : Int} (hs : slE P t = some (e, sz, b)) (hx : ev E x = some (dL sz f xs)) (hl : ev E hi = some (dI k n)) (h0 : 0 ≤ n) (h1 : n.toNat ≤ xs.length) :
    opStep P r0 (.slice t x none (some hi) none) E L = some (dL sz f (xs.take n.toNat), L) := by
  have hh : n ≤ (xs.length : Int) := by omega
  simp [opStep, hx, oev, hl, aslice, hs, optInt, optLo, h0, hh, asubl, List.map_take]
theorem st_slRHi {r g off len sz b t e : Nat} {els : List (List AVal)} {x hi : Operand} {k : IntKind} {n : Int} (hs : slE P t = some (e, sz, b)) (hx : ev E x = some (.slice r g off len)) (hr : aget L r = some (.row g e els)) (hl : ev E hi = some (dI k n)) (h0 : 0 ≤ n) (h1 : n.toNat ≤ len) :
    opStep P r0 (.slice t x none (some hi) none) E L = some (.slice r g off n.toNat, L) := by
  have hh : n ≤ (len : Int) := by omega
  simp [opStep, hx, oev, hl, aslice, hs, optInt, optLo, hr, h0, hh]
theorem st_fn {f : FuncId} {first caps : Array Operand} {bs vs : List AVal} (h0 : evl E first.toList = some bs) (h : evl E caps.toList = some vs) : opStep P r0 (.makeFunc (.func f) first caps) E L = some (.fn f bs vs, L) := by
  simp [opStep, h0, h]
theorem st_nilP {x : Operand} {r g i k : Nat} (h : ev E x = some (.ptr r g i k)) : opStep P r0 (.nilCheck x) E L = some (.ptr r g i k, L) := by simp [opStep, h]
theorem st_nilD {x : Operand} {c : List Dat} {k : Nat} (h : ev E x = some (.pdat c k)) : opStep P r0 (.nilCheck x) E L = some (.pdat c k, L) := by simp [opStep, h]
end
inductive NzTo : AVal → AVal → Prop
  | keep (v : AVal) : NzTo v v
  | nil (sz : Nat) : NzTo .nilS (.dat (.sl sz []))
  | agg {vs us : List AVal} (hl : vs.length = us.length) (h : ∀ (i : Nat) (v u : AVal), vs[i]? = some v → us[i]? = some u → NzTo v u) : NzTo (.agg vs) (.agg us)
def NzL : List AVal → List AVal → Prop
  | [], [] => True
  | v :: vs, u :: us => NzTo v u ∧ NzL vs us
  | _, _ => False
theorem NzL.len : ∀ {vs us : List AVal}, NzL vs us → vs.length = us.length
  | [], [], _ => rfl
  | v :: vs, u :: us, h => by simp [NzL.len h.2]
  | [], _ :: _, h => h.elim
  | _ :: _, [], h => h.elim
theorem NzL.get : ∀ {vs us : List AVal}, NzL vs us → ∀ (i : Nat) (v u : AVal), vs[i]? = some v → us[i]? = some u → NzTo v u
  | [], [], _, i, v, u, h1, _ => by simp at h1
  | v :: vs, u :: us, h, 0, x, y, h1, h2 => by
    simp only [List.getElem?_cons_zero, Option.some.injEq] at h1 h2
    subst h1; subst h2; exact h.1
  | v :: vs, u :: us, h, i + 1, x, y, h1, h2 => NzL.get h.2 i x y (by simpa using h1) (by simpa using h2)
  | [], _ :: _, h, _, _, _, _, _ => h.elim
  | _ :: _, [], h, _, _, _, _, _ => h.elim
theorem NzTo.sound {w : World} {ρ : Rho} {v u : AVal} (h : NzTo v u) : ∀ {c : Value}, VRel w ρ v c → VRel w ρ u c := by
  induction h with
  | keep => exact fun hv => hv
  | nil sz => intro c hv; cases hv; exact .dat (.nil sz)
  | @agg vs us hl _ ih =>
    intro c hv
    cases hv with
    | agg hs hh =>
      refine .agg (by rw [hs, hl]) (fun i u hi => ?_)
      have hlt : i < vs.length := by rw [hl]; exact (List.getElem?_eq_some_iff.1 hi).1
      exact ih i _ u (List.getElem?_eq_getElem hlt) hi (hh i _ (List.getElem?_eq_getElem hlt))
section
variable {X : Cx} {E : Env} {L L' : LH} {Q : Ex → Env → LH → Prop} {ops : Array Oper} {rest : List Oper} {i : Nat}
theorem ro {d : Nat} {op : Op} {ty : TypeId} {pos : String} {af : Array Edge} {g : Option (Nat × Bool)} {v : AVal} (hN : Nat.blt d X.N = true) (hg : gval ops.toList E g = some true)
    (hs : opStep X.P none op E L = some (v, L)) (h : RW X Q ops (i + 1) rest ((d, v) :: E) L) : RW X Q ops i (Oper.mk (some d) op ty pos af g :: rest) E L := rw_op hN hg hs h
theorem rn {d : Nat} {op : Op} {ty : TypeId} {pos : String} {af : Array Edge} {g : Option (Nat × Bool)} {v : AVal} {r : Nat} (hN : Nat.blt d X.N = true) (hg : gval ops.toList E g = some true)
    {L2 : LH} (hs : opStep X.P (some r) op E L = some (v, L2)) (hL : L2 = L') (h : RW X Q ops (i + 1) rest ((d, v) :: E) L') : RW X Q ops i (Oper.mk (some d) op ty pos af g :: rest) E L := rw_op hN hg hs (hL ▸ h)
theorem rx {op : Op} {ty : TypeId} {pos : String} {af : Array Edge} {g : Option (Nat × Bool)} {v : AVal} (hN : Nat.blt 0 X.N = true) (hg : gval ops.toList E g = some true)
    {L2 : LH} (hs : opStep X.P none op E L = some (v, L2)) (hL : L2 = L') (h : RW X Q ops (i + 1) rest E L') : RW X Q ops i (Oper.mk none op ty pos af g :: rest) E L := rw_op hN hg hs (hL ▸ h)
theorem rz {d : Nat} {op : Op} {ty : TypeId} {pos : String} {af : Array Edge} {g : Option (Nat × Bool)} (hN : Nat.blt d X.N = true) (hg : gval ops.toList E g = some false)
    (h : RW X Q ops (i + 1) rest ((d, .tup []) :: E) L) : RW X Q ops i (Oper.mk (some d) op ty pos af g :: rest) E L := rw_skip hN hg h
theorem rf {d : Nat} {fid : FuncId} {args : Array Operand} {ats : Array TypeId} {ty : TypeId} {pos : String} {af : Array Edge} {g : Option (Nat × Bool)} {vs : List AVal} {v : AVal}
    (hN : Nat.blt d X.N = true) (hg : gval ops.toList E g = some true) (hev : Fn X.P fid vs v) (ha : evl E args.toList = some vs) (hc : closedL (fun _ => false) vs = true)
    (hk : RW X Q ops (i + 1) rest ((d, v) :: E) L) : RW X Q ops i (Oper.mk (some d) (.call { callee := .value (.func fid), args, argTypes := ats }) ty pos af g :: rest) E L := rw_callF hN hg ha hev hc hk
theorem rl {d : Nat} {fid : FuncId} {args : Array Operand} {ats : Array TypeId} {ty : TypeId} {pos : String} {af : Array Edge} {g : Option (Nat × Bool)} {vs us : List AVal} {v : AVal}
    (hN : Nat.blt d X.N = true) (hg : gval ops.toList E g = some true) (hev : Fn X.P fid us v) (ha : evl E args.toList = some vs) (hz : FrzL X.P L (fun _ => false) vs us) (hv : flat v = true)
    (hk : RW X Q ops (i + 1) rest ((d, v) :: E) L) : RW X Q ops i (Oper.mk (some d) (.call { callee := .value (.func fid), args, argTypes := ats }) ty pos af g :: rest) E L := rw_callL hN hg ha hev hz hv hk
theorem ri {d : Nat} {f : Operand} {args : Array Operand} {ats : Array TypeId} {ty : TypeId} {pos : String} {af : Array Edge} {g : Option (Nat × Bool)} {fid : FuncId} {bs caps vs : List AVal} {fn : Func} {c : Code} {N : Nat} {rs : List ResultVar}
    (hN : Nat.blt d X.N = true) (hg : gval ops.toList E g = some true) (hf : ev E f = some (.fn fid bs caps)) (ha : evl E args.toList = some vs)
    (hfn : X.P.funcs[fid]? = some fn) (hb : fn.body = some c) (hNN : fn.ntmps = N) (hr : fn.results.toList = rs) (hen : enters X.P fid = true) (hlen : Nat.ble (bs ++ vs ++ caps).length N = true)
    (h : ∀ B, AWP (fcx X.P N B L) c (argE 0 (bs ++ vs ++ caps)) L (RetR X.P rs (fun o L' => match o with
      | .ret v => RW X Q ops (i + 1) rest ((d, v) :: E) L'
      | .panic v => Q (.panic v) E L'))) :
    RW X Q ops i (Oper.mk (some d) (.call { callee := .value f, args, argTypes := ats }) ty pos af g :: rest) E L := rw_in hN hg hf ha hfn hb hNN hr hen hlen h
end
section
variable {X : Cx} {E : Env} {L : LH} {Q : Ex → Env → LH → Prop}
theorem awp_ite {c : Operand} {x y : Code} {b : Bool} (hc : ev E c = some (dB b)) (h1 : b = true → AWP X x E L Q) (h2 : b = false → AWP X y E L Q) : AWP X (.cond c x y) E L Q := by
  cases b with
  | true => exact awp_condT hc (h1 rfl)
  | false => exact awp_condF hc (h2 rfl)
theorem awp_range {α S R Γ : Type} {c : Code} {f : Nat → α → S → (S → Option R) → Option R} {xs : List α} {k : S → Option R} {r : R} {s0 : S} (env : Nat → S → Γ → Env) (rows : S → Γ → LH) (γ0 : Γ) (hQ : NoGo Q)
    (h : rangeF f 0 xs s0 k = some r) (h0 : Gh X E L (env 0 s0 γ0) (rows s0 γ0))
    (step : ∀ (j : Nat) (x : α) (s : S) (γ : Γ) (kk : S → Option R), j < xs.length → xs[j]? = some x → f j x s kk = some r → (∀ s' γ', kk s' = some r → AWP X (.loop c) (env (j + 1) s' γ') (rows s' γ') Q) →
      AWP X c (env j s γ) (rows s γ) (thenX (fun E L => AWP X (.loop c) E L Q) Q))
    (done : ∀ s γ, k s = some r → AWP X c (env xs.length s γ) (rows s γ) (thenX (fun E L => AWP X (.loop c) E L Q) Q)) : AWP X (.loop c) E L Q := by
  refine awp_gh h0 ?_
  have key : ∀ (ys : List α) (j : Nat), xs.drop j = ys → j ≤ xs.length → ∀ s γ, rangeF f j ys s k = some r → AWP X (.loop c) (env j s γ) (rows s γ) Q := by
    intro ys
    induction ys with
    | nil =>
      intro j hj hle s γ hr
      have : j = xs.length := by
        have := congrArg List.length hj
        simp at this; omega
      subst this
      exact awp_unroll hQ (done s γ hr)
    | cons y ys ih =>
      intro j hj hle s γ hr
      have hlt : j < xs.length := by
        have := congrArg List.length hj
        simp at this; omega
      have hget : xs[j]? = some y := by
        have := congrArg (fun l : List α => l[0]?) hj
        simpa using this
      have htl : xs.drop (j + 1) = ys := by
        have := congrArg List.tail hj
        simpa using this
      exact awp_unroll hQ (step j y s γ _ hlt hget hr (fun s' γ' h' => ih (j + 1) htl hlt s' γ' h'))
  exact key xs 0 rfl (Nat.zero_le _) s0 γ0 h
theorem awp_up {S R Γ : Type} {c : Code} {f : Int → S → (S → Option R) → Option R} {n : Nat} {lo : Int} {k : S → Option R} {r : R} {s0 : S} (env : Int → S → Γ → Env) (rows : S → Γ → LH) (γ0 : Γ) (hQ : NoGo Q)
    (h : upF f n lo s0 k = some r) (h0 : Gh X E L (env lo s0 γ0) (rows s0 γ0))
    (step : ∀ (i : Int) (s : S) (γ : Γ) (kk : S → Option R), lo ≤ i → i < lo + n → f i s kk = some r → (∀ s' γ', kk s' = some r → AWP X (.loop c) (env (i + 1) s' γ') (rows s' γ') Q) →
      AWP X c (env i s γ) (rows s γ) (thenX (fun E L => AWP X (.loop c) E L Q) Q))
    (done : ∀ s γ, k s = some r → AWP X c (env (lo + n) s γ) (rows s γ) (thenX (fun E L => AWP X (.loop c) E L Q) Q)) : AWP X (.loop c) E L Q := by
  refine awp_gh h0 ?_
  have key : ∀ (m : Nat) (i : Int), lo ≤ i → i + m = lo + n → ∀ s γ, upF f m i s k = some r → AWP X (.loop c) (env i s γ) (rows s γ) Q := by
    intro m
    induction m with
    | zero =>
      intro i hi hm s γ hr
      have e : i = lo + n := by simpa using hm
      subst e
      exact awp_unroll hQ (done s γ hr)
    | succ m ih =>
      intro i hi hm s γ hr
      exact awp_unroll hQ (step i s γ _ hi (by omega) hr (fun s' γ' h' => ih (i + 1) (by omega) (by omega) s' γ' h'))
  exact key n lo (Int.le_refl _) rfl s0 γ0 h
theorem awp_while {S R Γ : Type} {c : Code} {b : (S → Option R) → S → Option R} {n : Nat} {r : R} {s0 : S} (env : S → Γ → Env) (rows : S → Γ → LH) (γ0 : Γ) (hQ : NoGo Q)
    (h : whileF n b s0 = some r) (h0 : Gh X E L (env s0 γ0) (rows s0 γ0))
    (step : ∀ (s : S) (γ : Γ) (kk : S → Option R), b kk s = some r → (∀ s' γ', kk s' = some r → AWP X (.loop c) (env s' γ') (rows s' γ') Q) → AWP X c (env s γ) (rows s γ) (thenX (fun E L => AWP X (.loop c) E L Q) Q)) : AWP X (.loop c) E L Q := by
  refine awp_gh h0 ?_
  have key : ∀ (m : Nat) s γ, whileF m b s = some r → AWP X (.loop c) (env s γ) (rows s γ) Q := by
    intro m
    induction m with
    | zero => intro s γ hr; simp [whileF] at hr
    | succ m ih => exact fun s γ hr => awp_unroll hQ (step s γ _ hr (fun s' γ' h' => ih s' γ' h'))
  exact key n s0 γ0 h
theorem st_incI {P : Program} {r0 : Option Nat} {t t' : TypeId} {x y : Operand} {i : Int} (hx : ev E x = some (dI .i64 i)) (hy : ev E y = some (dI .i64 1)) (h0 : -9223372036854775808 ≤ i) (h1 : i < 9223372036854775807) :
    opStep P r0 (.binOp .add t x y t') E L = some (dI .i64 (i + 1), L) := by
  refine st_bin hx hy ?_
  show (some (AVal.dat (.int .i64 (IntKind.wrap .i64 (i + 1)))) : Option AVal) = _
  rw [wrap64_id (by omega) (by omega)]
theorem ex_out {n : Env → LH → Prop} {i : Nat} (h : Q (.exit i) E L) : thenX n Q (.exit i) E L := h
theorem ex_in {i : Nat} (h : Q .normal E L) : inBlockX i Q (.exit i) E L := by simp [inBlockX, h]
end
end Go.Sk
namespace Go.Sk
open Go
section
variable {X : Cx} {E : Env} {L L' : LH} {Q : Ex → Env → LH → Prop} {ops : Array Oper} {rest : List Oper} {i : Nat}
theorem awp_jn {S R Γ : Type} {a b : Code} {f : S → Option R} {g : (S → Option R) → Option R} {r : R} (env : S → Γ → Env) (rows : S → Γ → LH) (h : jn f g = some r)
    (hb : ∀ s γ, f s = some r → AWP X b (env s γ) (rows s γ) Q)
    (ha : ∀ j : S → Option R, g j = some r → (∀ s γ E L, j s = some r → Gh X E L (env s γ) (rows s γ) → AWP X b E L Q) → AWP X a E L (thenX (fun E L => AWP X b E L Q) Q)) : AWP X (.seq a b) E L Q :=
  awp_seq (ha f h (fun s γ E L hs hg => awp_gh hg (hb s γ hs)))
theorem rw_jn {S R Γ : Type} {o : Oper} {f : S → Option R} {g : (S → Option R) → Option R} {r : R} (env : S → Γ → Env) (rows : S → Γ → LH) (h : jn f g = some r)
    (hb : ∀ s γ, f s = some r → RW X Q ops (i + 1) rest (env s γ) (rows s γ))
    (ha : ∀ j : S → Option R, g j = some r → (∀ s γ E L, j s = some r → Gh X E L (env s γ) (rows s γ) → RW X Q ops (i + 1) rest E L) → RW X Q ops i (o :: rest) E L) : RW X Q ops i (o :: rest) E L :=
  ha f h (fun s γ E L hs hg => RW.gh hg (hb s γ hs))
theorem awp_ifT {c : Operand} {x y : Code} {b : Bool} (hc : ev E c = some (dB b)) (hb : b = true) (h1 : AWP X x E L Q) : AWP X (.cond c x y) E L Q := by subst hb; exact awp_condT hc h1
theorem awp_ifF {c : Operand} {x y : Code} {b : Bool} (hc : ev E c = some (dB b)) (hb : b = false) (h1 : AWP X y E L Q) : AWP X (.cond c x y) E L Q := by subst hb; exact awp_condF hc h1
theorem dlt {j n : Nat} (h : j < n) : decide ((j : Int) < (n : Int)) = true := by simp; omega
theorem dge {n : Nat} : decide ((n : Int) < (n : Int)) = false := by simp
theorem dltI {i n : Int} (h : i < n) : decide (i < n) = true := by simp; exact h
theorem dgeI {i n : Int} (h : ¬ i < n) : decide (i < n) = false := by simp; omega
theorem bool_split {p : Prop} (b : Bool) (h1 : b = true → p) (h2 : b = false → p) : p := by
  cases b with
  | true => exact h1 rfl
  | false => exact h2 rfl
theorem ite_T {R : Type} {b : Bool} {x y : Option R} {r : R} (hb : b = true) (h : (if b = true then x else y) = some r) : x = some r := by rw [if_pos hb] at h; exact h
theorem ite_F {R : Type} {b : Bool} {x y : Option R} {r : R} (hb : b = false) (h : (if b = true then x else y) = some r) : y = some r := by rw [hb] at h; exact h
theorem nx_then {n : Env → LH → Prop} (h : n E L) : thenX n Q .normal E L := h
theorem nx_block {i : Nat} (h : Q .normal E L) : inBlockX i Q .normal E L := h
theorem rt_then {n : Env → LH → Prop} (h : Q .ret E L) : thenX n Q .ret E L := h
theorem rt_block {i : Nat} (h : Q .ret E L) : inBlockX i Q .ret E L := h
theorem frzT {P : Program} {S : Nat → Bool} {α : Type} {f : α → List Dat} {r g e n sz : Nat} {xs : List α} (ho : aget L r = some (rw' g e f xs)) (hS : S r = false) (hsz : P.cellsOf e = sz) (hn : n = xs.length) :
    Frz P L S (.slice r g 0 n) (dL sz f xs) := frz_row ho hS hsz (by rw [List.length_map]; exact hn)
theorem awp_lenT {c : Code} {α : Type} {f : α → List Dat} {r g e : Nat} {xs : List α} (hr : aget L r = some (rw' g e f xs)) (h : xs.length ≤ 9223372036854775807 → AWP X c E L Q) : AWP X c E L Q :=
  awp_lenR hr (fun hl => h (by simpa [rowOf] using hl))
theorem st_incU {P : Program} {r0 : Option Nat} {t t' : TypeId} {x y : Operand} {i lo hi : Int} (hx : ev E x = some (dI .i64 i)) (hy : ev E y = some (dI .i64 1)) (hl : -9223372036854775808 ≤ lo ∧ hi ≤ 9223372036854775807) (h0 : lo ≤ i) (h1 : i < lo + ((hi - lo).toNat : Int)) :
    opStep P r0 (.binOp .add t x y t') E L = some (dI .i64 (i + 1), L) := st_incI hx hy (by omega) (by omega)
theorem upT {lo hi i : Int} (h0 : lo ≤ i) (h : i < lo + ((hi - lo).toNat : Int)) : i < hi := by omega
theorem upD {lo hi : Int} : ¬ (lo + ((hi - lo).toNat : Int) < hi) := by omega
theorem resVs_nil {P : Program} : resVs P L E [] = some [] := rfl
theorem resVs_tmp {P : Program} {t : Nat} {v : AVal} {rs : List ResultVar} {vs : List AVal} (h : aget E t = some v) (hs : resVs P L E rs = some vs) : resVs P L E (.tmp t :: rs) = some (v :: vs) := by
  simp [resVs, h, hs]
theorem resVs_cell {P : Program} {a : Nat} {t : TypeId} {v : AVal} {rs : List ResultVar} {vs : List AVal} {ta : Bool × Nat} {r g i k e : Nat} {els : List (List AVal)} {el : List AVal} (ht : tAgg P t = some ta) (ha : aget E a = some (.ptr r g i k))
    (hr : aget L r = some (.row g e els)) (hel : els[i]? = some el) (h : cv ta (el.drop k) = some v) (hs : resVs P L E rs = some vs) : resVs P L E (.cell a t :: rs) = some (v :: vs) := by
  simp [resVs, ha, hs, aload, hr, hel, cellsVal_cv ht, h]
theorem resV_one {P : Program} {v : AVal} {rs : List ResultVar} (h : resVs P L E rs = some [v]) : resV P L E rs = some v := by simp [resV, h]
theorem resV_none {P : Program} {rs : List ResultVar} (h : resVs P L E rs = some []) : resV P L E rs = some (.tup []) := by simp [resV, h]
theorem resV_many {P : Program} {v u : AVal} {vs : List AVal} {rs : List ResultVar} (h : resVs P L E rs = some (v :: u :: vs)) : resV P L E rs = some (.tup (v :: u :: vs)) := by simp [resV, h]
theorem ret_out {P : Program} {rs : List ResultVar} {v u : AVal} (h : resV P L E rs = some v) (hz : Frz P L (inL []) v u) : RetP P rs (.ret u) [] .ret E L := retP_pure h hz
theorem ret_in {P : Program} {rs : List ResultVar} {v : AVal} {R : Out → LH → Prop} (h : resV P L E rs = some v) (hR : R (.ret v) L) : RetR P rs R .ret E L := ⟨v, h, hR⟩
theorem ret_inN {P : Program} {rs : List ResultVar} {v : AVal} {R : Out → LH → Prop} (h : resV P L E rs = some v) (hR : R (.ret v) L) : RetR P rs R .normal E L := ⟨v, h, hR⟩
end
def RD (X : Cx) (ops rest : List Oper) (fs : List Ft) (E : Env) (L : LH) (k : Env → LH → Prop) : Prop :=
  ∃ Ts Es Ls, Path X ops rest Ts E L Es Ls ∧ okD ops (fs.reverse ++ fts rest Ts) = true ∧ k (Es rest.length) (Ls rest.length)
section
variable {X : Cx} {E : Env} {L L' : LH} {Q : Ex → Env → LH → Prop} {ops rest : List Oper} {fs : List Ft} {k : Env → LH → Prop}
theorem awp_rd {id : Nat} (hm : X.P.follows .mixedOrders = true) (h : RD X ops ops [] E L (fun E L => Q .normal E L)) : AWP X (.region id ops.toArray true) E L Q := fun ρ a w hS => by
  obtain ⟨Ts, Es, Ls, hp, hok, hk⟩ := h
  refine wpIn_region_any hm ?_
  simp only [List.size_toArray]
  refine draw_core hp (by simpa using hok) hk _ _ E L ρ a _ (by simp) ?_ ?_ ?_ ?_ (hS.drawn _) (Fr.drawn ..)
  · exact Nat.le_trans (List.length_filter_le ..) (by simp)
  · intro i o ho hi
    simp only [Array.getD_eq_getD_getElem?, Array.getElem?_replicate] at hi
    split at hi <;> simp at hi
  · intro t
    exact (fold_none (fun k hk => by simp [hk])).symm
  · intro q
    exact (fold_none (fun k hk => by simp [hk])).symm
theorem awp_rds {id : Nat} {y : Code} (hm : X.P.follows .mixedOrders = true) (h : RD X ops ops [] E L (fun E L => AWP X y E L Q)) : AWP X (.seq (.region id ops.toArray true) y) E L Q := awp_seq (awp_rd hm h)
theorem rd_nil (hok : okD ops fs.reverse = true) (h : k E L) : RD X ops [] fs E L k :=
  ⟨[], fun _ => E, fun _ => L, ⟨fun _ => rfl, fun _ => rfl, rfl, fun i o T h => by simp at h, fun i T h => by simp at h, fun i o h => by simp at h, fun i o T h => by simp at h⟩, by simpa [fts] using hok, h⟩
theorem RD.cons {o : Oper} {T : Tr} (hd : dstOk X.N o.dst) (hL : ∀ q, aget L' q = aget (mergeL L T.up) q) (hok : T.ok X ops o E L) (h : RD X ops rest (T.ft o :: fs) (putE E o.dst T.v) L' k) : RD X ops (o :: rest) fs E L k := by
  obtain ⟨Ts, Es, Ls, h4, h5, h6⟩ := h
  exact ⟨T :: Ts, _, _, h4.cons rfl hL hd hok, by simpa [fts] using h5, h6⟩
def isCallV : Op → Bool
  | .call { callee := .value _, .. } => true
  | _ => false
theorem upOf_names {L' : LH} : ∀ {W : List Nat}, (W.all fun q => (aget L' q).isSome) = true → (upOf L' W).map (·.1) = W
  | [], _ => rfl
  | q :: W, h => by
    simp only [List.all_cons, Bool.and_eq_true] at h
    obtain ⟨o, ho⟩ := Option.isSome_iff_exists.1 h.1
    have := upOf_names (W := W) h.2
    simp only [upOf] at this
    simp [upOf, ho, this]
theorem rd_op {d : Option Nat} {op : Op} {ty : TypeId} {pos : String} {af : Array Edge} {g : Option (Nat × Bool)} {v : AVal} {r0 : Option Nat} {R W : List Nat} (hN : Nat.blt (d.getD 0) X.N = true) (hg : gval ops E g = some true)
    (hs : opStep X.P r0 op E L = some (v, L')) (hl : looks X.P r0 op E = some (R, W)) (hc : isCallV op = false) (hW : (W.all fun q => (aget L' q).isSome) = true)
    (h : RD X ops rest (⟨d, otmps op ++ gts ops g, R ++ W, W⟩ :: fs) (putE E d v) L' k) : RD X ops (Oper.mk d op ty pos af g :: rest) fs E L k := by
  have hop : opD X ops (Oper.mk d op ty pos af g) r0 E L (fun T L2 => T = ⟨r0, otmps op ++ gts ops g, R ++ W, v, upOf L' W⟩ ∧ L2 = L') := by
    unfold opD
    split
    · rename_i hop
      have hop : op = _ := hop
      subst hop
      simp [isCallV] at hc
    · rw [hl, hs]
      exact ⟨fun q hq => List.all_eq_true.1 hW q hq, rfl, rfl⟩
  obtain ⟨T, L2, ⟨rfl, rfl⟩, h2, h3⟩ := opD_path hop hg
  refine RD.cons (T := ⟨r0, otmps op ++ gts ops g, R ++ W, v, upOf L2 W⟩) (dstN_ok hN) h3 h2 ?_
  simp only [Tr.ft, upOf_names hW]
  exact h
theorem rd_skip {d : Option Nat} {op : Op} {ty : TypeId} {pos : String} {af : Array Edge} {g : Option (Nat × Bool)} (hN : Nat.blt (d.getD 0) X.N = true) (hg : gval ops E g = some false)
    (h : RD X ops rest (⟨d, gts ops g, [], []⟩ :: fs) (putE E d (.tup [])) L k) : RD X ops (Oper.mk d op ty pos af g :: rest) fs E L k := by
  refine RD.cons (T := ⟨none, gts ops g, [], .tup [], []⟩) (dstN_ok hN) (fun q => rfl) (fun E2 L2 hE hL => ?_) h
  rw [gval_loc (E := E) (E2 := E2) hE]
  show match gval ops E g with | some true => _ | some false => _ | none => _
  rw [hg]
  exact ⟨rfl, rfl⟩
theorem rd_callF {d : Option Nat} {fid : FuncId} {args : Array Operand} {ats : Array TypeId} {ty : TypeId} {pos : String} {af : Array Edge} {g : Option (Nat × Bool)} {vs : List AVal} {v : AVal}
    (hN : Nat.blt (d.getD 0) X.N = true) (hg : gval ops E g = some true) (ha : evl E args.toList = some vs) (hev : Fn X.P fid vs v) (hc : closedL (fun _ => false) vs = true)
    (h : RD X ops rest (⟨d, otmps (.call { callee := .value (.func fid), args, argTypes := ats }) ++ gts ops g, [], []⟩ :: fs) (putE E d v) L k) :
    RD X ops (Oper.mk d (.call { callee := .value (.func fid), args, argTypes := ats }) ty pos af g :: rest) fs E L k := by
  have hop : opD X ops (Oper.mk d (.call { callee := .value (.func fid), args, argTypes := ats }) ty pos af g) none E L
      (fun T L2 => T = ⟨none, otmps (.call { callee := .value (.func fid), args, argTypes := ats }) ++ gts ops g, [], v, []⟩ ∧ L2 = mergeL L []) := by
    simp only [opD, ev, ha]
    exact callD_pure hev hc ⟨rfl, rfl⟩
  obtain ⟨T, L2, ⟨rfl, rfl⟩, h2, h3⟩ := opD_path hop hg
  exact RD.cons (T := ⟨none, otmps (.call { callee := .value (.func fid), args, argTypes := ats }) ++ gts ops g, [], v, []⟩) (dstN_ok hN) (fun q => by simp [mergeL_get, aget]) h2 h
theorem do_ {d : Nat} {op : Op} {ty : TypeId} {pos : String} {af : Array Edge} {g : Option (Nat × Bool)} {v : AVal} {R W : List Nat} (hN : Nat.blt d X.N = true) (hg : gval ops E g = some true)
    (hs : opStep X.P none op E L = some (v, L)) (hl : looks X.P none op E = some (R, W)) (hc : isCallV op = false) (hW : (W.all fun q => (aget L q).isSome) = true)
    (h : RD X ops rest (⟨some d, otmps op ++ gts ops g, R ++ W, W⟩ :: fs) ((d, v) :: E) L k) : RD X ops (Oper.mk (some d) op ty pos af g :: rest) fs E L k := rd_op hN hg hs hl hc hW h
theorem dn {d : Nat} {op : Op} {ty : TypeId} {pos : String} {af : Array Edge} {g : Option (Nat × Bool)} {v : AVal} {r : Nat} {R W : List Nat} (hN : Nat.blt d X.N = true) (hg : gval ops E g = some true)
    {L2 : LH} (hs : opStep X.P (some r) op E L = some (v, L2)) (hL : L2 = L') (hl : looks X.P (some r) op E = some (R, W)) (hc : isCallV op = false) (hW : (W.all fun q => (aget L' q).isSome) = true)
    (h : RD X ops rest (⟨some d, otmps op ++ gts ops g, R ++ W, W⟩ :: fs) ((d, v) :: E) L' k) : RD X ops (Oper.mk (some d) op ty pos af g :: rest) fs E L k := by subst hL; exact rd_op hN hg hs hl hc hW h
theorem dx {op : Op} {ty : TypeId} {pos : String} {af : Array Edge} {g : Option (Nat × Bool)} {v : AVal} {R W : List Nat} (hN : Nat.blt 0 X.N = true) (hg : gval ops E g = some true)
    {L2 : LH} (hs : opStep X.P none op E L = some (v, L2)) (hL : L2 = L') (hl : looks X.P none op E = some (R, W)) (hc : isCallV op = false) (hW : (W.all fun q => (aget L' q).isSome) = true)
    (h : RD X ops rest (⟨none, otmps op ++ gts ops g, R ++ W, W⟩ :: fs) E L' k) : RD X ops (Oper.mk none op ty pos af g :: rest) fs E L k := by subst hL; exact rd_op hN hg hs hl hc hW h
theorem dz {d : Nat} {op : Op} {ty : TypeId} {pos : String} {af : Array Edge} {g : Option (Nat × Bool)} (hN : Nat.blt d X.N = true) (hg : gval ops E g = some false)
    (h : RD X ops rest (⟨some d, gts ops g, [], []⟩ :: fs) ((d, .tup []) :: E) L k) : RD X ops (Oper.mk (some d) op ty pos af g :: rest) fs E L k := rd_skip hN hg h
theorem df {d : Nat} {fid : FuncId} {args : Array Operand} {ats : Array TypeId} {ty : TypeId} {pos : String} {af : Array Edge} {g : Option (Nat × Bool)} {vs : List AVal} {v : AVal}
    (hN : Nat.blt d X.N = true) (hg : gval ops E g = some true) (hev : Fn X.P fid vs v) (ha : evl E args.toList = some vs) (hc : closedL (fun _ => false) vs = true)
    (h : RD X ops rest (⟨some d, otmps (.call { callee := .value (.func fid), args, argTypes := ats }) ++ gts ops g, [], []⟩ :: fs) ((d, v) :: E) L k) :
    RD X ops (Oper.mk (some d) (.call { callee := .value (.func fid), args, argTypes := ats }) ty pos af g :: rest) fs E L k := rd_callF hN hg ha hev hc h
end
end Go.Sk
namespace Go.Sk
open Go
section
variable {P : Program} {E : Env} {L L' : LH} {r0 : Option Nat}
theorem st_shl {t t' : TypeId} {x y : Operand} {k k' : IntKind} {a b : Int} (hx : ev E x = some (dI k a)) (hy : ev E y = some (dI k' b)) (h : 0 ≤ b) :
    opStep P r0 (.binOp .shl t x y t') E L = some (dI k (k.wrap (a * 2 ^ (min b.toNat k.bits))), L) := st_bin hx hy (by
      have : ¬ b < 0 := by omega
      simp [abin, ashift, this])
theorem st_shr {t t' : TypeId} {x y : Operand} {k k' : IntKind} {a b : Int} (hx : ev E x = some (dI k a)) (hy : ev E y = some (dI k' b)) (h : 0 ≤ b) :
    opStep P r0 (.binOp .shr t x y t') E L = some (dI k (Int.fdiv a (2 ^ (min b.toNat k.bits))), L) := st_bin hx hy (by
      have : ¬ b < 0 := by omega
      simp [abin, ashift, this])
theorem st_nne {t t' e : TypeId} {x y : Operand} (hx : ev E x = some .nilS) (hy : ev E y = some .nilS) (ht : P.underlying t = some (.slice e)) : opStep P r0 (.binOp .eql t x y t') E L = some (dB true, L) := by
  simp [opStep, hx, hy, abin2L, abin2, ht]
theorem lt_of_get {α : Type} {xs : List α} {i : Nat} {a : α} (h : xs[i]? = some a) : i < xs.length := (List.getElem?_eq_some_iff.1 h).1
theorem st_ixRc {r g len sz b : Nat} {els : List (List AVal)} {x i : Operand} {t e : TypeId} {k : IntKind} {j : Nat} (hs : slE P t = some (e, sz, b)) (hx : ev E x = some (.slice r g 0 len)) (hi : ev E i = some (dI k (j : Int)))
    (hr : aget L r = some (.row g e els)) (h : Nat.blt j len = true) : opStep P r0 (.indexAddr t x i) E L = some (.ptr r g j 0, L) := by
  have h : j < len := by simpa [Nat.blt_eq] using h
  have := st_ixR0 (P := P) (r0 := r0) hs hx hi hr (by omega) (by simpa using h)
  simpa using this
theorem st_ixRn {α : Type} {f : α → List Dat} {xs : List α} {r g sz b m : Nat} {x i : Operand} {t e : TypeId} {k : IntKind} {j : Nat} {a : α} (hs : slE P t = some (e, sz, b)) (hx : ev E x = some (.slice r g 0 m)) (hi : ev E i = some (dI k (j : Int)))
    (hr : aget L r = some (rw' g e f xs)) (h : xs[j]? = some a) (hm : m = xs.length) : opStep P r0 (.indexAddr t x i) E L = some (.ptr r g j 0, L) := by
  subst hm
  have := st_ixR0 (P := P) (r0 := r0) hs hx hi hr (by omega) (by simpa using lt_of_get h)
  simpa using this
end
end Go.Sk
namespace Go.Sk
open Go
section
variable {X : Cx} {P : Program} {E : Env} {L L' : LH} {r0 : Option Nat} {Q : Ex → Env → LH → Prop}
end
end Go.Sk
namespace Go.Sk
open Go
theorem frzN {P : Program} {L : LH} {S : Nat → Bool} {r g off n m : Nat} (h : closedV S (.slice r g off n) = true) (hn : n = m) : Frz P L S (.slice r g off n) (.slice r g off m) := by subst hn; exact .keep h
end Go.Sk
namespace Go.Sk
open Go
section
variable {X : Cx} {P : Program} {E : Env} {L L' : LH} {r0 : Option Nat} {Q : Ex → Env → LH → Prop} {ops : Array Oper} {rest : List Oper} {i : Nat}
theorem rw_nilcase {α : Type} {f : α → List Dat} {xs : List α} {t sz : Nat} (ht : aget E t = some (dL sz f xs)) (hx : xs.isEmpty = true) (h1 : RW X Q ops i rest ((t, .nilS) :: E) L)
    (h2 : ∀ a c, RW X Q ops i rest ((t, .raw (.slice (some a) 0 c)) :: E) L) : RW X Q ops i rest E L := fun hp ρ0 w0 ρ a w hS hf => by
  have hxs : xs = [] := by simpa using hx
  subst hxs
  have hv := (hS.env t _ ht).2
  have hlt := (hS.env t _ ht).1
  have put : ∀ v, VRel w ρ v (a.tmps.getD t undef) → Sat X.P X.N X.B ρ ((t, v) :: E) L a w := fun v hv => by
    refine ⟨hS.n, fun t' u hu => ?_, hS.heap, hS.marks, hS.base⟩
    simp only [aget] at hu
    split at hu
    · rename_i e; subst e; injection hu with hu; subst hu; exact ⟨hlt, hv⟩
    · exact hS.env t' u hu
  generalize hval : a.tmps.getD t undef = val at hv put
  cases hv with
  | dat hd =>
    cases hd with
    | nil => exact h1 hp ρ0 w0 ρ a w (put _ .nilS) hf
    | sl els sz cap ad cv hsz hcap hm hc hd => exact h2 ad cap hp ρ0 w0 ρ a w (put _ (.raw rfl)) hf
theorem st_dne {α : Type} {f : α → List Dat} {xs : List α} {sz : Nat} {t t' e : TypeId} {x y : Operand} (hx : ev E x = some (dL sz f xs)) (hy : ev E y = some .nilS) (hn : xs.isEmpty = false) (ht : P.underlying t = some (.slice e)) : opStep P r0 (.binOp .eql t x y t') E L = some (dB false, L) := by
  have : xs ≠ [] := by intro h; subst h; simp at hn
  simp [opStep, hx, hy, abin2L, abin2, ht, this]
theorem st_rawe {t t' e : TypeId} {x y : Operand} {a : Addr} {n c : Nat} (hx : ev E x = some (.raw (.slice (some a) n c))) (hy : ev E y = some .nilS) (ht : P.underlying t = some (.slice e)) : opStep P r0 (.binOp .eql t x y t') E L = some (dB false, L) := by
  simp [opStep, hx, hy, abin2L, abin2, ht]
end
end Go.Sk
namespace Go.Sk
open Go
def SubE (E : Env) : Env → Prop
  | [] => True
  | (t, u) :: l => aget E t = some u ∧ SubE E l
theorem SubE.get {E : Env} : ∀ {E0 : Env}, SubE E E0 → ∀ {t : Nat} {u : AVal}, aget E0 t = some u → aget E t = some u
  | [], _, t, u, h => by simp [aget] at h
  | (k, x) :: l, hh, t, u, h => by
    simp only [aget] at h
    split at h
    · rename_i e; subst e; injection h with h; subst h; exact hh.1
    · exact SubE.get hh.2 h
def RoundR (r : Nat) (R : Out → LH → Prop) : Ex → Env → LH → Prop
  | .normal, _, L => ∃ st pend N E ps asg body, aget L r = some (.loop st pend N E ps asg body) ∧ R (.ret (.dat (.bool true))) (aset L r (.loop .ready none N E ps asg body))
  | .ret, _, L => ∃ st pend N E ps asg body, aget L r = some (.loop st pend N E ps asg body) ∧ R (.ret (.dat (.bool false))) (aset L r (.loop .done (some .ret) N E ps asg body))
  | .exit i, _, L => ∃ st pend N E ps asg body, aget L r = some (.loop st pend N E ps asg body) ∧ R (.ret (.dat (.bool false))) (aset L r (.loop .done (some (.exit i)) N E ps asg body))
  | _, _, _ => False
theorem RoundR.noGo {r : Nat} {R : Out → LH → Prop} : NoGo (RoundR r R) := fun _ _ _ h => h
def EvYR (P : Program) (r : Nat) (args : List AVal) (L : LH) (R : Out → LH → Prop) : Prop :=
  ∀ (ρ : Rho) (w : World) (cs : List Value) (g b : Nat), LsRel w ρ args cs → SatL P ρ L w → ρ.m r = some (g, .loop b) →
    ∃ f tmps asg body, (Instr.yield b cs.toArray).run P w = .ok (.round b f tmps asg body) w ∧
      ∀ F, Wide F → RoundIn F 0 P b f tmps asg body w fun e w' => ∃ ρ' out L', R out L' ∧ OutR w' ρ' out e ∧ SatL P ρ' L' w' ∧ Fr All ρ w ρ' w'
theorem EvYR.of_awp {P : Program} {r N : Nat} {args : List AVal} {L : LH} {R : Out → LH → Prop} {pend : Option Code} {E0 : Env} {ps : Array Tmp} {asg body : Code} (hr : aget L r = some (.loop .ready pend N E0 ps asg body))
    (hps : ps.size = args.length) (hN : ∀ p ∈ ps.toList, p < N)
    (h : ∀ B F (hF : Wide F), AWP (rcx P N B L F hF) asg (putPs ps.toList args E0) L (assignP (rcx P N B L F hF) r body (RoundR r R))) : EvYR P r args L R := by
  intro ρ w cs g b hcs hL hm
  obtain ⟨b', fn, tmps, d, h1, h2, h3, h4⟩ := loop_at hL hr
  rw [hm] at h1
  injection h1 with h1
  injection h1 with e1 h1
  injection h1 with h1
  subst h1; subst e1
  have hl := hcs.len
  have hsz : cs.toArray.size = (lrec .ready pend fn tmps ps asg body d).params.size := by simp [lrec, hps, hl]
  refine ⟨fn, _, asg, body, run_yield h2 hsz, fun F hF => roundIn_of_wpIn (hF.fn _) ?_⟩
  have hE0 : SatE ρ E0 { tmps := tmps, defers := [] } w := fun t v ht => h4 t v ht
  obtain ⟨k1, k2⟩ := putPs_sound hcs ps.toList (fun p hp => by rw [h3]; exact hN p hp) hE0
  have efold : (((lrec .ready pend fn tmps ps asg body d).params.zip cs.toArray).foldl (fun tmps (x : Nat × Value) => tmps.setIfInBounds x.1 x.2) (lrec .ready pend fn tmps ps asg body d).tmps) = (ps.toList.zip cs).foldl (fun tmps (x : Nat × Value) => tmps.setIfInBounds x.1 x.2) tmps := by
    rw [← Array.foldl_toList]
    simp [lrec]
  have hS : Sat P N w.heap.size ρ (putPs ps.toList args E0) L { tmps := (ps.toList.zip cs).foldl (fun tmps (x : Nat × Value) => tmps.setIfInBounds x.1 x.2) tmps, defers := [] } w :=
    ⟨by rw [← h3]; exact k2, k1, hL, ⟨[], .nil, List.nodup_nil, by simp⟩, Nat.le_refl _⟩
  have hA := h w.heap.size (F.inRound b) (hF.inRound b) ρ _ w hS
  have e : ∀ {T1 T2 : Array Value}, T1 = T2 → asg.wpIn (F.inRound b) 0 P (Exit.then (fun a1 w1 => ∃ w2, (Instr.beginRound b).run P w1 = .ok () w2 ∧ body.wpIn (F.inRound b) 0 P (roundPost P b (fun e w' => ∃ ρ' out L', R out L' ∧ OutR w' ρ' out e ∧ SatL P ρ' L' w' ∧ Fr All ρ w ρ' w')) a1 w2) (fun _ _ _ => False)) { tmps := T1, defers := [] } w →
      asg.wpIn (F.inRound b) 0 P (Exit.then (fun a1 w1 => ∃ w2, (Instr.beginRound b).run P w1 = .ok () w2 ∧ body.wpIn (F.inRound b) 0 P (roundPost P b (fun e w' => ∃ ρ' out L', R out L' ∧ OutR w' ρ' out e ∧ SatL P ρ' L' w' ∧ Fr All ρ w ρ' w')) a1 w2) (fun _ _ _ => False)) { tmps := T2, defers := [] } w := fun h => h ▸ id
  refine e efold.symm (wpIn_mono hA (fun e1 a1 w1 hh => ?_))
  obtain ⟨ρ1, E1, L1, x, q1, q2, q3, q4⟩ := hh
  cases x with
  | normal =>
    cases e1 <;> first | exact q1.elim | skip
    obtain ⟨pend1, N1, E1', ps1, asg1, body1, hr1, hB⟩ := q2
    obtain ⟨b1, fn1, tmps1, d1, g1, g2, g3, g4⟩ := loop_at q3.heap hr1
    have hbb : b1 = b := by
      obtain ⟨y, hy, hle⟩ := q4.keep r _ (by simp [rcx, ids, hr]) hm
      rw [hy] at g1
      have := hle.2.2.2 rfl
      subst this
      injection g1 with g1
      injection g1 with _ g1
      injection g1 with g1
      exact g1.symm
    subst hbb
    obtain ⟨s1, s2, s3⟩ := loop_set q3.heap hr1 g1 g2 .busy pend1
    refine ⟨_, run_beginRound g2 rfl, ?_⟩
    rw [putObj_setO]
    have hS1 : Sat P N w.heap.size ρ1 E1 (aset L1 r (.loop .busy pend1 N1 E1' ps1 asg1 body1)) a1 (setO w1 b1 (.loop (lrec .busy pend1 fn1 tmps1 ps1 asg1 body1 d1))) := by
      have := q3.put s1 s2 (d := none) (v := .tup []) (c := undef) trivial (VRel.tup0 ..)
      simp only [Act.put, putE] at this
      exact this
    refine wpIn_mono (hB ρ1 a1 _ hS1) (fun e2 a2 w2 hh2 => ?_)
    obtain ⟨ρ2, E2, L2, x2, p1, p2, p3, p4⟩ := hh2
    -- the end
    have fin : ∀ (jump : Option Code), (∃ st pend N E ps asg body, aget L2 r = some (.loop st pend N E ps asg body) ∧ R (.ret (.dat (.bool jump.isNone))) (aset L2 r (.loop (if jump.isNone then .ready else .done) jump N E ps asg body))) →
        ∃ v w', (Instr.endRound b1 jump).run P w2 = .ok v w' ∧ ∃ ρ' out L', R out L' ∧ OutR w' ρ' out (.returned v) ∧ SatL P ρ' L' w' ∧ Fr All ρ w ρ' w' := by
      rintro jump ⟨st2, pend2, N2, E2', ps2, asg2, body2, hr2, hR⟩
      obtain ⟨b2, fn2, tmps2, d2, z1, z2, z3, z4⟩ := loop_at p3.heap hr2
      have hbb : b2 = b1 := by
        obtain ⟨y, hy, hle⟩ := p4.keep r _ (by simp [rcx, ids, hr]) g1
        rw [hy] at z1
        have := hle.2.2.2 rfl
        subst this
        injection z1 with z1
        injection z1 with _ z1
        injection z1 with z1
        exact z1.symm
      subst hbb
      obtain ⟨t1, t2, t3⟩ := loop_set p3.heap hr2 z1 z2 (if jump.isNone then .ready else .done) jump
      have htot : Fr (ids L) ρ w ρ2 (setO w2 b2 (.loop (lrec (if jump.isNone then .ready else .done) jump fn2 tmps2 ps2 asg2 body2 d2))) :=
        ((Fr.trans q4 (s2.mono (fun _ _ => trivial))).trans p4).trans (t2.mono (fun _ _ => trivial))
      refine ⟨_, _, run_endRound jump z2, ρ2, _, _, hR, .dat (.bool _), t1, ?_⟩
      refine ⟨htot.os, htot.tape, htot.output, htot.size, htot.blk, htot.new, htot.ext, fun q x _ hx => ?_⟩
      obtain ⟨o, ho⟩ := hL.dom q x hx
      exact htot.keep q x (by simp [ids, ho]) hx
    cases x2 with
    | normal =>
      cases e2 <;> first | exact p1.elim | skip
      exact fin none p2
    | ret =>
      cases e2 <;> first | exact p1.elim | skip
      exact fin (some .ret) p2
    | exit i =>
      cases e2 <;> first | exact p1.elim | skip
      have p1 : i = _ := p1
      subst p1
      exact fin (some (.exit i)) p2
    | goto l => exact p2.elim
    | panic v => exact p2.elim
  | _ => exact q2.elim
theorem awp_rangeFuncE {X : Cx} {E : Env} {L : LH} {Q : Ex → Env → LH → Prop} {g : Operand} {ps : Array Tmp} {asg body : Code} (r : Nat) {f : FuncId} {bs caps : List AVal} (E0 : Env)
    (hro : X.F.round = none) (hg : ev E g = some (.fn f bs caps)) (hr : aget L r = none) (hE0 : ∀ t v, aget E0 t = some v → aget E t = some v)
    (hev : EvR X.P f (bs ++ .yld r :: caps) (aset L r (.loop .ready none X.N E0 ps asg body)) (fun o L1 => ∃ v st pend N' E' ps' asg' body', o = .ret v ∧ aget L1 r = some (.loop st pend N' E' ps' asg' body') ∧ st ≠ .busy ∧
      behind Q E (aset L1 r (.loop .exhausted pend N' E' ps' asg' body')) pend)) : AWP X (.rangeFunc g ps asg body) E L Q := fun ρ a w hS => by
  refine wpIn_rangeFunc (fun fn hfn => ?_)
  have hgv := hS.env.ev hg
  cases hfr : a.eval g with
  | func fn' first captured =>
    rw [hfr] at hgv
    cases hgv with
    | fn hs0 hh0 hs hh =>
      rw [hro]
      have hen := hev.1
      generalize hW1 : (w.alloc (.deferred (some []))).alloc (.loop (lrec .ready none fn a.tmps ps asg body w.heap.size)) = W1
      have hgrow : w.grownBy W1 none := by rw [← hW1]; exact (World.grownBy_alloc w _ none).trans (World.grownBy_alloc _ _ none)
      have hb1 : W1.heap[w.heap.size + 1]? = some (.loop (lrec .ready none fn a.tmps ps asg body w.heap.size)) := by
        rw [← hW1]; have := World.alloc_heap_new (w.alloc (.deferred (some []))) (.loop (lrec .ready none fn a.tmps ps asg body w.heap.size)); rwa [World.size_alloc] at this
      have hd1 : W1.heap[w.heap.size]? = some (.deferred (some [])) := by
        rw [← hW1, (World.grownBy_alloc (w.alloc (.deferred (some []))) _ none).block w.heap.size (by simp) (by simp)]; exact World.alloc_heap_new w _
      have hsz1 : W1.heap.size = w.heap.size + 2 := by rw [← hW1]; simp
      have hρ : ρ.m r = none := by
        cases h : ρ.m r with
        | none => rfl
        | some x => obtain ⟨o, ho⟩ := hS.heap.dom r x h; rw [hr] at ho; simp at ho
      have hob : ∀ b, (none : Option Nat) = some b → ∃ x, ρ.m r = some x ∧ x.2.blk = some b := fun b h => by simp at h
      have hv1 : ∀ b, (CLoc.loop (w.heap.size + 1)).blk = some b → (none : Option Nat) = some b ∨ w.heap.size ≤ b := fun b h => by
        simp only [CLoc.blk, Option.some.injEq] at h; right; omega
      have hle : ∀ x, ρ.m r = some x → LocLe x (0, CLoc.loop (w.heap.size + 1)) := fun x h => by rw [hρ] at h; simp at h
      have hf1 := upd_fr (l := CLoc.loop (w.heap.size + 1)) (g := 0) hS.heap hob hgrow hv1 hle
      have hE1 := hS.env.fr hf1
      have hL1 := upd_sat (o := .loop .ready none X.N E0 ps asg body) hS.heap hob hgrow hv1 hle rfl ⟨fn, a.tmps, w.heap.size, hb1, hS.n, fun t v ht => hE1 t v (hE0 t v ht)⟩
      refine ⟨w.heap.size + 1, [{ target := .collected w.heap.size, args := #[] }], W1, { target := .fn (.func f) captured, args := first ++ #[.func (.yield (w.heap.size + 1)) #[] #[]] }, W1, f,
        first ++ #[.func (.yield (w.heap.size + 1)) #[] #[]] ++ captured, W1, by rw [← hW1]; exact run_enterLoop_outer _ _ _ _ _, ?_, fun f' _ => X.wide.fn f', ?_, fun h => by rw [X.wide.depth] at h; simp at h, ?_⟩
      · simp only [resolve, hfr]
        simp [go_sem]
      · simp [invoke, run_callFunc hen]
      · have hargs : LsRel W1 (upd ρ r (0, .loop (w.heap.size + 1))) (bs ++ .yld r :: caps) (first.toList ++ .func (.yield (w.heap.size + 1)) #[] #[] :: captured.toList) := LsRel.append (LsRel.of_cs (by
            have : VRel W1 (upd ρ r (0, .loop (w.heap.size + 1))) (.fn f bs caps) (.func (.func f) first captured) := (VRel.fn hs0 hh0 hs hh).fr hf1
            cases this with
            | fn hs0 hh0 hs hh => simpa using ⟨hs0, hh0⟩)) (
          .cons (.yld (upd_same ..)) (LsRel.of_cs (by
            have : VRel W1 (upd ρ r (0, .loop (w.heap.size + 1))) (.fn f bs caps) (.func (.func f) first captured) := (VRel.fn hs0 hh0 hs hh).fr hf1
            cases this with
            | fn hs0 hh0 hs hh => simpa using ⟨hs, hh⟩)))
        have := hev.2 _ W1 _ hargs hL1
        have e2 : (first ++ #[.func (.yield (w.heap.size + 1)) #[] #[]] ++ captured : Array Value) = (first.toList ++ Value.func (.yield (w.heap.size + 1)) #[] #[] :: captured.toList).toArray := by simp
        rw [e2]
        refine CallsIn.wide X.wide (this.mono fun e w' he => ?_) _
        obtain ⟨ρ', out, L1, ⟨v, st, pend, N', E', ps', asg', body', rfl, hl, hst, hQ⟩, h1, h2, h3⟩ := he
        cases e with
        | panicked ch => exact h1.elim
        | outgrown => exact h1.elim
        | returned c =>
          obtain ⟨b2, fn2, tmps2, d2, z1, z2, z3, z4⟩ := loop_at h2 hl
          have hbb : b2 = w.heap.size + 1 := by
            obtain ⟨y, hy, hle⟩ := h3.keep r _ trivial (upd_same ..)
            rw [hy] at z1
            have := hle.2.2.2 rfl
            subst this
            injection z1 with z1
            injection z1 with _ z1
            injection z1 with z1
            exact z1.symm
          subst hbb
          obtain ⟨t1, t2, t3⟩ := loop_set h2 hl z1 z2 .exhausted pend
          have hfr2 := hf1.trans (h3.trans t2)
          refine ⟨_, _, run_endLoop z2 hst, ?_⟩
          rw [putObj_setO]
          have hmark : (setO w' (w.heap.size + 1) (.loop (lrec .exhausted pend fn2 tmps2 ps' asg' body' d2))).heap[w.heap.size]? = some (.deferred (some [])) := by
            rw [setO_other _ _ (by omega), h3.blk _ (by omega) ?_, hd1]
            rintro ⟨q, g', l', u1, u2⟩
            by_cases e : q = r
            · subst e
              rw [upd_same] at u1
              injection u1 with u1
              injection u1 with _ u1
              subst u1
              simp only [CLoc.blk, Option.some.injEq] at u2
              omega
            · rw [upd_ne ρ _ e] at u1
              have := hS.heap.lt ⟨q, g', l', u1, u2⟩
              omega
          have hS2 : Sat X.P X.N X.B ρ' E (aset L1 r (.loop .exhausted pend N' E' ps' asg' body')) { a with defers := [{ target := .collected w.heap.size, args := #[] }] ++ a.defers } (setO w' (w.heap.size + 1) (.loop (lrec .exhausted pend fn2 tmps2 ps' asg' body' d2))) := by
            refine ⟨hS.n, fun t v ht => (hS.env.fr hfr2) t v ht, t1, ?_, Nat.le_trans hS.base hfr2.size⟩
            obtain ⟨ms, m1, m2, m3⟩ := hS.marks.fr hfr2
            obtain ⟨ms', m1', m2', m3'⟩ := hS.marks
            have hms : ms = ms' := m1.uniq m1'
            subst hms
            refine ⟨w.heap.size :: ms, .mark _ m1, List.nodup_cons.2 ⟨fun hm => ?_, m2⟩, fun b hb => ?_⟩
            · have := (Array.getElem?_eq_some_iff.1 (m3' _ hm).2.2).1
              omega
            · rcases List.mem_cons.1 hb with rfl | hb
              · refine ⟨hS.base, fun hown => ?_, hmark⟩
                have h5 := h3.new _ (by omega) hown
                obtain ⟨q, g', l', u1, u2⟩ := h5
                by_cases e : q = r
                · subst e
                  rw [upd_same] at u1
                  injection u1 with u1
                  injection u1 with _ u1
                  subst u1
                  simp only [CLoc.blk, Option.some.injEq] at u2
                  omega
                · rw [upd_ne ρ _ e] at u1
                  have := hS.heap.lt ⟨q, g', l', u1, u2⟩
                  omega
              · exact m3 b hb
          have hk := hfr2.mono (K' := X.K) (fun _ _ => trivial)
          cases pend with
          | none => exact ⟨ρ', E, _, .normal, trivial, hQ, hS2, hk⟩
          | some c =>
            cases c <;> first | exact hQ.elim | skip
            · exact wpIn_exit ⟨ρ', E, _, .exit _, rfl, hQ, hS2, hk⟩
            · exact wpIn_ret ⟨ρ', E, _, .ret, trivial, hQ, hS2, hk⟩
  | _ => rw [hfr] at hgv; cases hgv
section
variable {X : Cx} {E : Env} {L : LH} {Q : Ex → Env → LH → Prop} {ops : Array Oper} {rest : List Oper} {i : Nat}
def RoundK (r : Nat) (Ol : LoopState → Option Code → AObj) (k : Bool → LH → Prop) : Ex → Env → LH → Prop
  | .normal, _, L => ∃ st pend, aget L r = some (Ol st pend) ∧ k true (aset L r (Ol .ready none))
  | .ret, _, L => ∃ st pend, aget L r = some (Ol st pend) ∧ k false (aset L r (Ol .done (some .ret)))
  | .exit i, _, L => ∃ st pend, aget L r = some (Ol st pend) ∧ k false (aset L r (Ol .done (some (.exit i))))
  | _, _, _ => False
def AssignK (X : Cx) (r : Nat) (Ol : LoopState → Option Code → AObj) (body : Code) (Q : Ex → Env → LH → Prop) : Ex → Env → LH → Prop
  | .normal, E, L => ∃ pend, aget L r = some (Ol .ready pend) ∧ AWP X body E (aset L r (Ol .busy pend)) Q
  | _, _, _ => False
theorem as_n {r : Nat} {Ol : LoopState → Option Code → AObj} {body : Code} {pend : Option Code} (h : aget L r = some (Ol .ready pend)) (h2 : AWP X body E (aset L r (Ol .busy pend)) Q) : AssignK X r Ol body Q .normal E L := ⟨pend, h, h2⟩
theorem rk_n {r : Nat} {Ol : LoopState → Option Code → AObj} {k : Bool → LH → Prop} {st : LoopState} {pend : Option Code} (h : aget L r = some (Ol st pend)) (h2 : k true (aset L r (Ol .ready none))) : RoundK r Ol k .normal E L := ⟨st, pend, h, h2⟩
theorem rk_r {r : Nat} {Ol : LoopState → Option Code → AObj} {k : Bool → LH → Prop} {st : LoopState} {pend : Option Code} (h : aget L r = some (Ol st pend)) (h2 : k false (aset L r (Ol .done (some .ret)))) : RoundK r Ol k .ret E L := ⟨st, pend, h, h2⟩
theorem rw_yld {d : Nat} {f : Operand} {args : Array Operand} {ats : Array TypeId} {ty : TypeId} {pos : String} {af : Array Edge} {g : Option (Nat × Bool)} {r N : Nat} {vs : List AVal} {Ol : LoopState → Option Code → AObj} {E0 : Env} {ps : Array Tmp} {asg body : Code}
    (hN : Nat.blt d X.N = true) (hg : gval ops.toList E g = some true) (hf : ev E f = some (.yld r)) (ha : evl E args.toList = some vs) (hO : ∀ st pend, Ol st pend = .loop st pend N E0 ps asg body) (hr : aget L r = some (Ol .ready none))
    (hps : Nat.beq ps.size vs.length = true) (hpN : (ps.toList.all fun p => Nat.blt p N) = true)
    (h : ∀ B F (hF : Wide F), AWP (rcx X.P N B L F hF) asg (putPs ps.toList vs E0) L (AssignK (rcx X.P N B L F hF) r Ol body (RoundK r Ol (fun b L' => RW X Q ops (i + 1) rest ((d, dB b) :: E) L')))) :
    RW X Q ops i (Oper.mk (some d) (.call { callee := .value f, args, argTypes := ats }) ty pos af g :: rest) E L :=
  rw_wanted hg (fun hpp ρ0 w0 ρ a w hS hf0 => by
    have hev : EvYR X.P r vs L (fun o L' => ∃ b, o = .ret (dB b) ∧ RW X Q ops (i + 1) rest ((d, dB b) :: E) L') := by
      have hO2 : ∀ {st pend N2 E2 ps2 asg2 body2}, Ol st pend = .loop st pend N2 E2 ps2 asg2 body2 → N2 = N ∧ E2 = E0 ∧ ps2 = ps ∧ asg2 = asg ∧ body2 = body := by
        intro st pend N2 E2 ps2 asg2 body2 h
        rw [hO] at h
        injection h with _ _ e1 e2 e3 e4 e5
        exact ⟨e1.symm, e2.symm, e3.symm, e4.symm, e5.symm⟩
      refine EvYR.of_awp (by rw [hr, hO]) (Nat.eq_of_beq_eq_true hps) (fun p hp => by simpa [Nat.blt_eq] using List.all_eq_true.1 hpN p hp) (fun B F hF => awp_mono (h B F hF) (fun x E1 L1 hh => ?_))
      cases x with
      | normal =>
        obtain ⟨pend, h1, h2⟩ := hh
        refine ⟨pend, N, E0, ps, asg, body, by rw [h1, hO], ?_⟩
        rw [hO] at h2
        refine awp_mono h2 (fun x E2 L2 hh => ?_)
        cases x with
        | normal =>
          obtain ⟨st, pend, g1, g2⟩ := hh
          rw [hO] at g1 g2
          exact ⟨_, _, _, _, _, _, _, g1, true, rfl, g2⟩
        | ret =>
          obtain ⟨st, pend, g1, g2⟩ := hh
          rw [hO] at g1 g2
          exact ⟨_, _, _, _, _, _, _, g1, false, rfl, g2⟩
        | exit i =>
          obtain ⟨st, pend, g1, g2⟩ := hh
          rw [hO] at g1 g2
          exact ⟨_, _, _, _, _, _, _, g1, false, rfl, g2⟩
        | goto l => exact hh.elim
        | panic v => exact hh.elim
      | ret => exact hh.elim
      | exit i => exact hh.elim
      | goto l => exact hh.elim
      | panic v => exact hh.elim
    generalize ho : Oper.mk (some d) (.call { callee := .value f, args, argTypes := ats }) ty pos af g = o
    have hop : o.op = .call { callee := .value f, args, argTypes := ats } := by subst ho; rfl
    have hdd : o.dst = some d := by subst ho; rfl
    refine ⟨fun f _ => X.wide.fn f, ?_⟩
    have hsem : o.semAt X.F.round a.eval = execOp a.eval o := Oper.semAt_eq _ _ _ (fun c hc => by rw [hop] at hc; cases hc)
    rw [hsem]
    have hfr := hS.env.ev hf
    have hvr := evl_sound hS.env ha
    cases hfr' : a.eval f with
    | func fn first captured =>
      rw [hfr'] at hfr
      cases hfr with
      | @yld r g b hr =>
        obtain ⟨fn', tmps, asg', body', hy, hround⟩ := hev ρ w _ g b hvr hS.heap hr
        have hrun : (execOp a.eval o).run X.P w = .ok (.round b fn' tmps asg' body') w := by
          have e1 : (args.toList.map a.eval).toArray = args.map a.eval := by rw [← Array.toList_map]
          rw [← hy, e1]
          simp [execOp, hop, resolve, hfr', Deferred.ofValue, invoke]
        rw [hrun]
        refine ⟨fun h => by rw [X.wide.depth] at h; simp at h, (hround X.F X.wide).mono fun e w' he => ?_⟩
        obtain ⟨ρ', out, L', ⟨bb, rfl, hk⟩, h1, h2, h3⟩ := he
        have hfr2 : Fr X.K ρ0 w0 ρ' w' := hf0.trans (h3.mono fun _ _ => trivial)
        cases e with
        | returned c =>
          show wpOpsIn _ _ _ _ _ _ (a.put o.dst c) w'
          rw [hdd]
          exact hk (drop_cons hpp).2 ρ0 w0 ρ' _ w' (hS.put (d := some d) h2 h3 (by simpa [dstOk, Nat.blt_eq] using hN) h1) hfr2
        | panicked ch => exact h1.elim
        | outgrown => exact h1.elim
    | _ => rw [hfr'] at hfr; cases hfr)
theorem awp_rangeFuncR {g : Operand} {ps : Array Tmp} {asg body : Code} (r : Nat) {f : FuncId} {bs caps : List AVal} (E0 : Env) {fn : Func} {c : Code} {N' : Nat} {rs : List ResultVar}
    (hro : X.F.round = none) (hg : ev E g = some (.fn f bs caps)) (hr : aget L r = none) (hE0 : SubE E E0) (hfn : X.P.funcs[f]? = some fn) (hb : fn.body = some c) (hNN : fn.ntmps = N') (hrs : fn.results.toList = rs) (hen : enters X.P f = true) (hlen : Nat.ble (bs ++ .yld r :: caps).length N' = true)
    (h : ∀ (Ol : LoopState → Option Code → AObj), (∀ st pend, Ol st pend = .loop st pend X.N E0 ps asg body) → ∀ B, AWP (fcx X.P N' B (aset L r (Ol .ready none))) c (argE 0 (bs ++ .yld r :: caps)) (aset L r (Ol .ready none))
      (RetR X.P rs (fun o L1 => ∃ v st pend, o = .ret v ∧ aget L1 r = some (Ol st pend) ∧ st ≠ .busy ∧ behind Q E (aset L1 r (Ol .exhausted pend)) pend))) : AWP X (.rangeFunc g ps asg body) E L Q := by
  subst hNN; subst hrs
  refine awp_rangeFuncE r E0 hro hg hr (fun t v ht => hE0.get ht) ?_
  have := h (fun st pend => .loop st pend X.N E0 ps asg body) (fun _ _ => rfl)
  have := EvR.of_body hfn hb hen (Nat.le_of_ble_eq_true hlen) this
  refine ⟨this.1, fun ρ w cs h1 h2 => (this.2 ρ w cs h1 h2).mono fun e w' he => ?_⟩
  obtain ⟨ρ', out, L', ⟨v, st, pend, h3, h4, h5, h6⟩, h7⟩ := he
  exact ⟨ρ', out, L', ⟨v, st, pend, _, _, _, _, _, h3, h4, h5, h6⟩, h7⟩
theorem objLoop {P : Program} {S : Nat → Bool} {L : LH} {O : AObj} {st : LoopState} {pend : Option Code} {N : Nat} {E0 : Env} {ps : Array Tmp} {asg body : Code} (hO : O = .loop st pend N E0 ps asg body) (hc : (E0.all fun p => closedV S p.2) = true) : ObjFrz P L S O O := by
  subst hO
  refine ⟨rfl, rfl, rfl, rfl, rfl, rfl, fun t u ht => ⟨u, ht, .keep ?_⟩⟩
  have : ∀ {E : Env}, (E.all fun p => closedV S p.2) = true → aget E t = some u → closedV S u = true := by
    intro E
    induction E with
    | nil => intro _ h; simp [aget] at h
    | cons p l ih =>
      intro h1 h2
      simp only [List.all_cons, Bool.and_eq_true] at h1
      simp only [aget] at h2
      split at h2
      · injection h2 with h2; subst h2; exact h1.1
      · exact ih h1.2 h2
  exact this hc ht
end
end Go.Sk
namespace Go.Sk
open Go
theorem bh_r {Q : Ex → Env → LH → Prop} {E : Env} {L : LH} (h : Q .ret E L) : behind Q E L (some .ret) := h
theorem bh_0 {Q : Ex → Env → LH → Prop} {E : Env} {L : LH} (h : Q .normal E L) : behind Q E L none := h
section
variable {P : Program} {E : Env} {L : LH} {r0 : Option Nat}
end
section
variable {X : Cx} {E : Env} {L L' : LH} {Q : Ex → Env → LH → Prop} {ops : Array Oper} {rest : List Oper} {i : Nat}
end
end Go.Sk
namespace Go.Sk
open Go
end Go.Sk
namespace Go.Sk
open Go
abbrev mapO {β : Type} (kk : IntKind) (vf : β → AVal) (xs : List (Int × β)) : AObj := .map (xs.map fun p => (dI kk p.1, vf p.2))
theorem afind_map {β : Type} {kk : IntKind} {vf : β → AVal} (k : Int) : ∀ (xs : List (Int × β)) (i : Nat),
    (mget xs k = none ∧ afind (.int kk) (dI kk k) (xs.map fun p => (dI kk p.1, vf p.2)) i = some none) ∨
    (∃ j v, mget xs k = some v ∧ afind (.int kk) (dI kk k) (xs.map fun p => (dI kk p.1, vf p.2)) i = some (some (i + j, vf v)) ∧ j < xs.length ∧ ∀ v', mset xs k v' = xs.set j (k, v'))
  | [], i => .inl ⟨rfl, rfl⟩
  | (a, b) :: l, i => by
    by_cases h : k = a
    · subst h
      exact .inr ⟨0, b, by simp [mget], by simp [afind, asame], by simp, fun v' => by simp [mset]⟩
    · rcases afind_map k l (i + 1) with ⟨h1, h2⟩ | ⟨j, v, h1, h2, h3, h4⟩
      · exact .inl ⟨by simp [mget, h, h1], by simp only [List.map_cons, afind, asame, if_true]; rw [show (k == a) = false by simpa using h]; exact h2⟩
      · refine .inr ⟨j + 1, v, by simp [mget, h, h1], ?_, by simp; omega, fun v' => by simp [mset, h, h4]⟩
        simp only [List.map_cons, afind, asame, if_true]
        rw [show (k == a) = false by simpa using h]
        simp only
        rw [h2]
        congr 3
        omega
theorem mset_new {β : Type} {k : Int} {v : β} : ∀ {xs : List (Int × β)}, mget xs k = none → mset xs k v = xs ++ [(k, v)]
  | [], _ => rfl
  | (a, b) :: l, h => by
    simp only [mget, beq_iff_eq] at h
    split at h
    · simp at h
    · rename_i hne
      simp only [mset, beq_iff_eq]
      rw [if_neg hne, mset_new h]
      rfl
section
variable {P : Program} {E : Env} {L L' : LH} {r0 : Option Nat}
theorem st_mkM {t r : Nat} (hr : aget L r = none) : opStep P (some r) (.makeMap t none) E L = some (.map r, aset L r (.map [])) := by simp [opStep, stMakeMap, hr]
theorem look_map {β : Type} {kk : IntKind} {vf : β → AVal} {xs : List (Int × β)} {t kt et : TypeId} {z : β} {r : Nat} {k : Int} {ok : Bool} (ht : P.underlying t = some (.map kt et)) (hk : P.underlying kt = some (.int kk)) (hz : zeroA P et = some (vf z)) (hr : aget L r = some (mapO kk vf xs)) :
    alookup P L t (.map r) (dI kk k) ok = some (if ok then .tup [vf ((mget xs k).getD z), dB (mget xs k).isSome] else vf ((mget xs k).getD z)) := by
  simp only [alookup, ht, hk, Option.bind_some, simpleKey, if_true, hr]
  rcases afind_map (kk := kk) (vf := vf) k xs 0 with ⟨h1, h2⟩ | ⟨j, v, h1, h2, _, _⟩
  · simp only [h2, h1, hz, Option.map_some, Option.getD_none, Option.isSome_none]
  · simp only [h2, h1, Option.getD_some, Option.isSome_some]
theorem st_look {β : Type} {kk : IntKind} {vf : β → AVal} {xs : List (Int × β)} {t kt et : TypeId} {z : β} {r : Nat} {k : Int} {x i : Operand} (ht : P.underlying t = some (.map kt et)) (hk : P.underlying kt = some (.int kk)) (hz : zeroA P et = some (vf z)) (hx : ev E x = some (.map r)) (hi : ev E i = some (dI kk k)) (hr : aget L r = some (mapO kk vf xs)) :
    opStep P r0 (.lookup t x i false) E L = some (vf ((mget xs k).getD z), L) := by
  simp [opStep, hx, hi, look_map ht hk hz hr]
theorem st_lookOk {β : Type} {kk : IntKind} {vf : β → AVal} {xs : List (Int × β)} {t kt et : TypeId} {z : β} {r : Nat} {k : Int} {x i : Operand} (ht : P.underlying t = some (.map kt et)) (hk : P.underlying kt = some (.int kk)) (hz : zeroA P et = some (vf z)) (hx : ev E x = some (.map r)) (hi : ev E i = some (dI kk k)) (hr : aget L r = some (mapO kk vf xs)) :
    opStep P r0 (.lookup t x i true) E L = some (.tup [vf ((mget xs k).getD z), dB (mget xs k).isSome], L) := by
  simp [opStep, hx, hi, look_map ht hk hz hr]
theorem st_mapUp {β : Type} {kk : IntKind} {vf : β → AVal} {xs : List (Int × β)} {t kt et : TypeId} {b : β} {r : Nat} {k : Int} {x i y : Operand} (ht : P.underlying t = some (.map kt et)) (hk : P.underlying kt = some (.int kk)) (hx : ev E x = some (.map r)) (hi : ev E i = some (dI kk k)) (hy : ev E y = some (vf b)) (hr : aget L r = some (mapO kk vf xs)) :
    opStep P r0 (.mapUpdate t x i y) E L = some (.tup [], aset L r (mapO kk vf (mset xs k b))) := by
  simp only [opStep, hx, hi, hy, Option.bind_some, stMapUpdate, ht, hk, simpleKey, if_true, hr]
  rcases afind_map (kk := kk) (vf := vf) k xs 0 with ⟨h1, h2⟩ | ⟨j, v, h1, h2, _, h4⟩
  · simp only [h2, Option.map_some]
    rw [mset_new h1]
    simp [mapO]
  · simp only [h2, Option.map_some, Nat.zero_add]
    rw [h4 b]
    simp [mapO, List.map_set]
theorem st_lenM {β : Type} {kk : IntKind} {vf : β → AVal} {xs : List (Int × β)} {x : Operand} {t k e : TypeId} {r : Nat} (hx : ev E x = some (.map r)) (ht : P.underlying t = some (.map k e)) (hr : aget L r = some (mapO kk vf xs)) :
    opStep P r0 (.call { callee := .builtin .len, args := #[x], argTypes := #[t] }) E L = some (dI .i64 (xs.length : Int), L) := by simp [opStep, stBuiltin, hx, alenP, ht, goI, hr]
theorem objMap {β : Type} {S : Nat → Bool} {kk : IntKind} {vf : β → AVal} (hv : ∀ b, closedV S (vf b) = true) (xs : List (Int × β)) : ObjFrz P L S (mapO kk vf xs) (mapO kk vf xs) := by
  refine ⟨rfl, fun i k v k' v' h1 h2 => ?_⟩
  rw [h1] at h2
  injection h2 with h2
  injection h2 with e1 e2; subst e1; subst e2
  rw [List.getElem?_map] at h1
  obtain ⟨p, hp, he⟩ := Option.map_eq_some_iff.1 h1
  injection he with e1 e2; subst e1; subst e2
  exact ⟨.keep rfl, .keep (hv _)⟩
end
inductive GoodD : Dat → Prop
  | bool (b : Bool) : GoodD (.bool b)
  | int (k : IntKind) (n : Int) : GoodD (.int k n)
  | str (s : ByteArray) : GoodD (.str s)
  | sl {sz : Nat} {els : List (List Dat)} (h : els.length ≤ 9223372036854775807) (he : ∀ (j : Nat) (d : Dat), els.flatten[j]? = some d → GoodD d) : GoodD (.sl sz els)
theorem DRel.good {w : World} {o : Nat → Prop} {d : Dat} {v : Value} (h : DRel w o d v) : GoodD d := by
  induction h with
  | bool b => exact .bool b
  | int k n => exact .int k n
  | str s => exact .str s
  | nil sz => exact .sl (by simp) (fun j d h => by simp at h)
  | sl els sz cap a cv hsz hcap hm hc hd ih => exact .sl (Nat.le_trans hcap hm) ih
theorem GoodD.len {α : Type} {sz : Nat} {f : α → List Dat} {xs : List α} (h : GoodD (.sl sz (xs.map f))) : xs.length ≤ 9223372036854775807 := by
  cases h with
  | sl h _ => simpa using h
theorem GoodD.el {α : Type} {sz : Nat} {f : α → List Dat} {xs : List α} (h : GoodD (.sl sz (xs.map f))) {i : Nat} {x : α} (hx : xs[i]? = some x) (k : Nat) {d : Dat} (hk : (f x)[k]? = some d) : GoodD d := by
  cases h with
  | sl _ he =>
    have hm : d ∈ (xs.map f).flatten := List.mem_flatten.2 ⟨f x, List.mem_map.2 ⟨x, List.mem_of_getElem? hx, rfl⟩, List.mem_of_getElem? hk⟩
    obtain ⟨j, hj⟩ := List.mem_iff_getElem?.1 hm
    exact he j d hj
section
variable {X : Cx} {E : Env} {L : LH} {Q : Ex → Env → LH → Prop}
end
end Go.Sk
namespace Go.Sk
open Go
def OwnRes {α : Type} (P : Program) (f : FuncId) (args : List AVal) (e : TypeId) (en : α → List Dat) (xs : List α) : Prop :=
  ∀ R, Ev P f args [] (.ret (.slice R 0 0 xs.length)) [(R, rw' 0 e en xs)]
def OwnP {α : Type} (P : Program) (e : TypeId) (en : α → List Dat) (xs : List α) : Out → LH → Prop := fun o l => (∃ r g n, o = .ret (.slice r g 0 n) ∧ n = xs.length ∧ aget l r = some (rw' g e en xs)) ∨ (o = .ret .nilS ∧ xs = [] ∧ 0 < P.cellsOf e)
theorem own_res {α : Type} {P : Program} {f : FuncId} {args : List AVal} {e : TypeId} {en : α → List Dat} {xs : List α} (h : EvR P f args [] (OwnP P e en xs)) : OwnRes P f args e en xs := by
  intro R
  refine ⟨h.1, fun ρ w cs hcs hL => (h.2 ρ w cs hcs hL).mono fun en' w' he => ?_⟩
  obtain ⟨ρ', out, l, ⟨r, g, n, rfl, rfl, hr⟩ | ⟨rfl, rfl, h0⟩, hO, hS, hF⟩ := he
  rotate_left
  · let ρ2 : Rho := { m := fun q => if q = R then some (0, .row (.slice none 0 0) e (P.cellsOf e)) else none, ext := ρ'.ext }
    have hR : ρ2.m R = some (0, .row (.slice none 0 0) e (P.cellsOf e)) := by simp [ρ2]
    have hown : ∀ b, ¬ ownM ρ2 b := fun b ⟨q, gg, ll, h1, h2⟩ => by
      simp only [ρ2] at h1
      split at h1
      · injection h1 with h1
        injection h1 with h1 h3
        subst h3
        simp [CLoc.blk, Value.ownBlock] at h2
      · simp at h1
    refine ⟨ρ2, ?_, ⟨fun q o ho => ?_, fun q x hx => ?_, fun q q' x x' b h1 h2 h3 h4 => ?_, fun b hb => (hown b hb).elim, hS.elt⟩, ⟨hF.os, hF.tape, hF.output, hF.size, hF.blk, fun b hb h1 => (hown b h1).elim, hF.ext, fun q x _ hx => ?_⟩⟩
    · cases en' with
      | returned c =>
        have hv : VRel w' ρ' .nilS c := hO
        show VRel w' ρ2 (.slice R 0 0 0) c
        cases hv
        exact .slice hR (Nat.le_refl 0) (fun _ => ⟨rfl, rfl, rfl, rfl, rfl⟩)
      | panicked _ => exact hO.elim
      | outgrown => exact hO.elim
    · simp only [aget] at ho
      split at ho
      · rename_i hq
        injection ho with ho; subst ho
        have hq : R = q := by simpa using hq
        subst hq
        exact ⟨.row (.slice none 0 0) e (P.cellsOf e), hR, rfl, ⟨rfl, fun h => by simp at h⟩, h0, fun el hel => by simp [rowOf] at hel, [], ⟨by simp [rowOf], .inl ⟨rfl, rfl⟩⟩, fun i x hx => by simp [rowOf] at hx⟩
      · simp at ho
    · simp only [ρ2] at hx
      split at hx
      · rename_i hq; subst hq; exact ⟨rw' 0 e en [], by simp [aget]⟩
      · simp at hx
    · simp only [ρ2] at h1 h2
      split at h1
      · split at h2
        · rename_i a b; rw [a, b]
        · simp at h2
      · simp at h1
    · obtain ⟨o, ho⟩ := hL.dom q x hx
      simp [aget] at ho
  obtain ⟨loc, hm, hrow⟩ := hS.obj r _ hr
  cases loc with
  | map b => exact hrow.elim
  | loop b => exact hrow.elim
  | glob _ => exact hrow.elim
  | row v0 e' sz =>
    let ρ2 : Rho := { m := fun q => if q = R then some (0, .row v0 e' sz) else none, ext := ρ'.ext }
    have hgm : ρ'.m r = some (g, .row v0 e' sz) := hm
    have hown : ∀ b, ownM ρ2 b → ownM ρ' b := fun b ⟨q, gg, ll, h1, h2⟩ => by
      simp only [ρ2] at h1
      split at h1
      · injection h1 with h1
        injection h1 with h1 h3
        subst h3
        exact ⟨r, g, _, hgm, h2⟩
      · simp at h1
    have hown2 : ∀ b, own ρ2 b → own ρ' b := fun b hb => by
      rcases hb with hb | hb
      · exact .inl (hown b hb)
      · exact .inr hb
    have hR : ρ2.m R = some (0, .row v0 e' sz) := by simp [ρ2]
    refine ⟨ρ2, ?_, ⟨fun q o ho => ?_, fun q x hx => ?_, fun q q' x x' b h1 h2 h3 h4 => ?_, fun b hb => hS.dis b (hown b hb), hS.elt⟩, ⟨hF.os, hF.tape, hF.output, hF.size, hF.blk, fun b hb h1 => hF.new b hb (hown b h1), hF.ext, fun q x _ hx => ?_⟩⟩
    · cases en' with
      | returned c =>
        have hv : VRel w' ρ' (.slice r g 0 xs.length) c := hO
        show VRel w' ρ2 (.slice R 0 0 xs.length) c
        cases hv with
        | slice hr2 hg hsl =>
          rw [hgm] at hr2
          injection hr2 with hr2
          injection hr2 with e1 e2
          injection e2 with e2 e3 e4
          subst e1; subst e2; subst e3; subst e4
          exact .slice hR (Nat.le_refl 0) (fun _ => hsl rfl)
      | panicked _ => exact hO.elim
      | outgrown => exact hO.elim
    · simp only [aget] at ho
      split at ho
      · rename_i hq
        injection ho with ho; subst ho
        have hq : R = q := by simpa using hq
        subst hq
        refine ⟨.row v0 e' sz, hR, ?_⟩
        obtain ⟨a1, a2, a3, a4, ys, a5, a6⟩ := hrow
        refine ⟨a1, ⟨a2.1, fun h => by simp at h⟩, a3, a4, ys, a5, fun i x hx => ⟨(a6 i x hx).1, ?_⟩⟩
        have h6 := (a6 i x hx).2
        rw [rowOf_flatten] at hx
        obtain ⟨d, _, rfl⟩ := List.mem_map.1 (List.mem_of_getElem? hx)
        generalize ys.getD i undef = u at h6
        cases h6 with
        | dat hd => exact .dat (hd.cells_mono hown2)
      · simp at ho
    · simp only [ρ2] at hx
      split at hx
      · rename_i hq; subst hq; exact ⟨rw' 0 e en xs, by simp [aget]⟩
      · simp at hx
    · simp only [ρ2] at h1 h2
      split at h1
      · split at h2
        · rename_i a b; rw [a, b]
        · simp at h2
      · simp at h1
    · obtain ⟨o, ho⟩ := hL.dom q x hx
      simp [aget] at ho
theorem OwnRes.of_body {α : Type} {P : Program} {f N : Nat} {fn : Func} {rs : List ResultVar} {c : Code} {args : List AVal} {e : TypeId} {en : α → List Dat} {xs : List α} (hf : P.funcs[f]? = some fn) (hb : fn.body = some c) (hN : fn.ntmps = N) (hr : fn.results.toList = rs) (hen : enters P f = true)
    (hlen : args.length ≤ N) (h : ∀ B, AWP (fcx P N B []) c (argE 0 args) [] (RetR P rs (OwnP P e en xs))) : OwnRes P f args e en xs := by
  subst hN; subst hr
  exact own_res (EvR.of_body hf hb hen hlen h)
section
variable {X : Cx} {E : Env} {L L' : LH}
theorem own_in {α : Type} {P : Program} {rs : List ResultVar} {r g n : Nat} {e : TypeId} {en : α → List Dat} {xs : List α} (h : resV P L E rs = some (.slice r g 0 n)) (hn : n = xs.length) (hr : aget L r = some (rw' g e en xs)) : RetR P rs (OwnP P e en xs) .ret E L := ⟨_, h, .inl ⟨r, g, n, rfl, hn, hr⟩⟩
theorem own_nil {α : Type} {P : Program} {rs : List ResultVar} {e : TypeId} {en : α → List Dat} (h : resV P L E rs = some .nilS) (h0 : Nat.blt 0 (P.cellsOf e) = true) : RetR P rs (OwnP P e en []) .ret E L := ⟨_, h, .inr ⟨rfl, rfl, by simpa [Nat.blt_eq] using h0⟩⟩
end
end Go.Sk
namespace Go.Sk
open Go
def SubL : LH → LH → Prop
  | [], _ => True
  | (r, o) :: l, L => aget L r = some o ∧ SubL l L
theorem SubL.get : ∀ {l L : LH}, SubL l L → ∀ r o, aget l r = some o → aget L r = some o
  | [], _, _, r, o, h => by simp [aget] at h
  | (q, p) :: l, L, hs, r, o, h => by
    simp only [aget] at h
    split at h
    · rename_i e
      have e : q = r := by simpa using e
      subst e; injection h with h; subst h; exact hs.1
    · exact hs.2.get r o h
def ClosA (S : Nat → Bool) : LH → Prop
  | [] => True
  | (_, o) :: l => closedO S o = true ∧ ClosA S l
theorem ClosA.get {S : Nat → Bool} : ∀ {l : LH}, ClosA S l → ∀ r o, aget l r = some o → closedO S o = true
  | [], _, r, o, h => by simp [aget] at h
  | (q, p) :: l, hs, r, o, h => by
    simp only [aget] at h
    split at h
    · injection h with h; subst h; exact hs.1
    · exact hs.2.get r o h
theorem closT {S : Nat → Bool} {α : Type} {f : α → List Dat} {g e : Nat} {xs : List α} : closedO S (rw' g e f xs) = true := by
  show ((rowOf (xs.map f)).all fun el => closedL S el) = true
  rw [List.all_eq_true]
  intro el hel
  simp only [rowOf, List.map_map, List.mem_map] at hel
  obtain ⟨a, _, rfl⟩ := hel
  show closedL S ((f a).map .dat) = true
  generalize f a = l
  induction l with
  | nil => rfl
  | cons d l ih => simp only [List.map_cons, closedL, Bool.and_eq_true]; exact ⟨rfl, ih⟩
theorem closM {S : Nat → Bool} {β : Type} {kk : IntKind} {vf : β → AVal} {xs : List (Int × β)} (hv : ∀ b, closedV S (vf b) = true) : closedO S (mapO kk vf xs) = true := by
  show ((xs.map fun p => (dI kk p.1, vf p.2)).all fun p => closedV S p.1 && closedV S p.2) = true
  rw [List.all_eq_true]
  intro p hp
  obtain ⟨q, _, rfl⟩ := List.mem_map.1 hp
  simp only [Bool.and_eq_true]
  exact ⟨rfl, hv _⟩
def NewL (L0 L : LH) : LH → Bool
  | [] => true
  | (r, _) :: l => (inL L0 r || !inL L r) && NewL L0 L l
theorem NewL.get {L0 L : LH} : ∀ {l : LH}, NewL L0 L l = true → ∀ r, inL l r = true → inL L0 r = true ∨ inL L r = false
  | [], _, r, h => by simp [inL, aget] at h
  | (q, p) :: l, hs, r, h => by
    simp only [NewL, Bool.and_eq_true] at hs
    simp only [inL, aget] at h
    split at h
    · rename_i e
      have e : q = r := by simpa using e
      subst e
      have := hs.1
      simp only [Bool.or_eq_true, Bool.not_eq_true'] at this
      exact this
    · exact NewL.get hs.2 r (by simpa [inL] using h)
section
variable {X : Cx} {E : Env} {L L' : LH}
theorem dcall {ops rest : List Oper} {fs : List Ft} {k : Env → LH → Prop} {d : Nat} {f : Operand} {fid : FuncId} {bs caps : List AVal} {args : Array Operand} {ats : Array TypeId} {ty : TypeId} {pos : String} {af : Array Edge} {g : Option (Nat × Bool)} {vs : List AVal} {v : AVal} {L0 L1 : LH}
    (hN : Nat.blt d X.N = true) (hg : gval ops E g = some true) (hf : ev E f = some (.fn fid bs caps)) (ha : evl E args.toList = some vs) (hev : Ev X.P fid (bs ++ vs ++ caps) L0 (.ret v) L1)
    (hs : SubL L0 L) (hc : closedL (inL L0) (bs ++ vs ++ caps) = true) (ho : ClosA (inL L0) L0) (hn : NewL L0 L L1 = true) (hL : mergeL L L1 = L')
    (h : RD X ops rest (⟨some d, otmps (.call { callee := .value f, args, argTypes := ats }) ++ gts ops g, L0.map (·.1) ++ L1.map (·.1), L1.map (·.1)⟩ :: fs) ((d, v) :: E) L' k) :
    RD X ops (Oper.mk (some d) (.call { callee := .value f, args, argTypes := ats }) ty pos af g :: rest) fs E L k := by
  subst hL
  have hop : opD X ops (Oper.mk (some d) (.call { callee := .value f, args, argTypes := ats }) ty pos af g) none E L
      (fun T L2 => T = ⟨none, otmps (.call { callee := .value f, args, argTypes := ats }) ++ gts ops g, L0.map (·.1) ++ L1.map (·.1), v, L1⟩ ∧ L2 = mergeL L L1) := by
    simp only [opD, hf, ha]
    exact ⟨v, L0, L1, L1, hev, hs.get, hc, ho.get, NewL.get hn, fun r => .inl rfl, rfl, rfl⟩
  obtain ⟨T, L2, ⟨rfl, rfl⟩, h2, h3⟩ := opD_path hop hg
  refine RD.cons (T := ⟨none, otmps (.call { callee := .value f, args, argTypes := ats }) ++ gts ops g, L0.map (·.1) ++ L1.map (·.1), v, L1⟩) (dstN_ok hN) h3 h2 ?_
  exact h
theorem retX {P : Program} {rs : List ResultVar} {v u : AVal} (h : resV P L E rs = some v) (hz : Frz P L (inL L') v u) (hL : FrzO P L (inL L') L') : RetP P rs (.ret u) L' .ret E L := ⟨v, u, h, rfl, hz, ⟨fun r o' ho' => hL.get ho'⟩⟩
theorem Ev.of_bodyX {P : Program} {f N : Nat} {fn : Func} {rs : List ResultVar} {c : Code} {args : List AVal} {L0 : LH} {v : AVal} (hf : P.funcs[f]? = some fn) (hb : fn.body = some c) (hN : fn.ntmps = N) (hr : fn.results.toList = rs) (hen : enters P f = true)
    (hK : allIn L0 L' = true) (hlen : args.length ≤ N) (h : ∀ B, AWP (fcx P N B L0) c (argE 0 args) L0 (RetP P rs (.ret v) L')) : Ev P f args L0 (.ret v) L' := by
  subst hN; subst hr
  exact Ev.of_body hf hb hen (fun r hr => allIn_get hK (by
    simp only [ids]
    simpa [inL] using hr)) hlen h
end
end Go.Sk
namespace Go.Sk
open Go Go.Sort Go.Proofs Go.ChangeShapes Go.WideShapes
theorem srt_length (xs : List Int) : (srt xs).length = xs.length := List.length_mergeSort xs
theorem rowI_flat (xs : List Int) : (rowOf (xs.map (eI .i64))).flatten = xs.map (fun n => AVal.dat (.int .i64 n)) := by
  rw [rowOf_flatten]
  induction xs with
  | nil => rfl
  | cons x xs ih =>
    simp only [List.map_cons, List.flatten_cons, List.map_append, ih]
    rfl
theorem ev_sort {P : Program} {f r e g : Nat} {xs : List Int} (he : P.cellsOf e = 1) (hen : enters P f = true) (hlen : xs.length < 4611686018427387904)
    (hs : ∀ (blk off cap : Nat) (zs : List Int) (w : World), Holds (Value.int .i64) w blk off zs.toArray → blk < w.heap.size → zs.length < 4611686018427387904 →
      Calls P f #[.slice (some ⟨blk, off, none⟩) zs.length cap] w fun en w' => en = .returned (.tuple #[]) ∧ ∃ n os, w' = grow (putRow (Value.int .i64) (Sort.ahead w n) blk off (zs.mergeSort fun x y => decide (x ≤ y)).toArray) os)
    (h0 : ∀ (p : Option Addr) (cap : Nat) (w : World), Calls P f #[.slice p 0 cap] w fun en w' => en = .returned (.tuple #[]) ∧ w' = w) :
    Ev P f [.slice r g 0 xs.length] [(r, rw' g e (eI .i64) xs)] (.ret (.tup [])) [(r, rw' g e (eI .i64) (srt xs))] := by
  refine ⟨hen, fun ρ w cs hcs hL => ?_⟩
  have hag : aget [(r, rw' g e (eI .i64) xs)] r = some (.row g e (rowOf (xs.map (eI .i64)))) := by simp [aget]
  obtain ⟨v, sz, ys, hr, hP, hp, hsz, hown, hx⟩ := cur_row hL hag
  rw [he] at hP
  subst hP
  have hl : (rowOf (xs.map (eI .i64))).length = xs.length := by simp [rowOf]
  rw [hl] at hown
  have hys : ys = xs.map (Value.int .i64) := by
    apply List.ext_getElem?
    intro i
    have hyl : ys.length = xs.length := by have := hown.1; omega
    by_cases hi : i < xs.length
    · have h1 := (hx i (.dat (.int .i64 xs[i])) (by rw [rowI_flat, List.getElem?_map, List.getElem?_eq_getElem hi]; rfl)).2
      have h2 : ys.getD i undef = ys[i] := by simp [List.getD, List.getElem?_eq_getElem (show i < ys.length by omega)]
      rw [h2] at h1
      cases h1 with
      | dat hd =>
        generalize hq : ys[i] = q at hd
        cases hd
        rw [List.getElem?_eq_getElem (by omega), hq, List.getElem?_map, List.getElem?_eq_getElem hi]; rfl
    · rw [List.getElem?_eq_none (by omega), List.getElem?_eq_none (by simp; omega)]
  subst hys
  cases hcs with
  | cons hv hn =>
  cases hn
  cases hv with
  | @slice _ _ _ _ nn cc g0 sz0 aa vv ee hr' hle hsl =>
    rw [hr] at hr'
    injection hr' with hr'
    injection hr' with e1 e2
    injection e2 with e2 e3 e4
    subst e1; subst e2; subst e3; subst e4
    have hs2 := hsl rfl
    clear hsl
    unfold SlRel at hs2
    obtain ⟨hn1, hs3⟩ := hs2
    subst hn1
    rcases hown.2 with ⟨hv0, hz⟩ | ⟨b, cap, cur, hv0, hb0, hh, hnc, hcm, hcs, htk⟩
    · have hx0 : xs = [] := List.eq_nil_of_length_eq_zero hz
      subst hx0
      refine callsIn_wide.2 ((h0 _ _ w).mono fun en w' ⟨h1, h2⟩ => ?_)
      subst h1; subst h2
      exact ⟨ρ, .tup rfl (fun i v h => by simp at h), by rw [show srt [] = [] by simp [srt]]; exact hL, Fr.refl _ _ _⟩
    · subst hv0
      obtain ⟨_, _, x, hax, hxx⟩ := hs3
      have hxe : x = ⟨b, 0, none⟩ := by rw [hxx (.inr rfl)]
      subst hax; subst hxe
      rw [Nat.mul_one] at htk
      have hbs : b < w.heap.size := (Array.getElem?_eq_some_iff.1 hh).1
      refine callsIn_wide.2 ((hs b 0 cc xs w (holds_of_blockI hh htk) hbs hlen).mono fun en w' ⟨h1, n, os, h2⟩ => ?_)
      subst h1
      have hg : w.grownBy w' (some b) := by rw [h2]; exact grownBy_sortedI _
      have hob : ∀ b', some b = some b' → ∃ x, ρ.m r = some x ∧ x.2.blk = some b' := fun b' h => ⟨_, hr, by rw [← h]; rfl⟩
      have hv' : ∀ b', (CLoc.row (.slice (some ⟨b, 0, none⟩) xs.length cap) e 1).blk = some b' → some b = some b' ∨ w.heap.size ≤ b' := fun b' h => .inl (by
        simp only [CLoc.blk, Value.ownBlock] at h; exact h)
      have hle' : ∀ x, ρ.m r = some x → LocLe x (g, .row (.slice (some ⟨b, 0, none⟩) xs.length cap) e 1) := fun x h => by
        rw [hr] at h
        injection h with h
        subst h
        exact .refl _
      have hf := upd_fr hL hob hg hv' hle'
      have hown' : w'.ownsRow 0 e 1 (.slice (some ⟨b, 0, none⟩) xs.length cap) xs.length ((srt xs).map (Value.int .i64)) := by
        rw [h2]
        exact ownsRow_sortedI (srt_length xs) hb0 hh hnc hcm hcs
      have hsat := upd_sat (o := rw' g e (eI .i64) (srt xs)) hL hob hg hv' hle' rfl ⟨rfl, ⟨he.symm, fun _ => by simp⟩, by decide, by
          intro el hel
          simp only [rowOf, List.map_map, List.mem_map] at hel
          obtain ⟨a, _, rfl⟩ := hel
          rfl, (srt xs).map (Value.int .i64), by
          have : (rowOf ((srt xs).map (eI .i64))).length = xs.length := by simp [rowOf, srt_length]
          rw [this]; exact hown', fun i y hy => by
          rw [rowI_flat, List.getElem?_map] at hy
          obtain ⟨z, hz, rfl⟩ := Option.map_eq_some_iff.1 hy
          refine ⟨rfl, ?_⟩
          have : ((srt xs).map (Value.int .i64)).getD i undef = .int .i64 z := by simp [List.getD, hz]
          rw [this]
          exact .dat (.int .i64 z)⟩
      refine ⟨_, .tup rfl (fun i v h => by simp at h), ?_, hf⟩
      have : aset [(r, rw' g e (eI .i64) xs)] r (rw' g e (eI .i64) (srt xs)) = [(r, rw' g e (eI .i64) (srt xs))] := by simp [aset]
      rw [this] at hsat
      exact hsat
section
variable {X : Cx} {E : Env} {L L' : LH}
theorem rcall {Q : Ex → Env → LH → Prop} {ops : Array Oper} {rest : List Oper} {i : Nat} {d : Option Nat} {f : Operand} {fid : FuncId} {bs caps : List AVal} {args : Array Operand} {ats : Array TypeId} {ty : TypeId} {pos : String} {af : Array Edge} {g : Option (Nat × Bool)} {vs : List AVal} {v : AVal} {L0 L1 : LH}
    (hN : Nat.blt (d.getD 0) X.N = true) (hg : gval ops.toList E g = some true) (hf : ev E f = some (.fn fid bs caps)) (ha : evl E args.toList = some vs) (hev : Ev X.P fid (bs ++ vs ++ caps) L0 (.ret v) L1)
    (hs : SubL L0 L) (hc : closedL (inL L0) (bs ++ vs ++ caps) = true) (ho : ClosA (inL L0) L0) (hn : NewL L0 L L1 = true) (hL : mergeL L L1 = L') (hk : RW X Q ops (i + 1) rest (putE E d v) L') :
    RW X Q ops i (Oper.mk d (.call { callee := .value f, args, argTypes := ats }) ty pos af g :: rest) E L := by
  subst hL
  exact rw_call (R := fun o l => o = .ret v ∧ l = mergeL L L1) hN hg hf ha (Ev.toR (hev.frame hs.get hc ho.get (NewL.get hn))) (fun v' L' h => by
    obtain ⟨h1, h2⟩ := h
    injection h1 with h1
    subst h1; subst h2
    exact hk) (fun v' L' h => by cases h.1)
end
end Go.Sk
namespace Go.Sk
open Go
section
variable {P : Program} {E : Env} {L : LH} {r0 : Option Nat}
end
end Go.Sk
namespace Go.Sk
open Go Go.RowKit
section
variable {P : Program} {E : Env} {L : LH} {r0 : Option Nat}
end
abbrev G1 (g : Nat) (cells : List Dat) : LH := [(gbase + g, .glob g cells)]
def FnG (P : Program) (g : Nat) (cells : List Dat) (f : FuncId) (args : List AVal) (v : AVal) : Prop := Ev P f args (G1 g cells) (.ret v) (G1 g cells)
def rhoG (g : Nat) : Rho := { m := fun r => if r = gbase + g then some (0, .glob g) else none, ext := fun _ => False }
theorem rhoG_m {g r : Nat} {x : Nat × CLoc} (h : (rhoG g).m r = some x) : r = gbase + g ∧ x = (0, .glob g) := by
  simp only [rhoG] at h
  split at h
  · injection h with h; exact ⟨‹_›, h.symm⟩
  · simp at h
theorem ownG (g b : Nat) : ¬ own (rhoG g) b := by
  rintro (⟨r, g', l, h, hb⟩ | h)
  · obtain ⟨_, e⟩ := rhoG_m h
    injection e with _ e
    subst e
    simp [CLoc.blk] at hb
  · exact h
theorem satG {P : Program} {g : Nat} {cells : List Dat} {w : World} (hv : VRel w (rhoG g) (.pdat cells 0) (.pointer (some ⟨g, 0, none⟩))) : SatL P (rhoG g) (G1 g cells) w where
  obj r o h := by
    simp only [aget] at h
    split at h
    · rename_i e
      injection h with h
      subst h
      exact ⟨.glob g, by simp [rhoG, e.symm, AObj.gen], rfl, hv⟩
    · simp at h
  dom r x h := by
    obtain ⟨rfl, _⟩ := rhoG_m h
    exact ⟨.glob g cells, by simp [aget]⟩
  inj r r' x x' b h h' hb hb' := by rw [(rhoG_m h).1, (rhoG_m h').1]
  dis b h := fun hx => hx
  elt b h := h.elim
theorem agreeG (g : Nat) : Agree (fun _ => false) rho0 (rhoG g) := ⟨fun r x h => by simp at h, fun b h => absurd h (ownG g b)⟩
theorem lsG {g : Nat} {w : World} {vs : List AVal} {cs : List Value} (h : LsRel w rho0 vs cs) : closedL (fun _ => false) vs = true → LsRel w (rhoG g) vs cs := by
  induction h with
  | nil => exact fun _ => .nil
  | cons h _ ih =>
    intro hc
    simp only [closedL, Bool.and_eq_true] at hc
    exact .cons (h.agree (agreeG g) hc.1) (ih hc.2)
theorem FnG.calls {P : Program} {g : Nat} {cells : List Dat} {f : FuncId} {args : List AVal} {b : Bool} (h : FnG P g cells f args (.dat (.bool b))) {W : World} {cs : List Value} (hcs : LsRel W rho0 args cs) (hcl : closedL (fun _ => false) args = true)
    (hv : VRel W (rhoG g) (.pdat cells 0) (.pointer (some ⟨g, 0, none⟩))) : Calls P f cs.toArray W fun e W' => e = .returned (.bool b) ∧ Below W.heap.size W W' := by
  have := h.2 (rhoG g) W cs (lsG hcs hcl) (satG hv)
  refine (callsIn_wide.1 this).mono fun e W' he => ?_
  obtain ⟨ρ', h1, h2, h3⟩ := he
  cases e with
  | returned c =>
    have h1 : VRel W' ρ' (.dat (.bool b)) c := h1
    cases h1 with
    | dat h1 => cases h1; exact ⟨rfl, h3.os, h3.tape, h3.output, h3.size, fun k hk => h3.blk k hk (fun ho => ownG g k (.inl ho))⟩
  | panicked ch => exact h1.elim
  | outgrown => exact h1.elim
end Go.Sk
namespace Go.Sk
open Go
mutual
def datEq : Dat → Dat → Bool
  | .bool a, .bool b => a == b
  | .int k a, .int k' b => k == k' && a == b
  | .sl s xs, .sl s' ys => s == s' && datEqLL xs ys
  | _, _ => false
def datEqL : List Dat → List Dat → Bool
  | [], [] => true
  | x :: xs, y :: ys => datEq x y && datEqL xs ys
  | _, _ => false
def datEqLL : List (List Dat) → List (List Dat) → Bool
  | [], [] => true
  | x :: xs, y :: ys => datEqL x y && datEqLL xs ys
  | _, _ => false
end
mutual
theorem datEq_eq : ∀ {x y : Dat}, datEq x y = true → x = y
  | .bool a, y, h => by cases y <;> simp_all [datEq]
  | .int k a, y, h => by cases y <;> simp_all [datEq]
  | .str s, y, h => by cases y <;> simp [datEq] at h
  | .sl s xs, y, h => by
    cases y <;> simp only [datEq, Bool.and_eq_true, beq_iff_eq, Bool.false_eq_true] at h
    rename_i s' ys
    rw [h.1, datEqLL_eq h.2]
theorem datEqL_eq : ∀ {xs ys : List Dat}, datEqL xs ys = true → xs = ys
  | [], ys, h => by cases ys <;> simp_all [datEqL]
  | x :: xs, ys, h => by
    cases ys <;> simp only [datEqL, Bool.and_eq_true, Bool.false_eq_true] at h
    rw [datEq_eq h.1, datEqL_eq h.2]
theorem datEqLL_eq : ∀ {xs ys : List (List Dat)}, datEqLL xs ys = true → xs = ys
  | [], ys, h => by cases ys <;> simp_all [datEqLL]
  | x :: xs, ys, h => by
    cases ys <;> simp only [datEqLL, Bool.and_eq_true, Bool.false_eq_true] at h
    rw [datEqL_eq h.1, datEqLL_eq h.2]
end
mutual
/-- the second value is the first one, with all slices read off -/
def deepB (P : Program) (L : LH) : Nat → AVal → AVal → Bool
  | 0, _, _ => false
  | n + 1, .dat d, .dat d' => datEq d d'
  | n + 1, .nilS, .dat (.sl _ []) => true
  | n + 1, .slice r g off len, .dat (.sl sz ds) =>
    match aget L r with
    | some (.row g' e els) => decide (g = g') && decide (sz = P.cellsOf e) && decide (len = ds.length) && decide (off + len ≤ els.length) && deepLL P L n (asubl els off (off + len)) ds
    | _ => false
  | n + 1, .agg vs, .agg us => deepL P L n vs us
  | n + 1, .tup vs, .tup us => deepL P L n vs us
  | _, _, _ => false
def deepL (P : Program) (L : LH) : Nat → List AVal → List AVal → Bool
  | 0, _, _ => false
  | n + 1, [], [] => true
  | n + 1, v :: vs, u :: us => deepB P L n v u && deepL P L n vs us
  | _, _, _ => false
def deepD (P : Program) (L : LH) : Nat → List AVal → List Dat → Bool
  | 0, _, _ => false
  | n + 1, [], [] => true
  | n + 1, v :: vs, d :: ds => deepB P L n v (.dat d) && deepD P L n vs ds
  | _, _, _ => false
def deepLL (P : Program) (L : LH) : Nat → List (List AVal) → List (List Dat) → Bool
  | 0, _, _ => false
  | n + 1, [], [] => true
  | n + 1, v :: vs, d :: ds => deepD P L n v d && deepLL P L n vs ds
  | _, _, _ => false
end
theorem deepL_get {P : Program} {L : LH} : ∀ {n : Nat} {vs us : List AVal}, deepL P L n vs us = true → vs.length = us.length ∧ ∀ (i : Nat) (v u : AVal), vs[i]? = some v → us[i]? = some u → ∃ m, m < n ∧ deepB P L m v u = true
  | 0, _, _, h => by simp [deepL] at h
  | n + 1, [], [], h => ⟨rfl, fun i v u hv => by simp at hv⟩
  | n + 1, [], u :: us, h => by simp [deepL] at h
  | n + 1, v :: vs, [], h => by simp [deepL] at h
  | n + 1, v :: vs, u :: us, h => by
    simp only [deepL, Bool.and_eq_true] at h
    obtain ⟨h1, h2⟩ := deepL_get h.2
    refine ⟨by simp [h1], fun i x y hx hy => ?_⟩
    cases i with
    | zero => simp at hx hy; subst hx; subst hy; exact ⟨n, by omega, h.1⟩
    | succ i =>
      obtain ⟨m, hm, h3⟩ := h2 i x y (by simpa using hx) (by simpa using hy)
      exact ⟨m, by omega, h3⟩
theorem deepD_get {P : Program} {L : LH} : ∀ {n : Nat} {vs : List AVal} {ds : List Dat}, deepD P L n vs ds = true → vs.length = ds.length ∧ ∀ (i : Nat) (v : AVal) (d : Dat), vs[i]? = some v → ds[i]? = some d → ∃ m, m < n ∧ deepB P L m v (.dat d) = true
  | 0, _, _, h => by simp [deepD] at h
  | n + 1, [], [], h => ⟨rfl, fun i v u hv => by simp at hv⟩
  | n + 1, [], u :: us, h => by simp [deepD] at h
  | n + 1, v :: vs, [], h => by simp [deepD] at h
  | n + 1, v :: vs, u :: us, h => by
    simp only [deepD, Bool.and_eq_true] at h
    obtain ⟨h1, h2⟩ := deepD_get h.2
    refine ⟨by simp [h1], fun i x y hx hy => ?_⟩
    cases i with
    | zero => simp at hx hy; subst hx; subst hy; exact ⟨n, by omega, h.1⟩
    | succ i =>
      obtain ⟨m, hm, h3⟩ := h2 i x y (by simpa using hx) (by simpa using hy)
      exact ⟨m, by omega, h3⟩
theorem deepLL_get {P : Program} {L : LH} : ∀ {n : Nat} {vs : List (List AVal)} {ds : List (List Dat)}, deepLL P L n vs ds = true → vs.length = ds.length ∧ ∀ (i : Nat) (v : List AVal) (d : List Dat), vs[i]? = some v → ds[i]? = some d → ∃ m, m < n ∧ deepD P L m v d = true
  | 0, _, _, h => by simp [deepLL] at h
  | n + 1, [], [], h => ⟨rfl, fun i v u hv => by simp at hv⟩
  | n + 1, [], u :: us, h => by simp [deepLL] at h
  | n + 1, v :: vs, [], h => by simp [deepLL] at h
  | n + 1, v :: vs, u :: us, h => by
    simp only [deepLL, Bool.and_eq_true] at h
    obtain ⟨h1, h2⟩ := deepLL_get h.2
    refine ⟨by simp [h1], fun i x y hx hy => ?_⟩
    cases i with
    | zero => simp at hx hy; subst hx; subst hy; exact ⟨n, by omega, h.1⟩
    | succ i =>
      obtain ⟨m, hm, h3⟩ := h2 i x y (by simpa using hx) (by simpa using hy)
      exact ⟨m, by omega, h3⟩
theorem deepLL_flat {P : Program} {L : LH} {n : Nat} {vs : List (List AVal)} {ds : List (List Dat)} (h : deepLL P L n vs ds = true) : ∀ (i : Nat) (d : Dat), ds.flatten[i]? = some d → ∃ v m, vs.flatten[i]? = some v ∧ m < n ∧ deepB P L m v (.dat d) = true := by
  obtain ⟨h1, h2⟩ := deepLL_get h
  have hh := flat_pair (R := fun v d => ∃ m, m < n ∧ deepB P L m v (.dat d) = true) h1 (fun i el el' he he' => by
    obtain ⟨m, hm, hd⟩ := h2 i el el' he he'
    obtain ⟨h3, h4⟩ := deepD_get hd
    exact ⟨h3, fun j v u hv hu => by
      obtain ⟨m', hm', hb⟩ := h4 j v u hv hu
      exact ⟨m', by omega, hb⟩⟩)
  intro i d hd
  obtain ⟨v, hv, m, hm, hb⟩ := hh i d hd
  exact ⟨v, m, hv, hm, hb⟩
theorem deepB_sound {P : Program} {L : LH} {ρ ρ' : Rho} {w : World} (hL : SatL P ρ L w) (hx : ρ'.ext = ρ.ext) (hm : ∀ b, ¬ ownM ρ' b) : ∀ (n : Nat) {v u : AVal} {c : Value}, deepB P L n v u = true → VRel w ρ v c → VRel w ρ' u c := by
  have hown : ∀ b, own ρ' b → own ρ b := fun b h => by
    rcases h with h | h
    · exact absurd h (hm b)
    · exact .inr (by rw [← hx]; exact h)
  intro n
  induction n using Nat.strongRecOn with
  | _ n ih =>
    intro v u c h hv
    cases n with
    | zero => simp [deepB] at h
    | succ n =>
      unfold deepB at h
      split at h
      · rename_i e; cases e
      · rename_i _ d d' _ 
        cases hv with
        | dat hv =>
          rw [← datEq_eq h]
          exact .dat (hv.mono (fun _ _ _ => rfl) (fun b _ => hown b))
      · cases hv
        exact .dat (.nil _)
      · rename_i _ r g off len sz ds _
        split at h
        · rename_i g' e els ho
          simp only [Bool.and_eq_true, decide_eq_true_eq] at h
          obtain ⟨⟨⟨⟨h1, h2⟩, h3⟩, h4⟩, h5⟩ := h
          subst h1
          obtain ⟨v0, sz', xs, hr, hP, hp, hsz, hown', hxs⟩ := cur_row hL ho
          have e1 : sz' = sz := by rw [hP, h2]
          subst e1
          cases hv with
          | @slice _ _ _ _ nn cc g0 sz0 a0 v1 e0 hr' hle hsl =>
            rw [hr] at hr'
            injection hr' with hr'
            injection hr' with e1 e2
            injection e2 with e2 e3 e4
            subst e1; subst e2; subst e3; subst e4
            obtain ⟨hnn, hsl⟩ := hsl rfl
            subst hnn
            have hlen := asubl_length els off (off + nn) h4
            rcases own_form hown' with ⟨rfl, h00⟩ | ⟨b, cap, rfl, q1, q2⟩
            · simp only at hsl
              obtain ⟨rfl, rfl, rfl, rfl⟩ := hsl
              have : ds = [] := List.eq_nil_of_length_eq_zero (by omega)
              subst this
              exact .dat (.nil _)
            · simp only at hsl
              obtain ⟨h6, rfl, x, rfl, h8⟩ := hsl
              have hel : ∀ el ∈ ds, el.length = sz' := by
                intro el hel
                obtain ⟨i, hi⟩ := List.getElem?_of_mem hel
                obtain ⟨k1, k2⟩ := deepLL_get h5
                have hlt : i < (asubl els off (off + nn)).length := by rw [k1]; exact (List.getElem?_eq_some_iff.1 hi).1
                obtain ⟨m, _, hd⟩ := k2 i _ el (List.getElem?_eq_getElem hlt) hi
                rw [← (deepD_get hd).1]
                exact hsz _ (List.mem_of_mem_take (List.mem_of_mem_drop (List.getElem_mem hlt)))
              have hb : ¬ own ρ' x.block ∨ ds.flatten = [] := by
                by_cases hz : nn = 0
                · right
                  have : ds = [] := List.eq_nil_of_length_eq_zero (by omega)
                  subst this; rfl
                · left
                  have hx' := h8 (.inl (by omega))
                  subst hx'
                  rintro (h | h)
                  · exact hm _ h
                  · exact hL.dis b ⟨r, g, _, hr, rfl⟩ (by rw [← hx]; exact h)
              rw [h3]
              refine .dat (.sl ds sz' (cap - off) x (fun j => xs.getD (off * sz' + j) undef) hel (by omega) (by omega) (fun j d hj => ?_) (fun j d hj => ?_))
              · rcases hb with hb | hb
                · refine ⟨hb, ?_⟩
                  obtain ⟨y, m, hy, _, _⟩ := deepLL_flat h5 j d hj
                  have hjl : j < nn * sz' := by
                    have := (List.getElem?_eq_some_iff.1 hj).1
                    rw [flatten_len hel] at this
                    rw [h3]; exact this
                  have hl0 : 0 < nn := by
                    rcases Nat.eq_zero_or_pos nn with h | h
                    · subst h; simp at hjl
                    · exact h
                  have hx' := h8 (.inl (by omega))
                  subst hx'
                  have hle3 : (off + nn) * sz' ≤ els.length * sz' := Nat.mul_le_mul_right _ h4
                  have hlt : off * sz' + j < xs.length := by
                    rw [hown'.1]
                    rw [Nat.add_mul] at hle3
                    omega
                  have := hown'.cells (g := b) rfl (off * sz' + j) (xs.getD (off * sz' + j) undef) (by simp [List.getD, List.getElem?_eq_getElem hlt])
                  rw [Addr.add_lit] at this ⊢
                  rw [Nat.zero_add] at this
                  exact this
                · rw [hb] at hj; simp at hj
              · obtain ⟨y, m, hy, hmn, hbb⟩ := deepLL_flat h5 j d hj
                have hfl : (asubl els off (off + nn)).flatten = (els.flatten.take ((off + nn) * sz')).drop (off * sz') := by
                  unfold asubl
                  rw [drop_flatten (sz := sz') (fun el hel => hsz el (List.mem_of_mem_take hel)) off (by simp; omega), take_flatten hsz _ (by omega)]
                rw [hfl, List.getElem?_drop, List.getElem?_take] at hy
                split at hy
                · obtain ⟨k1, k2⟩ := hxs _ y hy
                  have := ih m (by omega) hbb k2
                  generalize xs.getD (off * sz' + j) undef = cc' at this
                  cases this with
                  | dat hd => exact hd
                · simp at hy
        · simp at h
      · obtain ⟨h1, h2⟩ := deepL_get h
        cases hv with
        | agg hs hh =>
          refine .agg (by rw [hs, h1]) (fun i u hu => ?_)
          have hlt := (List.getElem?_eq_some_iff.1 hu).1
          rw [← h1] at hlt
          obtain ⟨m, hmn, hb⟩ := h2 i _ u (List.getElem?_eq_getElem hlt) hu
          exact ih m (by omega) hb (hh i _ (List.getElem?_eq_getElem hlt))
      · obtain ⟨h1, h2⟩ := deepL_get h
        cases hv with
        | tup hs hh =>
          refine .tup (by rw [hs, h1]) (fun i u hu => ?_)
          have hlt := (List.getElem?_eq_some_iff.1 hu).1
          rw [← h1] at hlt
          obtain ⟨m, hmn, hb⟩ := h2 i _ u (List.getElem?_eq_getElem hlt) hu
          exact ih m (by omega) hb (hh i _ (List.getElem?_eq_getElem hlt))
      · simp at h
def FrzEls (P : Program) (L : LH) (S : Nat → Bool) : List (List AVal) → List (List AVal) → Prop
  | [], [] => True
  | v :: vs, u :: us => FrzVs P L S v u ∧ FrzEls P L S vs us
  | _, _ => False
theorem FrzEls.len {P : Program} {L : LH} {S : Nat → Bool} : ∀ {vs us : List (List AVal)}, FrzEls P L S vs us → vs.length = us.length
  | [], [], _ => rfl
  | v :: vs, u :: us, h => by simp [FrzEls.len h.2]
  | [], _ :: _, h => h.elim
  | _ :: _, [], h => h.elim
theorem FrzEls.get {P : Program} {L : LH} {S : Nat → Bool} : ∀ {vs us : List (List AVal)}, FrzEls P L S vs us → ∀ (i : Nat) (v u : List AVal), vs[i]? = some v → us[i]? = some u → FrzVs P L S v u
  | [], [], _, i, v, u, h1, _ => by simp at h1
  | v :: vs, u :: us, h, 0, x, y, h1, h2 => by
    simp only [List.getElem?_cons_zero, Option.some.injEq] at h1 h2
    subst h1; subst h2; exact h.1
  | v :: vs, u :: us, h, i + 1, x, y, h1, h2 => FrzEls.get h.2 i x y (by simpa using h1) (by simpa using h2)
  | [], _ :: _, h, _, _, _, _, _ => h.elim
  | _ :: _, [], h, _, _, _, _, _ => h.elim
theorem objEls {P : Program} {L : LH} {S : Nat → Bool} {g e : Nat} {vs us : List (List AVal)} (h : FrzEls P L S vs us) : ObjFrz P L S (.row g e vs) (.row g e us) :=
  ⟨rfl, rfl, h.len, fun i el el' h1 h2 => ⟨(h.get i el el' h1 h2).len, fun j v u a b => (h.get i el el' h1 h2).get j v u a b⟩⟩
end Go.Sk
namespace Go.Sk
open Go
section
variable {X : Cx} {Q : Ex → Env → LH → Prop} {ops : Array Oper} {rest : List Oper} {i : Nat} {E : Env} {L : LH}
end
section
variable {P : Program} {rs : List ResultVar} {E : Env} {L L' : LH}
theorem retM {out : Out} {v u : AVal} (h : resV P L E rs = some v) (ho : out = .ret u) (hz : Frz P L (inL L') v u) (hL : FrzO P L (inL L') L') : RetP P rs out L' .ret E L := by
  subst ho; exact retX h hz hL
theorem Ev.of_bodyM {f N : Nat} {fn : Func} {c : Code} {args : List AVal} {L0 : LH} {out : Out} (hf : P.funcs[f]? = some fn) (hb : fn.body = some c) (hN : fn.ntmps = N) (hr : fn.results.toList = rs) (hen : enters P f = true)
    (hK : allIn L0 L' = true) (hlen : args.length ≤ N) (h : ∀ B, AWP (fcx P N B L0) c (argE 0 args) L0 (RetP P rs out L')) : Ev P f args L0 out L' := by
  subst hN; subst hr
  exact Ev.of_body hf hb hen (fun r hr => allIn_get hK (by
    simp only [ids]
    simpa [inL] using hr)) hlen h
end
section
variable {X : Cx} {E : Env} {L L' : LH} {Q : Ex → Env → LH → Prop} {rest : List Oper}
end
def DO (X : Cx) (Q : Ex → Env → LH → Prop) (ops : Array Oper) (fuel : Nat) (listed : Array Bool) (E : Env) (L : LH) (i : Nat) : Prop :=
  ∀ ρ0 w0 ρ a w, Sat X.P X.N X.B ρ E L a w → Fr X.K ρ0 w0 ρ w → wpOpIn X.F 0 X.P ops (QQ X.P X.N X.B X.K Q ρ0 w0) i (wpAnyIn X.F 0 X.P .any ops (QQ X.P X.N X.B X.K Q ρ0 w0) fuel (listed.setIfInBounds i true)) a w
def DOs (X : Cx) (Q : Ex → Env → LH → Prop) (ops : Array Oper) (fuel : Nat) (listed : Array Bool) (E : Env) (L : LH) : List Nat → Prop
  | [] => True
  | i :: is => DO X Q ops fuel listed E L i ∧ DOs X Q ops fuel listed E L is
section
variable {X : Cx} {E : Env} {L L' : LH} {Q : Ex → Env → LH → Prop} {ops : Array Oper} {fuel : Nat} {listed : Array Bool}
theorem DOs.get : ∀ {is : List Nat}, DOs X Q ops fuel listed E L is → ∀ i ∈ is, DO X Q ops fuel listed E L i
  | [], _, i, h => by simp at h
  | j :: is, hd, i, h => by
    rcases List.mem_cons.1 h with rfl | h
    · exact hd.1
    · exact DOs.get hd.2 i h
end
end Go.Sk
namespace Go.Sk
open Go
structure Now (P : Program) (N : Nat) (D : List Deferred) (ρ : Rho) (E : Env) (L : LH) (a : Act) (w : World) : Prop where
  n : a.tmps.size = N
  env : SatE ρ E a w
  heap : SatL P ρ L w
  defs : a.defers = D
section
variable {P : Program} {N : Nat} {D : List Deferred} {ρ : Rho} {E : Env} {L L' : LH} {a : Act} {w : World}
theorem Now.put (h : Now P N D ρ E L a w) {ρ' : Rho} {w' : World} (hL : SatL P ρ' L' w') (hf : Fr All ρ w ρ' w') {d : Option Nat} (hd : dstOk N d) {v : AVal} {c : Value} (hv : VRel w' ρ' v c) : Now P N D ρ' (putE E d v) L' (a.put d c) w' where
  n := by rw [put_size]; exact h.n
  env := (h.env.fr hf).put h.n hd hv
  heap := hL
  defs := by rw [put_defers]; exact h.defs
variable {Q : Exit → Act → World → Prop} {K : Act → World → Prop} {ops : Array Oper} {rest : List Nat}
end
end Go.Sk
namespace Go.Sk
open Go
def evalDeep0 (P : Program) (n : Nat) (f : FuncId) (args : List AVal) (u : AVal) : Bool :=
  match ex P noO n (.call (.fn f [] []) args) [] 1000 with
  | some ⟨.ret, [(0, v)], L', _⟩ => deepB P L' 100000 v u
  | _ => false
theorem fn_deep0 {P : Program} (hmx : P.follows .mixedOrders = true) {n : Nat} {f : FuncId} {args : List AVal} {u : AVal} (h : evalDeep0 P n f args u = true) : Fn P f args u := by
  unfold evalDeep0 at h
  split at h
  · rename_i v1 L1 nx1 he
    have := (ex_sound P hmx noO (noO_ok P) n).2 _ _ _ _ _ _ _ he
    rcases this with ⟨v2, L2, hEv, rfl, rfl⟩ | ⟨v2, L2, _, hh⟩
    · rw [List.append_nil, List.nil_append] at hEv
      refine ⟨hEv.1, fun ρ w cs hcs hL => (hEv.2 ρ w cs hcs hL).mono fun e w' he => ?_⟩
      obtain ⟨ρ', k1, k2, k3⟩ := he
      cases e with
      | returned c =>
        refine ⟨restr ρ' (inL []), deepB_sound k2 (ρ' := restr ρ' (inL [])) rfl ?_ _ h k1, (Wk.none _).sound k2, k3.os, k3.tape, k3.output, k3.size, k3.blk, fun b hb hb2 => ?_, k3.ext, fun r x _ hx => ?_⟩
        · rintro b ⟨r, g', l, q1, q2⟩
          obtain ⟨q3, q4⟩ := restr_m q1
          simp [inL, aget] at q3
        · obtain ⟨r, g, l, q1, q2⟩ := hb2
          exact k3.new b hb ⟨r, g, l, (restr_m q1).2, q2⟩
        · obtain ⟨o, ho⟩ := hL.dom r x hx
          simp [aget] at ho
      | panicked ch => exact k1.elim
      | outgrown => exact k1.elim
    · exact hh.elim
  · simp at h
end Go.Sk
namespace Go.Sk
open Go
structure Ent where
  f : FuncId
  args : List AVal
  L0 : LH
  v : AVal
  L1 : LH
def okObj (S : Nat → Bool) : AObj → Bool
  | .row _ _ els => els.all fun el => el.all fun v => sc v && closedV S v
  | .map es => es.all fun p => closedV S p.1 && closedV S p.2
  | _ => false
theorem okObj_frz {P : Program} {L : LH} {S : Nat → Bool} {o : AObj} (h : okObj S o = true) : ObjFrz P L S o o := by
  cases o with
  | row g e els => exact objKeep h
  | map es =>
    refine ⟨rfl, fun i k v k' v' h1 h2 => ?_⟩
    rw [h1] at h2
    injection h2 with h2
    injection h2 with h2 h3
    subst h2; subst h3
    have := List.all_eq_true.1 h _ (List.mem_of_getElem? h1)
    simp only [Bool.and_eq_true] at this
    exact ⟨.keep this.1, .keep this.2⟩
  | loop => simp [okObj] at h
  | glob => simp [okObj] at h
theorem Ev.cut {P : Program} {f : FuncId} {args : List AVal} {L0 L1 L' : LH} {v : AVal} (h : Ev P f args L0 (.ret v) L') (hs : ∀ r o, aget L1 r = some o → aget L' r = some o) (hv : closedV (inL L1) v = true)
    (ho : ∀ r o, aget L1 r = some o → okObj (inL L1) o = true) (hk : ∀ r, inL L0 r = true → inL L1 r = true) : Ev P f args L0 (.ret v) L1 := by
  refine ⟨h.1, fun ρ w cs hcs hL => (h.2 ρ w cs hcs hL).mono fun e w' he => ?_⟩
  obtain ⟨ρ', h1, h2, h3⟩ := he
  have wk : Wk P L' L1 := ⟨fun r o h => ⟨o, hs r o h, okObj_frz (ho r o h)⟩⟩
  cases e with
  | returned c =>
    refine ⟨restr ρ' (inL L1), (Frz.keep hv).sound h2 (restr_agree ..) (fun r x hx => restr_m hx) rfl h1, wk.sound h2, h3.os, h3.tape, h3.output, h3.size, h3.blk, fun b hb hb2 => ?_, h3.ext, fun r x _ hx => ?_⟩
    · obtain ⟨r, g, l, q1, q2⟩ := hb2
      exact h3.new b hb ⟨r, g, l, (restr_m q1).2, q2⟩
    · obtain ⟨o, ho⟩ := hL.dom r x hx
      obtain ⟨y, hy, hle⟩ := h3.keep r x trivial hx
      have := hk r (by simp [inL, ho])
      exact ⟨y, by simp only [restr, this, if_true, hy], hle⟩
  | panicked ch => exact h1.elim
  | outgrown => exact h1.elim
def hits (L0 L : LH) : Bool := L0.all fun p => eqO (aget L p.1) (some p.2)
theorem mem_of_aget {α : Type} : ∀ {l : List (Nat × α)} {t : Nat} {v : α}, aget l t = some v → (t, v) ∈ l
  | (k, x) :: l, t, v, h => by
    simp only [aget] at h
    split at h
    · rename_i e; subst e; injection h with h; subst h; simp
    · simp [mem_of_aget h]
theorem hits_get {L0 L : LH} (h : hits L0 L = true) (r : Nat) (o : AObj) (ho : aget L0 r = some o) : aget L r = some o := by
  have := List.all_eq_true.1 h _ (mem_of_aget ho)
  exact eqO_sound this
def EntOk (P : Program) (e : Ent) : Prop :=
  Ev P e.f e.args e.L0 (.ret e.v) e.L1 ∧ closedL (inL e.L0) e.args = true ∧ (e.L0.all fun p => closedO (inL e.L0) p.2) = true
def orc (es : List Ent) : CallF := fun fv vs L nx =>
  match fv with
  | .fn f [] [] =>
    match es.find? (fun e => Nat.beq e.f f && (eqVs e.args vs && (hits e.L0 L && NewL e.L0 L e.L1))) with
    | some e => some (e.v, mergeL L e.L1, nx)
    | none => none
  | _ => none
theorem orc_ok {P : Program} {es : List Ent} (h : ∀ e ∈ es, EntOk P e) : CallOk P (orc es) := by
  intro fv vs L nx v L' nx' hh
  unfold orc at hh
  split at hh
  · rename_i f
    split at hh
    · rename_i e he
      simp only [Option.some.injEq, Prod.mk.injEq] at hh
      obtain ⟨rfl, rfl, rfl⟩ := hh
      have hp := List.find?_some he
      simp only [Bool.and_eq_true, Nat.beq_eq] at hp
      obtain ⟨h1, h2, h3, h4⟩ := hp
      obtain ⟨k1, k2, k3⟩ := h e (List.mem_of_find?_eq_some he)
      have h2 := eqVs_sound h2
      subst h1; subst h2
      refine .inl ⟨e.v, mergeL L e.L1, ?_, rfl, rfl⟩
      rw [List.append_nil, List.nil_append]
      exact k1.frame (hits_get h3) k2 (fun r o ho => List.all_eq_true.1 k3 _ (mem_of_aget ho)) (NewL.get h4)
    · simp at hh
  · simp at hh
def entB (P : Program) (O : CallF) (n nx : Nat) (e : Ent) : Bool :=
  match ex P O n (.call (.fn e.f [] []) e.args) e.L0 nx with
  | some ⟨.ret, [(0, v)], L', _⟩ => eqV v e.v && (hits e.L1 L' && (closedV (inL e.L1) e.v && ((e.L1.all fun p => okObj (inL e.L1) p.2) && ((e.L0.all fun p => inL e.L1 p.1) && (closedL (inL e.L0) e.args && (e.L0.all fun p => closedO (inL e.L0) p.2))))))
  | _ => false
theorem ent_ok {P : Program} (hmx : P.follows .mixedOrders = true) {O : CallF} (hO : CallOk P O) {n nx : Nat} {e : Ent} (h : entB P O n nx e = true) : EntOk P e := by
  unfold entB at h
  split at h
  · rename_i v1 L1 nx1 he
    simp only [Bool.and_eq_true] at h
    obtain ⟨h1, h2, h3, h4, h5, h6, h7⟩ := h
    have h1 := eqV_sound h1
    subst h1
    have := (ex_sound P hmx O hO n).2 _ _ _ _ _ _ _ he
    rcases this with ⟨v2, L2, hEv, rfl, rfl⟩ | ⟨v2, L2, _, hh⟩
    · rw [List.append_nil, List.nil_append] at hEv
      refine ⟨hEv.cut (hits_get h2) h3 (fun r o ho => List.all_eq_true.1 h4 _ (mem_of_aget ho)) (fun r hr => ?_), h6, h7⟩
      obtain ⟨o, ho⟩ := Option.isSome_iff_exists.1 hr
      exact List.all_eq_true.1 h5 _ (mem_of_aget ho)
    · exact hh.elim
  · simp at h
def evalDeepO (P : Program) (O : CallF) (n : Nat) (f : FuncId) (args : List AVal) (u : AVal) : Bool :=
  match ex P O n (.call (.fn f [] []) args) [] 1000 with
  | some ⟨.ret, [(0, v)], L', _⟩ => deepB P L' 100000 v u
  | _ => false
theorem fn_deepO {P : Program} (hmx : P.follows .mixedOrders = true) {O : CallF} (hO : CallOk P O) {n : Nat} {f : FuncId} {args : List AVal} {u : AVal} (h : evalDeepO P O n f args u = true) : Fn P f args u := by
  unfold evalDeepO at h
  split at h
  · rename_i v1 L1 nx1 he
    have := (ex_sound P hmx O hO n).2 _ _ _ _ _ _ _ he
    rcases this with ⟨v2, L2, hEv, rfl, rfl⟩ | ⟨v2, L2, _, hh⟩
    · rw [List.append_nil, List.nil_append] at hEv
      refine ⟨hEv.1, fun ρ w cs hcs hL => (hEv.2 ρ w cs hcs hL).mono fun e w' he => ?_⟩
      obtain ⟨ρ', k1, k2, k3⟩ := he
      cases e with
      | returned c =>
        refine ⟨restr ρ' (inL []), deepB_sound k2 (ρ' := restr ρ' (inL [])) rfl ?_ _ h k1, (Wk.none _).sound k2, k3.os, k3.tape, k3.output, k3.size, k3.blk, fun b hb hb2 => ?_, k3.ext, fun r x _ hx => ?_⟩
        · rintro b ⟨r, g', l, q1, q2⟩
          obtain ⟨q3, q4⟩ := restr_m q1
          simp [inL, aget] at q3
        · obtain ⟨r, g, l, q1, q2⟩ := hb2
          exact k3.new b hb ⟨r, g, l, (restr_m q1).2, q2⟩
        · obtain ⟨o, ho⟩ := hL.dom r x hx
          simp [aget] at ho
      | panicked ch => exact k1.elim
      | outgrown => exact k1.elim
    · exact hh.elim
  · simp at h
theorem rw_eq {X : Cx} {E E' : Env} {L L' : LH} {Q : Ex → Env → LH → Prop} {ops : Array Oper} {i : Nat} {rest : List Oper} (hE : E = E') (hL : L = L') (h : RW X Q ops i rest E' L') : RW X Q ops i rest E L := by
  subst hE; subst hL; exact h
section
variable {X : Cx} {Q : Ex → Env → LH → Prop} {ops : Array Oper} {i : Nat} {rest : List Oper} {E : Env} {L : LH}
theorem rmv {d : Nat} {x : Operand} {ty : TypeId} {pos : String} {af : Array Edge} {g : Option (Nat × Bool)} {v : AVal} (hN : Nat.blt d X.N = true) (hg : gval ops.toList E g = some true) (hx : ev E x = some v)
    (h : RW X Q ops (i + 1) rest ((d, v) :: E) L) : RW X Q ops i (Oper.mk (some d) (.move x) ty pos af g :: rest) E L := ro hN hg (st_mv hx) h
theorem ras {d : Nat} {x : Operand} {ty : TypeId} {pos : String} {af : Array Edge} {g : Option (Nat × Bool)} {v : AVal} (hN : Nat.blt d X.N = true) (hg : gval ops.toList E g = some true) (hx : ev E x = some v)
    (h : RW X Q ops (i + 1) rest ((d, v) :: E) L) : RW X Q ops i (Oper.mk (some d) (.assign x) ty pos af g :: rest) E L := ro hN hg (st_as hx) h
end
end Go.Sk
namespace Go.Sk
open Go Go.Sort
end Go.Sk
namespace Go.Sk
open Go
section
variable {P : Program} {S : Nat → Bool} {E : Env} {L : LH}
theorem kp {t : Nat} {u : AVal} (h : aget E t = some u := by exact rfl) (hc : closedV S u = true := by exact rfl) : ∃ v, aget E t = some v ∧ Frz P L S v u := ⟨u, h, .keep hc⟩
theorem kc {u : AVal} (hs : sc u = true := by exact rfl) (hc : closedV S u = true := by exact rfl) : sc u = true ∧ Frz P L S u u := ⟨hs, .keep hc⟩
theorem ko {r g e : Nat} {us : List AVal} (h : aget L r = some (.row g e [us]) := by exact rfl) (hc : (us.all fun v => sc v && closedV S v) = true := by exact rfl) : ∃ o, aget L r = some o ∧ ObjFrz P L S o (.row g e [us]) :=
  ⟨_, h, objKeep (by simp only [List.all_cons, List.all_nil, Bool.and_true]; exact hc)⟩
theorem km {β : Type} {r : Nat} {kk : IntKind} {vf : β → AVal} {xs : List (Int × β)} (h : aget L r = some (mapO kk vf xs) := by exact rfl) (hv : ∀ b, closedV S (vf b) = true := by exact fun _ => rfl) : ∃ o, aget L r = some o ∧ ObjFrz P L S o (mapO kk vf xs) := ⟨_, h, objMap hv _⟩
theorem kw {r g e : Nat} {ds : List (List Dat)} (h : aget L r = some (.row g e (rowOf ds)) := by exact rfl) : ∃ o, aget L r = some o ∧ ObjFrz P L S o (.row g e (rowOf ds)) := ⟨_, h, objRow _⟩
theorem frzE_of : ∀ {E' : Env}, E'.map (fun p => aget E p.1) = E'.map (fun p => some p.2) → (E'.all fun p => closedV S p.2) = true → FrzE P L S E E'
  | [], _, _ => trivial
  | (t, u) :: l, h, hc => by
    simp only [List.map_cons, List.cons.injEq, List.all_cons, Bool.and_eq_true] at h hc
    exact ⟨⟨u, h.1, .keep hc.1⟩, frzE_of h.2 hc.2⟩
end
section
variable {X : Cx} {E E' : Env} {L L' L0 : LH} {Q : Ex → Env → LH → Prop}
theorem gf (hL : FrzO X.P L (inL L') L') (hX : X.K = ids L0 := by exact rfl) (hK : allIn L0 L' = true := by exact rfl) (h : E'.map (fun p => aget E p.1) = E'.map (fun p => some p.2) := by exact rfl) (hc : (E'.all fun p => closedV (inL L') p.2) = true := by exact rfl) : Gh X E L E' L' :=
  gh_frz hX hK (frzE_of h hc) hL
end
section
variable {X : Cx} {E : Env} {L L' : LH} {Q : Ex → Env → LH → Prop} {ops : Array Oper} {rest : List Oper} {i d : Nat} {x : Operand} {op : Op} {ty : TypeId} {pos : String} {af : Array Edge} {g : Option (Nat × Bool)} {v : AVal}
theorem w1 (h : RW X Q ops (i + 1) rest ((d, v) :: E) L) (hx : ev E x = some v := by exact rfl) (hN : Nat.blt d X.N = true := by exact rfl) (hg : gval ops.toList E g = some true := by exact rfl) :
    RW X Q ops i (Oper.mk (some d) (.move x) ty pos af g :: rest) E L := rmv hN hg hx h
theorem w2 (h : RW X Q ops (i + 1) rest ((d, v) :: E) L) (hx : ev E x = some v := by exact rfl) (hN : Nat.blt d X.N = true := by exact rfl) (hg : gval ops.toList E g = some true := by exact rfl) :
    RW X Q ops i (Oper.mk (some d) (.assign x) ty pos af g :: rest) E L := ras hN hg hx h
theorem w3 (h : RW X Q ops (i + 1) rest ((d, .tup []) :: E) L) (hN : Nat.blt d X.N = true := by exact rfl) (hg : gval ops.toList E g = some false := by exact rfl) :
    RW X Q ops i (Oper.mk (some d) op ty pos af g :: rest) E L := rz hN hg h
theorem w4 (hs : opStep X.P none op E L = some (v, L)) (h : RW X Q ops (i + 1) rest ((d, v) :: E) L) (hN : Nat.blt d X.N = true := by exact rfl) (hg : gval ops.toList E g = some true := by exact rfl) :
    RW X Q ops i (Oper.mk (some d) op ty pos af g :: rest) E L := ro hN hg hs h
theorem w8 {r : Nat} {L2 : LH} (hs : opStep X.P (some r) op E L = some (v, L2)) (h : RW X Q ops (i + 1) rest ((d, v) :: E) L') (hL : L2 = L' := by exact rfl) (hN : Nat.blt d X.N = true := by exact rfl) (hg : gval ops.toList E g = some true := by exact rfl) :
    RW X Q ops i (Oper.mk (some d) op ty pos af g :: rest) E L := rn hN hg hs hL h
theorem w9 {L2 : LH} (hs : opStep X.P none op E L = some (v, L2)) (h : RW X Q ops (i + 1) rest E L') (hL : L2 = L' := by exact rfl) (hN : Nat.blt 0 X.N = true := by exact rfl) (hg : gval ops.toList E g = some true := by exact rfl) :
    RW X Q ops i (Oper.mk none op ty pos af g :: rest) E L := rx hN hg hs hL h
end
section
variable {X : Cx} {E : Env} {L : LH} {ops rest : List Oper} {fs : List Ft} {k : Env → LH → Prop} {d : Nat} {x : Operand} {op : Op} {ty : TypeId} {pos : String} {af : Array Edge} {g : Option (Nat × Bool)} {v : AVal} {R W : List Nat}
theorem w5 (h : RD X ops rest (⟨some d, gts ops g, [], []⟩ :: fs) ((d, .tup []) :: E) L k) (hN : Nat.blt d X.N = true := by exact rfl) (hg : gval ops E g = some false := by exact rfl) :
    RD X ops (Oper.mk (some d) op ty pos af g :: rest) fs E L k := dz hN hg h
theorem w7 (hs : opStep X.P none op E L = some (v, L)) (h : RD X ops rest (⟨some d, otmps op ++ gts ops g, R ++ W, W⟩ :: fs) ((d, v) :: E) L k) (hN : Nat.blt d X.N = true := by exact rfl) (hg : gval ops E g = some true := by exact rfl)
    (hl : looks X.P none op E = some (R, W) := by exact rfl) (hc : isCallV op = false := by exact rfl) (hW : (W.all fun q => (aget L q).isSome) = true := by exact rfl) :
    RD X ops (Oper.mk (some d) op ty pos af g :: rest) fs E L k := do_ hN hg hs hl hc hW h
end
end Go.Sk
namespace Go.Sk
open Go
def flatD : Dat → Bool
  | .bool _ | .int _ _ | .str _ => true
  | .sl _ _ => false
theorem flatD_any {w w' : World} {o o' : Nat → Prop} {d : Dat} {c : Value} (hd : flatD d = true) (h : DRel w o d c) : DRel w' o' d c := by
  cases h with
  | bool b => exact .bool b
  | int k n => exact .int k n
  | str s => exact .str s
  | nil => simp [flatD] at hd
  | sl => simp [flatD] at hd
theorem own_lend {α : Type} {P : Program} {f : FuncId} {vs us : List AVal} {e : TypeId} {en : α → List Dat} {xs : List α} {L : LH} (h : OwnRes P f us e en xs) (hz : FrzL P L (fun _ => false) vs us) (hfl : ∀ x, ((en x).all flatD) = true) (R : Nat) (hR : inL L R = false) :
    EvR P f vs L (fun o l => o = .ret (.slice R 0 0 xs.length) ∧ l = aset L R (rw' 0 e en xs)) := by
  replace h := h R
  refine ⟨h.1, fun ρ w cs hcs hL => ?_⟩
  have ha : Agree (fun _ => false) ρ (restr ρ (fun _ => false)) := restr_agree ρ _
  have hcs' : LsRel w (restr ρ (fun _ => false)) us cs := by
    clear h
    induction hcs generalizing us with
    | nil => cases us with
      | nil => exact .nil
      | cons _ _ => exact hz.elim
    | cons h1 _ ih =>
      cases us with
      | nil => exact hz.elim
      | cons u us => exact .cons (hz.1.sound hL ha (fun r x hx => restr_m hx) rfl h1) (ih hz.2)
  have h0 : SatL P (restr ρ (fun _ => false)) [] w := by
    refine ⟨fun r o ho => by simp [aget] at ho, fun r x hx => ?_, fun r r' x x' b h1 => ?_, fun b hb => ?_, hL.elt⟩
    · have := (restr_m hx).1; simp at this
    · have := (restr_m h1).1; simp at this
    · obtain ⟨r, g, l, h1, _⟩ := hb
      have := (restr_m h1).1; simp at this
  refine (h.2 _ w cs hcs' h0).mono fun en' w' he => ?_
  obtain ⟨ρ', h1, h2, h3⟩ := he
  have hno : ∀ b, ¬ ownM (restr ρ (fun _ => false)) b := by
    rintro b ⟨r, g, l, h1, _⟩
    have := (restr_m h1).1; simp at this
  have hLR : aget L R = none := by simpa [inL] using hR
  have hρR : ρ.m R = none := by
    cases hx : ρ.m R with
    | none => rfl
    | some x => obtain ⟨o, ho⟩ := hL.dom R x hx; rw [hLR] at ho; cases ho
  obtain ⟨loc, hm, hrow⟩ := h2.obj R (rw' 0 e en xs) (by simp [aget])
  cases loc with
  | map b => exact hrow.elim
  | loop b => exact hrow.elim
  | glob _ => exact hrow.elim
  | row v0 e' sz =>
  let ρ2 : Rho := { m := fun q => if q = R then ρ'.m R else ρ.m q, ext := ρ.ext }
  have hm2 : ρ2.m R = some (0, .row v0 e' sz) := by simp only [ρ2, if_true]; exact hm
  have hm3 : ∀ q, q ≠ R → ρ2.m q = ρ.m q := fun q hq => by simp [ρ2, hq]
  have hf : Fr All ρ w ρ2 w' := by
    refine ⟨h3.os, h3.tape, h3.output, h3.size, fun b hb _ => h3.blk b hb (hno b), fun b hb => ?_, rfl, fun r x _ hx => ?_⟩
    · rintro ⟨r, g, l, q1, q2⟩
      by_cases hr : r = R
      · subst hr
        rw [hm2] at q1
        exact (hno b (h3.new b hb ⟨r, 0, _, hm, by injection q1 with q1; injection q1 with _ q1; subst q1; exact q2⟩)).elim
      · rw [hm3 r hr] at q1
        exact ⟨r, g, l, q1, q2⟩
    · have hr : r ≠ R := fun hh => by rw [hh, hρR] at hx; cases hx
      exact ⟨x, by rw [hm3 r hr]; exact hx, .refl x⟩
  have hnew : ∀ b, (CLoc.row v0 e' sz).blk = some b → ¬ b < w.heap.size := fun b hb hlt => hno b (h3.new b hlt ⟨R, 0, _, hm, hb⟩)
  have hold : ∀ r x b, ρ.m r = some x → x.2.blk = some b → b < w.heap.size := fun r x b hx hb => hL.lt ⟨r, x.1, x.2, hx, hb⟩
  refine ⟨ρ2, .ret (.slice R 0 0 xs.length), _, ⟨rfl, rfl⟩, ?_, ⟨fun q o ho => ?_, fun q x hx => ?_, fun q q' x x' b q1 q2 q3 q4 => ?_, fun b => ?_, fun b hb => Nat.lt_of_lt_of_le (hL.elt b hb) h3.size⟩, hf⟩
  · cases en' with
    | returned c =>
      have hv : VRel w' ρ' (.slice R 0 0 xs.length) c := h1
      show VRel w' ρ2 (.slice R 0 0 xs.length) c
      cases hv with
      | slice hr2 hg hsl =>
        rw [hm] at hr2
        injection hr2 with hr2
        injection hr2 with e1 e2
        injection e2 with e2 e3 e4
        subst e1; subst e2; subst e3; subst e4
        exact .slice hm2 (Nat.le_refl 0) (fun _ => hsl rfl)
    | panicked _ => exact h1.elim
    | outgrown => exact h1.elim
  · rw [aget_aset] at ho
    by_cases hq : R = q
    · subst hq
      rw [if_pos rfl] at ho
      injection ho with ho; subst ho
      refine ⟨.row v0 e' sz, hm2, ?_⟩
      obtain ⟨a1, a2, a3, a4, ys, a5, a6⟩ := hrow
      refine ⟨a1, a2, a3, a4, ys, a5, fun i x hx => ⟨(a6 i x hx).1, ?_⟩⟩
      have h6 := (a6 i x hx).2
      rw [rowOf_flatten] at hx
      obtain ⟨d, hd, rfl⟩ := List.mem_map.1 (List.mem_of_getElem? hx)
      obtain ⟨l, hl, hd⟩ := List.mem_flatten.1 hd
      obtain ⟨x0, _, rfl⟩ := List.mem_map.1 hl
      have := List.all_eq_true.1 (hfl x0) d hd
      generalize ys.getD i undef = u at h6
      cases h6 with
      | dat hd => exact .dat (flatD_any this hd)
    · rw [if_neg hq] at ho
      obtain ⟨l, q1, q2⟩ := hL.obj q o ho
      exact ⟨l, by rw [hm3 q (Ne.symm hq)]; exact q1, q2.same hf (fun b hb => h3.blk b (hL.lt ⟨q, _, l, q1, hb⟩) (hno b))⟩
  · by_cases hq : q = R
    · subst hq; exact ⟨_, by rw [aget_aset, if_pos rfl]⟩
    · rw [hm3 q hq] at hx
      obtain ⟨o, ho⟩ := hL.dom q x hx
      exact ⟨o, by rw [aget_aset, if_neg (Ne.symm hq)]; exact ho⟩
  · by_cases h5 : q = R <;> by_cases h6 : q' = R
    · rw [h5, h6]
    · rw [h5, hm2] at q1; rw [hm3 q' h6] at q2
      injection q1 with q1; subst q1
      exact absurd (hold q' x' b q2 q4) (hnew b q3)
    · rw [h6, hm2] at q2; rw [hm3 q h5] at q1
      injection q2 with q2; subst q2
      exact absurd (hold q x b q1 q3) (hnew b q4)
    · rw [hm3 q h5] at q1; rw [hm3 q' h6] at q2
      exact hL.inj q q' x x' b q1 q2 q3 q4
  · rintro ⟨q, g, l, q1, q2⟩ hx
    by_cases hq : q = R
    · subst hq
      rw [hm2] at q1
      injection q1 with q1; injection q1 with _ q1; subst q1
      exact hnew b q2 (hL.elt b hx)
    · rw [hm3 q hq] at q1
      exact hL.dis b ⟨q, g, l, q1, q2⟩ hx
section
variable {X : Cx} {E : Env} {L L' : LH}
theorem ownRZ {Q : Ex → Env → LH → Prop} {ops : Array Oper} {rest : List Oper} {i : Nat} {α : Type} {d : Nat} {fid : FuncId} {args : Array Operand} {ats : Array TypeId} {ty : TypeId} {pos : String} {af : Array Edge} {g : Option (Nat × Bool)} {vs us : List AVal} {e : TypeId} {en : α → List Dat} {xs : List α} (R : Nat)
    (hN : Nat.blt d X.N = true) (hg : gval ops.toList E g = some true) (hev : OwnRes X.P fid us e en xs) (ha : evl E args.toList = some vs) (hz : FrzL X.P L (fun _ => false) vs us) (hfl : ∀ x, ((en x).all flatD) = true) (hR : inL L R = false) (hL : aset L R (rw' 0 e en xs) = L')
    (hk : RW X Q ops (i + 1) rest ((d, .slice R 0 0 xs.length) :: E) L') : RW X Q ops i (Oper.mk (some d) (.call { callee := .value (.func fid), args, argTypes := ats }) ty pos af g :: rest) E L := by
  subst hL
  refine rw_call (R := fun o l => o = .ret (.slice R 0 0 xs.length) ∧ l = aset L R (rw' 0 e en xs)) hN hg rfl ha ?_ (fun v' L' h => ?_) (fun v' L' h => by cases h.1)
  · rw [List.append_nil, List.nil_append]
    exact own_lend hev hz hfl R hR
  · obtain ⟨h1, h2⟩ := h
    injection h1 with h1
    subst h1; subst h2
    exact hk
end
end Go.Sk
namespace Go.Sk
open Go
theorem frzD {P : Program} {L : LH} {S : Nat → Bool} {ρ ρ' : Rho} {w : World} (hL : SatL P ρ L w) (ha : Agree S ρ ρ') (hm : ∀ r x, ρ'.m r = some x → S r = true ∧ ρ.m r = some x) (hx : ρ'.ext = ρ.ext)
    {r g e : Nat} {els : List (List AVal)} {ds : List (List Dat)} (ho : aget L r = some (.row g e els)) (hS : S r = false) (hlen : els.length = (rowOf ds).length)
    (hc : ∀ (i : Nat) el el', els[i]? = some el → (rowOf ds)[i]? = some el' → el.length = el'.length ∧ ∀ (j : Nat) v u, el[j]? = some v → el'[j]? = some u → Frz P L S v u) {c : Value} (hv : VRel w ρ (.slice r g 0 els.length) c) : VRel w ρ' (.dat (.sl (P.cellsOf e) ds)) c := by
  obtain ⟨v0, sz, xs, hr, hP, hp, hsz, hown, hxs⟩ := cur_row hL ho
  have hlen0 : (rowOf ds).length = ds.length := by simp [rowOf]
  have hszd : ∀ el ∈ ds, el.length = sz := by
    intro el hel
    obtain ⟨i, hi⟩ := List.mem_iff_getElem?.1 hel
    have hi2 : (rowOf ds)[i]? = some (el.map .dat) := by unfold rowOf; rw [List.getElem?_map, hi]; rfl
    have hlt : i < els.length := by rw [hlen]; exact (List.getElem?_eq_some_iff.1 hi2).1
    have := (hc i _ _ (List.getElem?_eq_getElem hlt) hi2).1
    rw [List.length_map] at this
    rw [← this]
    exact hsz _ (List.getElem_mem hlt)
  cases hv with
  | @slice r g _ _ nn cc g0 sz0 a0 v1 e0 hr' hle hsl' =>
    rw [hr] at hr'
    injection hr' with hr'
    injection hr' with e1 e2
    injection e2 with e2 e3 e4
    subst e1; subst e2; subst e3; subst e4
    obtain ⟨hnn, hsq⟩ := hsl' rfl
    subst hnn
    rcases own_form hown with ⟨rfl, h00⟩ | ⟨b, cap, rfl, h1, h2⟩
    · simp only at hsq
      obtain ⟨rfl, _, _, rfl⟩ := hsq
      have : ds = [] := List.eq_nil_of_length_eq_zero (by rw [← hlen0, ← hlen]; exact h00)
      subst this
      rw [h00]
      exact .dat (.nil _)
    · simp only at hsq
      obtain ⟨h3, rfl, x, rfl, h5⟩ := hsq
      have hxe := h5 (.inr trivial)
      subst hxe
      have hnb : ¬ Sk.own ρ' b := by
        rintro (⟨r', g', l', h6, h7⟩ | h6)
        · obtain ⟨h8, h9⟩ := hm r' _ h6
          have := hL.inj r r' _ _ b hr h9 rfl h7
          rw [← this] at h8
          rw [hS] at h8
          simp at h8
        · rw [hx] at h6
          exact hL.dis b ⟨r, _, _, hr, rfl⟩ h6
      have hcell : ∀ j d, ds.flatten[j]? = some d → w.cell? ⟨b, 0 * sz + j, none⟩ = some (xs.getD j Go.undef) ∧ DRel w (Sk.own ρ') d (xs.getD j Go.undef) := by
        intro j d hj
        have hjf : (rowOf ds).flatten[j]? = some (.dat d) := by rw [rowOf_flatten, List.getElem?_map, hj]; rfl
        obtain ⟨v, hv, hz⟩ := flat_pair (R := Frz P L S) hlen hc j _ hjf
        obtain ⟨_, k2⟩ := hxs _ _ hv
        have hlt : j < xs.length := by
          have := (List.getElem?_eq_some_iff.1 hv).1
          rw [flatten_len hsz] at this
          rw [hown.1]; exact this
        have := hown.cells (g := b) rfl j (xs.getD j Go.undef) (by simp [List.getD, List.getElem?_eq_getElem hlt])
        rw [Addr.add_lit, Nat.zero_add] at this
        refine ⟨by rw [Nat.zero_mul, Nat.zero_add]; exact this, ?_⟩
        have k3 := hz.sound hL ha hm hx k2
        generalize xs.getD j Go.undef = cc at k3
        cases k3 with
        | dat k3 => exact k3
      rw [show els.length = ds.length by rw [hlen, hlen0]]
      rw [← hP]
      exact .dat (DRel.sl ds sz _ ⟨b, 0 * sz, none⟩ (fun j => xs.getD j Go.undef) hszd (by rw [← hlen0, ← hlen]; omega) (by omega)
        (fun j d hj => ⟨hnb, by rw [Addr.add_lit]; exact (hcell j d hj).1⟩) (fun j d hj => (hcell j d hj).2))
theorem frzP {P : Program} {L : LH} {S : Nat → Bool} {ρ ρ' : Rho} {w : World} (hL : SatL P ρ L w) (hm : ∀ r x, ρ'.m r = some x → S r = true ∧ ρ.m r = some x) (hx : ρ'.ext = ρ.ext)
    {r g e : Nat} {el : List AVal} {ds : List Dat} (ho : aget L r = some (.row g e [el])) (hS : S r = false)
    (hc : ∀ (j : Nat) d, ds[j]? = some d → ∃ v, el[j]? = some v ∧ ∀ c, VRel w ρ v c → VRel w ρ' (.dat d) c) {c : Value} (hv : VRel w ρ (.ptr r g 0 0) c) : VRel w ρ' (.pdat ds 0) c := by
  obtain ⟨v0, sz, xs, hr, hP, hp, hsz, hown, hxs⟩ := cur_row hL ho
  cases hv with
  | @ptr r g _ _ g0 sz0 a v1 e0 hr' hle hsl' =>
    rw [hr] at hr'
    injection hr' with hr'
    injection hr' with e1 e2
    injection e2 with e2 e3 e4
    subst e1; subst e2; subst e3; subst e4
    obtain ⟨b', n', cap', hv0, rfl⟩ := hsl' rfl
    rcases own_form hown with ⟨h01, h00⟩ | ⟨b, cap, h01, h1, h2⟩
    · simp at h00
    · rw [h01] at hv0
      injection hv0 with hv0 _ _
      injection hv0 with hv0
      injection hv0 with hv0 _ _
      subst hv0
      subst h01
      have hnb : ¬ Sk.own ρ' b := by
        rintro (⟨r', g', l', h6, h7⟩ | h6)
        · obtain ⟨h8, h9⟩ := hm r' _ h6
          have := hL.inj r r' _ _ b hr h9 rfl h7
          rw [← this] at h8
          rw [hS] at h8
          simp at h8
        · rw [hx] at h6
          exact hL.dis b ⟨r, _, _, hr, rfl⟩ h6
      have hcell : ∀ j d, ds[j]? = some d → w.cell? ⟨b, 0 * sz + j, none⟩ = some (xs.getD j Go.undef) ∧ DRel w (Sk.own ρ') d (xs.getD j Go.undef) := by
        intro j d hj
        obtain ⟨v, hv, hz⟩ := hc j d hj
        have hvf : ([el] : List (List AVal)).flatten[j]? = some v := by simpa using hv
        obtain ⟨_, k2⟩ := hxs _ _ hvf
        have hlt : j < xs.length := by
          have := (List.getElem?_eq_some_iff.1 hvf).1
          rw [flatten_len hsz] at this
          rw [hown.1]; exact this
        have := hown.cells (g := b) rfl j (xs.getD j Go.undef) (by simp [List.getD, List.getElem?_eq_getElem hlt])
        rw [Addr.add_lit, Nat.zero_add] at this
        refine ⟨by rw [Nat.zero_mul, Nat.zero_add]; exact this, ?_⟩
        have k3 := hz _ k2
        generalize xs.getD j Go.undef = cc at k3
        cases k3 with
        | dat k3 => exact k3
      have := VRel.pdat (w := w) (ρ := ρ') (cells := ds) (k := 0) (a := ⟨b, 0 * sz, none⟩) (cv := fun j => xs.getD j Go.undef) (fun j d hj => ⟨hnb, by rw [Addr.add_lit]; exact (hcell j d hj).1⟩) (fun j d hj => (hcell j d hj).2)
      rwa [Addr.add_lit] at this
theorem evR_lendX {P : Program} {L : LH} {f : FuncId} {args args' : List AVal} {v : AVal} (h : Fn P f args' v) (hz : ∀ ρ w cs, SatL P ρ L w → LsRel w ρ args cs → LsRel w (restr ρ (fun _ => false)) args' cs) (hv : flat v = true) : EvR P f args L (fun o l => o = .ret v ∧ l = L) := by
  refine ⟨h.1, fun ρ w cs hcs hL => ?_⟩
  have hcs' := hz ρ w cs hL hcs
  have h0 : SatL P (restr ρ (fun _ => false)) [] w := by
    refine ⟨fun r o ho => by simp [aget] at ho, fun r x hx => ?_, fun r r' x x' b h1 => ?_, fun b hb => ?_, hL.elt⟩
    · have := (restr_m hx).1; simp at this
    · have := (restr_m h1).1; simp at this
    · obtain ⟨r, g, l, h1, _⟩ := hb
      have := (restr_m h1).1; simp at this
  refine (h.2 _ w cs hcs' h0).mono fun e w' he => ?_
  obtain ⟨ρ', h1, h2, h3⟩ := he
  have hno : ∀ b, ¬ ownM (restr ρ (fun _ => false)) b := by
    rintro b ⟨r, g, l, h1, _⟩
    have := (restr_m h1).1; simp at this
  have hf : Fr All ρ w ρ w' := ⟨h3.os, h3.tape, h3.output, h3.size, fun b hb _ => h3.blk b hb (hno b), fun _ _ h => h, rfl, fun r x _ hx => ⟨x, hx, .refl x⟩⟩
  refine ⟨ρ, .ret v, L, ⟨rfl, rfl⟩, ?_, ?_, hf⟩
  · cases e with
    | returned c => exact flat_vrel hv h1
    | panicked _ => exact h1.elim
    | outgrown => exact h1.elim
  · refine ⟨fun r o ho => ?_, hL.dom, hL.inj, hL.dis, fun b hb => Nat.lt_of_lt_of_le (hL.elt b hb) h3.size⟩
    obtain ⟨l, hl, hO⟩ := hL.obj r o ho
    exact ⟨l, hl, hO.same hf (fun b hb => h3.blk b (hL.lt ⟨r, _, l, hl, hb⟩) (hno b))⟩
theorem gh_ext {X : Cx} {E : Env} {L L' : LH} (h : ∀ q, aget L' q = aget L q) : Gh X E L E L' := fun ρ a w hS => ⟨ρ, hS.wz (fun q => .inl (h q)), .refl ..⟩
end Go.Sk
namespace Go.Sk
open Go
theorem ext_cons {L : LH} {r : Nat} {o : AObj} : ∀ q, aget ((r, o) :: L) q = aget (aset L r o) q := fun q => by rw [aget_aset]; simp only [aget]
theorem rd_opE {X : Cx} {ops rest : List Oper} {fs : List Ft} {E : Env} {L L2 L' : LH} {k : Env → LH → Prop} {d : Nat} {op : Op} {ty : TypeId} {pos : String} {af : Array Edge} {g : Option (Nat × Bool)} {v : AVal} {r : Nat} {R W : List Nat}
    (hs : opStep X.P (some r) op E L = some (v, L2)) (hL : ∀ q, aget L' q = aget L2 q) (hW : (W.all fun q => (aget L2 q).isSome) = true)
    (h : RD X ops rest (⟨some d, otmps op ++ gts ops g, R ++ W, W⟩ :: fs) ((d, v) :: E) L' k) (hN : Nat.blt d X.N = true := by exact rfl) (hg : gval ops E g = some true := by exact rfl) (hl : looks X.P (some r) op E = some (R, W) := by exact rfl) (hc : isCallV op = false := by exact rfl) :
    RD X ops (Oper.mk (some d) op ty pos af g :: rest) fs E L k := by
  have hop : opD X ops (Oper.mk (some d) op ty pos af g) (some r) E L (fun T L3 => T = ⟨some r, otmps op ++ gts ops g, R ++ W, v, upOf L2 W⟩ ∧ L3 = L2) := by
    unfold opD
    split
    · rename_i hop
      have hop : op = _ := hop
      subst hop
      simp [isCallV] at hc
    · rw [hl, hs]
      exact ⟨fun q hq => List.all_eq_true.1 hW q hq, rfl, rfl⟩
  obtain ⟨T, L3, ⟨rfl, rfl⟩, h2, h3⟩ := opD_path hop hg
  refine RD.cons (T := ⟨some r, otmps op ++ gts ops g, R ++ W, v, upOf L3 W⟩) (dstN_ok (d := some d) hN) (fun q => (hL q).trans (h3 q)) h2 ?_
  simp only [Tr.ft, upOf_names hW]
  exact h
theorem ownDE {X : Cx} {E : Env} {L L' : LH} {ops rest : List Oper} {fs : List Ft} {k : Env → LH → Prop} {α : Type} {d : Nat} {fid : FuncId} {args : Array Operand} {ats : Array TypeId} {ty : TypeId} {pos : String} {af : Array Edge} {g : Option (Nat × Bool)} {vs : List AVal} {e : TypeId} {en : α → List Dat} {xs : List α} (R : Nat)
    (hev : OwnRes X.P fid vs e en xs) (ha : evl E args.toList = some vs) (hR : inL L R = false) (hL : ∀ q, aget L' q = aget (aset L R (rw' 0 e en xs)) q)
    (h : RD X ops rest (⟨some d, otmps (.call { callee := .value (.func fid), args, argTypes := ats }) ++ gts ops g, [R], [R]⟩ :: fs) ((d, .slice R 0 0 xs.length) :: E) L' k) (hc : closedL (fun _ => false) vs = true := by exact rfl) (hN : Nat.blt d X.N = true := by exact rfl) (hg : gval ops E g = some true := by exact rfl) :
    RD X ops (Oper.mk (some d) (.call { callee := .value (.func fid), args, argTypes := ats }) ty pos af g :: rest) fs E L k := by
  have hop : opD X ops (Oper.mk (some d) (.call { callee := .value (.func fid), args, argTypes := ats }) ty pos af g) none E L
      (fun T L2 => T = ⟨none, otmps (.call { callee := .value (.func fid), args, argTypes := ats }) ++ gts ops g, [R], .slice R 0 0 xs.length, [(R, rw' 0 e en xs)]⟩ ∧ L2 = mergeL L [(R, rw' 0 e en xs)]) := by
    simp only [opD, ev, ha]
    refine ⟨.slice R 0 0 xs.length, [], [(R, rw' 0 e en xs)], [(R, rw' 0 e en xs)], ?_, fun r o ho => by simp [aget] at ho, ?_, fun r o ho => by simp [aget] at ho, fun r hr => .inr ?_, fun r => .inl rfl, ?_⟩
    · rw [List.append_nil]; exact hev R
    · rw [List.append_nil]; exact hc
    · have : r = R := by
        simp only [inL, aget] at hr
        split at hr
        · rename_i h; exact (by simpa using h : R = r).symm
        · simp at hr
      rw [this]; exact hR
    · exact ⟨rfl, rfl⟩
  obtain ⟨T, L2, ⟨rfl, rfl⟩, h2, h3⟩ := opD_path hop hg
  refine RD.cons (T := ⟨none, otmps (.call { callee := .value (.func fid), args, argTypes := ats }) ++ gts ops g, [R], .slice R 0 0 xs.length, [(R, rw' 0 e en xs)]⟩) (dstN_ok (d := some d) hN) (fun q => (hL q).trans (h3 q)) h2 ?_
  exact h
theorem st_appRaw {P : Program} {E : Env} {L : LH} {r g n r2 g2 m t e sz b : Nat} {s x : Operand} {zc : List AVal} {r1 : Nat} {els news : List (List AVal)} (hs : slE P t = some (e, sz, b)) (hz : zCells P e = some zc) (hS : ev E s = some (.slice r g 0 n)) (hx : ev E x = some (.slice r2 g2 0 m))
    (hr : aget L r = some (.row g e els)) (hn : n = els.length) (hr2 : aget L r2 = some (.row g2 e news)) (hm : m = news.length) (hsc : news.flatten.all sc = true) (hb : Nat.ble b 128 = true) (hl : n + m ≤ 1099511627776) :
    opStep P (some r1) (.call { callee := .builtin .append, args := #[s, x], argTypes := #[t, t] }) E L = some (.slice r (g + 2) 0 (n + m), aset L r (.row (g + 2) e (els ++ news))) := by
  have hb := Nat.le_of_ble_eq_true hb
  subst hn; subst hm
  have hbb : (els.length + news.length) * b ≤ 140737488355328 := by
    calc (els.length + news.length) * b ≤ 1099511627776 * 128 := Nat.mul_le_mul hl hb
      _ = 140737488355328 := by decide
  have he : elsOf L e sz (.slice r2 g2 0 news.length) = some news := by
    simp only [elsOf, hr2, and_self, if_true]
    rw [asubl_all]
  simp only [opStep, stBuiltin, if_true, Option.bind_some, hS, hx, stAppend, hs, hz, he, hsc, hr]
  rw [if_pos ⟨trivial, trivial, trivial, trivial, hbb, by omega⟩]
end Go.Sk
namespace Go.Sk
open Go
end Go.Sk
namespace Go.Sk
open Go
section
variable {P : Program} {E : Env} {L : LH} {r0 : Option Nat}
end
end Go.Sk
namespace Go.Sk
open Go
def bz {α : Type} (sz : Nat) (f : α → List Dat) : List α → AVal
  | [] => .nilS
  | x :: xs => dL sz f (x :: xs)
section
variable {P : Program} {L : LH} {S : Nat → Bool} {α : Type} {sz : Nat} {f : α → List Dat} {xs : List α}
theorem bz_nil (h : xs.length = 0) : bz sz f xs = .nilS := by cases xs with | nil => rfl | cons => simp at h
theorem bz_dat (h : 0 < xs.length) : bz sz f xs = dL sz f xs := by cases xs with | nil => simp at h | cons => rfl
theorem sc_bz : sc (bz sz f xs) = true := by cases xs <;> rfl
theorem closed_bz : closedV S (bz sz f xs) = true := by cases xs <;> rfl
theorem frz_bz : Frz P L S (bz sz f xs) (dL sz f xs) := by
  cases xs with
  | nil => exact .nilS _
  | cons => exact .keep rfl
theorem frz_bzN (h : xs.length = 0) : Frz P L S (bz sz f xs) .nilS := by rw [bz_nil h]; exact .keep rfl
theorem frz_toBz {v : AVal} (h : 0 < xs.length) (hz : Frz P L S v (dL sz f xs)) : Frz P L S v (bz sz f xs) := by rw [bz_dat h]; exact hz
theorem frz_bzK : Frz P L S (bz sz f xs) (bz sz f xs) := .keep closed_bz
end
theorem awp_lenZ {X : Cx} {E : Env} {L : LH} {Q : Ex → Env → LH → Prop} {c : Code} {α : Type} {F : α → List AVal} {r g e : Nat} {xs : List α} (hr : aget L r = some (.row g e (xs.map F))) (h : xs.length ≤ 9223372036854775807 → AWP X c E L Q) : AWP X c E L Q :=
  awp_lenR hr (fun hl => h (by simpa using hl))
theorem map_getA {α : Type} {F : α → List AVal} {xs : List α} {i : Nat} {x : α} (h : xs[i]? = some x) : (xs.map F)[i]? = some (F x) := by simp [h]
theorem mapSet_get {α : Type} {F : α → List AVal} {xs : List α} {i : Nat} {x : α} {vs : List AVal} (h : xs[i]? = some x) : ((xs.map F).set i vs)[i]? = some vs := by
  have hl : i < (xs.map F).length := by simpa using (List.getElem?_eq_some_iff.1 h).1
  rw [List.getElem?_set, if_pos rfl, if_pos hl]
theorem mapSet_ne {α : Type} {F : α → List AVal} {xs : List α} {i k : Nat} {x : α} {vs : List AVal} (h : xs[k]? = some x) (hne : k ≠ i) : ((xs.map F).set i vs)[k]? = some (F x) := by
  rw [List.getElem?_set, if_neg (fun e => hne e.symm)]; exact map_getA h
section
variable {P : Program} {L : LH} {S : Nat → Bool} {g e i : Nat} {α : Type} {F : α → List AVal}
theorem frzVs_obj {vs us : List AVal} (h : FrzVs P L S vs us) : vs.length = us.length ∧ ∀ (j : Nat) v u, vs[j]? = some v → us[j]? = some u → sc u = true ∧ Frz P L S v u := ⟨h.len, fun j v u a b => h.get j v u a b⟩
theorem objZ {xs : List α} (hF : ∀ x, FrzVs P L S (F x) (F x)) : ObjFrz P L S (.row g e (xs.map F)) (.row g e (xs.map F)) := by
  refine ⟨rfl, rfl, rfl, fun j el el' h1 h2 => ?_⟩
  rw [h1] at h2; injection h2 with h2; subst h2
  obtain ⟨x, _, rfl⟩ := List.mem_map.1 (List.mem_of_getElem? h1)
  exact frzVs_obj (hF x)
theorem objZO {xs : List α} {us : List AVal} {y : α} (hy : xs[i]? = some y) (hF : ∀ x, FrzVs P L S (F x) (F x)) (h : FrzVs P L S (F y) us) : ObjFrz P L S (.row g e (xs.map F)) (.row g e ((xs.map F).set i us)) := by
  refine ⟨rfl, rfl, by simp, fun j el el' h1 h2 => ?_⟩
  by_cases hj : i = j
  · subst hj
    rw [mapSet_get hy] at h2; rw [map_getA hy] at h1
    injection h1 with h1; injection h2 with h2; subst h1; subst h2
    exact frzVs_obj h
  · rw [List.getElem?_set, if_neg hj, h1] at h2; injection h2 with h2; subst h2
    obtain ⟨x, _, rfl⟩ := List.mem_map.1 (List.mem_of_getElem? h1)
    exact frzVs_obj (hF x)
theorem objZP {xs : List α} {vs us : List AVal} (hF : ∀ x, FrzVs P L S (F x) (F x)) (h : FrzVs P L S vs us) : ObjFrz P L S (.row g e ((xs.map F).set i vs)) (.row g e ((xs.map F).set i us)) := by
  refine ⟨rfl, rfl, by simp, fun j el el' h1 h2 => ?_⟩
  by_cases hj : i = j
  · subst hj
    rw [List.getElem?_set] at h1 h2
    simp only [if_true] at h1 h2
    split at h1
    · rename_i hl
      rw [if_pos hl] at h2
      injection h1 with h1; injection h2 with h2
      subst h1; subst h2
      exact frzVs_obj h
    · simp at h1
  · rw [List.getElem?_set, if_neg hj] at h1 h2
    rw [h1] at h2; injection h2 with h2; subst h2
    obtain ⟨x, _, rfl⟩ := List.mem_map.1 (List.mem_of_getElem? h1)
    exact frzVs_obj (hF x)
theorem objZC {xs : List α} {vs : List AVal} {z : α} (hF : ∀ x, FrzVs P L S (F x) (F x)) (h : FrzVs P L S vs (F z)) : ObjFrz P L S (.row g e ((xs.map F).set i vs)) (.row g e ((xs.set i z).map F)) := by
  rw [List.map_set]
  exact objZP hF h
theorem objZT {f : α → List Dat} {xs : List α} (hF : ∀ x, FrzVs P L S (F x) ((f x).map .dat)) : ObjFrz P L S (.row g e (xs.map F)) (rw' g e f xs) := by
  refine ⟨rfl, rfl, by simp [rowOf], fun j el el' h1 h2 => ?_⟩
  cases hx : xs[j]? with
  | none => rw [List.getElem?_map, hx] at h1; simp at h1
  | some x =>
    rw [map_getA hx] at h1; rw [rowOf_map_get hx] at h2
    injection h1 with h1; injection h2 with h2; subst h1; subst h2
    exact frzVs_obj (hF x)
theorem nilSetE {r : Nat} {els : List (List AVal)} {vs us : List AVal} (h : NilVs r vs us) : NilO r (.row g e (els.set i vs)) (.row g e (els.set i us)) := by
  refine .els (by simp) (fun j el el' h1 h2 => ?_)
  by_cases hj : i = j
  · subst hj
    rw [List.getElem?_set] at h1 h2
    simp only [if_true] at h1 h2
    split at h1
    · rename_i hl
      rw [if_pos hl] at h2
      injection h1 with h1; injection h2 with h2
      subst h1; subst h2
      exact ⟨h.len, h.get⟩
    · simp at h1
  · rw [List.getElem?_set, if_neg hj] at h1 h2
    rw [h1] at h2; injection h2 with h2; subst h2
    exact ⟨rfl, fun k v u h3 h4 => by rw [h3] at h4; injection h4 with h4; subst h4; exact .keep _⟩
end
section
variable {P : Program} {E : Env} {L : LH} {r0 : Option Nat} {α : Type} {F : α → List AVal}
theorem st_stZ {xs : List α} {t : TypeId} {a x : Operand} {r g i k e : Nat} {vs us ws : List AVal} {v : AVal} {ta : Bool × Nat} {y : α} (ht : tAgg P t = some ta) (ha : ev E a = some (.ptr r g i k)) (hx : ev E x = some v) (hr : aget L r = some (.row g e ((xs.map F).set i ws))) (hel : xs[i]? = some y)
    (hv : acells v = some vs) (hsc : allSc vs = true) (hl : Nat.beq vs.length ta.2 = true) (hk : Nat.ble (k + vs.length) ws.length = true) (hz : setRange ws k vs = us) :
    opStep P r0 (.store t a x) E L = some (.tup [], aset L r (.row g e ((xs.map F).set i us))) := by
  rw [st_stP ht ha hx hr (mapSet_get hel) hv hsc hl hk, hz, List.set_set]
theorem st_ixZn {xs : List α} {r g sz b m : Nat} {x j : Operand} {t e : TypeId} {k : IntKind} {n : Nat} {a : α} {els : List (List AVal)} (hs : slE P t = some (e, sz, b)) (hx : ev E x = some (.slice r g 0 m)) (hi : ev E j = some (dI k (n : Int)))
    (hr : aget L r = some (.row g e els)) (h : xs[n]? = some a) (hm : m = xs.length) : opStep P r0 (.indexAddr t x j) E L = some (.ptr r g n 0, L) := by
  subst hm
  have := st_ixR0 (P := P) (r0 := r0) hs hx hi hr (by omega) (by simpa using lt_of_get h)
  simpa using this
theorem st_apZR {xs ys : List α} {r g n t e sz b : Nat} {s x : Operand} {xv : AVal} {zc : List AVal} {r1 : Nat} (hs : slE P t = some (e, sz, b)) (hz : zCells P e = some zc) (hS : ev E s = some (.slice r g 0 n)) (hx : ev E x = some xv)
    (hr : aget L r = some (.row g e (xs.map F))) (hn : n = xs.length) (hb : Nat.ble b 128 = true) (hw : elsOf L e sz xv = some (ys.map F)) (hsc : ((ys.map F).flatten.all sc) = true) (hl : xs.length + ys.length ≤ 1099511627776) :
    opStep P (some r1) (.call { callee := .builtin .append, args := #[s, x], argTypes := #[t, t] }) E L = some (.slice r (g + 2) 0 (xs ++ ys).length, aset L r (.row (g + 2) e ((xs ++ ys).map F))) := by
  have hb := Nat.le_of_ble_eq_true hb
  subst hn
  have hbb : (xs.length + ys.length) * b ≤ 140737488355328 := by
    calc (xs.length + ys.length) * b ≤ 1099511627776 * 128 := Nat.mul_le_mul hl hb
      _ = 140737488355328 := by decide
  simp only [opStep, stBuiltin, if_true, Option.bind_some, hS, hx, stAppend, hs, hz, hw, hsc, hr]
  have h1 : (xs.map F).length = xs.length := by simp
  have h2 : (ys.map F).length = ys.length := by simp
  rw [if_pos ⟨trivial, trivial, trivial, h1.symm, by rw [h2]; exact hbb, by rw [h2]; omega⟩, ← List.map_append, h2, List.length_append]
theorem els_one {r g e sz : Nat} {cells : List AVal} {a : α} (hr : aget L r = some (.row g e [cells])) (h : cells = F a) : elsOf L e sz (.slice r g 0 1) = some ([a].map F) := by
  simp [elsOf, hr, asubl, h]
end
end Go.Sk
namespace Go.Sk
open Go
end Go.Sk
namespace Go.Sk
open Go
section
variable {H : Type} {enc : TypeId × Value → H} {P : Program} {W : World}
def CRel (W : World) (ds : List Dat) (cs : List Value) : Prop := ds.length = cs.length ∧ ∀ (i : Nat) d c, ds[i]? = some d → cs[i]? = some c → DRel W (own rho0) d c
def Rd (enc : TypeId × Value → H) (P : Program) (W : World) {α : Type} (t : TypeId) (f : α → List Dat) (wf : α → Prop) : Prop :=
  ∀ fuel cs x, DataW.trod enc P W 0 (fun _ => true) true fuel t cs = some x → (DataW.weights P t x.1).all (· ≤ reachBytes) = true → ∃ a, wf a ∧ CRel W (f a) cs
theorem weightsAll_get {e : TypeId} {p : Nat → Bool} : ∀ {l : List (DataW H)} {i : Nat} {d : DataW H}, (DataW.weightsAll P e l).all p = true → l[i]? = some d → (DataW.weights P e d).all p = true
  | [], i, d, _, h => by simp at h
  | a :: l, 0, d, ha, h => by
    simp only [List.getElem?_cons_zero, Option.some.injEq] at h; subst h
    rw [DataW.weightsAll, List.all_append, Bool.and_eq_true] at ha; exact ha.1
  | a :: l, i + 1, d, ha, h => by
    rw [DataW.weightsAll, List.all_append, Bool.and_eq_true] at ha
    exact weightsAll_get ha.2 (by simpa using h)
theorem weightsEach_get {p : Nat → Bool} : ∀ {ts : List TypeId} {l : List (DataW H)} {i : Nat} {t : TypeId} {d : DataW H}, (DataW.weightsEach P ts l).all p = true → ts[i]? = some t → l[i]? = some d → (DataW.weights P t d).all p = true
  | [], l, i, t, d, _, h, _ => by simp at h
  | _ :: _, [], i, t, d, _, _, h => by simp at h
  | t0 :: ts, a :: l, 0, t, d, ha, ht, h => by
    simp only [List.getElem?_cons_zero, Option.some.injEq] at h ht; subst h; subst ht
    rw [DataW.weightsEach, List.all_append, Bool.and_eq_true] at ha; exact ha.1
  | t0 :: ts, a :: l, i + 1, t, d, ha, ht, h => by
    rw [DataW.weightsEach, List.all_append, Bool.and_eq_true] at ha
    exact weightsEach_get ha.2 (by simpa using ht) (by simpa using h)
theorem CRel.one {d : Dat} {c : Value} (h : DRel W (own rho0) d c) : CRel W [d] [c] := ⟨rfl, fun i d' c' h1 h2 => by
  cases i with
  | zero => simp at h1 h2; subst h1; subst h2; exact h
  | succ i => simp at h1⟩
theorem rd_int {t : TypeId} {k : IntKind} (ht : P.underlying t = some (.int k)) : Rd enc P W t (eI k) (fun n => k.min ≤ n ∧ n ≤ k.max) := fun fuel cs x h _ => by
  obtain ⟨n, rfl, _, hw⟩ := DataW.trod_int ht h
  exact ⟨n, by simpa [Lit.wf] using hw, CRel.one (.int k n)⟩
theorem rd_bool {t : TypeId} (ht : P.underlying t = some .bool) : Rd enc P W t eB (fun _ => True) := fun fuel cs x h _ => by
  obtain ⟨n, rfl, _⟩ := DataW.trod_bool ht h
  exact ⟨n, trivial, CRel.one (.bool n)⟩
theorem flatten_get' {α : Type} {sz : Nat} : ∀ {els : List (List α)}, (∀ el ∈ els, el.length = sz) → ∀ {i k : Nat} {el : List α}, k < sz → els[i]? = some el → els.flatten[i * sz + k]? = el[k]?
  | [], _, i, k, el, _, h => by simp at h
  | e :: els, hs, 0, k, el, hk, h => by
    simp only [List.getElem?_cons_zero, Option.some.injEq] at h
    subst h
    rw [List.flatten_cons, Nat.zero_mul, Nat.zero_add, List.getElem?_append_left (by rw [hs e (by simp)]; exact hk)]
  | e :: els, hs, i + 1, k, el, hk, h => by
    have he := hs e (by simp)
    rw [List.flatten_cons, List.getElem?_append_right (by rw [he, Nat.add_mul]; omega), he]
    have : (i + 1) * sz + k - sz = i * sz + k := by rw [Nat.add_mul]; omega
    rw [this]
    exact flatten_get' (fun el hm => hs el (by simp [hm])) hk (by simpa using h)
theorem list_of {α : Type} {p : Nat → α → Prop} : ∀ (n : Nat), (∀ i, i < n → ∃ a, p i a) → ∃ l : List α, l.length = n ∧ ∀ i a, l[i]? = some a → p i a
  | 0, _ => ⟨[], rfl, fun i a h => by simp at h⟩
  | n + 1, h => by
    obtain ⟨l, hl, hp⟩ := list_of n (fun i hi => h i (by omega))
    obtain ⟨a, ha⟩ := h n (by omega)
    refine ⟨l ++ [a], by simp [hl], fun i b hb => ?_⟩
    by_cases hi : i < l.length
    · rw [List.getElem?_append_left hi] at hb; exact hp i b hb
    · rw [List.getElem?_append_right (by omega)] at hb
      have h0 : i - l.length = 0 := by
        have := (List.getElem?_eq_some_iff.1 hb).1
        simp at this; omega
      rw [h0] at hb
      simp only [List.getElem?_cons_zero, Option.some.injEq] at hb
      subst hb
      rw [show i = n by omega]; exact ha
theorem rd_sliceZ {α : Type} {f : α → List Dat} {wf : α → Prop} {t e : TypeId} {sz : Nat} (ht : P.underlying t = some (.slice e)) (hsz : P.cellsOf e = sz) (hr : Rd enc P W e f wf) :
    Rd enc P W t (eL sz f) (fun xs => (xs.length ≤ 9223372036854775807 ∧ xs.length * P.bytesOf e ≤ reachBytes) ∧ ∀ a ∈ xs, wf a) := fun fuel cs x h hz => by
  rcases DataW.trod_slice ht h with ⟨rfl, _⟩ | ⟨a, len, cap, elems, rest, n, _, rfl, hxe, _, hle, hcap, hlen, hel, _, _⟩
  · exact ⟨[], ⟨⟨by simp, by simp⟩, fun a ha => by simp at ha⟩, CRel.one (.nil sz)⟩
  · have hz2 : (elems.length + rest.length) * P.bytesOf e ≤ reachBytes ∧ (DataW.weightsAll P e (elems.map (·.1))).all (· ≤ reachBytes) = true := by
      rw [hxe] at hz
      simp only [DataW.weights, ht, List.all_cons, List.all_append, Bool.and_eq_true, decide_eq_true_eq, List.length_map] at hz
      exact ⟨hz.1, hz.2.1⟩
    have key : ∀ i, i < len → ∃ b, wf b ∧ (f b).length = sz ∧ ∀ j d, (f b)[j]? = some d → ∃ c, W.cell? (a.add (i * sz + j)) = some c ∧ DRel W (own rho0) d c := by
      intro i hi
      have hel := hel i hi
      rw [List.getElem?_eq_getElem (by omega)] at hel
      obtain ⟨cs', h1, h2⟩ := Option.bind_eq_some_iff.1 hel
      obtain ⟨b, hb, hc⟩ := hr _ _ _ h2 (weightsAll_get (i := i) hz2.2 (by rw [List.getElem?_map, List.getElem?_eq_getElem (by omega)]; rfl))
      obtain ⟨_, hl, hcell⟩ := World.cells?_some h1
      rw [hsz] at hl hcell
      refine ⟨b, hb, by rw [hc.1, hl], fun j d hj => ?_⟩
      have hjl : j < sz := by
        have := (List.getElem?_eq_some_iff.1 hj).1
        rw [hc.1, hl] at this; exact this
      have := hcell j hjl
      rw [List.getElem?_eq_getElem (by omega)] at this
      refine ⟨_, ?_, hc.2 j d _ hj (List.getElem?_eq_getElem (by omega))⟩
      rw [Addr.add_add] at this
      exact this
    obtain ⟨l, hl, hp⟩ := list_of (p := fun i b => wf b ∧ (f b).length = sz ∧ ∀ j d, (f b)[j]? = some d → ∃ c, W.cell? (a.add (i * sz + j)) = some c ∧ DRel W (own rho0) d c) len key
    have hlens : ∀ el ∈ l.map f, el.length = sz := by
      intro el hm
      obtain ⟨b, hb, rfl⟩ := List.mem_map.1 hm
      obtain ⟨i, hi⟩ := List.mem_iff_getElem?.1 hb
      exact (hp i b hi).2.1
    have hflat : ∀ j d, (l.map f).flatten[j]? = some d → ∃ c, W.cell? (a.add j) = some c ∧ DRel W (own rho0) d c := by
      intro j d hj
      have hjl : j < (l.map f).flatten.length := (List.getElem?_eq_some_iff.1 hj).1
      rw [flatten_len hlens] at hjl
      have hsz0 : 0 < sz := Nat.pos_of_ne_zero (fun h => by subst h; simp at hjl)
      have hdiv : j / sz < (l.map f).length := Nat.div_lt_of_lt_mul (by rwa [Nat.mul_comm] at hjl)
      have hlt : j / sz < l.length := by simpa using hdiv
      obtain ⟨hw, hb, hcell⟩ := hp (j / sz) _ (List.getElem?_eq_getElem hlt)
      have hget : (l.map f).flatten[j]? = (f l[j / sz])[j % sz]? := by
        have e := flatten_get' hlens (i := j / sz) (k := j % sz) (Nat.mod_lt _ hsz0) (el := f l[j / sz]) (by simp [List.getElem?_eq_getElem hlt])
        rw [← e]
        congr 1
        rw [Nat.mul_comm]; exact (Nat.div_add_mod j sz).symm
      rw [hget] at hj
      obtain ⟨c, h1, h2⟩ := hcell _ _ hj
      refine ⟨c, ?_, h2⟩
      rw [← h1]
      congr 2
      rw [Nat.mul_comm]; exact (Nat.div_add_mod j sz).symm
    refine ⟨l, ⟨⟨by rw [hl]; exact Nat.le_trans hle hcap, Nat.le_trans (Nat.mul_le_mul_right _ (by omega)) hz2.1⟩, fun b hb => ?_⟩, CRel.one ?_⟩
    · obtain ⟨i, hi⟩ := List.mem_iff_getElem?.1 hb
      exact (hp i b hi).1
    · have hex : ∀ j, ∃ c, ∀ d, (l.map f).flatten[j]? = some d → W.cell? (a.add j) = some c ∧ DRel W (own rho0) d c := by
        intro j
        cases hj : (l.map f).flatten[j]? with
        | none => exact ⟨default, fun d h => by cases h⟩
        | some d =>
          obtain ⟨c, h1, h2⟩ := hflat j d hj
          exact ⟨c, fun d' h => by injection h with h; subst h; exact ⟨h1, h2⟩⟩
      have := DRel.sl (w := W) (own := own rho0) (l.map f) sz cap a (fun j => (hex j).choose) hlens (by rw [List.length_map, hl]; exact hle) hcap
        (fun j d hj => ⟨own0 _, ((hex j).choose_spec d hj).1⟩) (fun j d hj => ((hex j).choose_spec d hj).2)
      rw [List.length_map, hl] at this
      exact this
def RdF (enc : TypeId × Value → H) (P : Program) (W : World) {α : Type} (fs : List (TypeId × Nat × Nat)) (f : α → List Dat) (wf : α → Prop) : Prop :=
  ∀ (cs : List Value) (n : Nat), (∀ q ∈ fs, ∃ x, DataW.trod enc P W 0 (fun _ => true) true n q.1 ((cs.drop q.2.1).take q.2.2) = some x ∧ (DataW.weights P q.1 x.1).all (· ≤ reachBytes) = true) →
    ∃ a, wf a ∧ ∃ parts : List (List Value), parts.length = fs.length ∧ (∀ (i : Nat) (q : TypeId × Nat × Nat), fs[i]? = some q → parts[i]? = some ((cs.drop q.2.1).take q.2.2)) ∧ CRel W (f a) parts.flatten
theorem CRel.append {ds es : List Dat} {cs bs : List Value} (h : CRel W ds cs) (h' : CRel W es bs) : CRel W (ds ++ es) (cs ++ bs) := by
  refine ⟨by simp [h.1, h'.1], fun i d c h1 h2 => ?_⟩
  by_cases hi : i < ds.length
  · rw [List.getElem?_append_left hi] at h1
    rw [List.getElem?_append_left (by rw [← h.1]; exact hi)] at h2
    exact h.2 i d c h1 h2
  · rw [List.getElem?_append_right (by omega)] at h1
    rw [List.getElem?_append_right (by rw [← h.1]; omega), ← h.1] at h2
    exact h'.2 _ d c h1 h2
theorem rdf_nil : RdF enc P W [] (fun _ : Unit => []) (fun _ => True) := fun cs n _ => ⟨(), trivial, [], rfl, fun i q h => by simp at h, rfl, fun i d c h => by simp at h⟩
theorem rdf_cons {α β : Type} {f : α → List Dat} {wf : α → Prop} {g : β → List Dat} {wg : β → Prop} {t off sz : Nat} {fs : List (TypeId × Nat × Nat)} (h : Rd enc P W t f wf) (h' : RdF enc P W fs g wg) :
    RdF enc P W ((t, off, sz) :: fs) (fun x : α × β => f x.1 ++ g x.2) (fun x => wf x.1 ∧ wg x.2) := fun cs n hq => by
  obtain ⟨x, hx, hxz⟩ := hq (t, off, sz) (by simp)
  obtain ⟨a, ha, hc⟩ := h _ _ _ hx hxz
  obtain ⟨b, hb, parts, hl, hp, hcp⟩ := h' cs n (fun q hqm => hq q (by simp [hqm]))
  refine ⟨(a, b), ⟨ha, hb⟩, ((cs.drop off).take sz) :: parts, by simp [hl], fun i q hi => ?_, by simpa using hc.append hcp⟩
  cases i with
  | zero => simp only [List.getElem?_cons_zero, Option.some.injEq] at hi ⊢; subst hi; rfl
  | succ i => simpa using hp i q (by simpa using hi)
def tiles : List (TypeId × Nat × Nat) → Nat → Nat → Bool
  | [], o, n => o == n
  | (_, off, sz) :: fs, o, n => off == o && tiles fs (o + sz) n
theorem tiles_flat : ∀ {fs : List (TypeId × Nat × Nat)} {o n : Nat} {cs : List Value} {parts : List (List Value)}, tiles fs o n = true → cs.length = n → o ≤ n → parts.length = fs.length →
    (∀ (i : Nat) (q : TypeId × Nat × Nat), fs[i]? = some q → parts[i]? = some ((cs.drop q.2.1).take q.2.2)) → parts.flatten = cs.drop o
  | [], o, n, cs, parts, h, hn, ho, hl, hp => by
    simp only [tiles, beq_iff_eq] at h
    have : parts = [] := List.eq_nil_of_length_eq_zero (by simpa using hl)
    subst this
    rw [List.drop_eq_nil_of_le (by omega)]; rfl
  | (t, off, sz) :: fs, o, n, cs, parts, h, hn, ho, hl, hp => by
    simp only [tiles, Bool.and_eq_true, beq_iff_eq] at h
    obtain ⟨rfl, h⟩ := h
    cases parts with
    | nil => simp at hl
    | cons p parts =>
      have h0 := hp 0 _ rfl
      simp only [List.getElem?_cons_zero, Option.some.injEq] at h0
      subst h0
      have hle : off + sz ≤ n := by
        clear hp hl
        have : ∀ (fs : List (TypeId × Nat × Nat)) o, tiles fs o n = true → o ≤ n := by
          intro fs
          induction fs with
          | nil => intro o h; simp only [tiles, beq_iff_eq] at h; omega
          | cons q fs ih =>
            intro o h
            simp only [tiles, Bool.and_eq_true, beq_iff_eq] at h
            have := ih _ h.2
            omega
        exact this fs _ h
      have ih := tiles_flat (fs := fs) (o := off + sz) (cs := cs) (parts := parts) h hn hle (by simpa using hl) (fun i q hi => by simpa using hp (i + 1) q (by simpa using hi))
      rw [List.flatten_cons, ih, ← List.drop_drop]
      exact List.take_append_drop ..
theorem rd_struct {α β : Type} {f : α → List Dat} {wf : α → Prop} {g : β → List Dat} {wg : β → Prop} {t : TypeId} {fs : Array Field} {ql : List (TypeId × Nat × Nat)} (ht : P.underlying t = some (.struct fs))
    (hq : fs.toList.map (fun x => (x.type, x.offset, P.cellsOf x.type)) = ql) (htl : tiles ql 0 (P.cellsOf t) = true) (hr : RdF enc P W ql f wf) (mk : α → β) (hg : ∀ a, g (mk a) = f a) (hw : ∀ a, wf a → wg (mk a)) : Rd enc P W t g wg := fun fuel cs x h hz => by
  obtain ⟨xs, n, _, hxe, hlen, hxl, hx⟩ := DataW.trod_struct ht h
  have hz2 : (DataW.weightsEach P (fs.toList.map (·.type)) (xs.map (·.1))).all (· ≤ reachBytes) = true := by
    rw [hxe] at hz
    simpa only [DataW.weights, ht] using hz
  have hall : ∀ q ∈ ql, ∃ x, DataW.trod enc P W 0 (fun _ => true) true n q.1 ((cs.drop q.2.1).take q.2.2) = some x ∧ (DataW.weights P q.1 x.1).all (· ≤ reachBytes) = true := by
    intro q hqm
    subst hq
    obtain ⟨fl, hfl, rfl⟩ := List.mem_map.1 hqm
    obtain ⟨i, hi⟩ := List.mem_iff_getElem?.1 hfl
    have := hx i fl (by simpa using hi)
    have hil : i < xs.length := by
      have := (List.getElem?_eq_some_iff.1 hi).1
      rw [hxl]; simpa using this
    rw [List.getElem?_eq_getElem hil] at this
    exact ⟨_, this, weightsEach_get (i := i) hz2 (by rw [List.getElem?_map, hi]; rfl) (by rw [List.getElem?_map, List.getElem?_eq_getElem hil]; rfl)⟩
  obtain ⟨a, ha, parts, h1, h2, h3⟩ := hr cs n hall
  have := tiles_flat htl hlen (Nat.zero_le _) h1 h2
  rw [List.drop_zero] at this
  rw [this] at h3
  exact ⟨mk a, hw a ha, by rw [hg]; exact h3⟩
theorem Rd.mono {α : Type} {t : TypeId} {f : α → List Dat} {wf wf' : α → Prop} (h : Rd enc P W t f wf) (hw : ∀ a, wf a → wf' a) : Rd enc P W t f wf' := fun fuel cs x hx hz => by
  obtain ⟨a, h1, h2⟩ := h fuel cs x hx hz
  exact ⟨a, hw a h1, h2⟩
theorem rd_sliceS {α : Type} {f : α → List Dat} {wf : α → Prop} {t e : TypeId} {sz : Nat} (ht : P.underlying t = some (.slice e)) (hsz : P.cellsOf e = sz) (hb : Nat.ble 1 (P.bytesOf e) = true) (hr : Rd enc P W e f wf) :
    Rd enc P W t (eL sz f) (fun xs => xs.length ≤ 140737488351232 ∧ ∀ a ∈ xs, wf a) := (rd_sliceZ ht hsz hr).mono fun xs h => ⟨Nat.le_trans (by
      have := Nat.mul_le_mul_left xs.length (Nat.le_of_ble_eq_true hb)
      rwa [Nat.mul_one] at this) (Nat.le_trans h.1.2 (by decide)), h.2⟩
theorem arg_agg {α : Type} {f : α → List Dat} {wf : α → Prop} {t : TypeId} {v : Value} {b0 : Nat} {d : DataW H} {ps : List MemPlace} {fs : Array Field} (ht : P.underlying t = some (.struct fs)) (h : Value.okWide P W .any b0 t v) (hr : Rd enc P W t f wf)
    (hd : DataW.Trod enc P W 0 (fun _ => true) true t v d ps) (hz : (DataW.weights P t d).all (· ≤ reachBytes) = true) : ∃ a, wf a ∧ VRel W rho0 (.agg ((f a).map .dat)) v := by
  unfold Value.okWide at h
  rw [ht] at h
  obtain ⟨cs, rfl, _, _⟩ := h
  obtain ⟨fuel, hf⟩ := hd
  obtain ⟨a, h1, h2⟩ := hr _ _ _ hf hz
  refine ⟨a, h1, .agg (by rw [List.length_map, h2.1]; simp [Value.cells]) (fun i u hu => ?_)⟩
  rw [List.getElem?_map] at hu
  obtain ⟨x, hx, rfl⟩ := Option.map_eq_some_iff.1 hu
  have hlt : i < cs.size := by
    have := (List.getElem?_eq_some_iff.1 hx).1
    rw [h2.1] at this; simpa [Value.cells] using this
  have := h2.2 i x cs[i] hx (by simp [Value.cells, hlt])
  have e : cs.getD i undef = cs[i] := by simp [Array.getD_eq_getD_getElem?, hlt]
  rw [e]
  exact .dat this
end
end Go.Sk
namespace Go.Sk
open Go
section
variable {H : Type} {enc : TypeId × Value → H} {P : Program} {W : World} {bk : DataW H → Nat}
structure Bulk (bk : DataW H → Nat) : Prop where
  one : ∀ d, 1 ≤ bk d
  sl : ∀ es rest, (es.map bk).sum + 1 ≤ bk (.slice es rest)
  ag : ∀ ps, (ps.map bk).sum ≤ bk (.agg ps)
def RdU (bk : DataW H → Nat) (enc : TypeId × Value → H) (P : Program) (W : World) {α : Type} (t : TypeId) (f : α → List Dat) (wf : α → Prop) (m : α → Nat) : Prop :=
  ∀ fuel cs x, DataW.trod enc P W 0 (fun _ => true) true fuel t cs = some x → (DataW.weights P t x.1).all (· ≤ reachBytes) = true → ∃ a, wf a ∧ m a ≤ bk x.1 ∧ CRel W (f a) cs
def m1 {α : Type} (_ : α) : Nat := 1
theorem RdU.of {α : Type} {t : TypeId} {f : α → List Dat} {wf : α → Prop} (hb : Bulk bk) (h : Rd enc P W t f wf) : RdU bk enc P W t f wf m1 := fun fuel cs x hx hz => by
  obtain ⟨a, h1, h2⟩ := h fuel cs x hx hz
  exact ⟨a, h1, hb.one _, h2⟩
end
end Go.Sk