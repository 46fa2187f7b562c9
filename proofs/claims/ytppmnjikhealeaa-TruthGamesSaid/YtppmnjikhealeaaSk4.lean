/- A part of the proofs of this seat: the rewriting of a walk; regions whose order is drawn; ranges over functions. It has no conditions. -/
import Derived.Test.YtppmnjikhealeaaSk3
import Derived.RangeFuncRecord
set_option linter.unusedVariables false
set_option linter.unusedSimpArgs false
namespace Go.Sk
open Go
section
variable {X : Cx} {E : Env} {L : LH} {Q : Ex → Env → LH → Prop}
theorem awp_condT {c : Operand} {x y : Code} (hc : ev E c = some (.dat (.bool true))) (h : AWP X x E L Q) : AWP X (.cond c x y) E L Q := awp_cond hc (by simpa using h)
theorem awp_condF {c : Operand} {x y : Code} (hc : ev E c = some (.dat (.bool false))) (h : AWP X y E L Q) : AWP X (.cond c x y) E L Q := awp_cond hc (by simpa using h)
end
theorem retP_pure {P : Program} {L : LH} {E : Env} {rs : List ResultVar} {v u : AVal} (h : resV P L E rs = some v) (hz : Frz P L (inL []) v u) : RetP P rs (.ret u) [] .ret E L :=
  ⟨v, u, h, rfl, hz, ⟨fun r o ho => by simp [aget] at ho⟩⟩
theorem Fn.of_body {P : Program} {f N : Nat} {fn : Func} {rs : List ResultVar} {c : Code} {args : List AVal} {v : AVal} (hf : P.funcs[f]? = some fn) (hb : fn.body = some c) (hN : fn.ntmps = N) (hr : fn.results.toList = rs) (hen : enters P f = true)
    (hlen : args.length ≤ N) (h : ∀ B, AWP (fcx P N B []) c (argE 0 args) [] (RetP P rs (.ret v) [])) : Fn P f args v := by
  subst hN; subst hr
  exact Ev.of_body hf hb hen (fun _ h => h) hlen h
attribute [go_sem] opK opStep evl evs putE dstOk gval aun stBuiltin amm alenP fcx argE resV resVs abin2 abin aint ashift goI aset aload cellsVal mkPtrField afieldAddr aindexAddr aslice optInt optLo oev abuild afill plc acells stBox stAlloc stBuildSlice stMakeSlice stStore stAppend elsOf aconv aextract afield apart aindex allSc sc setRange asetEls
attribute [go_sem] ev
end Go.Sk
namespace Go.Sk
open Go
def rowsV : AVal → List Nat
  | .slice r _ _ _ => [r]
  | .ptr r _ _ _ => [r]
  | .map r => [r]
  | _ => []
def rowsE (E : Env) (x : Operand) : List Nat :=
  match ev E x with
  | some v => rowsV v
  | none => []
def rowsG (E : Env) : Operand → List Nat
  | .global g => [gbase + g]
  | x => rowsE E x
def appW (dst : Option Nat) : AVal → List Nat
  | .nilS => dst.toList
  | v => rowsV v
def looks (P : Program) (dst : Option Nat) (op : Op) (E : Env) : Option (List Nat × List Nat) :=
  match op with
  | .move _ | .assign _ | .pick _ _ _ | .unOp _ _ _ | .extract _ _ | .fieldAddr _ _ _ | .field _ _ _ | .index _ _ _ | .build _ _ | .makeFunc _ _ _ | .makeInterface _ _ | .nilCheck _ => some ([], [])
  | .load _ x => some (rowsG E x, [])
  | .binOp _ _ x _ _ => some (rowsE E x, [])
  | .convert _ _ x => some (rowsE E x, [])
  | .store _ a _ => some (rowsE E a, rowsE E a)
  | .indexAddr _ x _ => some (rowsE E x, [])
  | .slice _ x _ _ _ => some (rowsE E x, [])
  | .lookup _ x _ _ => some (rowsE E x, [])
  | .mapUpdate _ m _ _ => some (rowsE E m, rowsE E m)
  | .insert _ m _ _ => some (rowsE E m, rowsE E m)
  | .makeMap _ none => some (dst.toList, dst.toList)
  | .buildSlice _ _ _ | .alloc _ | .box _ _ | .makeSlice _ _ _ => some (dst.toList, dst.toList)
  | .call { callee := .builtin .len, args, .. } =>
    match args.toList with
    | [x] => some (rowsE E x, [])
    | _ => none
  | .call { callee := .builtin .clear, args, .. } =>
    match args.toList with
    | [x] => some (rowsE E x, rowsE E x)
    | _ => none
  | .call { callee := .builtin .max, .. } | .call { callee := .builtin .min, .. } => some ([], [])
  | .call { callee := .builtin .append, args, .. } =>
    match args.toList with
    | [x, y] => (ev E x).map fun v => (appW dst v ++ rowsE E y, appW dst v)
    | _ => none
  | _ => none
section
variable {P : Program} {E E2 : Env} {L L2 L' : LH}
theorem aload_loc {t : TypeId} {a : AVal} (h : ∀ q ∈ rowsV a, aget L2 q = aget L q) : aload P L2 t a = aload P L t a := by
  cases a <;> simp only [aload, rowsV, List.mem_singleton, forall_eq] at *
  all_goals first | rfl | rw [h] | (rename_i d; cases d <;> rfl)
theorem aindexAddr_loc {t : TypeId} {a i : AVal} (h : ∀ q ∈ rowsV a, aget L2 q = aget L q) : aindexAddr P L2 t a i = aindexAddr P L t a i := by
  cases a <;> simp only [aindexAddr, rowsV, List.mem_singleton, forall_eq] at *
  all_goals first | rfl | rw [h] | (rename_i d; cases d <;> rfl)
theorem aslice_loc {t : TypeId} {a : AVal} {lo hi : Option (Option AVal)} (h : ∀ q ∈ rowsV a, aget L2 q = aget L q) : aslice P L2 t a lo hi = aslice P L t a lo hi := by
  cases a <;> simp only [aslice, rowsV, List.mem_singleton, forall_eq] at *
  all_goals first | rfl | rw [h] | (rename_i d; cases d <;> rfl)
theorem aslice3_loc {t : TypeId} {a lo hi mx : AVal} (h : ∀ q ∈ rowsV a, aget L2 q = aget L q) : aslice3 P L2 t a lo hi mx = aslice3 P L t a lo hi mx := by
  have : acap3 L2 a = acap3 L a := by
    cases a <;> simp only [acap3, rowsV, List.mem_singleton, forall_eq] at *
    all_goals first | rfl | rw [h] | (rename_i d; cases d <;> rfl)
  unfold aslice3
  rw [this]
theorem alenP_loc {t : TypeId} {a : AVal} (h : ∀ q ∈ rowsV a, aget L2 q = aget L q) : alenP P L2 t a = alenP P L t a := by
  unfold alenP
  generalize P.underlying t = u
  cases a with
  | slice r g off len =>
    simp only [rowsV, List.mem_singleton, forall_eq] at h
    cases u with
    | none => rfl
    | some x => cases x <;> first | rfl | (simp only []; rw [h])
  | dat d =>
    cases u with
    | none => cases d <;> rfl
    | some x => cases d <;> cases x <;> rfl
  | raw v =>
    cases u with
    | none => rfl
    | some x => cases x <;> first | rfl | (cases v <;> first | rfl | (rename_i a n c; cases a <;> rfl))
  | map r =>
    simp only [rowsV, List.mem_singleton, forall_eq] at h
    cases u with
    | none => rfl
    | some x => cases x <;> first | rfl | (simp only []; rw [h])
  | _ =>
    cases u with
    | none => rfl
    | some x => cases x <;> rfl
theorem elsOf_loc {e sz : Nat} {a : AVal} (h : ∀ q ∈ rowsV a, aget L2 q = aget L q) : elsOf L2 e sz a = elsOf L e sz a := by
  cases a with
  | slice r g off len =>
    simp only [rowsV, List.mem_singleton, forall_eq] at h
    simp only [elsOf]
    rw [h]
  | dat d => cases d <;> rfl
  | raw v => cases v <;> first | rfl | (rename_i a n c; cases a <;> cases n <;> rfl)
  | _ => rfl
theorem abin2L_loc {op : BinOp} {t : TypeId} {a b : AVal} (h : ∀ q ∈ rowsV a, aget L2 q = aget L q) : abin2L P L2 op t a b = abin2L P L op t a b := by
  cases a with
  | slice r g off len =>
    simp only [rowsV, List.mem_singleton, forall_eq] at h
    cases b <;> first | rfl | (simp only [abin2L]; rw [h])
  | _ => rfl
theorem aconv2_loc {s d : TypeId} {a : AVal} (h : ∀ q ∈ rowsV a, aget L2 q = aget L q) : aconv2 P L2 s d a = aconv2 P L s d a := by
  simp only [aconv2, aconvL, elsOf_loc h]
def Same (W : List Nat) (L L' L2 L2' : LH) : Prop := (∀ q ∈ W, aget L2' q = aget L' q) ∧ ∀ q, q ∉ W → aget L2' q = aget L2 q ∧ aget L' q = aget L q
theorem Same.none : Same [] L L L2 L2 := ⟨fun q h => by simp at h, fun q _ => ⟨rfl, rfl⟩⟩
theorem Same.set {r : Nat} {o : AObj} {W : List Nat} (hr : r ∈ W) (hW : ∀ q ∈ W, aget L2 q = aget L q) : Same W L (aset L r o) L2 (aset L2 r o) := by
  refine ⟨fun q hq => ?_, fun q hq => ?_⟩
  · simp only [aget_aset, hW q hq]
  · have : r ≠ q := fun e => hq (e ▸ hr)
    simp [aget_aset, this]
theorem stBox_loc {r t : Nat} {v u : AVal} (h : stBox P L r t v = some (u, L')) (hL : ∀ q ∈ [r], aget L2 q = aget L q) : ∃ L2', stBox P L2 r t v = some (u, L2') ∧ Same [r] L L' L2 L2' := by
  unfold stBox at *
  obtain ⟨vs, h1, h2⟩ := Option.bind_eq_some_iff.1 h
  split at h2
  case isFalse => simp at h2
  rename_i hc
  injection h2 with h2
  injection h2 with e1 e2
  subst e1; subst e2
  refine ⟨aset L2 r (.row 0 t [vs]), ?_, .set (by simp) hL⟩
  rw [h1, Option.bind_some, if_pos (by rw [hL r (by simp)]; exact hc)]
theorem stAlloc_loc {r t : Nat} {u : AVal} (h : stAlloc P L r t = some (u, L')) (hL : ∀ q ∈ [r], aget L2 q = aget L q) : ∃ L2', stAlloc P L2 r t = some (u, L2') ∧ Same [r] L L' L2 L2' := by
  unfold stAlloc at *
  obtain ⟨vs, h1, h2⟩ := Option.bind_eq_some_iff.1 h
  split at h2
  case isFalse => simp at h2
  rename_i hc
  injection h2 with h2
  injection h2 with e1 e2
  subst e1; subst e2
  refine ⟨aset L2 r (.row 0 t [vs]), ?_, .set (by simp) hL⟩
  rw [h1, Option.bind_some, if_pos (by rw [hL r (by simp)]; exact hc)]
theorem stBuildSlice_loc {r t n : Nat} {ps : List (Nat × AVal)} {u : AVal} (h : stBuildSlice P L r t n ps = some (u, L')) (hL : ∀ q ∈ [r], aget L2 q = aget L q) : ∃ L2', stBuildSlice P L2 r t n ps = some (u, L2') ∧ Same [r] L L' L2 L2' := by
  unfold stBuildSlice at *
  obtain ⟨s, h1, h2⟩ := Option.bind_eq_some_iff.1 h
  obtain ⟨zc, h3, h2⟩ := Option.bind_eq_some_iff.1 h2
  split at h2
  case isFalse => simp at h2
  rename_i hc
  obtain ⟨els, h4, h2⟩ := Option.map_eq_some_iff.1 h2
  injection h2 with e1 e2
  subst e1; subst e2
  refine ⟨aset L2 r (.row 1 s.1 els), ?_, .set (by simp) hL⟩
  rw [h1, Option.bind_some, h3, Option.bind_some, if_pos (by rw [hL r (by simp)]; exact hc), h4, Option.map_some]
theorem stMakeSlice_loc {r t : Nat} {l c u : AVal} (h : stMakeSlice P L r t l c = some (u, L')) (hL : ∀ q ∈ [r], aget L2 q = aget L q) : ∃ L2', stMakeSlice P L2 r t l c = some (u, L2') ∧ Same [r] L L' L2 L2' := by
  unfold stMakeSlice at *
  split at h
  · obtain ⟨s, h1, h2⟩ := Option.bind_eq_some_iff.1 h
    obtain ⟨zc, h3, h2⟩ := Option.bind_eq_some_iff.1 h2
    split at h2
    case isFalse => simp at h2
    rename_i hc
    injection h2 with h2
    injection h2 with e1 e2
    subst e1; subst e2
    refine ⟨_, ?_, .set (by simp) hL⟩
    rotate_left
    · try simp only
      rw [h1, Option.bind_some, h3, Option.bind_some, if_pos (by rw [hL r (by simp)]; exact hc)]
  · simp at h
theorem stStore_loc {t : Nat} {a v : AVal} (h : stStore P L t a v = some L') (hL : ∀ q ∈ rowsV a, aget L2 q = aget L q) : ∃ L2', stStore P L2 t a v = some L2' ∧ Same (rowsV a) L L' L2 L2' := by
  unfold stStore at *
  split at h
  · rename_i r g i k
    split at h
    · rename_i g' e els ho
      obtain ⟨el, h1, h2⟩ := Option.bind_eq_some_iff.1 h
      obtain ⟨vs, h3, h2⟩ := Option.bind_eq_some_iff.1 h2
      obtain ⟨ta, h4, h2⟩ := Option.bind_eq_some_iff.1 h2
      split at h2
      case isFalse => simp at h2
      rename_i hc
      injection h2 with e2
      subst e2
      refine ⟨_, ?_, .set (by simp [rowsV]) hL⟩
      rotate_left
      · try simp only
        rw [hL r (by simp [rowsV]), ho]
        try simp only
        rw [h1, Option.bind_some, h3, Option.bind_some, h4, Option.bind_some, if_pos hc]
    · simp at h
  · simp at h
theorem Same.refl {W : List Nat} (h : ∀ q ∈ W, aget L2 q = aget L q) : Same W L L L2 L2 := ⟨h, fun q _ => ⟨rfl, rfl⟩⟩
theorem stClear_loc {t : Nat} {a : AVal} (h : stClear P L t a = some L') (hL : ∀ q ∈ rowsV a, aget L2 q = aget L q) : ∃ L2', stClear P L2 t a = some L2' ∧ Same (rowsV a) L L' L2 L2' := by
  unfold stClear at *
  split at h
  · rename_i r g off len
    split at h
    · rename_i g' e els ho
      obtain ⟨y, h1, hA⟩ := Option.bind_eq_some_iff.1 h
      obtain ⟨zc, h3, hB⟩ := Option.bind_eq_some_iff.1 hA
      clear h hA
      split at hB
      case isFalse => simp at hB
      rename_i hc
      injection hB with e2
      subst e2
      refine ⟨if len = 0 then L2 else aset L2 r (.row g' e (els.take off ++ List.replicate len zc ++ els.drop (off + len))), ?_, ?_⟩
      · try simp only
        rw [hL r (by simp [rowsV]), ho]
        try simp only
        rw [h1, Option.bind_some, h3, Option.bind_some, if_pos hc]
      · split
        · exact .refl hL
        · exact .set (by simp [rowsV]) hL
    · simp at h
  · obtain ⟨y, h1, hA⟩ := Option.map_eq_some_iff.1 h
    subst hA
    exact ⟨L2, by simp [h1], .refl hL⟩
  · simp at h
theorem alookup_loc {t : TypeId} {a k : AVal} {ok : Bool} (h : ∀ q ∈ rowsV a, aget L2 q = aget L q) : alookup P L2 t a k ok = alookup P L t a k ok := by
  cases a with
  | map r =>
    simp only [rowsV, List.mem_singleton, forall_eq] at h
    simp only [alookup, h]
  | raw v =>
    cases v <;> first | rfl | (rename_i b; cases b <;> rfl)
  | _ => rfl
theorem stMakeMap_loc {r : Nat} {u : AVal} (h : stMakeMap L r = some (u, L')) (hL : ∀ q ∈ [r], aget L2 q = aget L q) : ∃ L2', stMakeMap L2 r = some (u, L2') ∧ Same [r] L L' L2 L2' := by
  unfold stMakeMap at h ⊢
  rw [hL r (by simp)]
  split at h
  · rename_i hn
    injection h with h
    injection h with e1 e2; subst e1; subst e2
    exact ⟨_, by rw [if_pos hn], Same.set (by simp) hL⟩
  · simp at h
theorem stMapUpdate_loc {t : TypeId} {m k v : AVal} (h : stMapUpdate P L t m k v = some L') (hL : ∀ q ∈ rowsV m, aget L2 q = aget L q) : ∃ L2', stMapUpdate P L2 t m k v = some L2' ∧ Same (rowsV m) L L' L2 L2' := by
  cases m with
  | map r =>
    simp only [rowsV] at hL ⊢
    have hr := hL r (by simp)
    unfold stMapUpdate at h ⊢
    split at h
    · rename_i k et r' hu heq
      injection heq with heq; subst heq
      obtain ⟨kd, hkd, h⟩ := Option.bind_eq_some_iff.1 h
      simp only [hu, hkd, Option.bind_some, hr]
      split at h
      · rename_i hs
        rw [if_pos hs]
        split at h
        · rename_i es hes
          try rw [hes]
          try simp only []
          split at h
          · rename_i hf
            injection h with h; subst h
            exact ⟨_, by simp only [hf], Same.set (by simp) hL⟩
          · rename_i hf
            injection h with h; subst h
            exact ⟨_, by simp only [hf], Same.set (by simp) hL⟩
          · simp at h
        · simp at h
      · simp at h
    · simp at h
  | _ =>
    unfold stMapUpdate at h
    split at h <;> simp_all
theorem Same.mono {W W' : List Nat} {L L' L2 L2' : LH} (h : Same W L L' L2 L2') (hs : ∀ q ∈ W, q ∈ W') (hL : ∀ q ∈ W', aget L2 q = aget L q) : Same W' L L' L2 L2' := by
  refine ⟨fun q hq => ?_, fun q hq => h.2 q (fun hh => hq (hs q hh))⟩
  by_cases hw : q ∈ W
  · exact h.1 q hw
  · rw [(h.2 q hw).1, (h.2 q hw).2, hL q hq]
theorem stAppend_loc {r0 t : Nat} {s x u : AVal} (h : stAppend P L r0 t s x = some (u, L')) (hL : ∀ q ∈ appW (some r0) s ++ rowsV x, aget L2 q = aget L q) : ∃ L2', stAppend P L2 r0 t s x = some (u, L2') ∧ Same (appW (some r0) s) L L' L2 L2' := by
  unfold stAppend at *
  obtain ⟨y, h1, hA⟩ := Option.bind_eq_some_iff.1 h
  clear h
  obtain ⟨zc, h2, hB⟩ := Option.bind_eq_some_iff.1 hA
  clear hA
  obtain ⟨news, h3, h⟩ := Option.bind_eq_some_iff.1 hB
  clear hB
  split at h
  case isFalse => simp at h
  rename_i hsc
  have hx : elsOf L2 y.1 y.2.1 x = some news := by rw [elsOf_loc (fun q hq => hL q (List.mem_append_right _ hq)), h3]
  have hW : ∀ q ∈ appW (some r0) s, aget L2 q = aget L q := fun q hq => hL q (List.mem_append_left _ hq)
  split at h
  · rename_i r g off len
    split at h
    · rename_i g' e' els ho
      split at h
      case isFalse => simp at h
      rename_i hc
      injection h with h
      injection h with e1 e2
      subst e1; subst e2
      refine ⟨_, ?_, .set (by simp [appW, rowsV]) hW⟩
      rotate_left
      · rw [h1, Option.bind_some, h2, Option.bind_some, hx, Option.bind_some, if_pos hsc]
        try simp only
        rw [hL r (by simp [appW, rowsV]), ho]
        try simp only
        rw [if_pos hc]
    · simp at h
  · split at h
    case isFalse => simp at h
    rename_i hc
    injection h with h
    injection h with e1 e2
    subst e1; subst e2
    refine ⟨_, ?_, .set (by simp [appW]) hW⟩
    rotate_left
    · rw [h1, Option.bind_some, h2, Option.bind_some, hx, Option.bind_some, if_pos hsc]
      try simp only
      rw [if_pos (by rw [hL r0 (by simp [appW])]; exact hc)]
  · simp at h
end
theorem evs_loc {E E2 : Env} : ∀ {ps : List (Nat × Operand)}, (∀ p ∈ ps, ev E2 p.2 = ev E p.2) → evs E2 ps = evs E ps
  | [], _ => rfl
  | (i, x) :: ps, h => by
    simp only [evs]
    rw [h (i, x) (by simp), evs_loc (fun p hp => h p (by simp [hp]))]
theorem evl_loc {E E2 : Env} : ∀ {ps : List Operand}, (∀ p ∈ ps, ev E2 p = ev E p) → evl E2 ps = evl E ps
  | [], _ => rfl
  | x :: ps, h => by
    simp only [evl]
    rw [h x (by simp), evl_loc (fun p hp => h p (by simp [hp]))]
theorem opStep_loc {P : Program} {dst : Option Nat} {op : Op} {E E2 : Env} {L L2 L' : LH} {v : AVal} {R W : List Nat} (h : opStep P dst op E L = some (v, L')) (hl : looks P dst op E = some (R, W))
    (hE : ∀ x ∈ op.operands.toList, ev E2 x = ev E x) (hL : ∀ q ∈ R, aget L2 q = aget L q) : ∃ L2', opStep P dst op E2 L2 = some (v, L2') ∧ Same W L L' L2 L2' := by
  have rE : ∀ {x : Operand} {u : AVal}, ev E x = some u → rowsE E x = rowsV u := fun h => by simp [rowsE, h]
  unfold opStep at h
  split at h
  · simp only [looks, Option.some.injEq, Prod.mk.injEq] at hl
    obtain ⟨rfl, rfl⟩ := hl
    obtain ⟨u, hu, h⟩ := Option.map_eq_some_iff.1 h
    injection h with e1 e2; subst e1; subst e2
    exact ⟨L2, by simp only [opStep]; rw [hE _ (by simp [Op.operands]), hu]; rfl, .none⟩
  · simp only [looks, Option.some.injEq, Prod.mk.injEq] at hl
    obtain ⟨rfl, rfl⟩ := hl
    obtain ⟨u, hu, h⟩ := Option.map_eq_some_iff.1 h
    injection h with e1 e2; subst e1; subst e2
    exact ⟨L2, by simp only [opStep]; rw [hE _ (by simp [Op.operands]), hu]; rfl, .none⟩
  · simp only [looks, Option.some.injEq, Prod.mk.injEq] at hl
    obtain ⟨rfl, rfl⟩ := hl
    rename_i c x y
    refine ⟨L2, ?_, ?_⟩
    · simp only [opStep]
      rw [hE c (by simp [Op.operands]), hE x (by simp [Op.operands]), hE y (by simp [Op.operands])]
      obtain ⟨u, hu, h⟩ := Option.bind_eq_some_iff.1 h
      rw [hu, Option.bind_some]
      split at h
      · obtain ⟨u, hu, h⟩ := Option.map_eq_some_iff.1 h
        injection h with e1 e2; subst e1; subst e2
        rw [hu]; rfl
      · obtain ⟨u, hu, h⟩ := Option.map_eq_some_iff.1 h
        injection h with e1 e2; subst e1; subst e2
        rw [hu]; rfl
      · simp at h
    · obtain ⟨u, hu, h⟩ := Option.bind_eq_some_iff.1 h
      split at h
      · obtain ⟨u, hu, h⟩ := Option.map_eq_some_iff.1 h
        injection h with e1 e2; subst e1; subst e2
        exact .none
      · obtain ⟨u, hu, h⟩ := Option.map_eq_some_iff.1 h
        injection h with e1 e2; subst e1; subst e2
        exact .none
      · simp at h
  · rename_i op t x y ty
    obtain ⟨u1, hu1, h⟩ := Option.bind_eq_some_iff.1 h
    simp only [looks, Option.some.injEq, Prod.mk.injEq, rE hu1] at hl
    obtain ⟨rfl, rfl⟩ := hl
    obtain ⟨u2, hu2, h⟩ := Option.bind_eq_some_iff.1 h
    obtain ⟨u, hu, h⟩ := Option.map_eq_some_iff.1 h
    injection h with e1 e2; subst e1; subst e2
    exact ⟨L2, by simp only [opStep]; rw [hE x (by simp [Op.operands]), hE y (by simp [Op.operands]), hu1, hu2]; simp [abin2L_loc hL, hu], .none⟩
  · simp only [looks, Option.some.injEq, Prod.mk.injEq] at hl
    obtain ⟨rfl, rfl⟩ := hl
    obtain ⟨u1, hu1, h⟩ := Option.bind_eq_some_iff.1 h
    obtain ⟨u, hu, h⟩ := Option.map_eq_some_iff.1 h
    injection h with e1 e2; subst e1; subst e2
    exact ⟨L2, by simp only [opStep]; rw [hE _ (by simp [Op.operands]), hu1]; simp [hu], .none⟩
  · obtain ⟨u1, hu1, h⟩ := Option.bind_eq_some_iff.1 h
    simp only [looks, Option.some.injEq, Prod.mk.injEq, rE hu1] at hl
    obtain ⟨rfl, rfl⟩ := hl
    obtain ⟨u, hu, h⟩ := Option.map_eq_some_iff.1 h
    injection h with e1 e2; subst e1; subst e2
    exact ⟨L2, by simp only [opStep]; rw [hE _ (by simp [Op.operands]), hu1]; simp [aconv2_loc hL, hu], .none⟩
  · simp only [looks, Option.some.injEq, Prod.mk.injEq] at hl
    obtain ⟨rfl, rfl⟩ := hl
    obtain ⟨u1, hu1, h⟩ := Option.bind_eq_some_iff.1 h
    obtain ⟨u, hu, h⟩ := Option.map_eq_some_iff.1 h
    injection h with e1 e2; subst e1; subst e2
    exact ⟨L2, by simp only [opStep]; rw [hE _ (by simp [Op.operands]), hu1]; simp [hu], .none⟩
  · rename_i t x
    obtain ⟨u1, hu1, h⟩ := Option.bind_eq_some_iff.1 h
    simp only [looks, Option.some.injEq, Prod.mk.injEq] at hl
    obtain ⟨rfl, rfl⟩ := hl
    obtain ⟨u, hu, h⟩ := Option.map_eq_some_iff.1 h
    injection h with e1 e2; subst e1; subst e2
    cases x with
    | global g =>
      have hu1' : evG E2 L2 (.global g) = some u1 := by
        simp only [evG] at hu1 ⊢
        rw [hL (gbase + g) (by simp [rowsG])]
        exact hu1
      have hd : rowsV u1 = [] := by
        simp only [evG] at hu1
        split at hu1
        · split at hu1
          · injection hu1 with hu1; subst hu1; rfl
          · simp at hu1
        · simp at hu1
      exact ⟨L2, by simp only [opStep]; rw [hu1']; simp [aload_loc (L := L) (L2 := L2) (by rw [hd]; simp), hu], .none⟩
    | tmp t' =>
      have hu1 : ev E (.tmp t') = some u1 := hu1
      exact ⟨L2, by simp only [opStep]; rw [evG_of ((hE _ (by simp [Op.operands])).trans hu1)]; simp [aload_loc (L := L) (L2 := L2) (by rw [← rE hu1]; exact hL), hu], .none⟩
    | const c =>
      have hu1 : ev E (.const c) = some u1 := hu1
      exact ⟨L2, by simp only [opStep]; rw [evG_of ((hE _ (by simp [Op.operands])).trans hu1)]; simp [aload_loc (L := L) (L2 := L2) (by rw [← rE hu1]; exact hL), hu], .none⟩
    | func f =>
      have hu1 : ev E (.func f) = some u1 := hu1
      exact ⟨L2, by simp only [opStep]; rw [evG_of ((hE _ (by simp [Op.operands])).trans hu1)]; simp [aload_loc (L := L) (L2 := L2) (by rw [← rE hu1]; exact hL), hu], .none⟩
  · rename_i t a x
    obtain ⟨u1, hu1, h⟩ := Option.bind_eq_some_iff.1 h
    simp only [looks, Option.some.injEq, Prod.mk.injEq, rE hu1] at hl
    obtain ⟨rfl, rfl⟩ := hl
    obtain ⟨u2, hu2, h⟩ := Option.bind_eq_some_iff.1 h
    obtain ⟨u, hu, h⟩ := Option.map_eq_some_iff.1 h
    injection h with e1 e2; subst e1; subst e2
    obtain ⟨L2', h3, h4⟩ := stStore_loc hu hL
    exact ⟨L2', by simp only [opStep]; rw [hE a (by simp [Op.operands]), hE x (by simp [Op.operands]), hu1, hu2]; simp [h3], h4⟩
  · simp only [looks, Option.some.injEq, Prod.mk.injEq] at hl
    obtain ⟨rfl, rfl⟩ := hl
    obtain ⟨u1, hu1, h⟩ := Option.bind_eq_some_iff.1 h
    obtain ⟨u, hu, h⟩ := Option.map_eq_some_iff.1 h
    injection h with e1 e2; subst e1; subst e2
    exact ⟨L2, by simp only [opStep]; rw [hE _ (by simp [Op.operands]), hu1]; simp [hu], .none⟩
  · simp only [looks, Option.some.injEq, Prod.mk.injEq] at hl
    obtain ⟨rfl, rfl⟩ := hl
    obtain ⟨u1, hu1, h⟩ := Option.bind_eq_some_iff.1 h
    obtain ⟨u, hu, h⟩ := Option.map_eq_some_iff.1 h
    injection h with e1 e2; subst e1; subst e2
    exact ⟨L2, by simp only [opStep]; rw [hE _ (by simp [Op.operands]), hu1]; simp [hu], .none⟩
  · rename_i t x i
    obtain ⟨u1, hu1, h⟩ := Option.bind_eq_some_iff.1 h
    simp only [looks, Option.some.injEq, Prod.mk.injEq, rE hu1] at hl
    obtain ⟨rfl, rfl⟩ := hl
    obtain ⟨u2, hu2, h⟩ := Option.bind_eq_some_iff.1 h
    obtain ⟨u, hu, h⟩ := Option.map_eq_some_iff.1 h
    injection h with e1 e2; subst e1; subst e2
    exact ⟨L2, by simp only [opStep]; rw [hE x (by simp [Op.operands]), hE i (by simp [Op.operands]), hu1, hu2]; simp [aindexAddr_loc hL, hu], .none⟩
  · simp only [looks, Option.some.injEq, Prod.mk.injEq] at hl
    obtain ⟨rfl, rfl⟩ := hl
    rename_i t x i
    obtain ⟨u1, hu1, h⟩ := Option.bind_eq_some_iff.1 h
    obtain ⟨u2, hu2, h⟩ := Option.bind_eq_some_iff.1 h
    obtain ⟨u, hu, h⟩ := Option.map_eq_some_iff.1 h
    injection h with e1 e2; subst e1; subst e2
    exact ⟨L2, by simp only [opStep]; rw [hE x (by simp [Op.operands]), hE i (by simp [Op.operands]), hu1, hu2]; simp [hu], .none⟩
  · rename_i t x lo hi
    obtain ⟨u1, hu1, h⟩ := Option.bind_eq_some_iff.1 h
    simp only [looks, Option.some.injEq, Prod.mk.injEq, rE hu1] at hl
    obtain ⟨rfl, rfl⟩ := hl
    obtain ⟨u, hu, h⟩ := Option.map_eq_some_iff.1 h
    injection h with e1 e2; subst e1; subst e2
    have e1 : oev E2 lo = oev E lo := by
      cases lo with
      | none => rfl
      | some y => simp only [oev, Option.map_some]; rw [hE y (by simp [Op.operands])]
    have e2 : oev E2 hi = oev E hi := by
      cases hi with
      | none => rfl
      | some y => simp only [oev, Option.map_some]; rw [hE y (by simp [Op.operands])]
    exact ⟨L2, by simp only [opStep]; rw [hE x (by simp [Op.operands]), hu1, e1, e2]; simp [aslice_loc hL, hu], .none⟩
  · rename_i t x lo hi mx
    obtain ⟨u1, hu1, h⟩ := Option.bind_eq_some_iff.1 h
    simp only [looks, Option.some.injEq, Prod.mk.injEq, rE hu1] at hl
    obtain ⟨rfl, rfl⟩ := hl
    obtain ⟨u2, hu2, h⟩ := Option.bind_eq_some_iff.1 h
    obtain ⟨u3, hu3, h⟩ := Option.bind_eq_some_iff.1 h
    obtain ⟨u4, hu4, h⟩ := Option.bind_eq_some_iff.1 h
    obtain ⟨u, hu, h⟩ := Option.map_eq_some_iff.1 h
    injection h with e1 e2; subst e1; subst e2
    exact ⟨L2, by simp only [opStep]; rw [hE x (by simp [Op.operands]), hE lo (by simp [Op.operands]), hE hi (by simp [Op.operands]), hE mx (by simp [Op.operands]), hu1, hu2, hu3, hu4]; simp [aslice3_loc hL, hu], .none⟩
  · simp only [looks, Option.some.injEq, Prod.mk.injEq] at hl
    obtain ⟨rfl, rfl⟩ := hl
    rename_i t parts
    obtain ⟨u1, hu1, h⟩ := Option.bind_eq_some_iff.1 h
    obtain ⟨u, hu, h⟩ := Option.map_eq_some_iff.1 h
    injection h with e1 e2; subst e1; subst e2
    refine ⟨L2, ?_, .none⟩
    simp only [opStep]
    rw [evs_loc (E := E) (fun p hp => hE p.2 (by simp only [Op.operands]; exact List.mem_map_of_mem (f := Prod.snd) hp)), hu1]; simp [hu]
  · rename_i t n parts
    obtain ⟨r, rfl, hA⟩ := Option.bind_eq_some_iff.1 h
    clear h
    obtain ⟨u1, hu1, hA⟩ := Option.bind_eq_some_iff.1 hA
    simp only [looks, Option.some.injEq, Prod.mk.injEq, Option.toList] at hl
    obtain ⟨rfl, rfl⟩ := hl
    obtain ⟨L2', h3, h4⟩ := stBuildSlice_loc hA hL
    refine ⟨L2', ?_, h4⟩
    simp only [opStep]
    rw [evs_loc (E := E) (fun p hp => hE p.2 (by simp only [Op.operands]; exact List.mem_map_of_mem (f := Prod.snd) hp)), hu1]; simp [h3]
  · rename_i t
    obtain ⟨r, rfl, hA⟩ := Option.bind_eq_some_iff.1 h
    clear h
    simp only [looks, Option.some.injEq, Prod.mk.injEq, Option.toList] at hl
    obtain ⟨rfl, rfl⟩ := hl
    obtain ⟨L2', h3, h4⟩ := stAlloc_loc hA hL
    exact ⟨L2', by simp [opStep, h3], h4⟩
  · rename_i t x
    obtain ⟨r, rfl, hA⟩ := Option.bind_eq_some_iff.1 h
    clear h
    obtain ⟨u1, hu1, hA⟩ := Option.bind_eq_some_iff.1 hA
    simp only [looks, Option.some.injEq, Prod.mk.injEq, Option.toList] at hl
    obtain ⟨rfl, rfl⟩ := hl
    obtain ⟨L2', h3, h4⟩ := stBox_loc hA hL
    exact ⟨L2', by simp only [opStep]; rw [hE x (by simp [Op.operands]), hu1]; simp [h3], h4⟩
  · rename_i t l c
    obtain ⟨r, rfl, hA⟩ := Option.bind_eq_some_iff.1 h
    clear h
    obtain ⟨u1, hu1, hA⟩ := Option.bind_eq_some_iff.1 hA
    obtain ⟨u2, hu2, hA⟩ := Option.bind_eq_some_iff.1 hA
    simp only [looks, Option.some.injEq, Prod.mk.injEq, Option.toList] at hl
    obtain ⟨rfl, rfl⟩ := hl
    obtain ⟨L2', h3, h4⟩ := stMakeSlice_loc hA hL
    exact ⟨L2', by simp only [opStep]; rw [hE l (by simp [Op.operands]), hE c (by simp [Op.operands]), hu1, hu2]; simp [h3], h4⟩
  · simp only [looks, Option.some.injEq, Prod.mk.injEq] at hl
    obtain ⟨rfl, rfl⟩ := hl
    rename_i f first caps
    obtain ⟨bs, hbs, h⟩ := Option.bind_eq_some_iff.1 h
    obtain ⟨vs, hvs, h⟩ := Option.map_eq_some_iff.1 h
    injection h with e1 e2; subst e1; subst e2
    refine ⟨L2, ?_, .none⟩
    simp only [opStep]
    rw [evl_loc (E := E) (ps := first.toList) (fun p hp => hE p (by simp only [Op.operands, Array.toList_append, List.mem_append]; exact .inl hp)), hbs,
      Option.bind_some, evl_loc (E := E) (fun p hp => hE p (by simp only [Op.operands, Array.toList_append, List.mem_append]; exact .inr hp)), hvs]; rfl
  · simp only [looks, Option.some.injEq, Prod.mk.injEq] at hl
    obtain ⟨rfl, rfl⟩ := hl
    rename_i t x
    obtain ⟨u1, hu1, h⟩ := Option.bind_eq_some_iff.1 h
    split at h
    · rename_i hc
      injection h with h
      injection h with e1 e2; subst e1; subst e2
      exact ⟨L2, by simp only [opStep]; rw [hE x (by simp [Op.operands]), hu1]; simp [hc], .none⟩
    · simp at h
  · have hA := h
    clear h
    cases dst with
    | none => simp at hA
    | some r =>
      simp only [Option.bind_some] at hA
      simp only [looks, Option.some.injEq, Prod.mk.injEq, Option.toList] at hl
      obtain ⟨rfl, rfl⟩ := hl
      obtain ⟨L2', h3, h4⟩ := stMakeMap_loc hA hL
      exact ⟨L2', by simp [opStep, h3], h4⟩
  · rename_i t x k ok
    obtain ⟨u1, hu1, h⟩ := Option.bind_eq_some_iff.1 h
    obtain ⟨u2, hu2, h⟩ := Option.bind_eq_some_iff.1 h
    simp only [looks, Option.some.injEq, Prod.mk.injEq, rE hu1] at hl
    obtain ⟨rfl, rfl⟩ := hl
    obtain ⟨u, hu, h⟩ := Option.map_eq_some_iff.1 h
    injection h with e1 e2; subst e1; subst e2
    exact ⟨L2, by simp only [opStep]; rw [hE x (by simp [Op.operands]), hE k (by simp [Op.operands]), hu1, hu2]; simp [alookup_loc hL, hu], .none⟩
  · rename_i t m k v'
    obtain ⟨u1, hu1, h⟩ := Option.bind_eq_some_iff.1 h
    obtain ⟨u2, hu2, h⟩ := Option.bind_eq_some_iff.1 h
    obtain ⟨u3, hu3, h⟩ := Option.bind_eq_some_iff.1 h
    simp only [looks, Option.some.injEq, Prod.mk.injEq, rE hu1] at hl
    obtain ⟨rfl, rfl⟩ := hl
    obtain ⟨L3, h3, h⟩ := Option.map_eq_some_iff.1 h
    injection h with e1 e2; subst e1; subst e2
    obtain ⟨L2', h5, h6⟩ := stMapUpdate_loc h3 hL
    exact ⟨L2', by simp only [opStep]; rw [hE m (by simp [Op.operands]), hE k (by simp [Op.operands]), hE v' (by simp [Op.operands]), hu1, hu2, hu3]; simp [h5], h6⟩
  · rename_i t m k v'
    obtain ⟨u1, hu1, h⟩ := Option.bind_eq_some_iff.1 h
    obtain ⟨u2, hu2, h⟩ := Option.bind_eq_some_iff.1 h
    obtain ⟨u3, hu3, h⟩ := Option.bind_eq_some_iff.1 h
    simp only [looks, Option.some.injEq, Prod.mk.injEq, rE hu1] at hl
    obtain ⟨rfl, rfl⟩ := hl
    obtain ⟨L3, h3, h⟩ := Option.map_eq_some_iff.1 h
    injection h with e1 e2; subst e1; subst e2
    obtain ⟨L2', h5, h6⟩ := stMapUpdate_loc h3 hL
    exact ⟨L2', by simp only [opStep]; rw [hE m (by simp [Op.operands]), hE k (by simp [Op.operands]), hE v' (by simp [Op.operands]), hu1, hu2, hu3]; simp [h5], h6⟩
  · simp only [looks, Option.some.injEq, Prod.mk.injEq] at hl
    obtain ⟨rfl, rfl⟩ := hl
    rename_i x
    obtain ⟨u1, hu1, h⟩ := Option.bind_eq_some_iff.1 h
    refine ⟨L2, ?_, ?_⟩
    · simp only [opStep]; rw [hE x (by simp [Op.operands]), hu1, Option.bind_some]
      split at h <;> first
        | (injection h with h; injection h with e1 e2; subst e1; rfl)
        | (simp at h)
    · split at h <;> first
        | (injection h with h; injection h with e1 e2; subst e2; exact .none)
        | (simp at h)
  · rename_i b args ts
    unfold stBuiltin at h
    split at h
    · rename_i x t hargs hts
      obtain ⟨u1, hu1, h⟩ := Option.bind_eq_some_iff.1 h
      simp only [looks, hargs, Option.some.injEq, Prod.mk.injEq, rE hu1] at hl
      obtain ⟨rfl, rfl⟩ := hl
      obtain ⟨u, hu, h⟩ := Option.map_eq_some_iff.1 h
      injection h with e1 e2; subst e1; subst e2
      refine ⟨L2, ?_, .none⟩
      simp only [opStep, stBuiltin, hargs, hts]
      rw [hE x (by simp [Op.operands, Call.operands, hargs]), hu1]; simp [alenP_loc hL, hu]
    · rename_i x y hargs
      simp only [looks, Option.some.injEq, Prod.mk.injEq] at hl
      obtain ⟨rfl, rfl⟩ := hl
      obtain ⟨u1, hu1, h⟩ := Option.bind_eq_some_iff.1 h
      obtain ⟨u2, hu2, h⟩ := Option.bind_eq_some_iff.1 h
      obtain ⟨u, hu, h⟩ := Option.map_eq_some_iff.1 h
      injection h with e1 e2; subst e1; subst e2
      refine ⟨L2, ?_, .none⟩
      simp only [opStep, stBuiltin, hargs]
      rw [hE x (by simp [Op.operands, Call.operands, hargs]), hE y (by simp [Op.operands, Call.operands, hargs]), hu1, hu2]; simp [hu]
    · rename_i x y hargs
      simp only [looks, Option.some.injEq, Prod.mk.injEq] at hl
      obtain ⟨rfl, rfl⟩ := hl
      obtain ⟨u1, hu1, h⟩ := Option.bind_eq_some_iff.1 h
      obtain ⟨u2, hu2, h⟩ := Option.bind_eq_some_iff.1 h
      obtain ⟨u, hu, h⟩ := Option.map_eq_some_iff.1 h
      injection h with e1 e2; subst e1; subst e2
      refine ⟨L2, ?_, .none⟩
      simp only [opStep, stBuiltin, hargs]
      rw [hE x (by simp [Op.operands, Call.operands, hargs]), hE y (by simp [Op.operands, Call.operands, hargs]), hu1, hu2]; simp [hu]
    · rename_i x t hargs hts
      obtain ⟨u1, hu1, h⟩ := Option.bind_eq_some_iff.1 h
      simp only [looks, hargs, Option.some.injEq, Prod.mk.injEq, rE hu1] at hl
      obtain ⟨rfl, rfl⟩ := hl
      obtain ⟨u, hu, h⟩ := Option.map_eq_some_iff.1 h
      injection h with e1 e2; subst e1; subst e2
      obtain ⟨L2', h3, h4⟩ := stClear_loc hu hL
      refine ⟨L2', ?_, h4⟩
      simp only [opStep, stBuiltin, hargs, hts]
      rw [hE x (by simp [Op.operands, Call.operands, hargs]), hu1]; simp [h3]
    · rename_i x y t t' hargs hts
      split at h
      · rename_i htt
        obtain ⟨r, rfl, hA⟩ := Option.bind_eq_some_iff.1 h
        clear h
        obtain ⟨u1, hu1, hA⟩ := Option.bind_eq_some_iff.1 hA
        obtain ⟨u2, hu2, hA⟩ := Option.bind_eq_some_iff.1 hA
        simp only [looks, hargs, hu1, Option.map_some, Option.some.injEq, Prod.mk.injEq, rE hu2] at hl
        obtain ⟨rfl, rfl⟩ := hl
        obtain ⟨L2', h3, h4⟩ := stAppend_loc hA hL
        refine ⟨L2', ?_, h4⟩
        simp only [opStep, stBuiltin, hargs, hts]
        rw [if_pos htt, hE x (by simp [Op.operands, Call.operands, hargs]), hE y (by simp [Op.operands, Call.operands, hargs]), hu1, hu2]; simp [h3]
      · simp at h
    · simp at h
  · simp at h
end Go.Sk
namespace Go.Sk
open Go
def fold {V : Type} (wrt : Nat → Nat → Option V) (base : Nat → Option V) (done : Nat → Bool) : Nat → Nat → Option V
  | 0, key => base key
  | k + 1, key => if done k then (match wrt k key with | some v => some v | none => fold wrt base done k key) else fold wrt base done k key
section
variable {V : Type} {wrt : Nat → Nat → Option V} {base : Nat → Option V} {done : Nat → Bool}
theorem fold_down {i key : Nat} : ∀ {n : Nat}, i ≤ n → (∀ k, i ≤ k → k < n → wrt k key ≠ none → done k = false) → fold wrt base done n key = fold wrt base done i key
  | 0, h, _ => by rw [Nat.le_zero.1 h]
  | n + 1, h, hh => by
    rcases Nat.eq_or_lt_of_le h with h | h
    · rw [h]
    · rw [← fold_down (Nat.le_of_lt_succ h) (fun k h1 h2 h3 => hh k h1 (by omega) h3)]
      simp only [fold]
      split
      · rename_i hd
        cases hw : wrt n key with
        | none => rfl
        | some v => exact absurd hd (by simp [hh n (by omega) (by omega) (by simp [hw])])
      · rfl
theorem fold_all {key : Nat} : ∀ {i : Nat}, (∀ k, k < i → wrt k key ≠ none → done k = true) → fold wrt base done i key = fold wrt base (fun _ => true) i key
  | 0, _ => rfl
  | i + 1, hh => by
    have ih := fold_all (key := key) (i := i) (fun k h1 h2 => hh k (by omega) h2)
    simp only [fold, if_true]
    cases hw : wrt i key with
    | none => simp only [ih, ite_self]
    | some v => simp only [hh i (by omega) (by simp [hw]), if_true]
theorem fold_agree {i n key : Nat} (hi : i ≤ n) (h1 : ∀ k, k < i → wrt k key ≠ none → done k = true) (h2 : ∀ k, i ≤ k → k < n → wrt k key ≠ none → done k = false) :
    fold wrt base done n key = fold wrt base (fun _ => true) i key := by rw [fold_down hi h2, fold_all h1]
def setB (done : Nat → Bool) (i : Nat) : Nat → Bool := fun k => if k = i then true else done k
theorem fold_set_ne {i key : Nat} (hw : wrt i key = none) : ∀ {n : Nat}, fold wrt base (setB done i) n key = fold wrt base done n key
  | 0 => rfl
  | n + 1 => by
    simp only [fold, setB]
    by_cases e : n = i
    · subst e
      simp only [if_true, hw, fold_set_ne hw, ite_self]
    · simp only [if_neg e]
      rw [fold_set_ne hw]
theorem fold_set_eq {i key : Nat} {v : V} (hw : wrt i key = some v) {n : Nat} (hi : i < n) (h2 : ∀ k, i < k → k < n → wrt k key ≠ none → done k = false) : fold wrt base (setB done i) n key = some v := by
  rw [fold_down (i := i + 1) hi (fun k h3 h4 h5 => by
    simp only [setB]; rw [if_neg (by omega)]; exact h2 k (by omega) h4 h5)]
  simp [fold, setB, hw]
theorem fold_none {key : Nat} : ∀ {n : Nat}, (∀ k, k < n → done k = false) → fold wrt base done n key = base key
  | 0, _ => rfl
  | n + 1, h => by
    simp only [fold, h n (by omega), Bool.false_eq_true, if_false]
    exact fold_none (fun k hk => h k (by omega))
theorem fold_congr {done' : Nat → Bool} {key : Nat} : ∀ {n : Nat}, (∀ k, k < n → done k = done' k) → fold wrt base done n key = fold wrt base done' n key
  | 0, _ => rfl
  | n + 1, h => by
    simp only [fold, h n (by omega), fold_congr (n := n) (fun k hk => h k (by omega))]
end
inductive Bound (ops : Array Oper) : Nat → Nat → Prop
  | one {j i : Nat} {o : Oper} {e : Edge} (ho : ops[i]? = some o) (he : e ∈ o.after) (hb : Region.binds .any e = true) (hj : e.on = j) : Bound ops j i
  | step {j m i : Nat} {o : Oper} {e : Edge} (ho : ops[i]? = some o) (he : e ∈ o.after) (hb : Region.binds .any e = true) (hj : e.on = m) (h : Bound ops j m) : Bound ops j i
def clos1 (acc : List (List Nat)) (o : Oper) : List Nat := (o.after.toList.flatMap fun e => if Region.binds .any e then e.on :: acc.getD e.on [] else []).eraseDups
def preds : List Oper → List (List Nat) → List (List Nat)
  | [], acc => acc
  | o :: os, acc => preds os (acc ++ [clos1 acc o])
theorem preds_sound {ops : Array Oper} : ∀ (os pre : List Oper) (acc : List (List Nat)), ops.toList = pre ++ os → acc.length = pre.length → (∀ i j, j ∈ acc.getD i [] → Bound ops j i) → ∀ i j, j ∈ (preds os acc).getD i [] → Bound ops j i
  | [], pre, acc, _, _, h, i, j, hj => h i j hj
  | o :: os, pre, acc, hp, hl, h, i, j, hj => by
    refine preds_sound os (pre ++ [o]) (acc ++ [clos1 acc o]) (by rw [hp]; simp) (by simp [hl]) (fun i j hj => ?_) i j hj
    have ho : ops[pre.length]? = some o := by
      have : ops.toList[pre.length]? = some o := by rw [hp]; simp
      simpa using this
    by_cases hi : i < acc.length
    · apply h i j
      simpa [List.getD, List.getElem?_append_left hi] using hj
    · by_cases hi2 : i = acc.length
      · subst hi2
        have hj : j ∈ clos1 acc o := by simpa [List.getD] using hj
        unfold clos1 at hj
        rw [List.mem_eraseDups] at hj
        obtain ⟨e, he, hj⟩ := List.mem_flatMap.1 hj
        split at hj
        · rename_i hb
          rw [hl]
          rcases List.mem_cons.1 hj with hj | hj
          · exact .one ho (by simpa using he) hb hj.symm
          · exact .step ho (by simpa using he) hb rfl (h _ _ hj)
        · simp at hj
      · have : (acc ++ [clos1 acc o]).getD i [] = [] := by simp [List.getD, List.getElem?_eq_none (show (acc ++ [clos1 acc o]).length ≤ i by simp; omega)]
        rw [this] at hj
        simp at hj
def Closed (ops : Array Oper) (done : Nat → Bool) : Prop := ∀ i o, ops[i]? = some o → done i = true → ∀ e ∈ o.after, Region.binds .any e = true → done e.on = true
theorem Bound.done {ops : Array Oper} {done : Nat → Bool} (hc : Closed ops done) {j i : Nat} (h : Bound ops j i) : done i = true → done j = true := by
  induction h with
  | one ho he hb hj => exact fun h => by subst hj; exact hc _ _ ho h _ he hb
  | step ho he hb hj _ ih => exact fun h => ih (by subst hj; exact hc _ _ ho h _ he hb)
theorem Bound.ready {ops : Array Oper} {done : Nat → Bool} (hc : Closed ops done) {j i : Nat} (h : Bound ops j i) (hr : ∀ o, ops[i]? = some o → ∀ e ∈ o.after, Region.binds .any e = true → done e.on = true) : done j = true := by
  cases h with
  | one ho he hb hj => subst hj; exact hr _ ho _ he hb
  | step ho he hb hj h => exact h.done hc (by subst hj; exact hr _ ho _ he hb)
structure Tr where
  r : Option Nat
  ts : List Nat
  rd : List Nat
  v : AVal
  up : LH
inductive Wz : AVal → AVal → Prop
  | keep (v : AVal) : Wz v v
  | nil (sz : Nat) : Wz .nilS (.dat (.sl sz []))
theorem Wz.trans {a b c : AVal} (h : Wz a b) (h' : Wz b c) : Wz a c := by
  cases h with
  | keep => exact h'
  | nil sz => cases h' with
    | keep => exact .nil sz
def WzO : AObj → AObj → Prop
  | .row g e els, .row g' e' els' => g = g' ∧ e = e' ∧ els.length = els'.length ∧ ∀ (i : Nat) el el', els[i]? = some el → els'[i]? = some el' → el.length = el'.length ∧ ∀ (j : Nat) v u, el[j]? = some v → el'[j]? = some u → Wz v u
  | _, _ => False
def WzL (L L' : LH) : Prop := ∀ q, aget L' q = aget L q ∨ ∃ o o', aget L q = some o ∧ aget L' q = some o' ∧ WzO o o'
theorem WzL.refl (L : LH) : WzL L L := fun _ => .inl rfl
theorem SatL.wz {P : Program} {ρ : Rho} {L L' : LH} {w : World} (hL : SatL P ρ L w) (h : WzL L L') : SatL P ρ L' w := by
  refine ⟨fun r o' ho' => ?_, fun r x hx => ?_, hL.inj, hL.dis, hL.elt⟩
  · rcases h r with e | ⟨o, o2, h1, h2, hz⟩
    · rw [e] at ho'; exact hL.obj r o' ho'
    · rw [ho'] at h2
      injection h2 with h2
      subst h2
      obtain ⟨l, hl, hO⟩ := hL.obj r o h1
      cases o with
      | row g e els =>
        cases o' with
        | row g' e' els' =>
          obtain ⟨rfl, rfl, hlen, hc⟩ := hz
          refine ⟨l, hl, ?_⟩
          cases l with
          | row v0 e0 sz =>
            obtain ⟨rfl, hP, hp, hsz, xs, hown, hxs⟩ := hO
            refine ⟨rfl, hP, hp, ?_, xs, by rw [← hlen]; exact hown, fun i u hi => ?_⟩
            · intro el hel
              obtain ⟨i, hi⟩ := List.mem_iff_getElem?.1 hel
              have hlt : i < els.length := by rw [hlen]; exact (List.getElem?_eq_some_iff.1 hi).1
              rw [← (hc i _ el (List.getElem?_eq_getElem hlt) hi).1]
              exact hsz _ (List.getElem_mem hlt)
            · obtain ⟨v, hv, h5⟩ := flat_pair (R := Wz) hlen hc i u hi
              obtain ⟨h6, h7⟩ := hxs i v hv
              cases h5 with
              | keep => exact ⟨h6, h7⟩
              | nil sz => refine ⟨rfl, ?_⟩; generalize xs.getD i undef = c at h7; cases h7; exact .dat (.nil sz)
          | _ => exact hO.elim
        | _ => exact hz.elim
      | _ => exact hz.elim
  · obtain ⟨o, ho⟩ := hL.dom r x hx
    rcases h r with e | ⟨o, o2, h1, h2, hz⟩
    · exact ⟨o, by rw [e, ho]⟩
    · exact ⟨o2, h2⟩
def Tr.ok (X : Cx) (ops : List Oper) (o : Oper) (T : Tr) (E : Env) (L : LH) : Prop :=
  ∀ E2 L2, (∀ t ∈ T.ts, aget E2 t = aget E t) → (∀ q ∈ T.rd, aget L2 q = aget L q) →
    match gval ops E2 o.guard with
    | some true => opK X.P T.r o.op E2 L2 (fun v L' => Wz v T.v ∧ ∃ L3, WzL L' L3 ∧ ∀ q, aget L3 q = aget (mergeL L2 T.up) q) (fun _ _ => False)
    | some false => T.v = .tup [] ∧ T.up = []
    | none => False
def gts (ops : List Oper) : Option (Nat × Bool) → List Nat
  | some (j, _) => match (ops[j]?).bind (·.dst) with | some t => [t] | none => []
  | none => []
def otmps (op : Op) : List Nat := op.operands.toList.filterMap fun | .tmp t => some t | _ => none
theorem otmps_ev {op : Op} {E E2 : Env} (h : ∀ t ∈ otmps op, aget E2 t = aget E t) : ∀ x ∈ op.operands.toList, ev E2 x = ev E x := by
  intro x hx
  cases x with
  | tmp t => exact h t (List.mem_filterMap.2 ⟨.tmp t, hx, rfl⟩)
  | const c => rfl
  | func f => rfl
  | global g => rfl
theorem gval_loc {ops : List Oper} {g : Option (Nat × Bool)} {E E2 : Env} (h : ∀ t ∈ gts ops g, aget E2 t = aget E t) : gval ops E2 g = gval ops E g := by
  cases g with
  | none => rfl
  | some p =>
    obtain ⟨j, want⟩ := p
    simp only [gval, gts] at *
    cases hd : (ops[j]?).bind (·.dst) with
    | none => rfl
    | some t => rw [hd] at h; simp only; rw [h t (by simp)]
structure Ft where
  d : Option Nat
  ts : List Nat
  rd : List Nat
  wr : List Nat
def meet (a b : List Nat) : Bool := a.any fun x => b.contains x
def conf (a b : Ft) : Bool :=
  meet a.d.toList b.ts || meet b.d.toList a.ts || meet a.d.toList b.d.toList || meet a.wr b.rd || meet b.wr a.rd || meet a.wr b.wr
def okD (ops : List Oper) (fs : List Ft) : Bool :=
  let ps := preds ops []
  fs.length == ops.length &&
  (List.range ops.length).all fun i => (ops[i]?.map fun o => o.after.toList.all fun e => !Region.binds .any e || decide (e.on < i)).getD false &&
    (List.range i).all fun j => match fs[j]?, fs[i]? with
      | some a, some b => !conf a b || (ps.getD i []).contains j
      | _, _ => false
theorem meet_of {a b : List Nat} {x : Nat} (h1 : x ∈ a) (h2 : x ∈ b) : meet a b = true := by
  unfold meet
  exact List.any_eq_true.2 ⟨x, h1, by simpa using h2⟩
def Tr.ft (o : Oper) (T : Tr) : Ft := ⟨o.dst, T.ts, T.rd, T.up.map (·.1)⟩
theorem mergeL_up (L up : LH) (q : Nat) : aget (mergeL L up) q = match aget up q with | some o => some o | none => aget L q := mergeL_get L up q
theorem aget_mem_keys : ∀ {L : LH} {q : Nat} {o : AObj}, aget L q = some o → q ∈ L.map (·.1)
  | (r, x) :: L, q, o, h => by
    simp only [aget] at h
    split at h
    · rename_i e; subst e; simp
    · simp [aget_mem_keys h]
theorem Sat.wz {P : Program} {N : Nat} {B : Bs} {ρ : Rho} {E : Env} {L L' : LH} {a : Act} {w : World} (h : Sat P N B ρ E L a w) (hz : WzL L L') : Sat P N B ρ E L' a w :=
  { n := h.n, marks := h.marks, base := h.base, env := h.env, heap := h.heap.wz hz }
theorem Wz.sound {w : World} {ρ : Rho} {v u : AVal} {c : Value} (h : Wz v u) (hv : VRel w ρ v c) : VRel w ρ u c := by
  cases h with
  | keep => exact hv
  | nil sz => cases hv; exact .dat (.nil sz)
theorem Sat.wzE {P : Program} {N : Nat} {B : Bs} {ρ : Rho} {E : Env} {L : LH} {a : Act} {w : World} {d : Option Nat} {v u : AVal} (h : Sat P N B ρ (putE E d v) L a w) (hz : Wz v u) : Sat P N B ρ (putE E d u) L a w :=
  { n := h.n, marks := h.marks, base := h.base, heap := h.heap, env := fun t x ht => by
      cases d with
      | none => exact h.env t x ht
      | some d =>
        simp only [putE, aget] at ht
        split at ht
        · rename_i e
          injection ht with ht
          subst ht; subst e
          have := h.env d v (by simp [putE, aget])
          exact ⟨this.1, hz.sound this.2⟩
        · rename_i e
          exact h.env t x (by simp only [putE, aget]; rw [if_neg e]; exact ht) }
theorem Sat.same {P : Program} {N : Nat} {B : Bs} {ρ : Rho} {E E' : Env} {L L' : LH} {a : Act} {w : World} (h : Sat P N B ρ E L a w) (hE : ∀ t, aget E' t = aget E t) (hL : ∀ q, aget L' q = aget L q) : Sat P N B ρ E' L' a w :=
  { n := h.n, marks := h.marks, base := h.base, env := fun t v ht => h.env t v (by rw [← hE t]; exact ht),
    heap := { obj := fun r o ho => h.heap.obj r o (by rw [← hL r]; exact ho), dom := fun r x hx => by rw [hL r]; exact h.heap.dom r x hx, inj := h.heap.inj, dis := h.heap.dis, elt := h.heap.elt } }
theorem Sat.drawn {P : Program} {N : Nat} {B : Bs} {ρ : Rho} {E : Env} {L : LH} {a : Act} {w : World} (h : Sat P N B ρ E L a w) (n : Nat) : Sat P N B ρ E L a { w with drawn := n } := by
  have hf : Fr All ρ w ρ { w with drawn := n } := ⟨rfl, rfl, rfl, Nat.le_refl _, fun _ _ _ => rfl, fun _ _ h => h, rfl, fun r x _ hx => ⟨x, hx, .refl x⟩⟩
  have hL : SatL P ρ L { w with drawn := n } :=
    { obj := fun r o ho => by
        obtain ⟨l, h1, h2⟩ := h.heap.obj r o ho
        exact ⟨l, h1, h2.same hf (fun _ _ => rfl)⟩
      dom := h.heap.dom, inj := h.heap.inj, dis := h.heap.dis, elt := h.heap.elt }
  have := h.put hL hf (d := none) (v := .tup []) (c := undef) trivial (VRel.tup0 ..)
  simpa [Act.put, putE] using this
theorem Fr.drawn (K : Nat → Prop) (ρ : Rho) (w : World) (n : Nat) : Fr K ρ w ρ { w with drawn := n } := ⟨rfl, rfl, rfl, Nat.le_refl _, fun _ _ _ => rfl, fun _ _ h => h, rfl, fun r x _ hx => ⟨x, hx, .refl x⟩⟩
structure Path (X : Cx) (G ops : List Oper) (Ts : List Tr) (E : Env) (L : LH) (Es : Nat → Env) (Ls : Nat → LH) : Prop where
  e0 : ∀ t, aget (Es 0) t = aget E t
  l0 : ∀ q, aget (Ls 0) q = aget L q
  len : Ts.length = ops.length
  es : ∀ (i : Nat) (o : Oper) (T : Tr), ops[i]? = some o → Ts[i]? = some T → ∀ t, aget (Es (i + 1)) t = aget (putE (Es i) o.dst T.v) t
  ls : ∀ (i : Nat) (T : Tr), Ts[i]? = some T → ∀ q, aget (Ls (i + 1)) q = aget (mergeL (Ls i) T.up) q
  dst : ∀ (i : Nat) (o : Oper), ops[i]? = some o → dstOk X.N o.dst
  ok : ∀ (i : Nat) (o : Oper) (T : Tr), ops[i]? = some o → Ts[i]? = some T → T.ok X G o (Es i) (Ls i)
def wE (ops : List Oper) (Ts : List Tr) (i t : Nat) : Option AVal :=
  match ops[i]?, Ts[i]? with
  | some o, some T => if o.dst = some t then some T.v else none
  | _, _ => none
def wL (Ts : List Tr) (i q : Nat) : Option AObj :=
  match Ts[i]? with
  | some T => aget T.up q
  | none => none
theorem putE_get (E : Env) (d : Option Nat) (v : AVal) (t : Nat) : aget (putE E d v) t = if d = some t then some v else aget E t := by
  cases d with
  | none => simp [putE]
  | some d => simp [putE, aget]
section
variable {X : Cx} {ops : List Oper} {Ts : List Tr} {E : Env} {L : LH} {Es : Nat → Env} {Ls : Nat → LH}
theorem Path.foldE (h : Path X ops ops Ts E L Es Ls) : ∀ {i : Nat}, i ≤ ops.length → ∀ t, fold (wE ops Ts) (aget E) (fun _ => true) i t = aget (Es i) t
  | 0, _, t => (h.e0 t).symm
  | i + 1, hi, t => by
    have h1 : ops[i]? = some ops[i] := List.getElem?_eq_getElem (by omega)
    have h2 : Ts[i]? = some (Ts[i]'(by rw [h.len]; omega)) := List.getElem?_eq_getElem (by rw [h.len]; omega)
    rw [h.es i _ _ h1 h2 t, putE_get]
    simp only [fold, if_true, wE, h1, h2]
    by_cases hd : ops[i].dst = some t
    · simp [hd]
    · simp only [if_neg hd]
      exact h.foldE (by omega) t
theorem Path.foldL (h : Path X ops ops Ts E L Es Ls) : ∀ {i : Nat}, i ≤ ops.length → ∀ q, fold (wL Ts) (aget L) (fun _ => true) i q = aget (Ls i) q
  | 0, _, q => (h.l0 q).symm
  | i + 1, hi, q => by
    have h2 : Ts[i]? = some (Ts[i]'(by rw [h.len]; omega)) := List.getElem?_eq_getElem (by rw [h.len]; omega)
    rw [h.ls i _ h2 q, mergeL_up]
    simp only [fold, if_true, wL, h2]
    cases aget _ q with
    | some o => rfl
    | none => exact h.foldL (by omega) q
def AtE (ops : List Oper) (Ts : List Tr) (E : Env) (done : Nat → Bool) (E' : Env) : Prop := ∀ t, aget E' t = fold (wE ops Ts) (aget E) done ops.length t
def AtL (ops : List Oper) (Ts : List Tr) (L : LH) (done : Nat → Bool) (L' : LH) : Prop := ∀ q, aget L' q = fold (wL Ts) (aget L) done ops.length q
theorem okD_spec {ops : List Oper} {fs : List Ft} (h : okD ops fs = true) : fs.length = ops.length ∧ (∀ (i : Nat) (o : Oper), ops[i]? = some o → ∀ e ∈ o.after.toList, Region.binds .any e = true → e.on < i) ∧
    ∀ (i j : Nat) (a b : Ft), j < i → fs[j]? = some a → fs[i]? = some b → conf a b = true → Bound ops.toArray j i := by
  unfold okD at h
  simp only [Bool.and_eq_true, beq_iff_eq, List.all_eq_true, List.mem_range] at h
  obtain ⟨h0, h⟩ := h
  refine ⟨h0, fun i o ho e he heb => ?_, fun i j a b hj ha hb hc => ?_⟩
  · have hi := (List.getElem?_eq_some_iff.1 ho).1
    have := (h i hi).1
    rw [ho] at this
    simp only [Option.map_some, Option.getD_some, List.all_eq_true, decide_eq_true_eq, Bool.or_eq_true, Bool.not_eq_true'] at this
    rcases this e he with h1 | h1
    · rw [heb] at h1; simp at h1
    · exact h1
  · have hi : i < ops.length := by rw [← h0]; exact (List.getElem?_eq_some_iff.1 hb).1
    have := (h i hi).2 j hj
    rw [ha, hb] at this
    simp only [hc, Bool.not_true, Bool.false_or, List.contains_iff_mem] at this
    exact preds_sound (ops := ops.toArray) ops [] [] rfl rfl (fun i j hj => by simp [List.getD] at hj) i j (by simpa using this)
theorem conf_e1 {a b : Ft} {t : Nat} (h1 : a.d = some t) (h2 : t ∈ b.ts) : conf a b = true := by
  simp [conf, meet_of (a := a.d.toList) (b := b.ts) (x := t) (by simp [h1]) h2]
theorem conf_e2 {a b : Ft} {t : Nat} (h1 : b.d = some t) (h2 : t ∈ a.ts) : conf a b = true := by
  simp [conf, meet_of (a := b.d.toList) (b := a.ts) (x := t) (by simp [h1]) h2]
theorem conf_e3 {a b : Ft} {t : Nat} (h1 : a.d = some t) (h2 : b.d = some t) : conf a b = true := by
  simp [conf, meet_of (a := a.d.toList) (b := b.d.toList) (x := t) (by simp [h1]) (by simp [h2])]
theorem conf_l1 {a b : Ft} {t : Nat} (h1 : t ∈ a.wr) (h2 : t ∈ b.rd) : conf a b = true := by simp [conf, meet_of h1 h2]
theorem conf_l2 {a b : Ft} {t : Nat} (h1 : t ∈ b.wr) (h2 : t ∈ a.rd) : conf a b = true := by simp [conf, meet_of h1 h2]
theorem conf_l3 {a b : Ft} {t : Nat} (h1 : t ∈ a.wr) (h2 : t ∈ b.wr) : conf a b = true := by simp [conf, meet_of h1 h2]
theorem wE_some {k t : Nat} (h : wE ops Ts k t ≠ none) : ∃ o T, ops[k]? = some o ∧ Ts[k]? = some T ∧ o.dst = some t := by
  unfold wE at h
  split at h
  · rename_i o T h1 h2
    split at h
    · exact ⟨o, T, h1, h2, ‹_›⟩
    · simp at h
  · simp at h
theorem wL_some {k q : Nat} (h : wL Ts k q ≠ none) : ∃ T, Ts[k]? = some T ∧ q ∈ T.up.map (·.1) := by
  unfold wL at h
  split at h
  · rename_i T h1
    cases hq : aget T.up q with
    | none => exact absurd hq h
    | some o => exact ⟨T, h1, aget_mem_keys hq⟩
  · simp at h
def fts (ops : List Oper) (Ts : List Tr) : List Ft := (ops.zip Ts).map fun p => p.2.ft p.1
theorem fts_get {k : Nat} {o : Oper} {T : Tr} (h1 : ops[k]? = some o) (h2 : Ts[k]? = some T) : (fts ops Ts)[k]? = some (T.ft o) := by
  simp only [fts, List.getElem?_map, Option.map_eq_some_iff]
  exact ⟨(o, T), List.getElem?_zip_eq_some.2 ⟨h1, h2⟩, rfl⟩
theorem draw_core {Q : Ex → Env → LH → Prop} (hp : Path X ops ops Ts E L Es Ls) (hok : okD ops (fts ops Ts) = true) (hQ : Q .normal (Es ops.length) (Ls ops.length)) {ρ0 : Rho} {w0 : World} :
    ∀ (fuel : Nat) (listed : Array Bool) (E' : Env) (L' : LH) (ρ : Rho) (a : Act) (w : World), listed.size = ops.length → ((List.range ops.length).filter fun i => !listed.getD i true).length ≤ fuel →
      Closed ops.toArray (fun k => listed.getD k false) → AtE ops Ts E (fun k => listed.getD k false) E' → AtL ops Ts L (fun k => listed.getD k false) L' → Sat X.P X.N X.B ρ E' L' a w → Fr X.K ρ0 w0 ρ w →
      wpAnyIn X.F 0 X.P .any ops.toArray (QQ X.P X.N X.B X.K Q ρ0 w0) fuel listed a w := by
  obtain ⟨hl, hbk, hcf⟩ := okD_spec hok
  have hfin : ∀ (listed : Array Bool) (E' : Env) (L' : LH) (ρ : Rho) (a : Act) (w : World), listed.size = ops.length → Region.ready .any ops.toArray listed = [] →
      AtE ops Ts E (fun k => listed.getD k false) E' → AtL ops Ts L (fun k => listed.getD k false) L' → Sat X.P X.N X.B ρ E' L' a w → Fr X.K ρ0 w0 ρ w → QQ X.P X.N X.B X.K Q ρ0 w0 .normal a w := by
    intro listed E' L' ρ a w hsz hr hE hL hS hf
    have hall : ∀ k, k < ops.length → listed.getD k false = true := by
      intro k
      induction k using Nat.strongRecOn with
      | _ k ih =>
        intro hk
        by_cases hd : listed.getD k false = true
        · exact hd
        · exfalso
          have : k ∈ Region.ready .any ops.toArray listed := by
            rw [mem_ready]
            have hk' : k < listed.size := by omega
            refine ⟨by simpa [Array.getD, hk'] using hd, ops[k], by simp [hk], fun e he hb => ?_⟩
            have hlt := hbk k ops[k] (List.getElem?_eq_getElem hk) e (by simpa using he) hb
            exact ih e.on hlt (by omega)
          rw [hr] at this
          simp at this
    refine ⟨ρ, _, _, .normal, trivial, hQ, hS.same (fun t => Eq.symm ?_) (fun q => Eq.symm ?_), hf⟩
    · rw [hE t, fold_congr (done' := fun _ => true) hall, hp.foldE (Nat.le_refl _)]
    · rw [hL q, fold_congr (done' := fun _ => true) hall, hp.foldL (Nat.le_refl _)]
  intro fuel
  induction fuel with
  | zero =>
    intro listed E' L' ρ a w hsz hfu hC hE hL hS hf
    have hr : Region.ready .any ops.toArray listed = [] := by
      cases h : Region.ready .any ops.toArray listed with
      | nil => rfl
      | cons x xs =>
        exfalso
        have hx : x ∈ Region.ready .any ops.toArray listed := by rw [h]; simp
        obtain ⟨h1, o, h2, _⟩ := mem_ready.1 hx
        have hlt := (Array.getElem?_eq_some_iff.1 h2).1
        have : x ∈ (List.range ops.length).filter fun i => !listed.getD i true := List.mem_filter.2 ⟨List.mem_range.2 (by simpa using hlt), by simp [h1]⟩
        have := List.length_pos_of_mem this
        omega
    exact ⟨hr, hfin listed E' L' ρ a w hsz hr hE hL hS hf⟩
  | succ fuel ih =>
    intro listed E' L' ρ a w hsz hfu hC hE hL hS hf
    refine ⟨fun hr => hfin listed E' L' ρ a w hsz hr hE hL hS hf, fun i hi => ?_⟩
    obtain ⟨hun, o, ho, hpre⟩ := mem_ready.1 hi
    have ho' : ops[i]? = some o := by simpa using ho
    have hlt : i < ops.length := (List.getElem?_eq_some_iff.1 ho').1
    have hil : i < listed.size := by omega
    have hund : listed.getD i false = false := by simpa [Array.getD, hil] using hun
    obtain ⟨T, hT⟩ : ∃ T, Ts[i]? = some T := ⟨_, List.getElem?_eq_getElem (by rw [hp.len]; exact hlt)⟩
    have hpre' : ∀ o', ops.toArray[i]? = some o' → ∀ e ∈ o'.after, Region.binds .any e = true → listed.getD e.on false = true := by
      intro o' h1 e he hb
      rw [ho] at h1; injection h1 with h1; subst h1
      exact hpre e he hb
    have before : ∀ k, k < i → ∀ o' T', ops[k]? = some o' → Ts[k]? = some T' → conf (T'.ft o') (T.ft o) = true → listed.getD k false = true := fun k hk o' T' h1 h2 hc =>
      (hcf i k _ _ hk (fts_get h1 h2) (fts_get ho' hT) hc).ready hC hpre'
    have after : ∀ k, i < k → ∀ o' T', ops[k]? = some o' → Ts[k]? = some T' → conf (T.ft o) (T'.ft o') = true → listed.getD k false = false := fun k hk o' T' h1 h2 hc => by
      cases hd : listed.getD k false with
      | false => rfl
      | true =>
        have := (hcf k i _ _ hk (fts_get ho' hT) (fts_get h1 h2) hc).done hC hd
        rw [hund] at this
        simp at this
    have hEt : ∀ t ∈ T.ts, aget E' t = aget (Es i) t := fun t ht => by
      rw [hE t, fold_agree (i := i) (Nat.le_of_lt hlt) (fun k hk hw => ?_) (fun k hk hk2 hw => ?_), hp.foldE (Nat.le_of_lt hlt)]
      · obtain ⟨o', T', h1, h2, h3⟩ := wE_some hw
        exact before k hk o' T' h1 h2 (conf_e1 h3 ht)
      · obtain ⟨o', T', h1, h2, h3⟩ := wE_some hw
        rcases Nat.eq_or_lt_of_le hk with e | hk
        · subst e; exact hund
        · exact after k hk o' T' h1 h2 (conf_e2 h3 ht)
    have hLq : ∀ q ∈ T.rd, aget L' q = aget (Ls i) q := fun q hq => by
      rw [hL q, fold_agree (i := i) (Nat.le_of_lt hlt) (fun k hk hw => ?_) (fun k hk hk2 hw => ?_), hp.foldL (Nat.le_of_lt hlt)]
      · obtain ⟨T', h2, h3⟩ := wL_some hw
        have h1 : ops[k]? = some ops[k] := List.getElem?_eq_getElem (by omega)
        exact before k hk _ T' h1 h2 (conf_l1 h3 hq)
      · obtain ⟨T', h2, h3⟩ := wL_some hw
        have h1 : ops[k]? = some ops[k] := List.getElem?_eq_getElem (by omega)
        rcases Nat.eq_or_lt_of_le hk with e | hk
        · subst e; exact hund
        · exact after k hk _ T' h1 h2 (conf_l2 h3 hq)
    have hdone : (fun k => (listed.setIfInBounds i true).getD k false) = setB (fun k => listed.getD k false) i := by
      funext k
      simp only [setB]
      by_cases e : k = i
      · subst e; simp [hil]
      · rw [if_neg e, getD_set_ne _ (Ne.symm e)]
    have hnext : ∀ (E2 : Env) (L2 : LH) (ρ' : Rho) (a' : Act) (w' : World), (∀ t, aget E2 t = aget (putE E' o.dst T.v) t) → (∀ q, aget L2 q = aget (mergeL L' T.up) q) →
        Sat X.P X.N X.B ρ' E2 L2 a' w' → Fr X.K ρ0 w0 ρ' w' → wpAnyIn X.F 0 X.P .any ops.toArray (QQ X.P X.N X.B X.K Q ρ0 w0) fuel (listed.setIfInBounds i true) a' w' := by
      intro E2 L2 ρ' a' w' hE2 hL2 hS' hf'
      refine ih _ E2 L2 ρ' a' w' (by simp [hsz]) ?_ ?_ ?_ ?_ hS' hf'
      · have hmem : i ∈ (List.range ops.length).filter fun i => !listed.getD i true := List.mem_filter.2 ⟨List.mem_range.2 hlt, by simp [hun]⟩
        have : ((List.range ops.length).filter fun k => !(listed.setIfInBounds i true).getD k true).length < ((List.range ops.length).filter fun k => !listed.getD k true).length := by
          have hsub : ((List.range ops.length).filter fun k => !(listed.setIfInBounds i true).getD k true) = ((List.range ops.length).filter fun k => !listed.getD k true).filter fun k => k != i := by
            rw [List.filter_filter]
            apply List.filter_congr
            intro k hk
            by_cases e : k = i
            · subst e; simp [hil]
            · rw [getD_set_ne _ (Ne.symm e)]; simp [e]
          rw [hsub]
          have := List.length_filter_lt_length_iff_exists (p := fun k => k != i) (l := (List.range ops.length).filter fun k => !listed.getD k true)
          exact this.2 ⟨i, hmem, by simp⟩
        omega
      · intro k o' h1 h2 e he hb
        have h2 : (setB (fun k => listed.getD k false) i) k = true := by rw [← hdone]; exact h2
        show (fun k => (listed.setIfInBounds i true).getD k false) e.on = true
        rw [hdone]
        simp only [setB] at h2 ⊢
        split
        · rfl
        · by_cases e' : k = i
          · subst e'
            exact hpre' o' h1 e he hb
          · rw [if_neg e'] at h2
            exact hC k o' h1 h2 e he hb
      · intro t
        rw [hdone, hE2 t, putE_get]
        split
        · rename_i hd
          rw [fold_set_eq (v := T.v) (by simp [wE, ho', hT, hd]) hlt (fun k hk hk2 hw => ?_)]
          obtain ⟨o', T', h1, h2, h3⟩ := wE_some hw
          exact after k hk o' T' h1 h2 (conf_e3 hd h3)
        · rename_i hd
          rw [fold_set_ne (by simp [wE, ho', hT, hd])]
          exact hE t
      · intro q
        rw [hdone, hL2 q, mergeL_up]
        cases hq : aget T.up q with
        | some ob =>
          rw [fold_set_eq (v := ob) (by simp [wL, hT, hq]) hlt (fun k hk hk2 hw => ?_)]
          obtain ⟨T', h2, h3⟩ := wL_some hw
          have h1 : ops[k]? = some ops[k] := List.getElem?_eq_getElem (by omega)
          exact after k hk _ T' h1 h2 (conf_l3 (aget_mem_keys hq) h3)
        | none =>
          rw [fold_set_ne (by simp [wL, hT, hq])]
          exact hL q
    unfold wpOpIn
    rw [ho]
    simp only
    have hact := hp.ok i o T ho' hT E' L' hEt hLq
    have hd := hp.dst i o ho'
    split at hact
    · rename_i hg
      rw [if_pos (gval_sound (ops := ops.toArray) (by simpa using hg) hS.env)]
      exact opK_sound X.wide hact hd hS hf (fun v L2 hk ρ' a' w' hS' hf' => by
        obtain ⟨hvz, L3, hz, hk2⟩ := hk
        exact hnext _ L3 _ _ _ (fun t => rfl) hk2 ((hS'.wz hz).wzE hvz) hf') (fun v L2 hk => hk.elim)
    · rename_i hg
      obtain ⟨h1, h2⟩ := hact
      rw [if_neg (by rw [gval_sound (ops := ops.toArray) (by simpa using hg) hS.env]; simp)]
      refine ⟨fun f _ => X.wide.fn f, hnext (putE E' o.dst (.tup [])) L' ρ _ w (fun t => by rw [h1]) (fun q => by rw [h2]; rfl) (hS.put hS.heap (.refl ..) hd (VRel.tup0 ..)) hf⟩
    · exact hact.elim
end
def CallD (P : Program) (fv : AVal) (args : List AVal) (L : LH) (k : List Nat → AVal → LH → Prop) : Prop :=
  match fv with
  | .fn f bs caps => ∃ v L0 L0' U, Ev P f (bs ++ args ++ caps) L0 (.ret v) L0' ∧ (∀ r o, aget L0 r = some o → aget L r = some o) ∧ closedL (inL L0) (bs ++ args ++ caps) = true ∧
      (∀ r o, aget L0 r = some o → closedO (inL L0) o = true) ∧ (∀ r, inL L0' r = true → inL L0 r = true ∨ inL L r = false) ∧
      (∀ r, aget U r = aget L0' r ∨ (aget U r = none ∧ aget L0' r = aget L0 r)) ∧ k (L0.map (·.1) ++ L0'.map (·.1)) v U
  | _ => False
def upOf (L' : LH) (W : List Nat) : LH := W.filterMap fun q => (aget L' q).map fun o => (q, o)
def opD (X : Cx) (ops : List Oper) (o : Oper) (r0 : Option Nat) (E : Env) (L : LH) (k : Tr → LH → Prop) : Prop :=
  match o.op with
  | .call { callee := .value f, args, .. } =>
    match ev E f, evl E args.toList with
    | some fv, some vs => CallD X.P fv vs L (fun rd v up => k ⟨none, otmps o.op ++ gts ops o.guard, rd, v, up⟩ (mergeL L up))
    | _, _ => False
  | op =>
    match looks X.P r0 op E, opStep X.P r0 op E L with
    | some (R, W), some (v, L') => (∀ q ∈ W, (aget L' q).isSome = true) ∧ k ⟨r0, otmps op ++ gts ops o.guard, R ++ W, v, upOf L' W⟩ L'
    | _, _ => False
theorem upOf_get {L' : LH} {W : List Nat} {q : Nat} : q ∈ W → aget (upOf L' W) q = aget L' q := by
  induction W with
  | nil => simp
  | cons x W ih =>
    intro hq
    simp only [upOf, List.filterMap_cons] at *
    cases hx : aget L' x with
    | none =>
      simp only [Option.map_none]
      by_cases e : x = q
      · subst e
        by_cases hm : x ∈ W
        · rw [ih hm]
        · rw [hx]
          cases hh : aget (List.filterMap (fun q => Option.map (fun o => (q, o)) (aget L' q)) W) x with
          | none => rfl
          | some o =>
            have := aget_mem_keys hh
            obtain ⟨p, hp1, hp2⟩ := List.mem_map.1 this
            obtain ⟨y, hy, hy2⟩ := List.mem_filterMap.1 hp1
            obtain ⟨o', _, rfl⟩ := Option.map_eq_some_iff.1 hy2
            simp only at hp2
            subst hp2
            exact absurd hy hm
      · exact ih (by simpa [Ne.symm e] using hq)
    | some o =>
      simp only [Option.map_some, aget]
      by_cases e : x = q
      · subst e; simp [hx]
      · rw [if_neg e]
        exact ih (by simpa [Ne.symm e] using hq)
theorem upOf_none {L' : LH} {W : List Nat} {q : Nat} (h : q ∉ W) : aget (upOf L' W) q = none := by
  cases hh : aget (upOf L' W) q with
  | none => rfl
  | some o =>
    have := aget_mem_keys hh
    obtain ⟨p, hp1, hp2⟩ := List.mem_map.1 this
    obtain ⟨y, hy, hy2⟩ := List.mem_filterMap.1 hp1
    obtain ⟨o', _, rfl⟩ := Option.map_eq_some_iff.1 hy2
    simp only at hp2
    subst hp2
    exact absurd hy h
theorem opD_path {X : Cx} {ops : List Oper} {o : Oper} {r0 : Option Nat} {E : Env} {L : LH} {k : Tr → LH → Prop} (h : opD X ops o r0 E L k) (hg : gval ops E o.guard = some true) :
    ∃ T L', k T L' ∧ T.ok X ops o E L ∧ ∀ q, aget L' q = aget (mergeL L T.up) q := by
  unfold opD at h
  split at h
  · rename_i f args ts hop
    split at h
    · rename_i fv vs hfv hvs
      unfold CallD at h
      split at h
      · rename_i g caps
        obtain ⟨v, L0, L0', U, h1, h2, h3, h4, h5, hU, h6⟩ := h
        refine ⟨_, _, h6, fun E2 L2 hE hL => ?_, fun q => rfl⟩
        simp only at hE hL
        have hgv := gval_loc (E := E) (E2 := E2) (ops := ops) (g := o.guard) (fun t ht => hE t (List.mem_append_right _ ht))
        have hev := otmps_ev (op := o.op) (E := E) (E2 := E2) (fun t ht => hE t (List.mem_append_left _ ht))
        rw [hgv, hg]
        simp only
        unfold opK
        rw [hop] at hev ⊢
        simp only
        rw [hev f (by simp [Op.operands, Call.operands]), hfv, evl_loc (fun p hp => hev p (by simp only [Op.operands, Call.operands, Array.toList_append, List.mem_append]; exact .inr hp)), hvs]
        simp only [CallK]
        refine .inl ⟨v, mergeL L2 L0', ?_, .keep _, _, WzL.refl _, fun q => ?_⟩
        rotate_left
        · rw [mergeL_up, mergeL_up]
          rcases hU q with h7 | ⟨h7, h8⟩
          · rw [h7]
          · rw [h7, h8]
            cases hq : aget L0 q with
            | none => rfl
            | some ob =>
              have h9 := hL q (List.mem_append_left _ (aget_mem_keys hq))
              rw [h2 q ob hq] at h9
              exact h9.symm
        refine h1.frame (fun r ob hr => ?_) h3 h4 (fun r hr => ?_)
        · rw [hL r (List.mem_append_left _ (aget_mem_keys hr))]
          exact h2 r ob hr
        · rcases h5 r hr with h7 | h7
          · exact .inl h7
          · refine .inr ?_
            unfold inL at hr h7 ⊢
            obtain ⟨ob, hob⟩ := Option.isSome_iff_exists.1 hr
            rw [hL r (List.mem_append_right _ (aget_mem_keys hob))]
            exact h7
      · exact h.elim
    · exact h.elim
  · rename_i op hop
    split at h
    · rename_i R W v L' hlk hst
      refine ⟨_, _, h.2, fun E2 L2 hE hL => ?_, fun q => ?_⟩
      · simp only at hE hL
        have hgv := gval_loc (E := E) (E2 := E2) (ops := ops) (g := o.guard) (fun t ht => hE t (List.mem_append_right _ ht))
        have hev := otmps_ev (op := o.op) (E := E) (E2 := E2) (fun t ht => hE t (List.mem_append_left _ ht))
        rw [hgv, hg]
        simp only
        obtain ⟨L2', h3, h4⟩ := opStep_loc hst hlk hev (fun q hq => hL q (List.mem_append_left _ hq))
        unfold opK
        split
        · rename_i f args ts hop'
          exact absurd hop' (hop f args ts)
        · rw [h3]
          refine ⟨.keep _, _, WzL.refl _, fun q => ?_⟩
          rw [mergeL_up]
          by_cases hq : q ∈ W
          · rw [upOf_get hq, h4.1 q hq]
            obtain ⟨ob, hob⟩ := Option.isSome_iff_exists.1 (h.1 q hq)
            rw [hob]
          · rw [upOf_none hq, (h4.2 q hq).1]
      · obtain ⟨L2', h3, h4⟩ := opStep_loc (E2 := E) (L2 := L) hst hlk (fun _ _ => rfl) (fun _ _ => rfl)
        rw [mergeL_up]
        by_cases hq : q ∈ W
        · rw [upOf_get hq]
          obtain ⟨ob, hob⟩ := Option.isSome_iff_exists.1 (h.1 q hq)
          rw [hob]
        · rw [upOf_none hq, (h4.2 q hq).2]
    · exact h.elim
def natCons {α : Type} (x : α) (f : Nat → α) : Nat → α
  | 0 => x
  | n + 1 => f n
theorem Path.cons {X : Cx} {G ops : List Oper} {Ts : List Tr} {E : Env} {L : LH} {Es : Nat → Env} {Ls : Nat → LH} {o : Oper} {T : Tr} {E0 : Env} {L0 : LH} (h : Path X G ops Ts E L Es Ls)
    (hE : E = putE E0 o.dst T.v) (hL : ∀ q, aget L q = aget (mergeL L0 T.up) q) (hd : dstOk X.N o.dst) (hok : T.ok X G o E0 L0) : Path X G (o :: ops) (T :: Ts) E0 L0 (natCons E0 Es) (natCons L0 Ls) where
  e0 t := rfl
  l0 q := rfl
  len := by simp [h.len]
  es i o' T' h1 h2 t := by
    cases i with
    | zero =>
      simp only [List.getElem?_cons_zero, Option.some.injEq] at h1 h2
      subst h1; subst h2
      simp only [natCons]
      rw [h.e0, hE]
    | succ i => exact h.es i o' T' (by simpa using h1) (by simpa using h2) t
  ls i T' h2 q := by
    cases i with
    | zero =>
      simp only [List.getElem?_cons_zero, Option.some.injEq] at h2
      subst h2
      simp only [natCons]
      rw [h.l0, hL]
    | succ i => exact h.ls i T' (by simpa using h2) q
  dst i o' h1 := by
    cases i with
    | zero =>
      simp only [List.getElem?_cons_zero, Option.some.injEq] at h1
      subst h1
      exact hd
    | succ i => exact h.dst i o' (by simpa using h1)
  ok i o' T' h1 h2 := by
    cases i with
    | zero =>
      simp only [List.getElem?_cons_zero, Option.some.injEq] at h1 h2
      subst h1; subst h2
      exact hok
    | succ i => exact h.ok i o' T' (by simpa using h1) (by simpa using h2)
theorem callD_pure {P : Program} {f : FuncId} {args : List AVal} {L : LH} {v : AVal} {k : List Nat → AVal → LH → Prop} (h : Ev P f args [] (.ret v) []) (ha : closedL (fun _ => false) args = true) (hk : k [] v []) : CallD P (.fn f [] []) args L k := by
  refine ⟨v, [], [], [], ?_, fun r o ho => by simp [aget] at ho, ?_, fun r o ho => by simp [aget] at ho, fun r hr => by simp [inL, aget] at hr, fun r => .inl rfl, hk⟩
  · rw [List.append_nil, List.nil_append]; exact h
  · rw [List.append_nil, List.nil_append]
    exact ha
attribute [go_sem] opD looks rowsE rowsV upOf appW
end Go.Sk
namespace Go.Sk
open Go
theorem putObj_setO (w : World) (b : Nat) (o : Obj) : w.putObj b o = setO w b o := rfl
def lrec (st : LoopState) (pend : Option Code) (fn : FuncId) (tmps : Array Value) (ps : Array Tmp) (asg body : Code) (d : Nat) : Loop :=
  { state := st, pending := pend, fn, tmps, params := ps, assign := asg, body, defers := d }
theorem loop_at {P : Program} {ρ : Rho} {L : LH} {w : World} (hL : SatL P ρ L w) {r N : Nat} {st : LoopState} {pend : Option Code} {E : Env} {ps : Array Tmp} {asg body : Code}
    (hr : aget L r = some (.loop st pend N E ps asg body)) : ∃ b fn tmps d, ρ.m r = some (0, .loop b) ∧ w.heap[b]? = some (.loop (lrec st pend fn tmps ps asg body d)) ∧ tmps.size = N ∧
      ∀ t v, aget E t = some v → t < tmps.size ∧ VRel w ρ v (tmps.getD t undef) := by
  obtain ⟨l, h1, h2⟩ := hL.obj r _ hr
  cases l with
  | row _ _ _ => exact h2.elim
  | map _ => exact h2.elim
  | glob _ => exact h2.elim
  | loop b =>
    obtain ⟨fn, tmps, d, h3, h4, h5⟩ := h2
    exact ⟨b, fn, tmps, d, h1, h3, h4, h5⟩
theorem loop_set {P : Program} {ρ : Rho} {L : LH} {w : World} (hL : SatL P ρ L w) {r N b : Nat} {st : LoopState} {pend : Option Code} {E : Env} {ps : Array Tmp} {asg body : Code} {fn : FuncId} {tmps : Array Value} {d : Nat}
    (hr : aget L r = some (.loop st pend N E ps asg body)) (hm : ρ.m r = some (0, .loop b)) (hb : w.heap[b]? = some (.loop (lrec st pend fn tmps ps asg body d))) (st' : LoopState) (pend' : Option Code) :
    SatL P ρ (aset L r (.loop st' pend' N E ps asg body)) (setO w b (.loop (lrec st' pend' fn tmps ps asg body d))) ∧
    Fr All ρ w ρ (setO w b (.loop (lrec st' pend' fn tmps ps asg body d))) ∧ ∀ v c, VRel w ρ v c → VRel (setO w b (.loop (lrec st' pend' fn tmps ps asg body d))) ρ v c := by
  have hv : ∀ v c, VRel w ρ v c → VRel (setO w b (.loop (lrec st' pend' fn tmps ps asg body d))) ρ v c := fun v c h => h.setO hb rfl
  have hlt := (Array.getElem?_eq_some_iff.1 hb).1
  refine ⟨⟨fun q o ho => ?_, fun q x hx => ?_, hL.inj, hL.dis, fun q hq => by rw [setO_size]; exact hL.elt q hq⟩, ⟨rfl, rfl, rfl, by rw [setO_size]; exact Nat.le_refl _, fun q hq ho => ?_, fun _ _ h => h, rfl, fun q x _ hx => ⟨x, hx, .refl x⟩⟩, hv⟩
  · rw [aget_aset] at ho
    by_cases e : r = q
    · subst e
      simp only [if_true, Option.some.injEq] at ho
      subst ho
      obtain ⟨b', fn', tmps', d', h1, h2, h3, h4⟩ := loop_at hL hr
      rw [hm] at h1
      injection h1 with h1
      injection h1 with _ h1
      injection h1 with h1
      subst h1
      rw [hb] at h2
      simp only [Option.some.injEq, Obj.loop.injEq, lrec, Loop.mk.injEq, true_and, and_true] at h2
      obtain ⟨rfl, rfl, rfl⟩ := h2
      exact ⟨_, hm, fn, tmps, d, setO_same w _ hlt, h3, fun t v ht => ⟨(h4 t v ht).1, hv _ _ (h4 t v ht).2⟩⟩
    · rw [if_neg e] at ho
      obtain ⟨l, h1, h2⟩ := hL.obj q o ho
      exact ⟨l, h1, h2.setO hb rfl (fun hh => e (hL.inj r q _ _ b hm h1 rfl hh))⟩
  · rw [aget_aset]
    by_cases e : r = q
    · exact ⟨_, by rw [if_pos e]⟩
    · rw [if_neg e]; exact hL.dom q x hx
  · exact setO_other w _ (fun (e : q = b) => ho (e ▸ ⟨r, 0, _, hm, rfl⟩))
def putPs : List Nat → List AVal → Env → Env
  | p :: ps, v :: vs, E => putPs ps vs ((p, v) :: E)
  | _, _, E => E
theorem putPs_sound {ρ : Rho} {w : World} {vs : List AVal} {cs : List Value} (h : LsRel w ρ vs cs) : ∀ (ps : List Nat) {E : Env} {tmps : Array Value} {ds : List Deferred}, (∀ p ∈ ps, p < tmps.size) → SatE ρ E { tmps := tmps, defers := ds } w →
    SatE ρ (putPs ps vs E) { tmps := (ps.zip cs).foldl (fun tmps (x : Nat × Value) => tmps.setIfInBounds x.1 x.2) tmps, defers := ds } w ∧ ((ps.zip cs).foldl (fun tmps (x : Nat × Value) => tmps.setIfInBounds x.1 x.2) tmps).size = tmps.size := by
  induction h with
  | nil => intro ps E tmps ds _ hE; cases ps <;> exact ⟨hE, rfl⟩
  | @cons v c vs cs hv hs ih =>
    intro ps E tmps ds hp hE
    cases ps with
    | nil => exact ⟨hE, rfl⟩
    | cons p ps =>
      have := hE.put (N := tmps.size) rfl (d := some p) (hp p (by simp)) hv
      obtain ⟨h1, h2⟩ := ih ps (tmps := tmps.setIfInBounds p c) (ds := ds) (fun q hq => by simpa using hp q (by simp [hq])) (E := (p, v) :: E) (by simpa [Act.put, putE] using this)
      exact ⟨h1, by simpa using h2⟩
def RoundP (P : Program) (r : Nat) (out : Out) (L' : LH) : Ex → Env → LH → Prop
  | .normal, _, L => ∃ st pend N E ps asg body, aget L r = some (.loop st pend N E ps asg body) ∧ out = .ret (.dat (.bool true)) ∧ Wk P (aset L r (.loop .ready none N E ps asg body)) L'
  | .ret, _, L => ∃ st pend N E ps asg body, aget L r = some (.loop st pend N E ps asg body) ∧ out = .ret (.dat (.bool false)) ∧ Wk P (aset L r (.loop .done (some .ret) N E ps asg body)) L'
  | .exit i, _, L => ∃ st pend N E ps asg body, aget L r = some (.loop st pend N E ps asg body) ∧ out = .ret (.dat (.bool false)) ∧ Wk P (aset L r (.loop .done (some (.exit i)) N E ps asg body)) L'
  | _, _, _ => False
theorem RoundP.noGo {P : Program} {r : Nat} {out : Out} {L' : LH} : NoGo (RoundP P r out L') := fun _ _ _ h => h
def assignP (X : Cx) (r : Nat) (body : Code) (Q : Ex → Env → LH → Prop) : Ex → Env → LH → Prop
  | .normal, E, L => ∃ pend N E1 ps asg body', aget L r = some (.loop .ready pend N E1 ps asg body') ∧ AWP X body E (aset L r (.loop .busy pend N E1 ps asg body')) Q
  | _, _, _ => False
def rcx (P : Program) (N : Nat) (B : Bs) (L0 : LH) (F : Fence) (h : Wide F) : Cx := { P, N, B, K := ids L0, F, wide := h }
theorem EvY.of_awp {P : Program} {r N : Nat} {args : List AVal} {L L' : LH} {out : Out} {pend : Option Code} {E0 : Env} {ps : Array Tmp} {asg body : Code} (hr : aget L r = some (.loop .ready pend N E0 ps asg body))
    (hps : ps.size = args.length) (hN : ∀ p ∈ ps.toList, p < N) (hK : ∀ q, inL L q = true → inL L' q = true)
    (h : ∀ B F (hF : Wide F), AWP (rcx P N B L F hF) asg (putPs ps.toList args E0) L (assignP (rcx P N B L F hF) r body (RoundP P r out L'))) : EvY P r args L out L' := by
  intro ρ w cs g b hcs hL hm
  obtain ⟨b', fn, tmps, d, h1, h2, h3, h4⟩ := loop_at hL hr
  rw [hm] at h1
  injection h1 with h1
  injection h1 with e1 h1
  injection h1 with h1
  subst h1; subst e1
  have hl := hcs.len
  have hsz : cs.toArray.size = (lrec .ready pend fn tmps ps asg body d).params.size := by simp [lrec, hps, hl]
  refine ⟨fn, _, asg, body, run_yield h2 hsz, fun F hF => roundIn_of_wpIn (hF.fn _) ?_⟩
  have hE0 : SatE ρ E0 { tmps := tmps, defers := [] } w := fun t v ht => h4 t v ht
  obtain ⟨k1, k2⟩ := putPs_sound hcs ps.toList (fun p hp => by rw [h3]; exact hN p hp) hE0
  have efold : (((lrec .ready pend fn tmps ps asg body d).params.zip cs.toArray).foldl (fun tmps (x : Nat × Value) => tmps.setIfInBounds x.1 x.2) (lrec .ready pend fn tmps ps asg body d).tmps) = (ps.toList.zip cs).foldl (fun tmps (x : Nat × Value) => tmps.setIfInBounds x.1 x.2) tmps := by
    rw [← Array.foldl_toList]
    simp [lrec]
  have hS : Sat P N w.heap.size ρ (putPs ps.toList args E0) L { tmps := (ps.toList.zip cs).foldl (fun tmps (x : Nat × Value) => tmps.setIfInBounds x.1 x.2) tmps, defers := [] } w :=
    ⟨by rw [← h3]; exact k2, k1, hL, ⟨[], .nil, List.nodup_nil, by simp⟩, Nat.le_refl _⟩
  have hA := h w.heap.size (F.inRound b) (hF.inRound b) ρ _ w hS
  have e : ∀ {T1 T2 : Array Value}, T1 = T2 → asg.wpIn (F.inRound b) 0 P (Exit.then (fun a1 w1 => ∃ w2, (Instr.beginRound b).run P w1 = .ok () w2 ∧ body.wpIn (F.inRound b) 0 P (roundPost P b (fun e w' => ∃ ρ', OutR w' ρ' out e ∧ SatL P ρ' L' w' ∧ Fr All ρ w ρ' w')) a1 w2) (fun _ _ _ => False)) { tmps := T1, defers := [] } w →
      asg.wpIn (F.inRound b) 0 P (Exit.then (fun a1 w1 => ∃ w2, (Instr.beginRound b).run P w1 = .ok () w2 ∧ body.wpIn (F.inRound b) 0 P (roundPost P b (fun e w' => ∃ ρ', OutR w' ρ' out e ∧ SatL P ρ' L' w' ∧ Fr All ρ w ρ' w')) a1 w2) (fun _ _ _ => False)) { tmps := T2, defers := [] } w := fun h => h ▸ id
  refine e efold.symm (wpIn_mono hA (fun e1 a1 w1 hh => ?_))
  obtain ⟨ρ1, E1, L1, x, q1, q2, q3, q4⟩ := hh
  cases x with
  | normal =>
    cases e1 <;> first | exact q1.elim | skip
    obtain ⟨pend1, N1, E1', ps1, asg1, body1, hr1, hB⟩ := q2
    obtain ⟨b1, fn1, tmps1, d1, g1, g2, g3, g4⟩ := loop_at q3.heap hr1
    have hbb : b1 = b := by
      obtain ⟨y, hy, hle⟩ := q4.keep r _ (by simp [rcx, ids, hr]) hm
      rw [hy] at g1
      have := hle.2.2.2 rfl
      subst this
      injection g1 with g1
      injection g1 with _ g1
      injection g1 with g1
      exact g1.symm
    subst hbb
    obtain ⟨s1, s2, s3⟩ := loop_set q3.heap hr1 g1 g2 .busy pend1
    refine ⟨_, run_beginRound g2 rfl, ?_⟩
    rw [putObj_setO]
    have hS1 : Sat P N w.heap.size ρ1 E1 (aset L1 r (.loop .busy pend1 N1 E1' ps1 asg1 body1)) a1 (setO w1 b1 (.loop (lrec .busy pend1 fn1 tmps1 ps1 asg1 body1 d1))) := by
      have := q3.put s1 s2 (d := none) (v := .tup []) (c := undef) trivial (VRel.tup0 ..)
      simp only [Act.put, putE] at this
      exact this
    refine wpIn_mono (hB ρ1 a1 _ hS1) (fun e2 a2 w2 hh2 => ?_)
    obtain ⟨ρ2, E2, L2, x2, p1, p2, p3, p4⟩ := hh2
    -- the end
    have fin : ∀ (st' : LoopState) (pend' jump : Option Code), (∃ st pend N E ps asg body, aget L2 r = some (.loop st pend N E ps asg body) ∧ out = .ret (.dat (.bool jump.isNone)) ∧ Wk P (aset L2 r (.loop (if jump.isNone then .ready else .done) jump N E ps asg body)) L') →
        ∃ v w', (Instr.endRound b1 jump).run P w2 = .ok v w' ∧ ∃ ρ', OutR w' ρ' out (.returned v) ∧ SatL P ρ' L' w' ∧ Fr All ρ w ρ' w' := by
      rintro st' pend' jump ⟨st2, pend2, N2, E2', ps2, asg2, body2, hr2, ho, hk⟩
      obtain ⟨b2, fn2, tmps2, d2, z1, z2, z3, z4⟩ := loop_at p3.heap hr2
      have hbb : b2 = b1 := by
        obtain ⟨y, hy, hle⟩ := p4.keep r _ (by simp [rcx, ids, hr]) g1
        rw [hy] at z1
        have := hle.2.2.2 rfl
        subst this
        injection z1 with z1
        injection z1 with _ z1
        injection z1 with z1
        exact z1.symm
      subst hbb
      obtain ⟨t1, t2, t3⟩ := loop_set p3.heap hr2 z1 z2 (if jump.isNone then .ready else .done) jump
      have htot : Fr (ids L) ρ w ρ2 (setO w2 b2 (.loop (lrec (if jump.isNone then .ready else .done) jump fn2 tmps2 ps2 asg2 body2 d2))) :=
        ((Fr.trans q4 (s2.mono (fun _ _ => trivial))).trans p4).trans (t2.mono (fun _ _ => trivial))
      refine ⟨_, _, run_endRound jump z2, restr ρ2 (inL L'), ?_, hk.sound t1, ?_⟩
      · rw [ho]
        exact .dat (.bool _)
      · refine ⟨htot.os, htot.tape, htot.output, htot.size, htot.blk, fun q hq hq2 => ?_, htot.ext, fun q x _ hx => ?_⟩
        · obtain ⟨r', g', l', u1, u2⟩ := hq2
          exact htot.new q hq ⟨r', g', l', (restr_m u1).2, u2⟩
        · obtain ⟨o, ho⟩ := hL.dom q x hx
          have hin : inL L q = true := by simp [inL, ho]
          obtain ⟨y, hy, hle⟩ := htot.keep q x hin hx
          exact ⟨y, by simp [restr, hK q hin, hy], hle⟩
    cases x2 with
    | normal =>
      cases e2 <;> first | exact p1.elim | skip
      exact fin .ready none none p2
    | ret =>
      cases e2 <;> first | exact p1.elim | skip
      exact fin .ready none (some .ret) p2
    | exit i =>
      cases e2 <;> first | exact p1.elim | skip
      have p1 : i = _ := p1
      subst p1
      exact fin .ready none (some (.exit i)) p2
    | goto l => exact p2.elim
    | panic v => exact p2.elim
  | _ => exact q2.elim
def behind (Q : Ex → Env → LH → Prop) (E : Env) (L : LH) : Option Code → Prop
  | none => Q .normal E L
  | some .ret => Q .ret E L
  | some (.exit i) => Q (.exit i) E L
  | _ => False
theorem awp_rangeFunc {X : Cx} {E : Env} {L : LH} {Q : Ex → Env → LH → Prop} {g : Operand} {ps : Array Tmp} {asg body : Code} (r : Nat) {f : FuncId} {bs caps : List AVal} {v : AVal} {L1 : LH} (E0 : Env) {st : LoopState} {pend : Option Code} {N' : Nat} {E' : Env} {ps' : Array Tmp} {asg' body' : Code}
    (hro : X.F.round = none) (hg : ev E g = some (.fn f bs caps)) (hr : aget L r = none) (hE0 : ∀ t v, aget E0 t = some v → aget E t = some v)
    (hev : Ev X.P f (bs ++ .yld r :: caps) (aset L r (.loop .ready none X.N E0 ps asg body)) (.ret v) L1) (hl : aget L1 r = some (.loop st pend N' E' ps' asg' body')) (hst : st ≠ .busy)
    (hQ : behind Q E (aset L1 r (.loop .exhausted pend N' E' ps' asg' body')) pend) : AWP X (.rangeFunc g ps asg body) E L Q := fun ρ a w hS => by
  refine wpIn_rangeFunc (fun fn hfn => ?_)
  have hgv := hS.env.ev hg
  cases hfr : a.eval g with
  | func fn' first captured =>
    rw [hfr] at hgv
    cases hgv with
    | fn hs0 hh0 hs hh =>
      rw [hro]
      have hen := hev.1
      generalize hW1 : (w.alloc (.deferred (some []))).alloc (.loop (lrec .ready none fn a.tmps ps asg body w.heap.size)) = W1
      have hgrow : w.grownBy W1 none := by rw [← hW1]; exact (World.grownBy_alloc w _ none).trans (World.grownBy_alloc _ _ none)
      have hb1 : W1.heap[w.heap.size + 1]? = some (.loop (lrec .ready none fn a.tmps ps asg body w.heap.size)) := by
        rw [← hW1]; have := World.alloc_heap_new (w.alloc (.deferred (some []))) (.loop (lrec .ready none fn a.tmps ps asg body w.heap.size)); rwa [World.size_alloc] at this
      have hd1 : W1.heap[w.heap.size]? = some (.deferred (some [])) := by
        rw [← hW1, (World.grownBy_alloc (w.alloc (.deferred (some []))) _ none).block w.heap.size (by simp) (by simp)]; exact World.alloc_heap_new w _
      have hsz1 : W1.heap.size = w.heap.size + 2 := by rw [← hW1]; simp
      have hρ : ρ.m r = none := by
        cases h : ρ.m r with
        | none => rfl
        | some x => obtain ⟨o, ho⟩ := hS.heap.dom r x h; rw [hr] at ho; simp at ho
      have hob : ∀ b, (none : Option Nat) = some b → ∃ x, ρ.m r = some x ∧ x.2.blk = some b := fun b h => by simp at h
      have hv1 : ∀ b, (CLoc.loop (w.heap.size + 1)).blk = some b → (none : Option Nat) = some b ∨ w.heap.size ≤ b := fun b h => by
        simp only [CLoc.blk, Option.some.injEq] at h; right; omega
      have hle : ∀ x, ρ.m r = some x → LocLe x (0, CLoc.loop (w.heap.size + 1)) := fun x h => by rw [hρ] at h; simp at h
      have hf1 := upd_fr (l := CLoc.loop (w.heap.size + 1)) (g := 0) hS.heap hob hgrow hv1 hle
      have hE1 := hS.env.fr hf1
      have hL1 := upd_sat (o := .loop .ready none X.N E0 ps asg body) hS.heap hob hgrow hv1 hle rfl ⟨fn, a.tmps, w.heap.size, hb1, hS.n, fun t v ht => hE1 t v (hE0 t v ht)⟩
      refine ⟨w.heap.size + 1, [{ target := .collected w.heap.size, args := #[] }], W1, { target := .fn (.func f) captured, args := first ++ #[.func (.yield (w.heap.size + 1)) #[] #[]] }, W1, f,
        first ++ #[.func (.yield (w.heap.size + 1)) #[] #[]] ++ captured, W1, by rw [← hW1]; exact run_enterLoop_outer _ _ _ _ _, ?_, fun f' _ => X.wide.fn f', ?_, fun h => by rw [X.wide.depth] at h; simp at h, ?_⟩
      · simp only [resolve, hfr]
        simp [go_sem]
      · simp [invoke, run_callFunc hen]
      · have hargs : LsRel W1 (upd ρ r (0, .loop (w.heap.size + 1))) (bs ++ .yld r :: caps) (first.toList ++ .func (.yield (w.heap.size + 1)) #[] #[] :: captured.toList) := LsRel.append (LsRel.of_cs (by
            have : VRel W1 (upd ρ r (0, .loop (w.heap.size + 1))) (.fn f bs caps) (.func (.func f) first captured) := (VRel.fn hs0 hh0 hs hh).fr hf1
            cases this with
            | fn hs0 hh0 hs hh => simpa using ⟨hs0, hh0⟩)) (
          .cons (.yld (upd_same ..)) (LsRel.of_cs (by
            have : VRel W1 (upd ρ r (0, .loop (w.heap.size + 1))) (.fn f bs caps) (.func (.func f) first captured) := (VRel.fn hs0 hh0 hs hh).fr hf1
            cases this with
            | fn hs0 hh0 hs hh => simpa using ⟨hs, hh⟩)))
        have := hev.2 _ W1 _ hargs hL1
        have e2 : (first ++ #[.func (.yield (w.heap.size + 1)) #[] #[]] ++ captured : Array Value) = (first.toList ++ Value.func (.yield (w.heap.size + 1)) #[] #[] :: captured.toList).toArray := by simp
        rw [e2]
        refine CallsIn.wide X.wide (this.mono fun e w' he => ?_) _
        obtain ⟨ρ', h1, h2, h3⟩ := he
        cases e with
        | panicked ch => exact h1.elim
        | outgrown => exact h1.elim
        | returned c =>
          obtain ⟨b2, fn2, tmps2, d2, z1, z2, z3, z4⟩ := loop_at h2 hl
          have hbb : b2 = w.heap.size + 1 := by
            obtain ⟨y, hy, hle⟩ := h3.keep r _ trivial (upd_same ..)
            rw [hy] at z1
            have := hle.2.2.2 rfl
            subst this
            injection z1 with z1
            injection z1 with _ z1
            injection z1 with z1
            exact z1.symm
          subst hbb
          obtain ⟨t1, t2, t3⟩ := loop_set h2 hl z1 z2 .exhausted pend
          have hfr2 := hf1.trans (h3.trans t2)
          refine ⟨_, _, run_endLoop z2 hst, ?_⟩
          rw [putObj_setO]
          have hmark : (setO w' (w.heap.size + 1) (.loop (lrec .exhausted pend fn2 tmps2 ps' asg' body' d2))).heap[w.heap.size]? = some (.deferred (some [])) := by
            rw [setO_other _ _ (by omega), h3.blk _ (by omega) ?_, hd1]
            rintro ⟨q, g', l', u1, u2⟩
            by_cases e : q = r
            · subst e
              rw [upd_same] at u1
              injection u1 with u1
              injection u1 with _ u1
              subst u1
              simp only [CLoc.blk, Option.some.injEq] at u2
              omega
            · rw [upd_ne ρ _ e] at u1
              have := hS.heap.lt ⟨q, g', l', u1, u2⟩
              omega
          have hS2 : Sat X.P X.N X.B ρ' E (aset L1 r (.loop .exhausted pend N' E' ps' asg' body')) { a with defers := [{ target := .collected w.heap.size, args := #[] }] ++ a.defers } (setO w' (w.heap.size + 1) (.loop (lrec .exhausted pend fn2 tmps2 ps' asg' body' d2))) := by
            refine ⟨hS.n, fun t v ht => (hS.env.fr hfr2) t v ht, t1, ?_, Nat.le_trans hS.base hfr2.size⟩
            obtain ⟨ms, m1, m2, m3⟩ := hS.marks.fr hfr2
            obtain ⟨ms', m1', m2', m3'⟩ := hS.marks
            have hms : ms = ms' := m1.uniq m1'
            subst hms
            refine ⟨w.heap.size :: ms, .mark _ m1, List.nodup_cons.2 ⟨fun hm => ?_, m2⟩, fun b hb => ?_⟩
            · have := (Array.getElem?_eq_some_iff.1 (m3' _ hm).2.2).1
              omega
            · rcases List.mem_cons.1 hb with rfl | hb
              · refine ⟨hS.base, fun hown => ?_, hmark⟩
                have h5 := h3.new _ (by omega) hown
                obtain ⟨q, g', l', u1, u2⟩ := h5
                by_cases e : q = r
                · subst e
                  rw [upd_same] at u1
                  injection u1 with u1
                  injection u1 with _ u1
                  subst u1
                  simp only [CLoc.blk, Option.some.injEq] at u2
                  omega
                · rw [upd_ne ρ _ e] at u1
                  have := hS.heap.lt ⟨q, g', l', u1, u2⟩
                  omega
              · exact m3 b hb
          have hk := hfr2.mono (K' := X.K) (fun _ _ => trivial)
          cases pend with
          | none => exact ⟨ρ', E, _, .normal, trivial, hQ, hS2, hk⟩
          | some c =>
            cases c <;> first | exact hQ.elim | skip
            · exact wpIn_exit ⟨ρ', E, _, .exit _, rfl, hQ, hS2, hk⟩
            · exact wpIn_ret ⟨ρ', E, _, .ret, trivial, hQ, hS2, hk⟩
  | _ => rw [hfr] at hgv; cases hgv
end Go.Sk
namespace Go.Sk
open Go
def RetP0 (P : Program) (rs : List ResultVar) (v : AVal) (L' : LH) : Ex → Env → LH → Prop
  | .normal, E, L => resV P L E rs = some v ∧ L = L'
  | .ret, E, L => resV P L E rs = some v ∧ L = L'
  | _, _, _ => False
theorem Ev.of_body0 {P : Program} {f : FuncId} {fn : Func} {c : Code} {args : List AVal} {L0 L' : LH} {v : AVal} (hf : P.funcs[f]? = some fn) (hb : fn.body = some c) (hen : enters P f = true)
    (hlen : args.length ≤ fn.ntmps) (h : ∀ B, AWP (rcx P fn.ntmps B L0 Fence.wide Wide.wide) c (argE 0 args) L0 (RetP0 P fn.results.toList v L')) : Ev P f args L0 (.ret v) L' := by
  refine ⟨hen, fun ρ w cs hcs hL => callsIn_of_wp_marks hf hb trivial ?_ rfl⟩
  have hl := hcs.len
  have hS : Sat P fn.ntmps w.heap.size ρ (argE 0 args) L0 { tmps := cs.toArray ++ Array.replicate (fn.ntmps - cs.toArray.size) undef, defers := [] } w := by
    refine ⟨by simp; omega, fun t v ht => ?_, hL, ⟨[], .nil, List.nodup_nil, by simp⟩, Nat.le_refl _⟩
    obtain ⟨j, rfl, hj⟩ := argE_get ht
    obtain ⟨c, hc, hv⟩ := hcs.get hj
    have hjl : j < cs.length := (List.getElem?_eq_some_iff.1 hc).1
    refine ⟨by simp; omega, ?_⟩
    have e : (cs.toArray ++ Array.replicate (fn.ntmps - cs.toArray.size) undef).getD (0 + j) undef = c := by
      rw [Nat.zero_add]
      simp only [Array.getD_eq_getD_getElem?]
      rw [Array.getElem?_append_left (by simpa using hjl)]
      simp [hc]
    rw [e]
    exact hv
  refine wpIn_mono (h w.heap.size ρ _ w hS) (fun e a' w' hh => ?_)
  obtain ⟨ρ', E', L1, x, h1, h2, h3, h4⟩ := hh
  obtain ⟨ms, m1, m2, m3⟩ := h3.marks
  replace m1 : a'.defers = ms.map mk1 := m1.plain
  have hm := marks_fold (P := P) (ρ := ρ') (L := L1) (B := w.heap.size) ms w' m2 m3 h3.heap
  generalize hw2 : ms.foldl (fun w b => setO w b (.deferred none)) w' = w2 at hm
  obtain ⟨g1, g2, g3, g4, g5, g6, g7, g8⟩ := hm
  have good : resV P L1 E' fn.results.toList = some v → L1 = L' →
      LeavesInM Fence.wide 0 P fn a'.tmps (fun e w' => ∃ ρ', OutR w' ρ' (.ret v) e ∧ SatL P ρ' L' w' ∧ Fr All ρ w ρ' w') a'.defers .returning w' := by
    intro hv hk
    subst hk
    rw [m1]
    refine leaves_marks (ρ := ρ') (L := L1) _ (by simp) ms w' m2 (fun b hb => (m3 b hb).2) ?_
    rw [hw2]
    obtain ⟨c, r1, r2⟩ := resV_sound (g3 a' E' h3.env) g1 hv
    refine ⟨c, r1, ρ', r2, g1, g4.trans h4.os, g5.trans h4.tape, g6.trans h4.output, by rw [g7]; exact h4.size, fun b hb ho => ?_, h4.new, h4.ext, fun r x _ hx => ?_⟩
    · rw [g8 b hb]; exact h4.blk b hb ho
    · obtain ⟨o, ho⟩ := hL.dom r x hx
      exact h4.keep r x (by simp [rcx, ids, ho]) hx
  cases x with
  | normal =>
    cases e <;> first | exact h1.elim | skip
    exact good h2.1 h2.2
  | ret =>
    cases e <;> first | exact h1.elim | skip
    exact good h2.1 h2.2
  | _ => exact h2.elim
def RoundP0 (r : Nat) (v : AVal) (L' : LH) : Ex → Env → LH → Prop
  | .normal, _, L => ∃ st pend N E ps asg body, aget L r = some (.loop st pend N E ps asg body) ∧ v = .dat (.bool true) ∧ L' = aset L r (.loop .ready none N E ps asg body)
  | .ret, _, L => ∃ st pend N E ps asg body, aget L r = some (.loop st pend N E ps asg body) ∧ v = .dat (.bool false) ∧ L' = aset L r (.loop .done (some .ret) N E ps asg body)
  | .exit i, _, L => ∃ st pend N E ps asg body, aget L r = some (.loop st pend N E ps asg body) ∧ v = .dat (.bool false) ∧ L' = aset L r (.loop .done (some (.exit i)) N E ps asg body)
  | _, _, _ => False
theorem EvY.of_awp0 {P : Program} {r N : Nat} {args : List AVal} {L L' : LH} {v : AVal} {pend : Option Code} {E0 : Env} {ps : Array Tmp} {asg body : Code} (hr : aget L r = some (.loop .ready pend N E0 ps asg body))
    (hps : ps.size = args.length) (hN : ∀ p ∈ ps.toList, p < N)
    (h : ∀ B F (hF : Wide F), AWP (rcx P N B L F hF) asg (putPs ps.toList args E0) L (assignP (rcx P N B L F hF) r body (RoundP0 r v L'))) : EvY P r args L (.ret v) L' := by
  intro ρ w cs g b hcs hL hm
  obtain ⟨b', fn, tmps, d, h1, h2, h3, h4⟩ := loop_at hL hr
  rw [hm] at h1
  injection h1 with h1
  injection h1 with e1 h1
  injection h1 with h1
  subst h1; subst e1
  have hl := hcs.len
  have hsz : cs.toArray.size = (lrec .ready pend fn tmps ps asg body d).params.size := by simp [lrec, hps, hl]
  refine ⟨fn, _, asg, body, run_yield h2 hsz, fun F hF => roundIn_of_wpIn (hF.fn _) ?_⟩
  have hE0 : SatE ρ E0 { tmps := tmps, defers := [] } w := fun t v ht => h4 t v ht
  obtain ⟨k1, k2⟩ := putPs_sound hcs ps.toList (fun p hp => by rw [h3]; exact hN p hp) hE0
  have efold : (((lrec .ready pend fn tmps ps asg body d).params.zip cs.toArray).foldl (fun tmps (x : Nat × Value) => tmps.setIfInBounds x.1 x.2) (lrec .ready pend fn tmps ps asg body d).tmps) = (ps.toList.zip cs).foldl (fun tmps (x : Nat × Value) => tmps.setIfInBounds x.1 x.2) tmps := by
    rw [← Array.foldl_toList]
    simp [lrec]
  have hS : Sat P N w.heap.size ρ (putPs ps.toList args E0) L { tmps := (ps.toList.zip cs).foldl (fun tmps (x : Nat × Value) => tmps.setIfInBounds x.1 x.2) tmps, defers := [] } w :=
    ⟨by rw [← h3]; exact k2, k1, hL, ⟨[], .nil, List.nodup_nil, by simp⟩, Nat.le_refl _⟩
  have hA := h w.heap.size (F.inRound b) (hF.inRound b) ρ _ w hS
  have e : ∀ {T1 T2 : Array Value}, T1 = T2 → asg.wpIn (F.inRound b) 0 P (Exit.then (fun a1 w1 => ∃ w2, (Instr.beginRound b).run P w1 = .ok () w2 ∧ body.wpIn (F.inRound b) 0 P (roundPost P b (fun e w' => ∃ ρ', OutR w' ρ' (.ret v) e ∧ SatL P ρ' L' w' ∧ Fr All ρ w ρ' w')) a1 w2) (fun _ _ _ => False)) { tmps := T1, defers := [] } w →
      asg.wpIn (F.inRound b) 0 P (Exit.then (fun a1 w1 => ∃ w2, (Instr.beginRound b).run P w1 = .ok () w2 ∧ body.wpIn (F.inRound b) 0 P (roundPost P b (fun e w' => ∃ ρ', OutR w' ρ' (.ret v) e ∧ SatL P ρ' L' w' ∧ Fr All ρ w ρ' w')) a1 w2) (fun _ _ _ => False)) { tmps := T2, defers := [] } w := fun h => h ▸ id
  refine e efold.symm (wpIn_mono hA (fun e1 a1 w1 hh => ?_))
  obtain ⟨ρ1, E1, L1, x, q1, q2, q3, q4⟩ := hh
  cases x with
  | normal =>
    cases e1 <;> first | exact q1.elim | skip
    obtain ⟨pend1, N1, E1', ps1, asg1, body1, hr1, hB⟩ := q2
    obtain ⟨b1, fn1, tmps1, d1, g1, g2, g3, g4⟩ := loop_at q3.heap hr1
    have hbb : b1 = b := by
      obtain ⟨y, hy, hle⟩ := q4.keep r _ (by simp [rcx, ids, hr]) hm
      rw [hy] at g1
      have := hle.2.2.2 rfl
      subst this
      injection g1 with g1
      injection g1 with _ g1
      injection g1 with g1
      exact g1.symm
    subst hbb
    obtain ⟨s1, s2, s3⟩ := loop_set q3.heap hr1 g1 g2 .busy pend1
    refine ⟨_, run_beginRound g2 rfl, ?_⟩
    rw [putObj_setO]
    have hS1 : Sat P N w.heap.size ρ1 E1 (aset L1 r (.loop .busy pend1 N1 E1' ps1 asg1 body1)) a1 (setO w1 b1 (.loop (lrec .busy pend1 fn1 tmps1 ps1 asg1 body1 d1))) := by
      have := q3.put s1 s2 (d := none) (v := .tup []) (c := undef) trivial (VRel.tup0 ..)
      simp only [Act.put, putE] at this
      exact this
    refine wpIn_mono (hB ρ1 a1 _ hS1) (fun e2 a2 w2 hh2 => ?_)
    obtain ⟨ρ2, E2, L2, x2, p1, p2, p3, p4⟩ := hh2
    have fin : ∀ (jump : Option Code), (∃ st pend N E ps asg body, aget L2 r = some (.loop st pend N E ps asg body) ∧ v = .dat (.bool jump.isNone) ∧ L' = aset L2 r (.loop (if jump.isNone then .ready else .done) jump N E ps asg body)) →
        ∃ v' w', (Instr.endRound b1 jump).run P w2 = .ok v' w' ∧ ∃ ρ', OutR w' ρ' (.ret v) (.returned v') ∧ SatL P ρ' L' w' ∧ Fr All ρ w ρ' w' := by
      rintro jump ⟨st2, pend2, N2, E2', ps2, asg2, body2, hr2, ho, hk⟩
      obtain ⟨b2, fn2, tmps2, d2, z1, z2, z3, z4⟩ := loop_at p3.heap hr2
      have hbb : b2 = b1 := by
        obtain ⟨y, hy, hle⟩ := p4.keep r _ (by simp [rcx, ids, hr]) g1
        rw [hy] at z1
        have := hle.2.2.2 rfl
        subst this
        injection z1 with z1
        injection z1 with _ z1
        injection z1 with z1
        exact z1.symm
      subst hbb
      obtain ⟨t1, t2, t3⟩ := loop_set p3.heap hr2 z1 z2 (if jump.isNone then .ready else .done) jump
      have htot : Fr (ids L) ρ w ρ2 (setO w2 b2 (.loop (lrec (if jump.isNone then .ready else .done) jump fn2 tmps2 ps2 asg2 body2 d2))) :=
        ((Fr.trans q4 (s2.mono (fun _ _ => trivial))).trans p4).trans (t2.mono (fun _ _ => trivial))
      refine ⟨_, _, run_endRound jump z2, ρ2, ?_, by rw [hk]; exact t1, ?_⟩
      · rw [ho]
        exact .dat (.bool _)
      · refine ⟨htot.os, htot.tape, htot.output, htot.size, htot.blk, htot.new, htot.ext, fun q x _ hx => ?_⟩
        obtain ⟨o, ho⟩ := hL.dom q x hx
        exact htot.keep q x (by simp [ids, ho]) hx
    cases x2 with
    | normal =>
      cases e2 <;> first | exact p1.elim | skip
      exact fin none p2
    | ret =>
      cases e2 <;> first | exact p1.elim | skip
      exact fin (some .ret) p2
    | exit i =>
      cases e2 <;> first | exact p1.elim | skip
      have p1 : i = _ := p1
      subst p1
      exact fin (some (.exit i)) p2
    | goto l => exact p2.elim
    | panic v => exact p2.elim
  | _ => exact q2.elim
end Go.Sk