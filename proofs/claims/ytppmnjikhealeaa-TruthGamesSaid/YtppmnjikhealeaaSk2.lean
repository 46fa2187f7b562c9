/- A part of the proofs of this seat: stores, appends, compares, conversions, builtins; one operation. It has no conditions. -/
import Derived.Test.YtppmnjikhealeaaSk1
import Derived.Maps.AppendAt
import Derived.Laws.BytesArg
import Derived.Laws.Small
import Derived.Laws.Pointers
import Derived.Laws.Build
import Derived.Laws.StructEq
set_option linter.unusedVariables false
set_option linter.unusedSimpArgs false
namespace Go.Sk
open Go
def zCells (P : Program) (t : TypeId) : Option (List AVal) :=
  (P.info? t).bind fun i => i.zero.bind fun z =>
    if z.cells.size = i.size ∧ 0 < i.size then some (z.cells.toList.map ofConst) else none
theorem zCells_spec {P : Program} {t : TypeId} {zc : List AVal} (h : zCells P t = some zc) : ∃ i z, P.info? t = some i ∧ i.zero = some z ∧ z.cells.size = i.size ∧ 0 < i.size ∧ zc = z.cells.toList.map ofConst ∧ zc.length = P.cellsOf t ∧
    ∀ w, (zeroValue t).run P w = .ok z w := by
  unfold zCells at h
  obtain ⟨i, hi, h⟩ := Option.bind_eq_some_iff.1 h
  obtain ⟨z, hz, h⟩ := Option.bind_eq_some_iff.1 h
  split at h
  · rename_i hh
    injection h with h
    subst h
    exact ⟨i, z, hi, hz, hh.1, hh.2, rfl, by simp [Program.cellsOf, hi, hh.1], fun w => by simp [zeroValue, typeInfo, hi, hz]⟩
  · simp at h
def allSc (vs : List AVal) : Bool := vs.all sc
theorem getD_toList (A : Array Value) (i : Nat) : A.toList.getD i undef = A.getD i undef := by
  simp [List.getD, Array.getD_eq_getD_getElem?]
theorem one_row {P : Program} {ρ : Rho} {L : LH} {w : World} (hL : SatL P ρ L w) {r t : Nat} {vs : List AVal} {C : Array Value}
    (hr : aget L r = none) (hlen : vs.length = P.cellsOf t) (h0 : 0 < vs.length) (hsc : allSc vs = true) (hC : CsRel w ρ vs C) :
    ∃ ρ', SatL P ρ' (aset L r (.row 0 t [vs])) (w.alloc (.cells C t)) ∧ Fr All ρ w ρ' (w.alloc (.cells C t)) ∧
      VRel (w.alloc (.cells C t)) ρ' (.ptr r 0 0 0) (.pointer (some ⟨w.heap.size, 0, none⟩)) := by
  have hg : w.grownBy (w.alloc (.cells C t)) none := World.grownBy_alloc w _ none
  have hown := World.ownsRow_lit (e := t) (base := w.heap.size) (size := P.cellsOf t) w C 1 (Nat.le_refl _) (by simp [maxLen]) (by rw [hC.1, hlen, Nat.one_mul])
  obtain ⟨h1, h2⟩ := new_row (g := 0) hL (by simp) (r := r) (e := t) (sz := P.cellsOf t) (els := [vs]) hr hg rfl (by omega) (by simpa using hlen) hown (fun i x hi => by
    simp only [List.flatten_cons, List.flatten_nil, List.append_nil] at hi
    refine ⟨List.all_eq_true.1 hsc x (List.mem_of_getElem? hi), ?_⟩
    rw [getD_toList]
    exact hC.2 i x hi)
  exact ⟨_, h1, h2, .ptr (upd_same ..) (Nat.le_refl _) (fun _ => ⟨_, _, _, rfl, by simp⟩)⟩
def stBox (P : Program) (L : LH) (r t : Nat) (v : AVal) : Option (AVal × LH) :=
  (acells v).bind fun vs => if (aget L r).isNone = true ∧ vs.length = P.cellsOf t ∧ 0 < vs.length ∧ allSc vs = true then some (.ptr r 0 0 0, aset L r (.row 0 t [vs])) else none
theorem stBox_sound {P : Program} {L L' : LH} {r t : Nat} {v u : AVal} (h : stBox P L r t v = some (u, L')) {ρ : Rho} {w : World} (hL : SatL P ρ L w) {c : Value} (hv : VRel w ρ v c) :
    ∃ c' w' ρ', (Instr.box t c).run P w = .ok c' w' ∧ VRel w' ρ' u c' ∧ SatL P ρ' L' w' ∧ Fr All ρ w ρ' w' := by
  unfold stBox at h
  obtain ⟨vs, hvs, h⟩ := Option.bind_eq_some_iff.1 h
  split at h
  · rename_i hh
    obtain ⟨h1, h2, h3, h4⟩ := hh
    injection h with h
    injection h with e1 e2
    subst e1; subst e2
    obtain ⟨ρ', g1, g2, g3⟩ := one_row hL (by simpa using h1) h2 h3 h4 (acells_sound hvs hv)
    exact ⟨_, _, ρ', by simp [Instr.box, newVar, newRow], g3, g1, g2⟩
  · simp at h
def stAlloc (P : Program) (L : LH) (r t : Nat) : Option (AVal × LH) :=
  (zCells P t).bind fun vs => if (aget L r).isNone = true ∧ allSc vs = true then some (.ptr r 0 0 0, aset L r (.row 0 t [vs])) else none
theorem stAlloc_sound {P : Program} {L L' : LH} {r t : Nat} {u : AVal} (h : stAlloc P L r t = some (u, L')) {ρ : Rho} {w : World} (hL : SatL P ρ L w) :
    ∃ c' w' ρ', (Instr.alloc t true (.tuple #[])).run P w = .ok c' w' ∧ VRel w' ρ' u c' ∧ SatL P ρ' L' w' ∧ Fr All ρ w ρ' w' := by
  unfold stAlloc at h
  obtain ⟨vs, hvs, h⟩ := Option.bind_eq_some_iff.1 h
  obtain ⟨i, z, hi, hz, hzs, h0, rfl, hlen, hrun⟩ := zCells_spec hvs
  split at h
  · rename_i hh
    obtain ⟨h1, h4⟩ := hh
    injection h with h
    injection h with e1 e2
    subst e1; subst e2
    obtain ⟨ρ', g1, g2, g3⟩ := one_row (t := t) hL (by simpa using h1) hlen (by simp [hzs, h0]) h4 (CsRel.const w ρ z.cells)
    exact ⟨_, _, ρ', by simp [Instr.alloc, newVar, newRow, hrun], g3, g1, g2⟩
  · simp at h
def asetEls : List (List AVal) → Nat → List (Nat × AVal) → Option (List (List AVal))
  | els, _, [] => some els
  | els, sz, (i, v) :: rest => (acells v).bind fun vs => if vs.length = sz ∧ i < els.length ∧ allSc vs = true then asetEls (els.set i vs) sz rest else none
theorem set_flatten {α : Type} : ∀ {els : List (List α)} {sz : Nat}, (∀ el ∈ els, el.length = sz) → ∀ {i : Nat} {vs : List α}, vs.length = sz → i < els.length →
    (els.set i vs).flatten = setRange els.flatten (i * sz) vs
  | [], _, _, i, _, _, h => by simp at h
  | e :: els, sz, hsz, 0, vs, hv, _ => by
    have he : e.length = sz := hsz e (by simp)
    simp only [List.set_cons_zero, List.flatten_cons, Nat.zero_mul, setRange, List.take_zero, List.nil_append, Nat.zero_add]
    rw [List.drop_append, List.drop_of_length_le (by omega), hv, he]
    simp
  | e :: els, sz, hsz, i + 1, vs, hv, h => by
    have he : e.length = sz := hsz e (by simp)
    simp only [List.set_cons_succ, List.flatten_cons]
    rw [set_flatten (fun el hel => hsz el (by simp [hel])) hv (by simpa using h)]
    unfold setRange
    have e1 : (i + 1) * sz = sz + i * sz := by rw [Nat.succ_mul]; omega
    rw [e1, List.take_append, List.drop_append, List.take_of_length_le (l := e) (by omega), List.drop_of_length_le (l := e) (by omega), he]
    simp only [List.append_assoc, List.nil_append]
    congr 2
    · congr 1; omega
    · congr 2; omega
theorem asetEls_fill {sz : Nat} : ∀ {parts : List (Nat × AVal)} {els out : List (List AVal)}, asetEls els sz parts = some out → (∀ el ∈ els, el.length = sz) → (∀ el ∈ els, allSc el = true) →
    afill (.stride sz) els.flatten parts = some out.flatten ∧ out.length = els.length ∧ (∀ el ∈ out, el.length = sz) ∧ (∀ el ∈ out, allSc el = true)
  | [], els, out, h, hsz, hsc => by
    simp only [asetEls, Option.some.injEq] at h
    subst h
    exact ⟨rfl, rfl, hsz, hsc⟩
  | (i, v) :: rest, els, out, h, hsz, hsc => by
    simp only [asetEls] at h
    obtain ⟨vs, hvs, h⟩ := Option.bind_eq_some_iff.1 h
    split at h
    · rename_i hh
      obtain ⟨h1, h2, h3⟩ := hh
      obtain ⟨g1, g2, g3, g4⟩ := asetEls_fill h (fun el hel => by
          rcases List.mem_or_eq_of_mem_set hel with h | h
          · exact hsz el h
          · rw [h]; exact h1) (fun el hel => by
          rcases List.mem_or_eq_of_mem_set hel with h | h
          · exact hsc el h
          · rw [h]; exact h3)
      refine ⟨?_, by rw [g2]; simp, g3, g4⟩
      simp only [afill, plc, hvs, Option.bind_some]
      rw [if_pos ⟨h1, by
        rw [flatten_len hsz]
        have : (i + 1) * sz ≤ els.length * sz := Nat.mul_le_mul_right _ h2
        rw [Nat.succ_mul] at this
        omega⟩, ← set_flatten hsz h1 h2]
      exact g1
    · simp at h
def stBuildSlice (P : Program) (L : LH) (r t n : Nat) (parts : List (Nat × AVal)) : Option (AVal × LH) :=
  (slE P t).bind fun s => (zCells P s.1).bind fun zc =>
    if (aget L r).isNone = true ∧ n * s.2.1 ≤ 16777216 ∧ allSc zc = true then
      (asetEls (List.replicate n zc) s.2.1 parts).map fun els => (.slice r 1 0 n, aset L r (.row 1 s.1 els))
    else none
theorem rep_flatten_get {α : Type} (zc : List α) (n i : Nat) (h : i < n * zc.length) : (List.replicate n zc).flatten[i]? = zc[i % zc.length]? := by
  have h0 : 0 < zc.length := by
    rcases Nat.eq_zero_or_pos zc.length with h' | h'
    · rw [h'] at h; simp at h
    · exact h'
  have h1 : i / zc.length < n := Nat.div_lt_of_lt_mul (by rw [Nat.mul_comm]; exact h)
  have h2 := Nat.mod_lt i h0
  have := flatten_at (els := List.replicate n zc) (sz := zc.length) (fun el hel => by rw [(List.mem_replicate.1 hel).2]) (i := i / zc.length) (el := zc) (by simp [h1]) (i % zc.length) (zc[i % zc.length]'h2) (List.getElem?_eq_getElem h2)
  rw [Nat.div_add_mod'] at this
  rw [this, List.getElem?_eq_getElem h2]
theorem zero_row {w : World} {ρ : Rho} {z : Value} {sz : Nat} (hz : z.cells.size = sz) (h0 : 0 < sz) (n : Nat) :
    CsRel w ρ (List.replicate n (z.cells.toList.map ofConst)).flatten ((Array.range (n * sz)).map (z.cells[· % z.cells.size]!)) := by
  have hl : (z.cells.toList.map ofConst).length = sz := by simp [hz]
  refine ⟨by rw [flatten_len (sz := sz) (fun el hel => by rw [(List.mem_replicate.1 hel).2, hl])]; simp, fun i v hi => ?_⟩
  have hlt : i < n * sz := by
    have := (List.getElem?_eq_some_iff.1 hi).1
    rw [flatten_len (sz := sz) (fun el hel => by rw [(List.mem_replicate.1 hel).2, hl])] at this
    simpa using this
  rw [rep_flatten_get _ _ _ (by rw [hl]; exact hlt), hl] at hi
  have := (CsRel.const w ρ z.cells).2 _ v hi
  have e : ((Array.range (n * sz)).map (z.cells[· % z.cells.size]!)).getD i undef = z.cells.getD (i % sz) undef := by
    have h2 := Nat.mod_lt i h0
    simp [Array.getD_eq_getD_getElem?, hlt, hz, h2, getElem!_pos]
  rw [e]
  exact this
theorem SlRel.whole (b n cap sz : Nat) : SlRel (.slice (some ⟨b, 0, none⟩) n cap) sz 0 n (some ⟨b, 0, none⟩) n cap :=
  ⟨rfl, by simp, by simp, ⟨b, 0, none⟩, rfl, fun _ => by simp⟩
theorem stBuildSlice_sound {P : Program} {L L' : LH} {r t n : Nat} {parts : List (Nat × AVal)} {u : AVal} (h : stBuildSlice P L r t n parts = some (u, L')) {ρ : Rho} {w : World} (hL : SatL P ρ L w)
    {cparts : Array (Nat × Value)} (hp : PsRel w ρ parts cparts.toList) :
    ∃ c' w' ρ', (Instr.buildSlice t n cparts).run P w = .ok c' w' ∧ VRel w' ρ' u c' ∧ SatL P ρ' L' w' ∧ Fr All ρ w ρ' w' := by
  unfold stBuildSlice at h
  obtain ⟨⟨e, sz, by_⟩, hs, h⟩ := Option.bind_eq_some_iff.1 h
  obtain ⟨zc, hz, h⟩ := Option.bind_eq_some_iff.1 h
  simp only at hz h
  split at h
  · rename_i hh
    obtain ⟨h1, h2, h3⟩ := hh
    obtain ⟨els, hels, h⟩ := Option.map_eq_some_iff.1 h
    injection h with e1 e2
    subst e1; subst e2
    obtain ⟨hu, ti, hti, hsz, _⟩ := slE_spec hs
    obtain ⟨i, z, hi, hiz, hzs, h0, rfl, hlen, hrun⟩ := zCells_spec hz
    have : ti = i := by rw [hi] at hti; injection hti with h; exact h.symm
    subst this
    rw [hsz] at hzs h0
    have hl : (z.cells.toList.map ofConst).length = sz := by simp [hzs]
    obtain ⟨g1, g2, g3, g4⟩ := asetEls_fill hels (fun el hel => by rw [(List.mem_replicate.1 hel).2, hl]) (fun el hel => by rw [(List.mem_replicate.1 hel).2]; exact h3)
    obtain ⟨C, g5, g6⟩ := afill_sound hp g1 (zero_row (w := w) (ρ := ρ) hzs h0 n)
    simp only [List.length_replicate] at g2
    have hfl : els.flatten.length = n * sz := by rw [flatten_len g3, g2]
    have hn : n ≤ 16777216 := by
      have : n * 1 ≤ n * sz := Nat.mul_le_mul_left _ h0
      omega
    have hrunB : (Instr.buildSlice t n cparts).run P w = .ok (.slice (some ⟨w.heap.size, 0, none⟩) n n) (w.alloc (.cells C e)) := by
      have hst : Instr.fill (fun i => some (i * sz, sz)) ((Array.range (n * sz)).map (z.cells[· % z.cells.size]!)) cparts.toList = some C := g5
      by_cases hnz : n = 0
      · subst hnz
        have e0 : ∀ f : Nat → Value, (Array.range (0 * sz)).map f = #[] := fun f => by simp
        rw [e0] at hst
        have e1 : ∀ f : Nat → Value, (Array.range 0).map f = #[] := fun f => by simp
        simp only [Instr.buildSlice, Sem.run_bind, run_underlying hu, Result.andThen_ok, sizeOf, typeInfo, run_program, hti, Sem.run_pure, hsz, Nat.zero_mul]
        simp [e1, hst, newRow]
      · have hne : ¬ n * sz = 0 := by
          intro h
          rcases Nat.mul_eq_zero.1 h with h | h <;> omega
        simp only [Instr.buildSlice, Sem.run_bind, run_underlying hu, Result.andThen_ok, sizeOf, typeInfo, run_program, hti, Sem.run_pure, hsz]
        rw [if_neg (by omega), if_neg hne]
        simp only [Sem.run_bind, hrun, Result.andThen_ok, Sem.run_pure]
        rw [hst]
        simp [newRow]
    have hg : w.grownBy (w.alloc (.cells C e)) none := World.grownBy_alloc w _ none
    have hown := World.ownsRow_lit (e := e) (base := w.heap.size) (size := sz) w C n (Nat.le_refl _) (by simp [maxLen]; omega) (by rw [g6.1, hfl])
    obtain ⟨k1, k2⟩ := new_row (g := 1) (v := .slice (some ⟨w.heap.size, 0, none⟩) n n) hL (by simp) (r := r) (e := e) (sz := sz) (els := els) (by simpa using h1) hg (by rw [← hsz]; simp [Program.cellsOf, hti]) h0 g3 (by rw [g2]; exact hown) (fun i x hi => by
      refine ⟨?_, ?_⟩
      · obtain ⟨el, hel, hx⟩ := List.mem_flatten.1 (List.mem_of_getElem? hi)
        exact List.all_eq_true.1 (g4 el hel) x hx
      · rw [getD_toList]
        exact g6.2 i x hi)
    refine ⟨_, _, _, hrunB, .slice (upd_same ..) (Nat.le_refl _) (fun _ => SlRel.whole ..), k1, k2⟩
  · simp at h
def stMakeSlice (P : Program) (L : LH) (r t : Nat) (l c : AVal) : Option (AVal × LH) :=
  match l, c with
  | .dat (.int _ ln), .dat (.int _ cn) =>
    (slE P t).bind fun s => (zCells P s.1).bind fun zc =>
      if (aget L r).isNone = true ∧ allSc zc = true ∧ 0 ≤ ln ∧ 0 ≤ cn ∧ (ln = 0 ∨ ln = cn) ∧ s.2.2 * cn.toNat ≤ 281474976710656 ∧ cn.toNat ≤ 9223372036854775807 then
        some (.slice r 1 0 ln.toNat, aset L r (.row 1 s.1 (List.replicate ln.toNat zc)))
      else none
  | _, _ => none
theorem madeCells_get (zc : Array Value) (n i : Nat) (h : i < n) : (madeCells zc n).getD i undef = (zc[i % zc.size]!) := by
  simp [madeCells, Array.getD_eq_getD_getElem?, h]
theorem stMakeSlice_sound {P : Program} {L L' : LH} {r t : Nat} {l c u : AVal} (h : stMakeSlice P L r t l c = some (u, L')) {ρ : Rho} {w : World} (hL : SatL P ρ L w)
    {cl cc : Value} (hl : VRel w ρ l cl) (hc : VRel w ρ c cc) :
    ∃ c' w' ρ', (Instr.makeSlice t cl cc).run P w = .ok c' w' ∧ VRel w' ρ' u c' ∧ SatL P ρ' L' w' ∧ Fr All ρ w ρ' w' := by
  unfold stMakeSlice at h
  split at h
  · rename_i k1 ln k2 cn
    cases hl with
    | dat hl =>
    cases hl
    cases hc with
    | dat hc =>
    cases hc
    obtain ⟨⟨e, sz, by_⟩, hs, h⟩ := Option.bind_eq_some_iff.1 h
    obtain ⟨zc, hz, h⟩ := Option.bind_eq_some_iff.1 h
    simp only at hz h
    split at h
    · rename_i hh
      obtain ⟨h1, h2, h3, h4, h5, h6, h7⟩ := hh
      injection h with h
      injection h with e1 e2
      subst e1; subst e2
      obtain ⟨hu, ti, hti, hsz, hby⟩ := slE_spec hs
      obtain ⟨i, z, hi, hiz, hzs, h0, rfl, hlen, hrun⟩ := zCells_spec hz
      have : ti = i := by rw [hi] at hti; injection hti with h; exact h.symm
      subst this
      rw [hsz] at hzs h0
      obtain ⟨n, rfl⟩ := Int.eq_ofNat_of_zero_le h3
      obtain ⟨m, rfl⟩ := Int.eq_ofNat_of_zero_le h4
      simp only [Int.toNat_natCast] at h6 h7 ⊢
      have hP : sz = P.cellsOf e := by rw [← hsz]; simp [Program.cellsOf, hti]
      have hl' : (z.cells.toList.map ofConst).length = sz := by simp [hzs]
      have hels : ∀ el ∈ List.replicate n (z.cells.toList.map ofConst), el.length = sz := fun el hel => by rw [(List.mem_replicate.1 hel).2, hl']
      by_cases hnm : n = m
      · subst hnm
        obtain ⟨w', g1, g2, g3⟩ := run_make_full (P := P) (w := w) w.heap.size t e ti z sz hu hti hiz hsz k1 k2 n (by rw [hby]; exact h6) (by simp only [maxLen]; exact h7) (Nat.le_refl _)
        obtain ⟨q1, q2⟩ := new_row (g := 1) (v := .slice (some ⟨w.heap.size, 0, none⟩) n n) hL (by simp) (r := r) (e := e) (sz := sz) (els := List.replicate n (z.cells.toList.map ofConst)) (by simpa using h1) g3 hP h0 hels (by rw [List.length_replicate]; exact g2) (fun i x hi => by
          have hlt : i < n * sz := by
            have := (List.getElem?_eq_some_iff.1 hi).1
            rw [flatten_len hels] at this
            simpa using this
          refine ⟨?_, ?_⟩
          · obtain ⟨el, hel, hx⟩ := List.mem_flatten.1 (List.mem_of_getElem? hi)
            rw [(List.mem_replicate.1 hel).2] at hx
            exact List.all_eq_true.1 h2 x hx
          · rw [getD_toList, madeCells_get _ _ _ hlt]
            rw [rep_flatten_get _ _ _ (by rw [hl']; exact hlt), hl'] at hi
            have := (CsRel.const w ρ z.cells).2 _ x hi
            have h2 := Nat.mod_lt i h0
            simpa [Array.getD_eq_getD_getElem?, hzs, h2, getElem!_pos] using this)
        exact ⟨_, _, _, g1, .slice (upd_same ..) (Nat.le_refl _) (fun _ => SlRel.whole ..), q1, q2⟩
      · have hn0 : n = 0 := by omega
        subst hn0
        obtain ⟨w', g1, g2, g3⟩ := run_make_own (P := P) (w := w) w.heap.size t e ti z sz hu hti hiz hsz k1 k2 m (by rw [hby]; exact h6) (by simp only [maxLen]; exact h7) (Nat.le_refl _)
        obtain ⟨q1, q2⟩ := new_row (g := 1) (v := .slice (some ⟨w.heap.size, 0, none⟩) 0 m) hL (by simp) (r := r) (e := e) (sz := sz) (els := []) (by simpa using h1) g3 hP h0 (by simp) g2 (fun i x hi => by simp at hi)
        exact ⟨_, _, _, g1, .slice (upd_same ..) (Nat.le_refl _) (fun _ => SlRel.whole ..), q1, q2⟩
    · simp at h
  · simp at h
def stStore (P : Program) (L : LH) (t : Nat) (a v : AVal) : Option LH :=
  match a with
  | .ptr r g i k =>
    match aget L r with
    | some (.row g' e els) =>
      (els[i]?).bind fun el => (acells v).bind fun vs => (tAgg P t).bind fun ta =>
        if g = g' ∧ allSc vs = true ∧ vs.length = ta.2 ∧ k + vs.length ≤ el.length then some (aset L r (.row g e (els.set i (setRange el k vs)))) else none
    | _ => none
  | _ => none
theorem setRange_nest {α : Type} {els : List (List α)} {sz i k : Nat} {el vs : List α} (hsz : ∀ x ∈ els, x.length = sz) (hel : els[i]? = some el) (hk : k + vs.length ≤ el.length) :
    (els.set i (setRange el k vs)).flatten = setRange els.flatten (i * sz + k) vs := by
  have hlt : i < els.length := (List.getElem?_eq_some_iff.1 hel).1
  have hl : el.length = sz := hsz el (List.mem_of_getElem? hel)
  have h1 : (setRange el k vs).length = sz := by rw [setRange_length _ _ _ hk, hl]
  rw [set_flatten hsz h1 hlt]
  apply List.ext_getElem?
  intro j
  have hfl : els.flatten.length = els.length * sz := flatten_len hsz
  have hle : (i + 1) * sz ≤ els.length * sz := Nat.mul_le_mul_right _ hlt
  rw [Nat.succ_mul] at hle
  rw [setRange_get els.flatten (i * sz) _ (by rw [h1, hfl]; omega), setRange_get els.flatten (i * sz + k) _ (by rw [hfl]; omega), h1]
  by_cases c1 : i * sz ≤ j ∧ j < i * sz + sz
  · rw [if_pos c1, setRange_get el k vs hk]
    by_cases c2 : i * sz + k ≤ j ∧ j < i * sz + k + vs.length
    · rw [if_pos (by omega), if_pos c2]
      congr 1
      omega
    · rw [if_neg (by omega), if_neg c2]
      have hj : j - i * sz < el.length := by omega
      have := flatten_at hsz hel (j - i * sz) _ (List.getElem?_eq_getElem hj)
      rw [show i * sz + (j - i * sz) = j from by omega] at this
      rw [this, List.getElem?_eq_getElem hj]
  · rw [if_neg c1, if_neg (by omega)]
theorem getD_set_range (xs news : List Value) (o i : Nat) (h : o + news.length ≤ xs.length) (d : Value) :
    (setRange xs o news).getD i d = if o ≤ i ∧ i < o + news.length then news.getD (i - o) d else xs.getD i d := by
  simp only [List.getD_eq_getElem?_getD]
  rw [setRange_get _ _ _ h]
  split <;> rfl
theorem take_setRange {α : Type} (cur vs : List α) (o N : Nat) (h : o + vs.length ≤ N) (hN : N ≤ cur.length) : (setRange cur o vs).take N = setRange (cur.take N) o vs := by
  apply List.ext_getElem?
  intro j
  have hl : (cur.take N).length = N := by simp; omega
  rw [List.getElem?_take, setRange_get cur o vs (by omega), setRange_get (cur.take N) o vs (by omega), List.getElem?_take]
  by_cases hj : j < N
  · rw [if_pos hj, if_pos hj]
  · rw [if_neg hj, if_neg hj, if_neg (by omega)]
theorem stStore_sound {P : Program} {L L' : LH} {t : Nat} {a v : AVal} (h : stStore P L t a v = some L') {ρ : Rho} {w : World} (hL : SatL P ρ L w)
    {ca cv : Value} (ha : VRel w ρ a ca) (hv : VRel w ρ v cv) :
    ∃ w' ρ', (Instr.storeAt t ca cv).run P w = .ok () w' ∧ SatL P ρ' L' w' ∧ Fr All ρ w ρ' w' := by
  unfold stStore at h
  split at h
  · rename_i r g i k
    split at h
    · rename_i g' e els ho
      obtain ⟨el, hel, h⟩ := Option.bind_eq_some_iff.1 h
      obtain ⟨vs, hvs, h⟩ := Option.bind_eq_some_iff.1 h
      obtain ⟨⟨tb, tn⟩, hta, h⟩ := Option.bind_eq_some_iff.1 h
      split at h
      · rename_i hh
        injection h with h
        subst h
        obtain ⟨hg, h2, h3, h4⟩ := hh
        subst hg
        simp only at h3
        obtain ⟨v0, sz, xs, hr, hP, hp, hsz, hown, hxs⟩ := cur_row hL ho
        have hV := acells_sound hvs hv
        have hl : el.length = sz := hsz el (List.mem_of_getElem? hel)
        have hlt : i < els.length := (List.getElem?_eq_some_iff.1 hel).1
        cases ha with
        | @ptr _ _ _ _ g0 sz' ad v0' e0 hr' hle hpt =>
          rw [hr] at hr'
          injection hr' with hr'
          injection hr' with e1 e2
          injection e2 with e2 e3 e4
          subst e1; subst e2; subst e3; subst e4
          obtain ⟨b, n, cap, rfl, rfl⟩ := hpt rfl
          have hown' := hown
          rcases hown.2 with ⟨h5, _⟩ | ⟨b', cap', cur, h5, _, hh, hnc, hcm, hcs, htk⟩
          · simp at h5
          · injection h5 with h5 h6 h7
            injection h5 with h5
            injection h5 with h5
            subst h5; subst h6; subst h7
            have hxl := hown.1
            have hle2 : (i + 1) * sz ≤ els.length * sz := Nat.mul_le_mul_right _ hlt
            rw [Nat.succ_mul] at hle2
            have hcur : els.length * sz ≤ cur.size := by rw [hcs]; exact Nat.mul_le_mul_right _ hnc
            have hone : ∀ u ∈ cv.cells.toList, u.oneCell' = true := by
              intro u hu
              obtain ⟨j, hj⟩ := List.mem_iff_getElem?.1 hu
              have hjl : j < vs.length := by rw [← hV.1]; simpa using (List.getElem?_eq_some_iff.1 hj).1
              have := (hV.2 j vs[j] (List.getElem?_eq_getElem hjl)).one (List.all_eq_true.1 h2 _ (List.getElem_mem hjl))
              have e : cv.cells.getD j undef = u := by rw [← getD_toList]; simp [List.getD, hj]
              rw [e] at this
              exact this
            have hsl : cv.cells.toList.length = vs.length := by simpa using hV.1
            have hst := run_storeCells_at P b (i * sz + k) e cv.cells.toList 0 cur w hh (by rw [hsl]; omega) hone
            simp only [Nat.add_zero] at hst
            have hrun : (Instr.storeAt t (.pointer (some ⟨b, i * sz + k, none⟩)) cv).run P w = .ok () (w.setRow b (cur.toList.take (i * sz + k) ++ cv.cells.toList ++ cur.toList.drop (i * sz + k + cv.cells.toList.length)).toArray) := by
              have hsize : (sizeOf t).run P w = .ok cv.cells.size w := by
                rw [hV.1, h3]
                exact (tAgg_spec hta w).2
              simp [Instr.storeAt, Instr.sureAddr, storeVar, hsize, hst]
            refine ⟨_, upd ρ r (g, .row (.slice (some ⟨b, 0, none⟩) els.length cap) e sz), hrun, ?_⟩
            have hg : w.grownBy (w.setRow b (cur.toList.take (i * sz + k) ++ cv.cells.toList ++ cur.toList.drop (i * sz + k + cv.cells.toList.length)).toArray) (some b) :=
              ⟨rfl, rfl, rfl, by simp, fun j _ hj => setRow_other w b j _ (fun e => hj (by rw [e]))⟩
            have hob : ∀ b', some b = some b' → ∃ x, ρ.m r = some x ∧ x.2.blk = some b' := fun b' h => ⟨_, hr, by rw [← h]; rfl⟩
            have hv' : ∀ b', (CLoc.row (.slice (some ⟨b, 0, none⟩) els.length cap) e sz).blk = some b' → some b = some b' ∨ w.heap.size ≤ b' := fun b' h => .inl (by
              simp only [CLoc.blk, Value.ownBlock] at h; exact h)
            have hle' : ∀ x, ρ.m r = some x → LocLe x (g, .row (.slice (some ⟨b, 0, none⟩) els.length cap) e sz) := fun x h => by
              rw [hr] at h
              injection h with h
              subst h
              exact .refl _
            have hf := upd_fr hL hob hg hv' hle'
            refine ⟨upd_sat hL hob hg hv' hle' rfl ⟨rfl, ⟨hP, fun _ => by simp⟩, hp, ?_, setRange xs (i * sz + k) cv.cells.toList, ⟨?_, .inr ⟨b, cap, _, ?_, Nat.zero_le _, setRow_heap w b cur _ e _ hh, ?_, hcm, ?_, ?_⟩⟩, ?_⟩, hf⟩
            · intro x hx
              rcases List.mem_or_eq_of_mem_set hx with h | h
              · exact hsz x h
              · rw [h, setRange_length _ _ _ h4, hl]
            · rw [setRange_length _ _ _ (by rw [hsl, hxl]; omega), hxl, List.length_set]
            · rw [List.length_set]
            · rw [List.length_set]; exact hnc
            · rw [List.size_toArray]
              exact (setRange_length cur.toList _ _ (by rw [hsl, Array.length_toList (xs := cur)]; omega)).trans (by rw [Array.length_toList]; exact hcs)
            · rw [List.length_set]
              exact (take_setRange cur.toList cv.cells.toList (i * sz + k) (els.length * sz) (by rw [hsl]; omega) (by rw [Array.length_toList]; exact hcur)).trans (by rw [htk])
            · intro j x hj
              rw [setRange_nest hsz hel h4, setRange_get _ _ _ (by rw [flatten_len hsz]; omega)] at hj
              have eg := getD_set_range xs cv.cells.toList (i * sz + k) j (by rw [hsl, hxl]; omega) undef
              simp only [hsl] at eg
              rw [eg]
              split at hj
              · rename_i hc
                rw [if_pos hc]
                refine ⟨List.all_eq_true.1 h2 x (List.mem_of_getElem? hj), ?_⟩
                rw [getD_toList]
                exact (hV.2 _ x hj).fr hf
              · rename_i hc
                rw [if_neg hc]
                exact ⟨(hxs j x hj).1, (hxs j x hj).2.fr hf⟩
      · simp at h
    · simp at h
  · simp at h
end Go.Sk
namespace Go.Sk
open Go
def rowOf (ds : List (List Dat)) : List (List AVal) := ds.map fun el => el.map .dat
def elsOf (L : LH) (e sz : Nat) : AVal → Option (List (List AVal))
  | .dat (.sl sz' ds) => if sz' = sz then some (rowOf ds) else none
  | .slice r g off len =>
    match aget L r with
    | some (.row g' e' els) => if g = g' ∧ e' = e then some (asubl els off (off + len)) else none
    | _ => none
  | .nilS => some []
  | .raw (.slice (some _) 0 _) => some []
  | _ => none
theorem rowOf_flatten (ds : List (List Dat)) : (rowOf ds).flatten = ds.flatten.map .dat := by
  induction ds with
  | nil => rfl
  | cons d ds ih => simp only [rowOf, List.map_cons, List.flatten_cons, List.map_append] at *; rw [ih]
theorem elsOf_sound {P : Program} {L : LH} {e sz : Nat} {x : AVal} {els : List (List AVal)} (h : elsOf L e sz x = some els) {ρ : Rho} {w : World} (hL : SatL P ρ L w) (hP : sz = P.cellsOf e) {c : Value} (hx : VRel w ρ x c) :
    ∃ a n cap, c = .slice a n cap ∧ n = els.length ∧ (∀ el ∈ els, el.length = sz) ∧ (a = none → n = 0 ∧ cap = 0) ∧
      ∀ a', a = some a' → ∃ cv : Nat → Value, ∀ j y, els.flatten[j]? = some y → w.cell? (a'.add j) = some (cv j) ∧ VRel w ρ y (cv j) ∧ sc y = true := by
  unfold elsOf at h
  split at h
  · rename_i sz' ds
    split at h
    · rename_i hs
      injection h with h
      subst h
      subst hs
      cases hx with
      | dat hx =>
      cases hx with
      | nil => exact ⟨none, 0, 0, rfl, rfl, by simp [rowOf], fun _ => ⟨rfl, rfl⟩, fun a' h => by simp at h⟩
      | sl _ _ cap a cv hsz hcap hm hc hd =>
        refine ⟨some a, _, cap, rfl, by simp [rowOf], ?_, fun h => by simp at h, fun a' ha => ⟨cv, fun j y hj => ?_⟩⟩
        · intro el hel
          obtain ⟨d, hd', rfl⟩ := List.mem_map.1 hel
          rw [List.length_map]
          exact hsz d hd'
        · injection ha with ha
          subst ha
          rw [rowOf_flatten, List.getElem?_map] at hj
          obtain ⟨d, hd', rfl⟩ := Option.map_eq_some_iff.1 hj
          exact ⟨(hc j d hd').2, .dat (hd j d hd'), rfl⟩
    · simp at h
  · rename_i r g off len
    split at h
    · rename_i g' e' els' ho
      split at h
      · rename_i hh
        injection h with h
        subst h
        obtain ⟨hg, he⟩ := hh
        subst hg; subst he
        obtain ⟨v0, sz', xs, hr, hP', hp, hsz, hown, hxs⟩ := cur_row hL ho
        have e1 : sz' = sz := by rw [hP', hP]
        subst e1
        cases hx with
        | @slice _ _ _ _ nn cc g0 sz0 a0 v1 e0 hr' hle hsl =>
          rw [hr] at hr'
          injection hr' with hr'
          injection hr' with e1 e2
          injection e2 with e2 e3 e4
          subst e1; subst e2; subst e3; subst e4
          obtain ⟨hnn, hsl⟩ := hsl rfl
          subst hnn
          rcases own_form hown with ⟨rfl, h00⟩ | ⟨b, cap, rfl, h1, h2⟩
          · simp only at hsl
            obtain ⟨rfl, rfl, rfl, rfl⟩ := hsl
            refine ⟨none, 0, 0, rfl, ?_, ?_, fun _ => ⟨rfl, rfl⟩, fun a' h => by simp at h⟩
            · have : els' = [] := List.eq_nil_of_length_eq_zero h00
              subst this; rfl
            · intro el hel
              exact hsz el (List.mem_of_mem_take (List.mem_of_mem_drop hel))
          · simp only at hsl
            obtain ⟨h3, rfl, x, rfl, h5⟩ := hsl
            have hlen := asubl_length els' off (off + nn) (by omega)
            refine ⟨some x, nn, cap - off, rfl, by rw [hlen]; omega, fun el hel => hsz el (List.mem_of_mem_take (List.mem_of_mem_drop hel)), fun h => by simp at h, fun a' ha => ⟨fun j => xs.getD (off * sz' + j) undef, fun j y hj => ?_⟩⟩
            injection ha with ha
            subst ha
            have hjl : j < nn * sz' := by
              have := (List.getElem?_eq_some_iff.1 hj).1
              rw [flatten_len (els := asubl els' off (off + nn)) (sz := sz') (fun el hel => hsz el (List.mem_of_mem_take (List.mem_of_mem_drop hel))), hlen] at this
              have e : off + nn - off = nn := by omega
              rw [e] at this
              exact this
            have hl0 : 0 < nn := by
              rcases Nat.eq_zero_or_pos nn with h | h
              · subst h; simp at hjl
              · exact h
            have hx := h5 (.inl (by omega))
            subst hx
            have hfl : (asubl els' off (off + nn)).flatten = (els'.flatten.take ((off + nn) * sz')).drop (off * sz') := by
              unfold asubl
              rw [drop_flatten (sz := sz') (fun el hel => hsz el (List.mem_of_mem_take hel)) off (by simp; omega), take_flatten hsz _ (by omega)]
            rw [hfl, List.getElem?_drop, List.getElem?_take] at hj
            split at hj
            · obtain ⟨k1, k2⟩ := hxs _ y hj
              refine ⟨?_, k2, k1⟩
              have hlt : off * sz' + j < xs.length := by
                have := (List.getElem?_eq_some_iff.1 hj).1
                rw [flatten_len hsz] at this
                rw [hown.1]
                exact this
              have := hown.cells (g := b) rfl (off * sz' + j) (xs.getD (off * sz' + j) undef) (by simp [List.getD, List.getElem?_eq_getElem hlt])
              rw [Addr.add_lit] at this ⊢
              rw [Nat.zero_add] at this
              exact this
            · simp at hj
      · simp at h
    · simp at h
  · injection h with h
    subst h
    cases hx
    exact ⟨none, 0, 0, rfl, rfl, by simp, fun _ => ⟨rfl, rfl⟩, fun a' h => by simp at h⟩
  · rename_i a cap
    injection h with h
    subst h
    cases hx
    exact ⟨some a, 0, cap, rfl, rfl, by simp, fun h => by simp at h, fun a' _ => ⟨fun _ => Go.undef, fun j y hj => by simp at hj⟩⟩
  · simp at h
def stAppend (P : Program) (L : LH) (r0 t : Nat) (s x : AVal) : Option (AVal × LH) :=
  (slE P t).bind fun y => (zCells P y.1).bind fun _ => (elsOf L y.1 y.2.1 x).bind fun news =>
    if news.flatten.all sc = true then
      match s with
      | .slice r g off len =>
        match aget L r with
        | some (.row g' e' els) =>
          if g = g' ∧ e' = y.1 ∧ off = 0 ∧ len = els.length ∧ (len + news.length) * y.2.2 ≤ 140737488355328 ∧ len + news.length ≤ 9223372036854775807 then
            some (.slice r (g + 2) 0 (len + news.length), aset L r (.row (g + 2) e' (els ++ news)))
          else none
        | _ => none
      | .nilS =>
        if (aget L r0).isNone = true ∧ news.length * y.2.2 ≤ 140737488355328 ∧ news.length ≤ 9223372036854775807 then
          some (.slice r0 0 0 news.length, aset L r0 (.row 0 y.1 news))
        else none
      | _ => none
    else none
theorem run_append_any {P : Program} {w : World} {t ty e sz by_ : Nat} {ti : TypeInfo} {z : Value} (hu : P.underlying t = some (.slice e)) (hti : P.info? e = some ti) (hsz : ti.size = sz) (hby : ti.bytes = by_) (hz : ti.zero = some z)
    (hzs : z.cells.size = sz) (h0 : 0 < sz) {v : Value} {n : Nat} {xs : List Value} (hown : w.ownsRow 0 e sz v n xs) {a : Option Addr} {m cap : Nat} (hnil : a = none → m = 0 ∧ cap = 0) {ys : List Value} (hl : ys.length = m * sz)
    (hnews : ∀ a', a = some a' → ∀ j u, ys[j]? = some u → w.cell? (a'.add j) = some u) (h1 : ∀ u ∈ ys, u.oneCell' = true)
    (h63 : n + m ≤ 9223372036854775807) (hb : (n + m) * by_ ≤ 140737488355328) :
    ∃ v' w', (Builtin.append_ #[t, t] ty #[v, .slice a m cap]).run P w = .ok v' w' ∧ w'.ownsRow 0 e sz v' (n + m) (xs ++ ys) ∧ w.grownBy w' v.ownBlock ∧ (v'.ownBlock = v.ownBlock ∨ v'.ownBlock = some w.heap.size) := by
  cases a with
  | none =>
    obtain ⟨rfl, rfl⟩ := hnil rfl
    have hy : ys = [] := List.eq_nil_of_length_eq_zero (by simpa using hl)
    subst hy
    refine ⟨v, w, run_append_owned_none (P := P) w 0 t ty e ti sz hu hti v n xs hown, by simpa using hown, ⟨rfl, rfl, rfl, Nat.le_refl _, fun _ _ _ => rfl⟩, .inl rfl⟩
  | some a' =>
    obtain ⟨v', w', g1, g2, g3, _, g4⟩ := run_append_own_at (P := P) w 0 t ty e ti z sz by_ hu hti hz hsz hby hzs h0 v n xs hown a' m cap ys hl (hnews a' rfl) h1 (by simp only [maxLen]; exact h63) hb (Nat.zero_le _)
    exact ⟨v', w', g1, g2, g3, g4⟩
theorem own_slrel {w : World} {e sz n : Nat} {v : Value} {xs : List Value} (h : w.ownsRow 0 e sz v n xs) : ∃ a c, v = .slice a n c ∧ SlRel v sz 0 n a n c := by
  rcases own_form h with ⟨rfl, rfl⟩ | ⟨b, cap, rfl, _, _⟩
  · exact ⟨none, 0, rfl, rfl, by simp⟩
  · exact ⟨_, cap, rfl, SlRel.whole ..⟩
theorem stAppend_sound {P : Program} {L L' : LH} {r0 t : Nat} {s x u : AVal} (h : stAppend P L r0 t s x = some (u, L')) {ρ : Rho} {w : World} (hL : SatL P ρ L w)
    {cs cx : Value} (hs : VRel w ρ s cs) (hx : VRel w ρ x cx) (ty : Nat) :
    ∃ c' w' ρ', (Builtin.append_ #[t, t] ty #[cs, cx]).run P w = .ok c' w' ∧ VRel w' ρ' u c' ∧ SatL P ρ' L' w' ∧ Fr All ρ w ρ' w' := by
  unfold stAppend at h
  obtain ⟨⟨e, sz, by_⟩, hsl, h⟩ := Option.bind_eq_some_iff.1 h
  obtain ⟨zc, hz, h⟩ := Option.bind_eq_some_iff.1 h
  obtain ⟨news, hn, h⟩ := Option.bind_eq_some_iff.1 h
  simp only at hz hn h
  obtain ⟨hu, ti, hti, hsz, hby⟩ := slE_spec hsl
  obtain ⟨i, z, hi, hiz, hzs, h0, _, hlen, hrun⟩ := zCells_spec hz
  have : ti = i := by rw [hi] at hti; injection hti with h; exact h.symm
  subst this
  rw [hsz] at hzs h0
  have hP : sz = P.cellsOf e := by rw [← hsz]; simp [Program.cellsOf, hti]
  obtain ⟨a, n, cap, rfl, hnl, hnsz, hnil, hcells⟩ := elsOf_sound hn hL hP hx
  subst hnl
  have hfl : news.flatten.length = news.length * sz := flatten_len hnsz
  -- the cells as a list
  obtain ⟨ys, hyl, hyc, hyr⟩ : ∃ ys : List Value, ys.length = news.length * sz ∧ (∀ a', a = some a' → ∀ j u, ys[j]? = some u → w.cell? (a'.add j) = some u) ∧
      ∀ j y, news.flatten[j]? = some y → VRel w ρ y (ys.getD j undef) ∧ sc y = true := by
    cases a with
    | none =>
      obtain ⟨h1, _⟩ := hnil rfl
      have : news = [] := List.eq_nil_of_length_eq_zero h1
      subst this
      exact ⟨[], by simp, fun _ h => by simp at h, fun j y h => by simp at h⟩
    | some a' =>
      obtain ⟨cv, hcv⟩ := hcells a' rfl
      refine ⟨(List.range (news.length * sz)).map cv, by simp, fun a'' ha j u hj => ?_, fun j y hj => ?_⟩
      · injection ha with ha
        subst ha
        rw [List.getElem?_map] at hj
        obtain ⟨k, hk, rfl⟩ := Option.map_eq_some_iff.1 hj
        have hlt : j < news.length * sz := by
          have := (List.getElem?_eq_some_iff.1 hk).1; simpa using this
        have : k = j := by rw [List.getElem?_range hlt] at hk; injection hk with hk; exact hk.symm
        subst this
        exact (hcv k _ (List.getElem?_eq_getElem (by rw [hfl]; exact hlt))).1
      · obtain ⟨_, k2, k3⟩ := hcv j y hj
        have hlt : j < news.length * sz := by rw [← hfl]; exact (List.getElem?_eq_some_iff.1 hj).1
        refine ⟨?_, k3⟩
        simpa [List.getD, hlt] using k2
  have hy1 : ∀ u ∈ ys, u.oneCell' = true := by
    intro u hu'
    obtain ⟨j, hj⟩ := List.mem_iff_getElem?.1 hu'
    have hlt : j < news.flatten.length := by rw [hfl, ← hyl]; exact (List.getElem?_eq_some_iff.1 hj).1
    obtain ⟨k1, k2⟩ := hyr j _ (List.getElem?_eq_getElem hlt)
    have e : ys.getD j undef = u := by simp [List.getD, hj]
    rw [e] at k1
    exact k1.one k2
  split at h
  case isFalse => simp at h
  cases s with
  | slice r g off len =>
    simp only at h
    split at h
    · rename_i g' e' els ho
      split at h
      · rename_i hh
        injection h with h
        injection h with e1 e2
        subst e1; subst e2
        obtain ⟨hg, he, hoff, hln, hb, h63⟩ := hh
        subst hg; subst he; subst hoff; subst hln
        obtain ⟨v0, sz', xs, hr, hP', hp, hszs, hown, hxs⟩ := cur_row hL ho
        have e1 : sz' = sz := by rw [hP', hP]
        subst e1
        cases hs with
        | @slice r g _ _ nn cc g0 sz0 a0 v1 e0 hr' hle hsl' =>
          rw [hr] at hr'
          injection hr' with hr'
          injection hr' with e1 e2
          injection e2 with e2 e3 e4
          subst e1; subst e2; subst e3; subst e4
          have hv0 : Value.slice a0 nn cc = v0 := by
            obtain ⟨hnn, hsq⟩ := hsl' rfl
            subst hnn
            rcases own_form hown with ⟨rfl, h00⟩ | ⟨b, cap', rfl, h1, h2⟩
            · simp only at hsq
              obtain ⟨rfl, _, h5, rfl⟩ := hsq
              rw [h5]
            · simp only at hsq
              obtain ⟨_, h4, x, rfl, h5⟩ := hsq
              have := h5 (.inr trivial)
              subst this
              rw [h4]
              simp
          rw [hv0]
          obtain ⟨v', w', g1, g2, g3, g4⟩ := run_append_any (P := P) (w := w) (ty := ty) hu hti hsz hby hiz hzs h0 hown hnil hyl hyc hy1 (by omega) hb
          have hob : ∀ b, v0.ownBlock = some b → ∃ x, ρ.m r = some x ∧ x.2.blk = some b := fun b h => ⟨_, hr, h⟩
          have hv' : ∀ b, (CLoc.row v' e' sz').blk = some b → v0.ownBlock = some b ∨ w.heap.size ≤ b := fun b h => by
            simp only [CLoc.blk] at h
            rcases g4 with g4 | g4
            · exact .inl (by rw [← g4]; exact h)
            · rw [g4] at h
              injection h with h
              exact .inr (by omega)
          have hle' : ∀ x, ρ.m r = some x → LocLe x (g + 2, .row v' e' sz') := fun x h => by
            rw [hr] at h
            injection h with h
            subst h
            exact ⟨by simp, fun h => by simp at h, rfl, fun h => by simp [CLoc.isRow] at h⟩
          have hf := upd_fr hL hob g3 hv' hle'
          have hnn : (g + 2) % 2 = 1 → v' ≠ .slice none 0 0 := fun hg hc => by
            have := (cur_ok hL ho hr).2 (by omega)
            rcases own_form hown with ⟨h00, _⟩ | ⟨b, cap', h00, _, _⟩
            · exact this (by first | exact h00 | (rw [← hv0] at h00; exact h00) | (rw [hv0]; exact h00))
            · rw [hc] at g4
              rcases g4 with g4 | g4 <;> simp [h00, Value.ownBlock] at g4
          obtain ⟨a1, c1, hv1, hsr⟩ := own_slrel g2
          refine ⟨v', w', _, g1, ?_, upd_sat hL hob g3 hv' hle' rfl ⟨rfl, ⟨hP, hnn⟩, hp, ?_, xs ++ ys, by rw [List.length_append]; exact g2, ?_⟩, hf⟩
          · rw [hv1]
            exact .slice (upd_same ..) (Nat.le_refl _) (fun _ => by rw [← hv1]; exact hsr)
          · intro el hel
            rcases List.mem_append.1 hel with h | h
            · exact hszs el h
            · exact hnsz el h
          · intro j y hj
            rw [List.flatten_append] at hj
            have hxl : els.flatten.length = xs.length := by rw [flatten_len hszs, hown.1]
            by_cases hlt : j < els.flatten.length
            · rw [List.getElem?_append_left hlt] at hj
              obtain ⟨k1, k2⟩ := hxs j y hj
              refine ⟨k1, ?_⟩
              have e : (xs ++ ys).getD j undef = xs.getD j undef := by
                simp only [List.getD_eq_getElem?_getD]
                rw [List.getElem?_append_left (by omega)]
              rw [e]
              exact k2.fr hf
            · rw [List.getElem?_append_right (by omega)] at hj
              obtain ⟨k1, k2⟩ := hyr _ y hj
              refine ⟨k2, ?_⟩
              have e : (xs ++ ys).getD j undef = ys.getD (j - els.flatten.length) undef := by
                simp only [List.getD_eq_getElem?_getD]
                rw [List.getElem?_append_right (by omega), hxl]
              rw [e]
              exact k1.fr hf
      · simp at h
    · simp at h
  | nilS =>
    simp only at h
    split at h
    · rename_i hh
      injection h with h
      injection h with e1 e2
      subst e1; subst e2
      obtain ⟨hr0, hb, h63⟩ := hh
      cases hs
      obtain ⟨v', w', g1, g2, g3, g4⟩ := run_append_any (P := P) (w := w) (ty := ty) hu hti hsz hby hiz hzs h0 (World.ownsRow_nil w 0 e sz) hnil hyl hyc hy1 (by omega) (by rw [Nat.zero_add]; exact hb)
      rw [Nat.zero_add, List.nil_append] at g2
      have g2' : w'.ownsRow w.heap.size e sz v' news.length ys := by
        refine ⟨g2.1, ?_⟩
        rcases g2.2 with h | ⟨b, cap', cur, h1, _, h2⟩
        · exact .inl h
        · refine .inr ⟨b, cap', cur, h1, ?_, h2⟩
          subst h1
          rcases g4 with g4 | g4
          · simp [Value.ownBlock] at g4
          · simp only [Value.ownBlock, Option.some.injEq] at g4
            omega
      obtain ⟨a1, c1, hv1, hsr⟩ := own_slrel g2
      obtain ⟨q1, q2⟩ := new_row (g := 0) hL (by simp) (r := r0) (e := e) (sz := sz) (els := news) (by simpa using hr0) (grownBy_drop (ob := none) (by
        exact ⟨g3.os, g3.tape, g3.output, g3.size, fun k hk _ => g3.block k hk (by simp [Value.ownBlock])⟩)) hP h0 hnsz g2' (fun j y hj => ⟨(hyr j y hj).2, (hyr j y hj).1⟩)
      refine ⟨v', w', _, g1, ?_, q1, q2⟩
      rw [hv1]
      exact .slice (upd_same ..) (Nat.le_refl _) (fun _ => by rw [← hv1]; exact hsr)
    · simp at h
  | _ => simp at h
end Go.Sk
namespace Go.Sk
open Go
theorem row_write {P : Program} {L : LH} {r g e sz b cap o : Nat} {els els' : List (List AVal)} {xs : List Value} {ρ : Rho} {w : World} (hL : SatL P ρ L w) (ho : aget L r = some (.row g e els))
    (hr : ρ.m r = some (g, .row (.slice (some ⟨b, 0, none⟩) els.length cap) e sz)) (hP : sz = P.cellsOf e) (hp : 0 < sz) (hsz : ∀ el ∈ els, el.length = sz) (hown : w.ownsRow 0 e sz (.slice (some ⟨b, 0, none⟩) els.length cap) els.length xs)
    (hxs : ∀ i x, els.flatten[i]? = some x → sc x = true ∧ VRel w ρ x (xs.getD i undef)) {vs : List AVal} {V : List Value} (hvl : V.length = vs.length) (hV : ∀ i v, vs[i]? = some v → sc v = true ∧ VRel w ρ v (V.getD i undef))
    (hfit : o + vs.length ≤ els.length * sz) (hl' : els'.length = els.length) (hsz' : ∀ el ∈ els', el.length = sz) (hfl : els'.flatten = setRange els.flatten o vs) :
    ∃ w', (storeCells ⟨b, o, none⟩ V).run P w = .ok () w' ∧ ∃ ρ', SatL P ρ' (aset L r (.row g e els')) w' ∧ Fr All ρ w ρ' w' := by
  rcases hown.2 with ⟨h5, _⟩ | ⟨b', cap', cur, h5, _, hh, hnc, hcm, hcs, htk⟩
  · simp at h5
  · injection h5 with h5 h6 h7
    injection h5 with h5
    injection h5 with h5
    subst h5; subst h7
    have hxl := hown.1
    have hcur : els.length * sz ≤ cur.size := by rw [hcs]; exact Nat.mul_le_mul_right _ hnc
    have hone : ∀ u ∈ V, u.oneCell' = true := by
      intro u hu
      obtain ⟨j, hj⟩ := List.mem_iff_getElem?.1 hu
      have hjl : j < vs.length := by rw [← hvl]; exact (List.getElem?_eq_some_iff.1 hj).1
      have h0 := hV j vs[j] (List.getElem?_eq_getElem hjl)
      have := h0.2.one h0.1
      have e : V.getD j undef = u := by simp [List.getD, hj]
      rw [e] at this
      exact this
    have hst := run_storeCells_at P b o e V 0 cur w hh (by rw [hvl]; omega) hone
    simp only [Nat.add_zero] at hst
    refine ⟨_, hst, upd ρ r (g, .row (.slice (some ⟨b, 0, none⟩) els.length cap) e sz), ?_⟩
    have hg : w.grownBy (w.setRow b (cur.toList.take o ++ V ++ cur.toList.drop (o + V.length)).toArray) (some b) :=
      ⟨rfl, rfl, rfl, by simp, fun j _ hj => setRow_other w b j _ (fun e => hj (by rw [e]))⟩
    have hob : ∀ b', some b = some b' → ∃ x, ρ.m r = some x ∧ x.2.blk = some b' := fun b' h => ⟨_, hr, by rw [← h]; rfl⟩
    have hv' : ∀ b', (CLoc.row (.slice (some ⟨b, 0, none⟩) els.length cap) e sz).blk = some b' → some b = some b' ∨ w.heap.size ≤ b' := fun b' h => .inl (by
      simp only [CLoc.blk, Value.ownBlock] at h; exact h)
    have hle' : ∀ x, ρ.m r = some x → LocLe x (g, .row (.slice (some ⟨b, 0, none⟩) els.length cap) e sz) := fun x h => by
      rw [hr] at h
      injection h with h
      subst h
      exact .refl _
    have hf := upd_fr hL hob hg hv' hle'
    refine ⟨upd_sat hL hob hg hv' hle' rfl ⟨rfl, ⟨hP, fun _ => by simp⟩, hp, hsz', setRange xs o V, ⟨?_, .inr ⟨b, cap, _, ?_, Nat.zero_le _, setRow_heap w b cur _ e _ hh, ?_, hcm, ?_, ?_⟩⟩, ?_⟩, hf⟩
    · rw [setRange_length _ _ _ (by rw [hvl, hxl]; omega), hxl, hl']
    · rw [hl']
    · rw [hl']; exact hnc
    · rw [List.size_toArray]
      exact (setRange_length cur.toList _ _ (by rw [hvl, Array.length_toList (xs := cur)]; omega)).trans (by rw [Array.length_toList]; exact hcs)
    · rw [hl']
      exact (take_setRange cur.toList V o (els.length * sz) (by rw [hvl]; omega) (by rw [Array.length_toList]; exact hcur)).trans (by rw [htk])
    · intro j x hj
      rw [hfl, setRange_get _ _ _ (by rw [flatten_len hsz]; omega)] at hj
      have eg := getD_set_range xs V o j (by rw [hvl, hxl]; omega) undef
      simp only [hvl] at eg
      rw [eg]
      split at hj
      · rename_i hc
        rw [if_pos hc]
        exact ⟨(hV _ x hj).1, (hV _ x hj).2.fr hf⟩
      · rename_i hc
        rw [if_neg hc]
        exact ⟨(hxs j x hj).1, (hxs j x hj).2.fr hf⟩
def stClear (P : Program) (L : LH) (t : Nat) (x : AVal) : Option LH :=
  match x with
  | .slice r g off len =>
    match aget L r with
    | some (.row g' e' els) =>
      (slE P t).bind fun y => (zCells P y.1).bind fun zc =>
        if g = g' ∧ e' = y.1 ∧ off + len ≤ els.length ∧ allSc zc = true then
          some (if len = 0 then L else aset L r (.row g' e' (els.take off ++ List.replicate len zc ++ els.drop (off + len)))) else none
    | _ => none
  | .nilS => (slE P t).map fun _ => L
  | _ => none
theorem stClear_sound {P : Program} {L L' : LH} {t : Nat} {x : AVal} (h : stClear P L t x = some L') {ρ : Rho} {w : World} (hL : SatL P ρ L w) {c : Value} (hx : VRel w ρ x c) (ty : Nat) :
    ∃ w' ρ', (Builtin.clear_ #[t] ty #[c]).run P w = .ok (.tuple #[]) w' ∧ SatL P ρ' L' w' ∧ Fr All ρ w ρ' w' := by
  unfold stClear at h
  split at h
  · rename_i r g off len
    split at h
    · rename_i g' e' els ho
      obtain ⟨⟨e, sz, by_⟩, hs, h1⟩ := Option.bind_eq_some_iff.1 h
      obtain ⟨zc, hz, h2⟩ := Option.bind_eq_some_iff.1 h1
      clear h h1
      split at h2
      case isFalse => simp at h2
      rename_i hc
      obtain ⟨rfl, he, hle, hzs⟩ := hc
      simp only at he hz
      subst he
      injection h2 with h2
      obtain ⟨hu, ti, hti, hszt, _⟩ := slE_spec hs
      obtain ⟨v0, sz', xs, hr, hP, hp, hsz', hown, hxs⟩ := cur_row hL ho
      have e1 : sz' = sz := by rw [hP, ← hszt]; simp [Program.cellsOf, hti]
      subst e1
      obtain ⟨i, z, hi, hiz, hzsz, h0, hzc, hzlen, hrunz⟩ := zCells_spec hz
      have : ti = i := by rw [hi] at hti; injection hti with h; exact h.symm
      subst this
      cases hx with
      | @slice _ _ _ _ n cc g0 sz0 a v1 e0 hr' hle' hsl =>
        rw [hr] at hr'
        injection hr' with hr'
        injection hr' with e1 e2
        injection e2 with e2 e3 e4
        subst e1; subst e2; subst e3; subst e4
        obtain ⟨rfl, hsl⟩ := hsl rfl
        by_cases hn : n = 0
        · subst hn
          simp only [if_true] at h2
          subst h2
          refine ⟨w, ρ, ?_, hL, .refl ..⟩
          cases a <;> simp [Builtin.clear_, run_underlying hu]
        · rw [if_neg hn] at h2
          subst h2
          rcases own_form hown with ⟨rfl, h00⟩ | ⟨b, cap, rfl, h1, h3⟩
          · omega
          · simp only at hsl
            obtain ⟨_, rfl, y, rfl, hy⟩ := hsl
            have hy := hy (.inl (by omega))
            subst hy
            have hzl : zc.length = sz' := by rw [hzlen, hP]
            have hrep : ∀ el ∈ List.replicate n zc, el.length = sz' := fun el hel => by rw [(List.mem_replicate.1 hel).2, hzl]
            obtain ⟨w', q1, ρ', q2, q3⟩ := row_write (o := off * sz') (vs := (List.replicate n zc).flatten) (V := (Builtin.zeroCells z.cells n).toList) (els' := els.take off ++ List.replicate n zc ++ els.drop (off + n)) hL ho hr hP hp hsz' hown hxs
              (by rw [flatten_len hrep]; simp [Builtin.zeroCells, hzsz, hszt])
              (fun i v hi => by
                have hlt : i < n * zc.length := by
                  have := (List.getElem?_eq_some_iff.1 hi).1
                  rw [flatten_len hrep] at this
                  simpa [hzl] using this
                rw [rep_flatten_get zc n i hlt] at hi
                refine ⟨List.all_eq_true.1 hzs v (List.mem_of_getElem? hi), ?_⟩
                rw [hzc] at hi
                have hcs := (CsRel.const w ρ z.cells).2 _ v hi
                have hzz : z.cells.size = zc.length := by rw [hzc]; simp
                have e : (Builtin.zeroCells z.cells n).toList.getD i undef = z.cells.getD (i % zc.length) undef := by
                  have hm : i % zc.length < z.cells.size := by rw [hzz]; exact Nat.mod_lt _ (by omega)
                  have e6 : z.cells[i % zc.length]! = z.cells[i % zc.length]'hm := getElem!_pos z.cells (i % zc.length) hm
                  simp [Builtin.zeroCells, List.getD, hzz, hlt, e6, Array.getElem?_eq_getElem hm]
                rw [e]
                have e5 : (List.map ofConst z.cells.toList).length = zc.length := by rw [hzc]
                rw [← e5]
                exact hcs)
              (by rw [flatten_len hrep, ← Nat.add_mul]; exact Nat.mul_le_mul_right _ (by simpa using hle))
              (by simp; omega)
              (fun el hel => by
                rcases List.mem_append.1 hel with hel | hel
                · rcases List.mem_append.1 hel with hel | hel
                  · exact hsz' el (List.mem_of_mem_take hel)
                  · exact hrep el hel
                · exact hsz' el (List.mem_of_mem_drop hel))
              (by
                simp only [List.flatten_append, setRange]
                rw [take_flatten hsz' off (by omega), drop_flatten hsz' (off + n) (by omega), flatten_len hrep]
                simp [Nat.add_mul])
            refine ⟨w', ρ', ?_, q2, q3⟩
            obtain ⟨m, rfl⟩ : ∃ m, n = m + 1 := ⟨n - 1, by omega⟩
            simp [Builtin.clear_, run_underlying hu, hrunz, q1]
    · simp at h
  · obtain ⟨s, hs, h1⟩ := Option.map_eq_some_iff.1 h
    subst h1
    cases hx
    obtain ⟨hu, _⟩ := slE_spec (e := s.1) (sz := s.2.1) (by_ := s.2.2) hs
    exact ⟨w, ρ, by simp [Builtin.clear_, run_underlying hu], hL, .refl ..⟩
  · simp at h
def bytesOf : List (List AVal) → Option (List Int)
  | [] => some []
  | [.dat (.int .u8 n)] :: l => (bytesOf l).map fun ns => n :: ns
  | _ => none
def aconvL (P : Program) (L : LH) (src dst : TypeId) (v : AVal) : Option AVal :=
  match P.underlying src, P.underlying dst with
  | some (.slice e), some .string => match P.underlying e with
    | some (.int .u8) => if P.cellsOf e = 1 then (elsOf L e 1 v).bind fun els => (bytesOf els).map fun ns => .dat (.str (strOfNums ns)) else none
    | _ => none
  | _, _ => none
theorem bytesOf_spec : ∀ {els : List (List AVal)} {ns : List Int}, bytesOf els = some ns → els = ns.map fun n => [.dat (.int .u8 n)]
  | [], ns, h => by simp only [bytesOf, Option.some.injEq] at h; subst h; rfl
  | el :: l, ns, h => by
    unfold bytesOf at h
    split at h
    · rename_i heq; simp at heq
    · rename_i n l' heq
      injection heq with e1 e2
      subst e1; subst e2
      obtain ⟨ms, hms, rfl⟩ := Option.map_eq_some_iff.1 h
      rw [bytesOf_spec hms]; rfl
    · simp at h
theorem bytes_flatten : ∀ ns : List Int, (ns.map fun n => [AVal.dat (.int .u8 n)]).flatten = ns.map fun n => AVal.dat (.int .u8 n)
  | [] => rfl
  | n :: ns => by simp [bytes_flatten ns]
theorem aconvL_sound {P : Program} {L : LH} {src dst : TypeId} {v u : AVal} (h : aconvL P L src dst v = some u) {ρ : Rho} {w : World} (hL : SatL P ρ L w) {c : Value} (hv : VRel w ρ v c) :
    ∃ c', (convert src dst c).run P w = .ok c' w ∧ VRel w ρ u c' := by
  unfold aconvL at h
  split at h
  · rename_i e hs hd
    split at h
    case h_2 => simp at h
    rename_i he
    split at h
    case isFalse => simp at h
    rename_i he1
    obtain ⟨els, h1, h2⟩ := Option.bind_eq_some_iff.1 h
    obtain ⟨ns, h3, rfl⟩ := Option.map_eq_some_iff.1 h2
    obtain ⟨a, n, cap, rfl, rfl, h5, h6, h7⟩ := elsOf_sound h1 hL he1.symm hv
    have hels := bytesOf_spec h3
    rw [run_convert_bytes_string w src dst e _ _ _ hs he hd]
    cases a with
    | none =>
      obtain ⟨h8, _⟩ := h6 rfl
      have : ns = [] := by
        have : els = [] := List.eq_nil_of_length_eq_zero h8
        rw [this] at hels
        cases ns with
        | nil => rfl
        | cons _ _ => simp at hels
      subst this
      exact ⟨_, by simp [Conv.bytesToString]; rfl, .dat (.str _)⟩
    | some a =>
      obtain ⟨cv, hcv⟩ := h7 a rfl
      have hlen : els.length = ns.length := by rw [hels]; simp
      have hl : (loadCells a els.length).run P w = .ok (ns.map (Value.int .u8)).toArray w := by
        have := run_loadCells_list (P := P) w a (ns.map (Value.int .u8)) (fun j v hj => by
          rw [List.getElem?_map] at hj
          obtain ⟨m, hm, rfl⟩ := Option.map_eq_some_iff.1 hj
          have hfl : els.flatten[j]? = some (.dat (.int .u8 m)) := by
            have : els.flatten = ns.map fun n => AVal.dat (.int .u8 n) := by
              rw [hels]
              exact bytes_flatten ns
            rw [this, List.getElem?_map, hm]; rfl
          obtain ⟨q1, q2, _⟩ := hcv j _ hfl
          rw [q1]
          generalize cv j = cj at q2
          cases q2 with
          | dat q2 => cases q2; rfl)
        simpa [hlen] using this
      refine ⟨_, by rw [run_bytesToString w a _ cap ns hl, foldl_push_bytes], ?_⟩
      have : (⟨ByteArray.empty.data ++ (ns.map fun n => UInt8.ofNat n.toNat).toArray⟩ : ByteArray) = strOfNums ns := by
        simp [strOfNums, ByteArray.empty, ByteArray.emptyWithCapacity]
        rfl
      rw [this]
      exact .dat (.str _)
  · simp at h
end Go.Sk
namespace Go.Sk
open Go
def setO (w : World) (b : Nat) (o : Obj) : World := { w with heap := w.heap.setIfInBounds b o }
theorem setO_other (w : World) {b b' : Nat} (o : Obj) (h : b' ≠ b) : (setO w b o).heap[b']? = w.heap[b']? := by
  simp [setO, Array.getElem?_setIfInBounds, Ne.symm h]
theorem setO_same (w : World) {b : Nat} (o : Obj) (h : b < w.heap.size) : (setO w b o).heap[b]? = some o := by
  simp [setO, h]
theorem setO_size (w : World) (b : Nat) (o : Obj) : (setO w b o).heap.size = w.heap.size := by simp [setO]
def Obj.isCells : Obj → Bool
  | .cells .. => true
  | _ => false
theorem DRel.setO {w : World} {own : Nat → Prop} {b : Nat} {o o' : Obj} (hb : w.heap[b]? = some o) (hn : Obj.isCells o = false) {d : Dat} {v : Value} (h : DRel w own d v) : DRel (setO w b o') own d v := by
  induction h with
  | bool b => exact .bool b
  | int k n => exact .int k n
  | str s => exact .str s
  | nil sz => exact .nil sz
  | sl els sz cap a cv hsz hcap hm hc hd ih =>
    refine .sl els sz cap a cv hsz hcap hm (fun j d hj => ?_) ih
    obtain ⟨h1, h2⟩ := hc j d hj
    refine ⟨h1, ?_⟩
    have hne : (a.add j).block ≠ b := by
      intro e
      unfold World.cell? at h2
      rw [e, hb] at h2
      cases o <;> simp_all [Obj.isCells]
    exact (World.cell?_of_block (setO_other w o' hne)).trans h2
theorem VRel.setO {w : World} {ρ : Rho} {b : Nat} {o o' : Obj} (hb : w.heap[b]? = some o) (hn : Obj.isCells o = false) {v : AVal} {c : Value} (h : VRel w ρ v c) : VRel (setO w b o') ρ v c := by
  induction h with
  | undef v => exact .undef v
  | dat h => exact .dat (h.setO hb hn)
  | slice hr hg h => exact .slice hr hg h
  | ptr hr hg h => exact .ptr hr hg h
  | @pdat cells k a cv hc hd =>
    refine .pdat (cv := cv) (fun j d hj => ?_) (fun j d hj => (hd j d hj).setO hb hn)
    obtain ⟨h1, h2⟩ := hc j d hj
    have hne : (a.add j).block ≠ b := by
      intro e
      unfold World.cell? at h2
      rw [e, hb] at h2
      cases o <;> simp_all [Obj.isCells]
    exact ⟨h1, (World.cell?_of_block (setO_other w o' hne)).trans h2⟩
  | raw h => exact .raw h
  | nilS => exact .nilS
  | agg hs _ ih => exact .agg hs ih
  | tup hs _ ih => exact .tup hs ih
  | fn hs0 _ hs _ ih0 ih => exact .fn hs0 ih0 hs ih
  | map hr => exact .map hr
  | yld hr => exact .yld hr
  | iface _ ih => exact .iface ih
theorem ORel.setO {P : Program} {w : World} {ρ : Rho} {b : Nat} {o o' : Obj} (hb : w.heap[b]? = some o) (hn : Obj.isCells o = false) {l : CLoc} {x : AObj} (hne : l.blk ≠ some b) (h : ORel P w ρ l x) : ORel P (setO w b o') ρ l x := by
  cases l with
  | row v e sz =>
    cases x with
    | map _ => exact h.elim
    | loop _ _ _ _ _ _ _ => exact h.elim
    | glob _ _ => exact h.elim
    | row g e' els =>
      obtain ⟨h1, h2, h3, h4, xs, ho, hx⟩ := h
      refine ⟨h1, h2, h3, h4, xs, ⟨ho.1, ?_⟩, fun i x hi => ⟨(hx i x hi).1, (hx i x hi).2.setO hb hn⟩⟩
      rcases ho.2 with h | ⟨g', cap, cur, q1, q2, q3, q4⟩
      · exact .inl h
      · refine .inr ⟨g', cap, cur, q1, q2, ?_, q4⟩
        rw [setO_other w o' (fun e => hne (by simp [CLoc.blk, q1, Value.ownBlock, e]))]
        exact q3
  | map b' =>
    cases x with
    | row _ _ _ => exact h.elim
    | loop _ _ _ _ _ _ _ => exact h.elim
    | glob _ _ => exact h.elim
    | map es =>
      obtain ⟨ents, cl, hh, hs, hx⟩ := h
      refine ⟨ents, cl, ?_, hs, fun i k v hi => ⟨(hx i k v hi).1.setO hb hn, (hx i k v hi).2.setO hb hn⟩⟩
      rw [setO_other w o' (fun e => hne (by simp [CLoc.blk, e]))]
      exact hh
  | loop b' =>
    cases x with
    | row _ _ _ => exact h.elim
    | map _ => exact h.elim
    | glob _ _ => exact h.elim
    | loop st pend N E ps asg body =>
      obtain ⟨fn, tmps, d, hh, hs, hx⟩ := h
      refine ⟨fn, tmps, d, ?_, hs, fun t v ht => ⟨(hx t v ht).1, (hx t v ht).2.setO hb hn⟩⟩
      rw [setO_other w o' (fun e => hne (by simp [CLoc.blk, e]))]
      exact hh
  | glob g =>
    cases x with
    | row _ _ _ => exact h.elim
    | map _ => exact h.elim
    | loop _ _ _ _ _ _ _ => exact h.elim
    | glob g' cells =>
      obtain ⟨rfl, hv⟩ := h
      exact ⟨rfl, hv.setO hb hn⟩
theorem SatL.setO {P : Program} {ρ : Rho} {L : LH} {w : World} {b : Nat} {o o' : Obj} (h : SatL P ρ L w) (hb : w.heap[b]? = some o) (hn : Obj.isCells o = false) (hown : ¬ ownM ρ b) : SatL P ρ L (setO w b o') where
  obj r x hr := by
    obtain ⟨l, h1, h2⟩ := h.obj r x hr
    exact ⟨l, h1, h2.setO hb hn (fun e => hown ⟨r, _, l, h1, e⟩)⟩
  dom := h.dom
  inj := h.inj
  dis := h.dis
  elt b' hx := by rw [setO_size]; exact h.elt b' hx
def asame : TypeDesc → AVal → AVal → Option Bool
  | .int _, .dat (.int k a), .dat (.int k' b) => if k = k' then some (a == b) else none
  | .bool, .dat (.bool a), .dat (.bool b) => some (a == b)
  | _, _, _ => none
def afind (kd : TypeDesc) (k : AVal) : List (AVal × AVal) → Nat → Option (Option (Nat × AVal))
  | [], _ => some none
  | e :: es, i =>
    match asame kd k e.1 with
    | some true => some (some (i, e.2))
    | some false => afind kd k es (i + 1)
    | none => none
theorem asame_sound {kd : TypeDesc} {k k' : AVal} {b : Bool} (h : asame kd k k' = some b) {w : World} {ρ : Rho} {c c' : Value} (hk : VRel w ρ k c) (hk' : VRel w ρ k' c') : Instr.sameNow kd c c' = some b ∧ (b = true → Instr.sameBits 10000 c' c = true) := by
  unfold asame at h
  split at h
  · cases hk with
    | dat hk =>
    cases hk
    cases hk' with
    | dat hk' =>
    cases hk'
    split at h
    · rename_i e
      injection h with h
      subst h
      refine ⟨by simp [Instr.sameNow, e], fun hb => ?_⟩
      have := eq_of_beq hb
      subst this
      simp [Instr.sameBits, e]
    · simp at h
  · cases hk with
    | dat hk =>
    cases hk
    cases hk' with
    | dat hk' =>
    cases hk'
    injection h with h
    subst h
    refine ⟨by simp [Instr.sameNow], fun hb => ?_⟩
    have := eq_of_beq hb
    subst this
    simp [Instr.sameBits]
  · simp at h
theorem afind_sound {kd : TypeDesc} {k : AVal} {w : World} {ρ : Rho} {c : Value} (hk : VRel w ρ k c) : ∀ {es : List (AVal × AVal)} {ents : List MapEntry} {i : Nat} {r : Option (Nat × AVal)}, afind kd k es i = some r → es.length = ents.length →
    (∀ j kk v, es[j]? = some (kk, v) → VRel w ρ kk (ents.getD j default).key ∧ VRel w ρ v (ents.getD j default).val) →
    match r with
    | none => Instr.findNow kd c ents i = some none
    | some (n, v) => ∃ cv e j, n = i + j ∧ j < ents.length ∧ Instr.findNow kd c ents i = some (some (n, cv)) ∧ VRel w ρ v cv ∧ ents[j]? = some e ∧ Instr.sameBits 10000 e.key c = true
  | [], [], i, r, h, _, _ => by
    simp only [afind, Option.some.injEq] at h
    subst h
    rfl
  | [], _ :: _, i, r, h, hl, _ => by simp at hl
  | _ :: _, [], i, r, h, hl, _ => by simp at hl
  | (k1, v1) :: es, e :: ents, i, r, h, hl, hr => by
    obtain ⟨h1, h2⟩ := hr 0 k1 v1 rfl
    simp only [List.getD_cons_zero] at h1 h2
    simp only [afind] at h
    split at h
    · rename_i hs
      injection h with h
      subst h
      obtain ⟨g1, g2⟩ := asame_sound hs hk h1
      exact ⟨e.val, e, 0, rfl, by simp, by simp [Instr.findNow, g1], h2, rfl, g2 rfl⟩
    · rename_i hs
      obtain ⟨g1, g2⟩ := asame_sound hs hk h1
      have ih := afind_sound hk (es := es) (ents := ents) h (by simpa using hl) (fun j kk v hj => by
        have := hr (j + 1) kk v (by simpa using hj)
        simpa using this)
      cases r with
      | none => simpa [Instr.findNow, g1] using ih
      | some p =>
        obtain ⟨n, v⟩ := p
        obtain ⟨cv, e', j, q1, q2, q3, q4, q5, q6⟩ := ih
        exact ⟨cv, e', j + 1, by omega, by simpa using q2, by simpa [Instr.findNow, g1] using q3, q4, by simpa using q5, q6⟩
    · simp at h
def simpleKey : TypeDesc → Bool
  | .int _ | .string | .bool => true
  | _ => false
theorem checkKey_simple {P : Program} {w : World} {kt : TypeId} {kd : TypeDesc} (hu : P.underlying kt = some kd) (hs : simpleKey kd = true) (b : Bool) (n : Nat) (c : Value) : (Instr.checkKey b (n + 1) kt c).run P w = .ok () w := by
  cases kd <;> simp [simpleKey] at hs <;> simp [Instr.checkKey, run_underlying hu]
def zeroA (P : Program) (t : TypeId) : Option AVal :=
  (P.info? t).bind fun i => i.zero.map fun z => match z with
    | .agg cells => .agg (cells.toList.map ofConst)
    | z => ofConst z
theorem zeroA_sound {P : Program} {t : TypeId} {v : AVal} (h : zeroA P t = some v) (w : World) (ρ : Rho) : ∃ c, (zeroValue t).run P w = .ok c w ∧ VRel w ρ v c := by
  unfold zeroA at h
  obtain ⟨i, hi, h⟩ := Option.bind_eq_some_iff.1 h
  obtain ⟨z, hz, h⟩ := Option.map_eq_some_iff.1 h
  refine ⟨z, by simp [zeroValue, typeInfo, hi, hz], ?_⟩
  split at h
  · subst h
    have := CsRel.const w ρ (by assumption)
    exact .agg this.1 this.2
  · subst h
    exact ofConst_rel w ρ _
def alookup (P : Program) (L : LH) (t : TypeId) (x k : AVal) (ok : Bool) : Option AVal :=
  match P.underlying t with
  | some (.map kt et) =>
    (P.underlying kt).bind fun kd =>
      if simpleKey kd = true then
        (match x with
         | .map r => match aget L r with
           | some (.map es) => some es
           | _ => none
         | .raw (.map none) => some []
         | _ => none).bind fun es =>
        match afind kd k es 0 with
        | some (some (_, v)) => some (if ok then .tup [v, .dat (.bool true)] else v)
        | some none => (zeroA P et).map fun v => if ok then .tup [v, .dat (.bool false)] else v
        | none => none
      else none
  | _ => none
theorem map_at {P : Program} {ρ : Rho} {L : LH} {w : World} (hL : SatL P ρ L w) {r : Nat} {es : List (AVal × AVal)} (hr : aget L r = some (.map es)) : ∃ b ents clock, ρ.m r = some (0, .map b) ∧ w.heap[b]? = some (.map ents clock) ∧ ents.size = es.length ∧
    ∀ i k v, es[i]? = some (k, v) → VRel w ρ k (ents.getD i default).key ∧ VRel w ρ v (ents.getD i default).val := by
  obtain ⟨l, h1, h2⟩ := hL.obj r _ hr
  cases l with
  | row _ _ _ => exact h2.elim
  | loop _ => exact h2.elim
  | glob _ => exact h2.elim
  | map b =>
    obtain ⟨ents, cl, h3, h4, h5⟩ := h2
    exact ⟨b, ents, cl, h1, h3, h4, h5⟩
theorem tup2 {w : World} {ρ : Rho} {u v : AVal} {c d : Value} (h1 : VRel w ρ u c) (h2 : VRel w ρ v d) : VRel w ρ (.tup [u, v]) (.tuple #[c, d]) :=
  .tup rfl (fun i x hi => by
    rcases i with _ | _ | i
    · simp at hi; subst hi; exact h1
    · simp at hi; subst hi; exact h2
    · simp at hi)
theorem alookup_sound {P : Program} {L : LH} {t : TypeId} {x k u : AVal} {ok : Bool} (h : alookup P L t x k ok = some u) {ρ : Rho} {w : World} (hL : SatL P ρ L w) {cx ck : Value} (hx : VRel w ρ x cx) (hk : VRel w ρ k ck) :
    ∃ c, (Instr.lookup t cx ck ok).run P w = .ok c w ∧ VRel w ρ u c := by
  unfold alookup at h
  split at h
  case h_2 => simp at h
  rename_i kt et ht
  obtain ⟨kd, hkd, hA⟩ := Option.bind_eq_some_iff.1 h
  clear h
  split at hA
  case isFalse => simp at hA
  rename_i hs
  obtain ⟨es, hes, hB⟩ := Option.bind_eq_some_iff.1 hA
  clear hA
  -- the entries
  have hents : ∃ ents : Array MapEntry, es.length = ents.size ∧ (∀ j kk v, es[j]? = some (kk, v) → VRel w ρ kk (ents.getD j default).key ∧ VRel w ρ v (ents.getD j default).val) ∧
      ((cx = .map none ∧ ents = #[]) ∨ ∃ b, cx = .map (some b) ∧ ∃ cl, (getObj b).run P w = .ok (Obj.map ents cl) w) := by
    split at hes
    · rename_i r
      split at hes
      · rename_i es' hr
        injection hes with hes
        subst hes
        obtain ⟨b, ents, cl, q1, q2, q3, q4⟩ := map_at hL hr
        cases hx with
        | @map _ g b' hr' =>
          rw [q1] at hr'
          injection hr' with hr'
          injection hr' with _ hr'
          injection hr' with hr'
          subst hr'
          have hg : (getObj b).run P w = .ok (Obj.map ents cl) w := by simp [getObj, Sem.run, q2]
          exact ⟨ents, q3.symm, q4, .inr ⟨b, rfl, cl, hg⟩⟩
      · simp at hes
    · injection hes with hes
      subst hes
      cases hx
      exact ⟨#[], rfl, fun j kk v hj => by simp at hj, .inl ⟨rfl, rfl⟩⟩
    · simp at hes
  obtain ⟨ents, hlen, hrel, hrun⟩ := hents
  have hrel' : ∀ j kk v, es[j]? = some (kk, v) → VRel w ρ kk (ents.toList.getD j default).key ∧ VRel w ρ v (ents.toList.getD j default).val := fun j kk v hj => by
    have := hrel j kk v hj
    simpa [List.getD, Array.getD_eq_getD_getElem?] using this
  have hck : ∀ b, (Instr.checkKey b 10000 kt ck).run P w = .ok () w := fun b => checkKey_simple hkd hs b 9999 ck
  have hgo : ∀ {R : Value}, Sem.run P (do
        Instr.checkKey ents.isEmpty 10000 kt ck
        let (v, o) ← match ← Instr.findKey kt ck ents.toList with
          | some (_, v) => pure (v, true)
          | none => pure (← zeroValue et, false)
        pure (if ok then .tuple #[v, .bool o] else v)) w = .ok R w → (Instr.lookup t cx ck ok).run P w = .ok R w := by
    intro R hR
    rw [← hR]
    rcases hrun with ⟨rfl, rfl⟩ | ⟨b, rfl, cl, hg⟩
    · simp only [Instr.lookup, Sem.run_bind, run_underlying ht, Result.andThen_ok, Sem.run_pure]
      rfl
    · simp only [Instr.lookup, Sem.run_bind, run_underlying ht, Result.andThen_ok, Sem.run_pure, hg]
      rfl
  split at hB
  · rename_i n v hf
    injection hB with hB
    subst hB
    obtain ⟨cv, e, j, q1, q2, q3, q4, q5, q6⟩ := afind_sound hk hf (by simpa using hlen) hrel'
    refine ⟨if ok then .tuple #[cv, .bool true] else cv, hgo ?_, ?_⟩
    · simp [Sem.run_bind, hck, Instr.findKey, run_underlying hkd, q3]
    · cases ok
      · exact q4
      · exact tup2 q4 (.dat (.bool true))
  · rename_i hf
    obtain ⟨z, hz, hB⟩ := Option.map_eq_some_iff.1 hB
    subst hB
    have q3 := afind_sound hk hf (by simpa using hlen) hrel'
    simp only at q3
    obtain ⟨cz, z1, z2⟩ := zeroA_sound hz w ρ
    refine ⟨if ok then .tuple #[cz, .bool false] else cz, hgo ?_, ?_⟩
    · simp [Sem.run_bind, hck, Instr.findKey, run_underlying hkd, q3, z1]
    · cases ok
      · exact z2
      · exact tup2 z2 (.dat (.bool false))
  · simp at hB
def stMakeMap (L : LH) (r : Nat) : Option (AVal × LH) :=
  if (aget L r).isNone = true then some (.map r, aset L r (.map [])) else none
theorem stMakeMap_sound {P : Program} {L L' : LH} {r t : Nat} {u : AVal} (h : stMakeMap L r = some (u, L')) {ρ : Rho} {w : World} (hL : SatL P ρ L w) :
    ∃ c' w' ρ', (Instr.makeMap t none).run P w = .ok c' w' ∧ VRel w' ρ' u c' ∧ SatL P ρ' L' w' ∧ Fr All ρ w ρ' w' := by
  unfold stMakeMap at h
  split at h
  case isFalse => simp at h
  rename_i hr
  injection h with h
  injection h with e1 e2
  subst e1; subst e2
  have hr' : aget L r = none := by simpa using hr
  have hρ : ρ.m r = none := by
    cases h : ρ.m r with
    | none => rfl
    | some x => obtain ⟨o, ho⟩ := hL.dom r x h; rw [hr'] at ho; simp at ho
  have hob : ∀ b, (none : Option Nat) = some b → ∃ x, ρ.m r = some x ∧ x.2.blk = some b := fun b h => by simp at h
  have hv : ∀ b, (CLoc.map w.heap.size).blk = some b → (none : Option Nat) = some b ∨ w.heap.size ≤ b := fun b h => by
    simp only [CLoc.blk, Option.some.injEq] at h; right; omega
  have hle : ∀ x, ρ.m r = some x → LocLe x (0, CLoc.map w.heap.size) := fun x h => by rw [hρ] at h; simp at h
  have hg : w.grownBy (w.alloc (.map #[] 0)) none := World.grownBy_alloc w _ none
  have hf := upd_fr (l := CLoc.map w.heap.size) (g := 0) hL hob hg hv hle
  exact ⟨_, _, _, rfl, .map (upd_same ..), upd_sat (o := .map []) hL hob hg hv hle rfl ⟨#[], 0, by simp [World.alloc], rfl, fun i k v hi => by simp at hi⟩, hf⟩
theorem map_set {P : Program} {ρ : Rho} {L : LH} {w : World} (hL : SatL P ρ L w) {r b cl cl' : Nat} {es es' : List (AVal × AVal)} {ents ents' : Array MapEntry} (hr : aget L r = some (.map es)) (hm : ρ.m r = some (0, .map b)) (hb : w.heap[b]? = some (.map ents cl))
    (hl : ents'.size = es'.length) (hx : ∀ i k v, es'[i]? = some (k, v) → VRel w ρ k (ents'.getD i default).key ∧ VRel w ρ v (ents'.getD i default).val) :
    SatL P ρ (aset L r (.map es')) (setO w b (.map ents' cl')) ∧ Fr All ρ w ρ (setO w b (.map ents' cl')) := by
  have hv : ∀ v c, VRel w ρ v c → VRel (setO w b (.map ents' cl')) ρ v c := fun v c h => h.setO hb rfl
  have hlt := (Array.getElem?_eq_some_iff.1 hb).1
  refine ⟨⟨fun q o ho => ?_, fun q x hx => ?_, hL.inj, hL.dis, fun q hq => by rw [setO_size]; exact hL.elt q hq⟩, ⟨rfl, rfl, rfl, by rw [setO_size]; exact Nat.le_refl _, fun q hq ho => ?_, fun _ _ h => h, rfl, fun q x _ hx => ⟨x, hx, .refl x⟩⟩⟩
  · rw [aget_aset] at ho
    by_cases e : r = q
    · subst e
      simp only [if_true, Option.some.injEq] at ho
      subst ho
      exact ⟨_, hm, ents', cl', setO_same w _ hlt, hl, fun i k v hi => ⟨hv _ _ (hx i k v hi).1, hv _ _ (hx i k v hi).2⟩⟩
    · rw [if_neg e] at ho
      obtain ⟨l, h1, h2⟩ := hL.obj q o ho
      exact ⟨l, h1, h2.setO hb rfl (fun hh => e (hL.inj r q _ _ b hm h1 rfl hh))⟩
  · rw [aget_aset]
    by_cases e : r = q
    · exact ⟨_, by rw [if_pos e]⟩
    · rw [if_neg e]; exact hL.dom q x hx
  · exact setO_other w _ (fun (e : q = b) => ho (e ▸ ⟨r, 0, _, hm, rfl⟩))
def stMapUpdate (P : Program) (L : LH) (t : TypeId) (m k v : AVal) : Option LH :=
  match P.underlying t, m with
  | some (.map kt _), .map r =>
    (P.underlying kt).bind fun kd =>
      if simpleKey kd = true then
        match aget L r with
        | some (.map es) =>
          match afind kd k es 0 with
          | some (some (i, _)) => some (aset L r (.map (es.set i (k, v))))
          | some none => some (aset L r (.map (es ++ [(k, v)])))
          | none => none
        | _ => none
      else none
  | _, _ => none
theorem stMapUpdate_sound {P : Program} {L L' : LH} {t : TypeId} {m k v : AVal} (h : stMapUpdate P L t m k v = some L') {ρ : Rho} {w : World} (hL : SatL P ρ L w) {cm ck cv : Value} (hm : VRel w ρ m cm) (hk : VRel w ρ k ck) (hv : VRel w ρ v cv) :
    ∃ w' ρ', (Instr.mapUpdate t cm ck cv).run P w = .ok () w' ∧ SatL P ρ' L' w' ∧ Fr All ρ w ρ' w' := by
  unfold stMapUpdate at h
  split at h
  case h_2 => simp at h
  rename_i kt et r ht
  obtain ⟨kd, hkd, hA⟩ := Option.bind_eq_some_iff.1 h
  clear h
  split at hA
  case isFalse => simp at hA
  rename_i hs
  split at hA
  case h_2 => simp at hA
  rename_i es hr
  obtain ⟨b, ents, cl, q1, q2, q3, q4⟩ := map_at hL hr
  cases hm with
  | @map _ g b' hr' =>
    rw [q1] at hr'
    injection hr' with hr'
    injection hr' with _ hr'
    injection hr' with hr'
    subst hr'
    have hg : (getObj b).run P w = .ok (Obj.map ents cl) w := by simp [getObj, Sem.run, q2]
    have hset : ∀ o, (setObj b o).run P w = .ok () (setO w b o) := fun o => by simp [setObj, Sem.run, setO, q2]
    have hck : ∀ b, (Instr.checkKey b 10000 kt ck).run P w = .ok () w := fun b => checkKey_simple hkd hs b 9999 ck
    have hrel' : ∀ j kk v, es[j]? = some (kk, v) → VRel w ρ kk (ents.toList.getD j default).key ∧ VRel w ρ v (ents.toList.getD j default).val := fun j kk v hj => by
      have := q4 j kk v hj
      simpa [List.getD, Array.getD_eq_getD_getElem?] using this
    split at hA
    · rename_i i v0 hf
      injection hA with hA
      subst hA
      obtain ⟨cv0, e, j, p1, p2, p3, p4, p5, p6⟩ := afind_sound hk hf (by simpa using q3.symm) hrel'
      have hij : i = j := by omega
      subst hij
      have he : ents[i]? = some e := by simpa using p5
      obtain ⟨s1, s2⟩ := map_set (cl' := cl) (es' := es.set i (k, v)) (ents' := ents.modify i fun e => { e with key := ck, val := cv }) hL hr q1 q2 (by simp [q3]) (fun n kk vv hn => by
        rw [List.getElem?_set] at hn
        simp only [Array.getD_eq_getD_getElem?, Array.getElem?_modify]
        by_cases e1 : i = n
        · subst e1
          rw [if_pos rfl] at hn
          split at hn
          · simp only [Option.some.injEq, Prod.mk.injEq] at hn
            obtain ⟨rfl, rfl⟩ := hn
            simp only [if_true, he, Option.map_some, Option.getD_some]
            exact ⟨hk, hv⟩
          · simp at hn
        · rw [if_neg e1] at hn
          rw [if_neg e1]
          have := q4 n kk vv hn
          simpa [Array.getD_eq_getD_getElem?] using this)
      refine ⟨_, ρ, ?_, s1, s2⟩
      simp [Instr.mapUpdate, Sem.run_bind, run_underlying ht, hg, hck, Instr.findKey, run_underlying hkd, p3, he, Instr.keyThatStays, p6, hset]
    · rename_i hf
      injection hA with hA
      subst hA
      have p3 := afind_sound hk hf (by simpa using q3.symm) hrel'
      simp only at p3
      obtain ⟨s1, s2⟩ := map_set (cl' := cl + 1) (es' := es ++ [(k, v)]) (ents' := ents.push { key := ck, val := cv, born := cl }) hL hr q1 q2 (by simp [q3]) (fun n kk vv hn => by
        simp only [Array.getD_eq_getD_getElem?, Array.getElem?_push]
        by_cases e1 : n = ents.size
        · subst e1
          rw [List.getElem?_append_right (by omega), q3, Nat.sub_self] at hn
          simp only [List.getElem?_cons_zero, Option.some.injEq, Prod.mk.injEq] at hn
          obtain ⟨rfl, rfl⟩ := hn
          simp only [if_true, Option.getD_some]
          exact ⟨hk, hv⟩
        · rw [if_neg e1]
          have hlt : n < es.length := by
            have := (List.getElem?_eq_some_iff.1 hn).1
            simp at this
            omega
          rw [List.getElem?_append_left hlt] at hn
          have := q4 n kk vv hn
          simpa [Array.getD_eq_getD_getElem?] using this)
      refine ⟨_, ρ, ?_, s1, s2⟩
      simp [Instr.mapUpdate, Sem.run_bind, run_underlying ht, hg, hck, Instr.findKey, run_underlying hkd, p3, hset]
    · simp at hA
end Go.Sk
namespace Go.Sk
open Go
def aun (op : UnOp) (v : AVal) : Option AVal :=
  match op, v with
  | .neg, .dat (.int k n) => some (.dat (.int k (k.wrap (0 - n))))
  | .xor, .dat (.int k n) => (aint .xor k (if k.signed then -1 else k.max) n).map .dat
  | .not, .dat (.bool b) => some (.dat (.bool !b))
  | _, _ => none
theorem aun_sound {P : Program} {op : UnOp} {v u : AVal} (h : aun op v = some u) {w : World} {ρ : Rho} {c : Value} (hv : VRel w ρ v c) : ∃ c', (Op.unary op c).run P w = .ok c' w ∧ VRel w ρ u c' := by
  unfold aun at h
  split at h
  · cases hv with
    | dat hv =>
    cases hv
    injection h with h; subst h
    exact ⟨_, by simp [Op.unary, Op.intArith], .dat (.int _ _)⟩
  · cases hv with
    | dat hv =>
    cases hv
    simp only [aint, Option.map_some, Option.some.injEq] at h
    subst h
    exact ⟨_, by simp [Op.unary, Op.intBits], .dat (.int _ _)⟩
  · cases hv with
    | dat hv =>
    cases hv
    injection h with h; subst h
    exact ⟨_, by simp [Op.unary], .dat (.bool _)⟩
  · simp at h
def aconv (P : Program) (src dst : TypeId) (v : AVal) : Option AVal :=
  match P.underlying src, P.underlying dst, v with
  | some _, some (.int k), .dat (.int _ n) => some (.dat (.int k (k.wrap n)))
  | some .string, some .string, .dat (.str s) => some (.dat (.str s))
  | _, _, _ => none
theorem aconv_sound {P : Program} {src dst : TypeId} {v u : AVal} (h : aconv P src dst v = some u) {w : World} {ρ : Rho} {c : Value} (hv : VRel w ρ v c) : ∃ c', (convert src dst c).run P w = .ok c' w ∧ VRel w ρ u c' := by
  unfold aconv at h
  split at h
  · rename_i h1 h2
    cases hv with
    | dat hv =>
    cases hv
    injection h with h; subst h
    exact ⟨_, by simp [convert, run_underlying h1, run_underlying h2, Conv.intToInt], .dat (.int _ _)⟩
  · rename_i h1 h2
    cases hv with
    | dat hv =>
    cases hv
    injection h with h; subst h
    exact ⟨_, by simp [convert, run_underlying h1, run_underlying h2], .dat (.str _)⟩
  · simp at h
def aextract (v : AVal) (i : Nat) : Option AVal :=
  match v with
  | .tup vs => vs[i]?
  | _ => none
theorem get_getD (A : Array Value) (i : Nat) (h : i < A.size) : ∃ c, A[i]? = some c ∧ A.getD i undef = c :=
  ⟨A[i], by simp [h], by simp [Array.getD_eq_getD_getElem?, h]⟩
theorem aextract_sound {P : Program} {v u : AVal} {i : Nat} (h : aextract v i = some u) {w : World} {ρ : Rho} {c : Value} (hv : VRel w ρ v c) : ∃ c', (Instr.extract c i).run P w = .ok c' w ∧ VRel w ρ u c' := by
  unfold aextract at h
  split at h
  · cases hv with
    | @tup vs cells hs hh =>
      have hlt : i < cells.size := by rw [hs]; exact (List.getElem?_eq_some_iff.1 h).1
      obtain ⟨c0, hc0, he⟩ := get_getD cells i hlt
      exact ⟨c0, by simp [Instr.extract, hc0], he ▸ hh i u h⟩
  · simp at h
def apart (b : Bool) (n off : Nat) (vs : List AVal) : Option AVal :=
  if b then (if off + n ≤ vs.length then some (.agg ((vs.drop off).take n)) else none) else vs[off]?
theorem apart_sound {P : Program} {t : TypeId} {b : Bool} {n off : Nat} {vs : List AVal} {u : AVal} (h : apart b n off vs = some u) (ht : tAgg P t = some (b, n)) {w : World} {ρ : Rho} {C : Array Value} (hC : CsRel w ρ vs C) :
    ∃ c', (part t C off).run P w = .ok c' w ∧ VRel w ρ u c' := by
  obtain ⟨h1, h2⟩ := tAgg_spec ht w
  unfold apart at h
  split at h
  · rename_i hb
    subst hb
    split at h
    · rename_i hle
      injection h with h; subst h
      refine ⟨.agg (C.extract off (off + n)), by simp [part, h1, h2], .agg ?_ (fun i v hi => ?_)⟩
      · simp [hC.1]; omega
      · rw [List.getElem?_take] at hi
        split at hi
        · rename_i hin
          rw [List.getElem?_drop] at hi
          have := hC.2 _ v hi
          have e : (C.extract off (off + n)).getD i undef = C.getD (off + i) undef := by
            have hlt : off + i < C.size := by rw [hC.1]; exact (List.getElem?_eq_some_iff.1 hi).1
            simp only [Array.getD_eq_getD_getElem?, Array.getElem?_extract]
            rw [if_pos (by omega)]
          rw [e]
          exact this
        · simp at hi
    · simp at h
  · rename_i hb
    have hb' : b = false := by simpa using hb
    subst hb'
    have hlt : off < C.size := by rw [hC.1]; exact (List.getElem?_eq_some_iff.1 h).1
    obtain ⟨c0, hc0, he⟩ := get_getD C off hlt
    exact ⟨c0, by simp [part, h1, hc0], he ▸ hC.2 off u h⟩
def afield (P : Program) (s : TypeId) (f : Nat) (v : AVal) : Option AVal :=
  match fOff P s f, v with
  | some (off, n, b), .agg vs => apart b n off vs
  | _, _ => none
theorem afield_sound {P : Program} {s f : Nat} {v u : AVal} (h : afield P s f v = some u) {w : World} {ρ : Rho} {c : Value} (hv : VRel w ρ v c) : ∃ c', (Instr.field s c f).run P w = .ok c' w ∧ VRel w ρ u c' := by
  unfold afield at h
  split at h
  · rename_i off n b vs hf
    obtain ⟨fs, x, hs, hx, rfl, hn, ht⟩ := fOff_spec hf
    cases hv with
    | @agg _ cells h1 h2 =>
      obtain ⟨c', g1, g2⟩ := apart_sound (P := P) h ht (C := cells) ⟨h1, h2⟩
      exact ⟨c', by simp [Instr.field, run_underlying hs, hx, asAgg, g1], g2⟩
  · simp at h
def aindex (P : Program) (t : TypeId) (x i : AVal) : Option AVal :=
  match P.underlying t, x, i with
  | some .string, .dat (.str s), .dat (.int _ n) => if 0 ≤ n then (s[n.toNat]?).map fun b => .dat (.int .u8 b.toNat) else none
  | some (.array len e), .agg vs, .dat (.int _ n) => (tAgg P e).bind fun y => if 0 ≤ n ∧ n < len then apart y.1 y.2 (n.toNat * y.2) vs else none
  | _, _, _ => none
theorem aindex_sound {P : Program} {t : Nat} {x i u : AVal} (h : aindex P t x i = some u) {w : World} {ρ : Rho} {cx ci : Value} (hx : VRel w ρ x cx) (hi : VRel w ρ i ci) :
    ∃ c', (Instr.index t cx ci).run P w = .ok c' w ∧ VRel w ρ u c' := by
  unfold aindex at h
  split at h
  · rename_i s k n hu
    cases hx with
    | dat hx =>
    cases hx
    cases hi with
    | dat hi =>
    cases hi
    split at h
    · rename_i h0
      obtain ⟨b, hb, rfl⟩ := Option.map_eq_some_iff.1 h
      exact ⟨_, by simp [Instr.index, asIntOf, run_underlying hu, h0, hb], .dat (.int _ _)⟩
    · simp at h
  · rename_i len e vs k n hu
    obtain ⟨⟨b, sz⟩, ht, h⟩ := Option.bind_eq_some_iff.1 h
    cases hx with
    | @agg _ cells h1 h2 =>
    cases hi with
    | dat hi =>
    cases hi
    split at h
    · rename_i h0
      obtain ⟨c', g1, g2⟩ := apart_sound (P := P) h ht (C := cells) ⟨h1, h2⟩
      obtain ⟨_, h3⟩ := tAgg_spec ht w
      exact ⟨c', by simp [Instr.index, asIntOf, run_underlying hu, h0, h3, g1], g2⟩
    · simp at h
  · simp at h
def aeqF (P : Program) (xs ys : List AVal) : List Field → Option Bool
  | [] => some true
  | f :: fs =>
    if f.name = "_" then none else
    match tAgg P f.type, P.underlying f.type, xs[f.offset]?, ys[f.offset]? with
    | some (false, _), some (.int _), some (.dat (.int k a)), some (.dat (.int k' b)) => if k = k' then (aeqF P xs ys fs).map fun r => (a == b) && r else none
    | some (false, _), some .bool, some (.dat (.bool a)), some (.dat (.bool b)) => (aeqF P xs ys fs).map fun r => (a == b) && r
    | _, _, _, _ => none
theorem aeqF_sound {P : Program} {w : World} {ρ : Rho} {xs ys : List AVal} {C D : Array Value} (hC : CsRel w ρ xs C) (hD : CsRel w ρ ys D) (d : Nat) : ∀ {fs : List Field} {r : Bool}, aeqF P xs ys fs = some r → (Op.eqFields (d + 1) C D fs).run P w = .ok r w
  | [], r, h => by
    simp only [aeqF, Option.some.injEq] at h
    subst h
    simp [Op.eqFields]
  | f :: fs, r, h => by
    simp only [aeqF] at h
    split at h
    · simp at h
    rename_i hn
    split at h
    · rename_i n k0 k a k' b ht hu hx hy
      split at h
      · rename_i e
        subst e
        obtain ⟨r', hr, rfl⟩ := Option.map_eq_some_iff.1 h
        obtain ⟨cx, h1, h2⟩ := apart_sound (P := P) (t := f.type) (b := false) (n := n) (off := f.offset) (u := .dat (.int k a)) (by simpa [apart] using hx) ht hC
        obtain ⟨cy, h3, h4⟩ := apart_sound (P := P) (t := f.type) (b := false) (n := n) (off := f.offset) (u := .dat (.int k b)) (by simpa [apart] using hy) ht hD
        cases h2 with
        | dat h2 =>
        cases h2
        cases h4 with
        | dat h4 =>
        cases h4
        simp only [Op.eqFields, hn, ne_eq, not_false_eq_true, if_true, Sem.run_bind, h1, h3, Result.andThen_ok, run_equalIn_int w d f.type k k0 a b hu]
        cases hab : (a == b) with
        | false => simp
        | true => simpa using aeqF_sound hC hD d hr
      · simp at h
    · rename_i n a b ht hu hx hy
      obtain ⟨r', hr, rfl⟩ := Option.map_eq_some_iff.1 h
      obtain ⟨cx, h1, h2⟩ := apart_sound (P := P) (t := f.type) (b := false) (n := n) (off := f.offset) (u := .dat (.bool a)) (by simpa [apart] using hx) ht hC
      obtain ⟨cy, h3, h4⟩ := apart_sound (P := P) (t := f.type) (b := false) (n := n) (off := f.offset) (u := .dat (.bool b)) (by simpa [apart] using hy) ht hD
      cases h2 with
      | dat h2 =>
      cases h2
      cases h4 with
      | dat h4 =>
      cases h4
      simp only [Op.eqFields, hn, ne_eq, not_false_eq_true, if_true, Sem.run_bind, h1, h3, Result.andThen_ok, run_equalIn_bool w d f.type a b hu]
      cases hab : (a == b) with
      | false => simp
      | true => simpa using aeqF_sound hC hD d hr
    · simp at h
def aeqS (P : Program) (t : TypeId) (xs ys : List AVal) : Option Bool :=
  match P.underlying t with
  | some (.struct fs) => if P.stoodInHeld t = false ∧ P.eqGuardType P.depth t = false then aeqF P xs ys fs.toList else none
  | _ => none
theorem aeqS_sound {P : Program} {w : World} {ρ : Rho} {t : TypeId} {xs ys : List AVal} {C D : Array Value} (hC : CsRel w ρ xs C) (hD : CsRel w ρ ys D) {r : Bool} (h : aeqS P t xs ys = some r) (op : BinOp) (x y : Operand) :
    (Op.equal t (.agg C) (.agg D)).run P w = .ok r w ∧ (eqGuard op t x y (.agg C) (.agg D)).run P w = .ok () w := by
  unfold aeqS at h
  split at h
  · rename_i fs hu
    split at h
    · rename_i hh
      have hf : P.fieldsOf t = fs := by simp [Program.fieldsOf, hu]
      refine ⟨?_, ?_⟩
      · show (Op.equalIn (9999 + 1) t (.agg C) (.agg D)).run P w = .ok r w
        rw [run_equalIn_struct w 9999 t C D (by rw [hf]; exact hu) hh.1, hf]
        exact aeqF_sound hC hD 9998 h
      · unfold eqGuard
        cases op <;> simp [hh.2]
    · simp at h
  · simp at h
def abin2 (P : Program) (op : BinOp) (t : TypeId) (a b : AVal) : Option AVal :=
  match a, b with
  | .dat (.int _ _), .dat (.int _ _) => abin op a b
  | .dat (.bool x), .dat (.bool y) =>
    match P.underlying t with
    | some .bool => match op with
      | .eql => some (.dat (.bool (x == y)))
      | .neq => some (.dat (.bool (!(x == y))))
      | _ => none
    | _ => none
  | .dat (.str x), .dat (.str y) =>
    match op with
    | .eql => some (.dat (.bool (x.toList == y.toList)))
    | .neq => some (.dat (.bool !(x.toList == y.toList)))
    | .add => if x.size + y.size ≤ 9223372036854775807 then some (.dat (.str (x ++ y))) else none
    | _ => none
  | .nilS, .nilS =>
    match P.underlying t, op with
    | some (.slice _), .eql => some (.dat (.bool true))
    | some (.slice _), .neq => some (.dat (.bool false))
    | _, _ => none
  | .dat (.sl _ els), .nilS =>
    if els.length = 0 then none else
    match P.underlying t, op with
    | some (.slice _), .eql => some (.dat (.bool false))
    | some (.slice _), .neq => some (.dat (.bool true))
    | _, _ => none
  | .raw (.slice (some _) _ _), .nilS =>
    match P.underlying t, op with
    | some (.slice _), .eql => some (.dat (.bool false))
    | some (.slice _), .neq => some (.dat (.bool true))
    | _, _ => none
  | .agg xs, .agg ys =>
    match op with
    | .eql => (aeqS P t xs ys).map fun r => .dat (.bool r)
    | .neq => (aeqS P t xs ys).map fun r => .dat (.bool (!r))
    | _ => none
  | _, _ => none
def abin2L (P : Program) (L : LH) (op : BinOp) (t : TypeId) (a b : AVal) : Option AVal :=
  match a, b with
  | .slice r g off len, .nilS =>
    match aget L r with
    | some (.row g' _ _) =>
      if g = g' ∧ (g % 2 = 1 ∨ 0 < len) then
        match P.underlying t, op with
        | some (.slice _), .eql => some (.dat (.bool false))
        | some (.slice _), .neq => some (.dat (.bool true))
        | _, _ => none
      else none
    | _ => none
  | a, b => abin2 P op t a b
theorem equalIn_slice_nil {P : Program} {w : World} {t e : TypeId} (hu : P.underlying t = some (.slice e)) (d : Nat) (a : Option Addr) (n c : Nat) : (Op.equalIn (d + 1) t (.slice a n c) (.slice none 0 0)).run P w = .ok a.isNone w := by
  cases a <;> simp [Op.equalIn, run_underlying hu]
theorem eql_slice_nil {P : Program} {w : World} {t e : TypeId} (hu : P.underlying t = some (.slice e)) (a : Option Addr) (n c : Nat) : (binOp .eql t (.slice a n c) (.slice none 0 0)).run P w = .ok (.bool a.isNone) w := by
  have h : (Op.equal t (.slice a n c) (.slice none 0 0)).run P w = .ok a.isNone w := equalIn_slice_nil hu 9999 a n c
  simp only [binOp]
  simp [h]
theorem neq_slice_nil {P : Program} {w : World} {t e : TypeId} (hu : P.underlying t = some (.slice e)) (a : Option Addr) (n c : Nat) : (binOp .neq t (.slice a n c) (.slice none 0 0)).run P w = .ok (.bool (!a.isNone)) w := by
  have h : (Op.equal t (.slice a n c) (.slice none 0 0)).run P w = .ok a.isNone w := equalIn_slice_nil hu 9999 a n c
  simp only [binOp]
  simp [h]
theorem eqGuard_ok {P : Program} {w : World} {op : BinOp} {t : TypeId} {x y : Operand} {ca cb : Value} (h1 : ca.oneCell' = true) (h2 : ca ≠ .nilIface ∨ cb ≠ .nilIface) : (eqGuard op t x y ca cb).run P w = .ok () w := by
  unfold eqGuard
  cases op <;> simp <;> (cases ca <;> cases cb <;> simp_all [Value.oneCell'])
theorem abin2_sound {P : Program} {op : BinOp} {t : TypeId} {a b u : AVal} (h : abin2 P op t a b = some u) {w : World} {ρ : Rho} {ca cb : Value} (ha : VRel w ρ a ca) (hb : VRel w ρ b cb) (x y : Operand) :
    ∃ c, (eqGuard op t x y ca cb).run P w = .ok () w ∧ (binOp op t ca cb).run P w = .ok c w ∧ VRel w ρ u c := by
  have eg : ∀ (ca cb : Value), ca.oneCell' = true → (ca ≠ .nilIface ∨ cb ≠ .nilIface) → (eqGuard op t x y ca cb).run P w = .ok () w := by
    intro ca cb h1 h2
    unfold eqGuard
    cases op <;> simp <;> (cases ca <;> cases cb <;> simp_all [Value.oneCell'])
  unfold abin2 at h
  split at h
  · cases ha with
    | dat ha =>
    cases ha
    cases hb with
    | dat hb =>
    cases hb
    obtain ⟨d, rfl, c, h1, h2⟩ := abin_int P w t h
    exact ⟨c, eg _ _ rfl (.inl (by simp)), h1, .dat (h2 _)⟩
  · cases ha with
    | dat ha =>
    cases ha
    cases hb with
    | dat hb =>
    cases hb
    split at h
    · rename_i hu
      split at h
      · injection h with h; subst h
        exact ⟨_, eg _ _ rfl (.inl (by simp)), run_eql_bool w t _ _ hu, .dat (.bool _)⟩
      · injection h with h; subst h
        exact ⟨_, eg _ _ rfl (.inl (by simp)), run_neq_bool w t _ _ hu, .dat (.bool _)⟩
      · simp at h
    · simp at h
  · cases ha with
    | dat ha =>
    cases ha
    cases hb with
    | dat hb =>
    cases hb
    split at h
    · injection h with h; subst h
      exact ⟨_, eg _ _ rfl (.inl (by simp)), by simp [binOp, Op.stringOp], .dat (.bool _)⟩
    · injection h with h; subst h
      exact ⟨_, eg _ _ rfl (.inl (by simp)), by simp [binOp, Op.stringOp], .dat (.bool _)⟩
    · split at h
      · rename_i hle
        injection h with h; subst h
        refine ⟨_, eg _ _ rfl (.inl (by simp)), ?_, .dat (.str _)⟩
        have e : IntKind.i64.max = 9223372036854775807 := by decide
        simp only [binOp, Op.stringOp, e]
        rw [if_neg (by omega)]
        rfl
      · simp at h
    · simp at h
  · cases ha
    cases hb
    split at h
    · rename_i hu
      injection h with h; subst h
      exact ⟨_, eg _ _ rfl (.inl (by simp)), eql_slice_nil hu none 0 0, .dat (.bool _)⟩
    · rename_i hu
      injection h with h; subst h
      exact ⟨_, eg _ _ rfl (.inl (by simp)), neq_slice_nil hu none 0 0, .dat (.bool _)⟩
    · simp at h
  · cases hb
    split at h
    · simp at h
    · rename_i hne
      cases ha with
      | dat ha =>
      cases ha with
      | nil => simp at hne
      | sl _ _ cap a cv hsz hcap hm hc hd =>
        split at h
        · rename_i hu
          injection h with h; subst h
          exact ⟨_, eg _ _ rfl (.inl (by simp)), eql_slice_nil hu (some a) _ _, .dat (.bool _)⟩
        · rename_i hu
          injection h with h; subst h
          exact ⟨_, eg _ _ rfl (.inl (by simp)), neq_slice_nil hu (some a) _ _, .dat (.bool _)⟩
        · simp at h
  · cases hb
    cases ha
    split at h
    · rename_i hu
      injection h with h; subst h
      exact ⟨_, eg _ _ rfl (.inl (by simp)), eql_slice_nil hu (some _) _ _, .dat (.bool _)⟩
    · rename_i hu
      injection h with h; subst h
      exact ⟨_, eg _ _ rfl (.inl (by simp)), neq_slice_nil hu (some _) _ _, .dat (.bool _)⟩
    · simp at h
  · cases ha with
    | agg hs hh =>
    cases hb with
    | agg hs' hh' =>
    split at h
    · obtain ⟨r, hr, rfl⟩ := Option.map_eq_some_iff.1 h
      obtain ⟨h1, h2⟩ := aeqS_sound ⟨hs, hh⟩ ⟨hs', hh'⟩ hr .eql x y
      exact ⟨_, h2, by simp [binOp, h1], .dat (.bool _)⟩
    · obtain ⟨r, hr, rfl⟩ := Option.map_eq_some_iff.1 h
      obtain ⟨h1, h2⟩ := aeqS_sound ⟨hs, hh⟩ ⟨hs', hh'⟩ hr .neq x y
      exact ⟨_, h2, by simp [binOp, h1], .dat (.bool _)⟩
    · simp at h
  · simp at h
theorem abin2L_sound {P : Program} {L : LH} {op : BinOp} {t : TypeId} {a b u : AVal} (h : abin2L P L op t a b = some u) {w : World} {ρ : Rho} (hL : SatL P ρ L w) {ca cb : Value} (ha : VRel w ρ a ca) (hb : VRel w ρ b cb) (x y : Operand) :
    ∃ c, (eqGuard op t x y ca cb).run P w = .ok () w ∧ (binOp op t ca cb).run P w = .ok c w ∧ VRel w ρ u c := by
  unfold abin2L at h
  split at h
  · rename_i r g off len
    split at h
    · rename_i g' e els ho
      split at h
      case isFalse => simp at h
      rename_i hc
      obtain ⟨rfl, hc⟩ := hc
      cases hb
      obtain ⟨v0, sz, xs, hr, hP, hp, hsz, hown, hxs⟩ := cur_row hL ho
      cases ha with
      | @slice _ _ _ _ n cc g0 sz0 a v1 e0 hr' hle' hsl =>
        rw [hr] at hr'
        injection hr' with hr'
        injection hr' with e1 e2
        injection e2 with e2 e3 e4
        subst e1; subst e2; subst e3; subst e4
        obtain ⟨rfl, hsl⟩ := hsl rfl
        have hsome : ∃ a', a = some a' := by
          rcases own_form hown with ⟨rfl, h00⟩ | ⟨b, cap, rfl, h1, h3⟩
          · simp only at hsl
            rcases hc with hc | hc
            · exact absurd rfl ((cur_ok hL ho hr).2 hc)
            · omega
          · simp only at hsl
            obtain ⟨_, _, y, h, _⟩ := hsl
            exact ⟨y, h⟩
        obtain ⟨a', rfl⟩ := hsome
        have eg := fun (ca cb : Value) h1 h2 => eqGuard_ok (P := P) (w := w) (op := op) (t := t) (x := x) (y := y) (ca := ca) (cb := cb) h1 h2
        split at h
        · rename_i hu
          injection h with h; subst h
          exact ⟨_, eg _ _ rfl (.inl (by simp)), eql_slice_nil hu (some _) _ _, .dat (.bool _)⟩
        · rename_i hu
          injection h with h; subst h
          exact ⟨_, eg _ _ rfl (.inl (by simp)), neq_slice_nil hu (some _) _ _, .dat (.bool _)⟩
        · simp at h
    · simp at h
  · exact abin2_sound h ha hb x y
end Go.Sk
namespace Go.Sk
open Go
def alenP (P : Program) (L : LH) (t : TypeId) (v : AVal) : Option AVal :=
  match P.underlying t, v with
  | some (.slice _), .dat (.sl _ els) => some (goI els.length)
  | some (.slice _), .nilS => some (goI 0)
  | some (.slice _), .raw (.slice (some _) n _) => some (goI n)
  | some (.slice _), .slice r g off len =>
    match aget L r with
    | some (.row g' _ _) => if g = g' then some (goI len) else none
    | _ => none
  | some .string, .dat (.str s) => some (goI s.size)
  | some (.map _ _), .map r =>
    match aget L r with
    | some (.map es) => some (goI es.length)
    | _ => none
  | _, _ => none
theorem alenP_sound {P : Program} {L : LH} {t : TypeId} {v u : AVal} (h : alenP P L t v = some u) {w : World} {ρ : Rho} (hL : SatL P ρ L w) {c : Value} (hv : VRel w ρ v c) (ty : Nat) :
    ∃ c', (Builtin.len_ #[t] ty #[c]).run P w = .ok c' w ∧ VRel w ρ u c' := by
  unfold alenP at h
  split at h
  · rename_i e sz els hu
    injection h with h; subst h
    obtain ⟨a, n, k, rfl, rfl⟩ := hv.sliceInv
    exact ⟨_, by simp [Builtin.len_, run_underlying hu, goInt], .dat (.int _ _)⟩
  · rename_i e hu
    injection h with h; subst h
    cases hv
    exact ⟨_, by simp [Builtin.len_, run_underlying hu, goInt], .dat (.int _ _)⟩
  · rename_i e a n cap hu
    injection h with h; subst h
    cases hv
    exact ⟨_, by simp [Builtin.len_, run_underlying hu, goInt], .dat (.int _ _)⟩
  · rename_i e r g off len hu
    cases ho : aget L r with
    | none => simp [ho] at h
    | some o =>
      cases o with
      | map _ => simp [ho] at h
      | loop _ _ _ _ _ _ _ => simp [ho] at h
      | glob _ _ => simp [ho] at h
      | row g' e' els =>
        simp only [ho] at h
        by_cases hg : g = g'
        · rw [if_pos hg] at h
          injection h with h; subst h
          subst hg
          obtain ⟨v0, sz', xs, hr, hP', hp, hszs, hown, hxs⟩ := cur_row hL ho
          cases hv with
          | @slice r g _ _ nn cc g0 sz0 a0 v1 e0 hr' hle hsl' =>
            rw [hr] at hr'
            injection hr' with hr'
            injection hr' with e1 e2
            subst e1
            obtain ⟨hnn, _⟩ := hsl' rfl
            subst hnn
            exact ⟨_, by simp [Builtin.len_, run_underlying hu, goInt], .dat (.int _ _)⟩
        · rw [if_neg hg] at h; simp at h
  · rename_i s hu
    injection h with h; subst h
    cases hv with
    | dat hv =>
    cases hv
    exact ⟨_, by simp [Builtin.len_, run_underlying hu, goInt], .dat (.int _ _)⟩
  · rename_i k e r hu
    cases ho : aget L r with
    | none => simp [ho] at h
    | some o =>
      cases o with
      | row _ _ _ => simp [ho] at h
      | loop _ _ _ _ _ _ _ => simp [ho] at h
      | glob _ _ => simp [ho] at h
      | map es =>
        simp only [ho, Option.some.injEq] at h
        subst h
        obtain ⟨l, hl, hO⟩ := hL.obj r _ ho
        cases hv with
        | @map r g b hr =>
          rw [hr] at hl
          injection hl with hl
          injection hl with e1 e2
          subst e2
          obtain ⟨ents, cl, h1, h2, _⟩ := hO
          refine ⟨goInt ents.size, ?_, by rw [h2]; exact .dat (.int _ _)⟩
          simp [Builtin.len_, run_underlying hu, getObj, Sem.run, h1, goInt]
  · simp at h
def amm (mx : Bool) (a b : AVal) : Option AVal :=
  match a, b with
  | .dat (.int k x), .dat (.int _ y) => some (.dat (.int k (if mx then (if y > x then y else x) else (if y < x then y else x))))
  | _, _ => none
theorem amm_sound {P : Program} {a b u : AVal} {mx : Bool} (h : amm mx a b = some u) {w : World} {ρ : Rho} {ca cb : Value} (ha : VRel w ρ a ca) (hb : VRel w ρ b cb) (ts : Array TypeId) (ty : Nat) :
    ∃ c', ((if mx then Builtin.max_ else Builtin.min_) ts ty #[ca, cb]).run P w = .ok c' w ∧ VRel w ρ u c' := by
  unfold amm at h
  split at h
  · cases ha with
    | dat ha =>
    cases ha
    cases hb with
    | dat hb =>
    cases hb
    injection h with h; subst h
    cases mx
    · exact ⟨_, by simp [Builtin.min_, Builtin.min2], .dat (.int _ _)⟩
    · exact ⟨_, by simp [Builtin.max_, Builtin.max2], .dat (.int _ _)⟩
  · simp at h
def evs (E : Env) : List (Nat × Operand) → Option (List (Nat × AVal))
  | [] => some []
  | (i, x) :: l => (ev E x).bind fun v => (evs E l).map fun vs => (i, v) :: vs
def evl (E : Env) : List Operand → Option (List AVal)
  | [] => some []
  | x :: l => (ev E x).bind fun v => (evl E l).map fun vs => v :: vs
theorem evs_sound {ρ : Rho} {E : Env} {a : Act} {w : World} (h : SatE ρ E a w) : ∀ {ps : List (Nat × Operand)} {vs : List (Nat × AVal)}, evs E ps = some vs → PsRel w ρ vs (ps.map fun p => (p.1, a.eval p.2))
  | [], vs, hv => by simp only [evs, Option.some.injEq] at hv; subst hv; exact .nil
  | (i, x) :: l, vs, hv => by
    simp only [evs] at hv
    obtain ⟨v, h1, hv⟩ := Option.bind_eq_some_iff.1 hv
    obtain ⟨us, h2, rfl⟩ := Option.map_eq_some_iff.1 hv
    exact .cons (h.ev h1) (evs_sound h h2)
inductive LsRel (w : World) (ρ : Rho) : List AVal → List Value → Prop
  | nil : LsRel w ρ [] []
  | cons {v : AVal} {c : Value} {vs : List AVal} {cs : List Value} (h : VRel w ρ v c) (hs : LsRel w ρ vs cs) : LsRel w ρ (v :: vs) (c :: cs)
theorem evl_sound {ρ : Rho} {E : Env} {a : Act} {w : World} (h : SatE ρ E a w) : ∀ {ps : List Operand} {vs : List AVal}, evl E ps = some vs → LsRel w ρ vs (ps.map a.eval)
  | [], vs, hv => by simp only [evl, Option.some.injEq] at hv; subst hv; exact .nil
  | x :: l, vs, hv => by
    simp only [evl] at hv
    obtain ⟨v, h1, hv⟩ := Option.bind_eq_some_iff.1 hv
    obtain ⟨us, h2, rfl⟩ := Option.map_eq_some_iff.1 hv
    exact .cons (h.ev h1) (evl_sound h h2)
theorem LsRel.cs {w : World} {ρ : Rho} {vs : List AVal} {cs : List Value} (h : LsRel w ρ vs cs) : CsRel w ρ vs cs.toArray := by
  induction h with
  | nil => exact ⟨rfl, fun i v hi => by simp at hi⟩
  | cons h hs ih =>
    refine ⟨by simpa using ih.1, fun i v hi => ?_⟩
    cases i with
    | zero =>
      simp only [List.getElem?_cons_zero, Option.some.injEq] at hi
      subst hi
      exact h
    | succ i =>
      simp only [List.getElem?_cons_succ] at hi
      have := ih.2 i v hi
      simpa [Array.getD_eq_getD_getElem?] using this
theorem LsRel.fr {ρ ρ' : Rho} {w w' : World} (hf : Fr All ρ w ρ' w') {vs : List AVal} {cs : List Value} (h : LsRel w ρ vs cs) : LsRel w' ρ' vs cs := by
  induction h with
  | nil => exact .nil
  | cons h _ ih => exact .cons (h.fr hf) ih
def oev (E : Env) (x : Option Operand) : Option (Option AVal) := x.map (ev E)
theorem oev_sound {ρ : Rho} {E : Env} {a : Act} {w : World} (h : SatE ρ E a w) (x : Option Operand) : ORelV w ρ (oev E x) (x.map a.eval) := by
  cases x with
  | none => trivial
  | some x =>
    simp only [oev, Option.map_some]
    cases hx : ev E x with
    | none => trivial
    | some v => exact h.ev hx
def isConc (P : Program) (t : TypeId) : Bool :=
  match P.underlying t with
  | some (.interface _) => false
  | some _ => true
  | none => false
def stBuiltin (P : Program) (r : Option Nat) (E : Env) (L : LH) (b : Builtin) (args : List Operand) (ts : List TypeId) : Option (AVal × LH) :=
  match b, args, ts with
  | .len, [x], [t] => (ev E x).bind fun v => (alenP P L t v).map fun u => (u, L)
  | .max, [x, y], _ => (ev E x).bind fun a => (ev E y).bind fun b => (amm true a b).map fun u => (u, L)
  | .min, [x, y], _ => (ev E x).bind fun a => (ev E y).bind fun b => (amm false a b).map fun u => (u, L)
  | .clear, [x], [t] => (ev E x).bind fun v => (stClear P L t v).map fun L' => (.tup [], L')
  | .append, [x, y], [t, t'] => if t = t' then r.bind fun r => (ev E x).bind fun a => (ev E y).bind fun b => stAppend P L r t a b else none
  | _, _, _ => none
def aconv2 (P : Program) (L : LH) (s d : TypeId) (a : AVal) : Option AVal :=
  match aconv P s d a with
  | some v => some v
  | none => aconvL P L s d a
def gbase : Nat := 100
def evG (E : Env) (L : LH) (x : Operand) : Option AVal :=
  match x with
  | .global g =>
    match aget L (gbase + g) with
    | some (.glob g' cells) => if g' = g then some (.pdat cells 0) else none
    | _ => none
  | x => ev E x
theorem evG_of {E : Env} {L : LH} {x : Operand} {v : AVal} (h : ev E x = some v) : evG E L x = some v := by
  cases x with
  | global g => simp [ev] at h
  | _ => exact h
theorem evG_sound {P : Program} {E : Env} {L : LH} {x : Operand} {v : AVal} (h : evG E L x = some v) {ρ : Rho} {a : Act} {w : World} (hL : SatL P ρ L w) (hE : SatE ρ E a w) : VRel w ρ v (a.eval x) := by
  unfold evG at h
  split at h
  · rename_i g
    split at h
    · rename_i g' cells hg
      split at h
      · rename_i e
        subst e
        injection h with h
        subst h
        obtain ⟨l, h1, h2⟩ := hL.obj _ _ hg
        cases l with
        | row _ _ _ => exact h2.elim
        | map _ => exact h2.elim
        | loop _ => exact h2.elim
        | glob b =>
          obtain ⟨rfl, hv⟩ := h2
          exact hv
      · simp at h
    · simp at h
  · exact hE.ev h
def acap3 (L : LH) : AVal → Option Nat
  | .dat (.sl _ els) => some els.length
  | .slice r g _ len =>
    match aget L r with
    | some (.row g' _ _) => if g = g' then some len else none
    | _ => none
  | _ => none
def aslice3 (P : Program) (L : LH) (t : TypeId) (x lo hi mx : AVal) : Option AVal :=
  (slE P t).bind fun s => (acap3 L x).bind fun n => (optInt n (some (some mx))).bind fun m => (optInt m (some (some hi))).bind fun h => (optInt h (some (some lo))).bind fun _ => some .undef
theorem acap3_sound {P : Program} {L : LH} {x : AVal} {n : Nat} (h : acap3 L x = some n) {ρ : Rho} {w : World} (hL : SatL P ρ L w) {c : Value} (hx : VRel w ρ x c) : ∃ a k cap, c = .slice a k cap ∧ n ≤ cap := by
  unfold acap3 at h
  split at h
  · injection h with h
    subst h
    cases hx with
    | dat hx =>
    cases hx with
    | nil => exact ⟨_, _, _, rfl, Nat.le_refl _⟩
    | sl _ _ cap a cv _ hcap _ _ _ => exact ⟨_, _, _, rfl, hcap⟩
  · rename_i r g off len
    split at h
    · rename_i g' e els ho
      split at h
      · rename_i hg
        subst hg
        injection h with h
        subst h
        obtain ⟨v0, sz, xs, hr, hP, hp, hsz, hown, hxs⟩ := cur_row hL ho
        cases hx with
        | @slice _ _ _ _ n cc g0 sz0 a v1 e0 hr' hle' hsl =>
          rw [hr] at hr'
          injection hr' with hr'
          injection hr' with e1 e2
          injection e2 with e2 e3 e4
          subst e1; subst e2; subst e3; subst e4
          obtain ⟨rfl, hsl⟩ := hsl rfl
          refine ⟨_, _, _, rfl, ?_⟩
          rcases own_form hown with ⟨rfl, h00⟩ | ⟨b, cap, rfl, h1, h3⟩
          · obtain ⟨_, _, e, _⟩ := hsl
            omega
          · simp only at hsl
            omega
      · simp at h
    · simp at h
  · simp at h
theorem aslice3_sound {P : Program} {L : LH} {t : TypeId} {x lo hi mx u : AVal} (h : aslice3 P L t x lo hi mx = some u) {ρ : Rho} {w : World} (hL : SatL P ρ L w) {c cl ch cm : Value} (hx : VRel w ρ x c) (rl : VRel w ρ lo cl) (rh : VRel w ρ hi ch) (rm : VRel w ρ mx cm) :
    u = .undef ∧ ∃ c', (Instr.sliceAt t c (some cl) (some ch) (some cm)).run P w = .ok c' w := by
  unfold aslice3 at h
  obtain ⟨⟨e, sz, by_⟩, hs, h⟩ := Option.bind_eq_some_iff.1 h
  obtain ⟨n, hn, h⟩ := Option.bind_eq_some_iff.1 h
  obtain ⟨m, hm, h⟩ := Option.bind_eq_some_iff.1 h
  obtain ⟨hh, hh1, h⟩ := Option.bind_eq_some_iff.1 h
  obtain ⟨l, hl, h⟩ := Option.bind_eq_some_iff.1 h
  injection h with h
  refine ⟨h.symm, ?_⟩
  obtain ⟨hu, ti, hti, hsz, _⟩ := slE_spec hs
  obtain ⟨a, k, cap, rfl, hcap⟩ := acap3_sound hn hL hx
  obtain ⟨_, g1⟩ := optInt_sound (P := P) (w := w) (ρ := ρ) (cap := cap) hm (show ORelV w ρ (some (some mx)) (some cm) from rm) hcap .slice3Acap
  obtain ⟨_, g2⟩ := optInt_sound (P := P) (w := w) (ρ := ρ) (cap := m) hh1 (show ORelV w ρ (some (some hi)) (some ch) from rh) (Nat.le_refl _) .slice3B
  obtain ⟨_, g3⟩ := optInt_sound (P := P) (w := w) (ρ := ρ) (cap := hh) hl (show ORelV w ρ (some (some lo)) (some cl) from rl) (Nat.le_refl _) .slice3C
  simp only at g1 g2 g3
  exact ⟨.slice (if m = l then a else Option.map (fun x => x.add (l * ti.size)) a) (hh - l) (m - l), by simp [Instr.sliceAt, run_underlying hu, Instr.slice, Instr.sliceBounds, g1, g2, g3, sizeOf, typeInfo, hti]⟩
def opStep (P : Program) (dst : Option Nat) (op : Op) (E : Env) (L : LH) : Option (AVal × LH) :=
  match op with
  | .move x => (ev E x).map fun v => (v, L)
  | .assign x => (ev E x).map fun v => (v, L)
  | .pick c a b => (ev E c).bind fun
    | .dat (.bool true) => (ev E a).map fun v => (v, L)
    | .dat (.bool false) => (ev E b).map fun v => (v, L)
    | _ => none
  | .binOp op t x y _ => (ev E x).bind fun a => (ev E y).bind fun b => (abin2L P L op t a b).map fun v => (v, L)
  | .unOp op _ x => (ev E x).bind fun a => (aun op a).map fun v => (v, L)
  | .convert s d x => (ev E x).bind fun a => (aconv2 P L s d a).map fun v => (v, L)
  | .extract x i => (ev E x).bind fun a => (aextract a i).map fun v => (v, L)
  | .load t x => (evG E L x).bind fun a => (aload P L t a).map fun v => (v, L)
  | .store t a x => (ev E a).bind fun a => (ev E x).bind fun v => (stStore P L t a v).map fun L' => (.tup [], L')
  | .fieldAddr s x f => (ev E x).bind fun a => (afieldAddr P s f a).map fun v => (v, L)
  | .field s x f => (ev E x).bind fun a => (afield P s f a).map fun v => (v, L)
  | .indexAddr t x i => (ev E x).bind fun a => (ev E i).bind fun i => (aindexAddr P L t a i).map fun v => (v, L)
  | .index t x i => (ev E x).bind fun a => (ev E i).bind fun i => (aindex P t a i).map fun v => (v, L)
  | .slice t x lo hi none => (ev E x).bind fun a => (aslice P L t a (oev E lo) (oev E hi)).map fun v => (v, L)
  | .slice t x (some lo) (some hi) (some mx) => (ev E x).bind fun a => (ev E lo).bind fun lo => (ev E hi).bind fun hi => (ev E mx).bind fun mx => (aslice3 P L t a lo hi mx).map fun v => (v, L)
  | .build t parts => (evs E parts.toList).bind fun ps => (abuild P t ps).map fun v => (v, L)
  | .buildSlice t n parts => dst.bind fun r => (evs E parts.toList).bind fun ps => stBuildSlice P L r t n ps
  | .alloc t => dst.bind fun r => stAlloc P L r t
  | .box t x => dst.bind fun r => (ev E x).bind fun v => stBox P L r t v
  | .makeSlice t l c => dst.bind fun r => (ev E l).bind fun l => (ev E c).bind fun c => stMakeSlice P L r t l c
  | .makeFunc (.func f) first caps => (evl E first.toList).bind fun bs => (evl E caps.toList).map fun vs => (.fn f bs vs, L)
  | .makeInterface t x => (ev E x).bind fun v => if isConc P t = true then some (.iface t v, L) else none
  | .makeMap _ none => dst.bind fun r => stMakeMap L r
  | .lookup t x k ok => (ev E x).bind fun a => (ev E k).bind fun k => (alookup P L t a k ok).map fun v => (v, L)
  | .mapUpdate t m k v => (ev E m).bind fun m => (ev E k).bind fun k => (ev E v).bind fun v => (stMapUpdate P L t m k v).map fun L' => (.tup [], L')
  | .insert t m k v => (ev E m).bind fun m => (ev E k).bind fun k => (ev E v).bind fun v => (stMapUpdate P L t m k v).map fun L' => (.tup [], L')
  | .nilCheck x => (ev E x).bind fun
    | .ptr r g i k => some (.ptr r g i k, L)
    | .pdat cells k => some (.pdat cells k, L)
    | .fn f bs vs => some (.fn f bs vs, L)
    | _ => none
  | .call { callee := .builtin b, args, argTypes } => stBuiltin P dst E L b args.toList argTypes.toList
  | _ => none
theorem aconv2_sound {P : Program} {L : LH} {src dst : TypeId} {v u : AVal} (h : aconv2 P L src dst v = some u) {ρ : Rho} {w : World} (hL : SatL P ρ L w) {c : Value} (hv : VRel w ρ v c) : ∃ c', (convert src dst c).run P w = .ok c' w ∧ VRel w ρ u c' := by
  unfold aconv2 at h
  split at h
  · rename_i v' hv'
    injection h with h
    subst h
    exact aconv_sound hv' hv
  · exact aconvL_sound h hL hv
def NextRel (w : World) (ρ : Rho) (v : AVal) : Next → Prop
  | .value c => VRel w ρ v c
  | .skip => v = .tup []
  | _ => False
theorem toList_one {α : Type} {A : Array α} {x : α} (h : A.toList = [x]) : A = #[x] := by cases A; simp_all
theorem toList_two {α : Type} {A : Array α} {x y : α} (h : A.toList = [x, y]) : A = #[x, y] := by cases A; simp_all
theorem stBuiltin_sound {P : Program} {r : Option Nat} {E : Env} {L L' : LH} {b : Builtin} {args : Array Operand} {ts : Array TypeId} {v : AVal} (h : stBuiltin P r E L b args.toList ts.toList = some (v, L'))
    {ρ : Rho} {a : Act} {w : World} (hL : SatL P ρ L w) (hE : SatE ρ E a w) (ty : Nat) (cs : Array Bool) :
    ∃ w' ρ' nx, (builtin b ts ty cs (args.map a.eval)).run P w = .ok nx w' ∧ NextRel w' ρ' v nx ∧ SatL P ρ' L' w' ∧ Fr All ρ w ρ' w' := by
  unfold stBuiltin at h
  split at h
  · rename_i x t hargs hts
    obtain rfl := toList_one hargs
    obtain rfl := toList_one hts
    obtain ⟨u, hu, h⟩ := Option.bind_eq_some_iff.1 h
    obtain ⟨u', hu', h⟩ := Option.map_eq_some_iff.1 h
    injection h with e1 e2
    subst e1; subst e2
    obtain ⟨c', g1, g2⟩ := alenP_sound hu' hL (hE.ev hu) ty
    exact ⟨w, ρ, .value c', by simp [builtin, g1], g2, hL, .refl ..⟩
  · rename_i x y hargs
    obtain rfl := toList_two hargs
    obtain ⟨u1, hu1, h⟩ := Option.bind_eq_some_iff.1 h
    obtain ⟨u2, hu2, h⟩ := Option.bind_eq_some_iff.1 h
    obtain ⟨u', hu', h⟩ := Option.map_eq_some_iff.1 h
    injection h with e1 e2
    subst e1; subst e2
    obtain ⟨c', g1, g2⟩ := amm_sound (P := P) hu' (hE.ev hu1) (hE.ev hu2) ts ty
    simp only [if_true] at g1
    exact ⟨w, ρ, .value c', by simp [builtin, g1], g2, hL, .refl ..⟩
  · rename_i x y hargs
    obtain rfl := toList_two hargs
    obtain ⟨u1, hu1, h⟩ := Option.bind_eq_some_iff.1 h
    obtain ⟨u2, hu2, h⟩ := Option.bind_eq_some_iff.1 h
    obtain ⟨u', hu', h⟩ := Option.map_eq_some_iff.1 h
    injection h with e1 e2
    subst e1; subst e2
    obtain ⟨c', g1, g2⟩ := amm_sound (P := P) hu' (hE.ev hu1) (hE.ev hu2) ts ty
    simp only [Bool.false_eq_true, if_false] at g1
    exact ⟨w, ρ, .value c', by simp [builtin, g1], g2, hL, .refl ..⟩
  · rename_i x t hargs hts
    obtain rfl := toList_one hargs
    obtain rfl := toList_one hts
    obtain ⟨u, hu, h⟩ := Option.bind_eq_some_iff.1 h
    obtain ⟨u', hu', h⟩ := Option.map_eq_some_iff.1 h
    injection h with e1 e2
    subst e1; subst e2
    obtain ⟨w', ρ', g1, g2, g3⟩ := stClear_sound hu' hL (hE.ev hu) ty
    exact ⟨w', ρ', .value (.tuple #[]), by simp [builtin, g1], .tup rfl (fun i v hi => by simp at hi), g2, g3⟩
  · rename_i x y t t' hargs hts
    split at h
    · rename_i htt
      subst htt
      obtain rfl := toList_two hargs
      obtain rfl := toList_two hts
      obtain ⟨r', hr, h⟩ := Option.bind_eq_some_iff.1 h
      obtain ⟨u1, hu1, h⟩ := Option.bind_eq_some_iff.1 h
      obtain ⟨u2, hu2, h⟩ := Option.bind_eq_some_iff.1 h
      obtain ⟨c', w', ρ', g1, g2, g3, g4⟩ := stAppend_sound h hL (hE.ev hu1) (hE.ev hu2) ty
      exact ⟨w', ρ', .value c', by simp [builtin, g1], g2, g3, g4⟩
    · simp at h
  · simp at h
theorem opStep_sound {P : Program} {o : Oper} {r0 : Option Nat} {E : Env} {L L' : LH} {v : AVal} (h : opStep P r0 o.op E L = some (v, L')) {ρ : Rho} {a : Act} {w : World} (hL : SatL P ρ L w) (hE : SatE ρ E a w) :
    ∃ w' ρ' nx, (execOp a.eval o).run P w = .ok nx w' ∧ NextRel w' ρ' v nx ∧ SatL P ρ' L' w' ∧ Fr All ρ w ρ' w' := by
  have pure1 : ∀ {c : Value}, VRel w ρ v c → L' = L → (execOp a.eval o).run P w = .ok (.value c) w → ∃ w' ρ' nx, (execOp a.eval o).run P w = .ok nx w' ∧ NextRel w' ρ' v nx ∧ SatL P ρ' L' w' ∧ Fr All ρ w ρ' w' :=
    fun h1 h2 h3 => ⟨w, ρ, _, h3, h1, h2 ▸ hL, .refl ..⟩
  have fin : ∀ {c : Value} {w' : World} {ρ' : Rho}, (execOp a.eval o).run P w = .ok (.value c) w' → VRel w' ρ' v c → SatL P ρ' L' w' → Fr All ρ w ρ' w' → ∃ w' ρ' nx, (execOp a.eval o).run P w = .ok nx w' ∧ NextRel w' ρ' v nx ∧ SatL P ρ' L' w' ∧ Fr All ρ w ρ' w' :=
    fun h1 h2 h3 h4 => ⟨_, _, _, h1, h2, h3, h4⟩
  unfold opStep at h
  split at h
  · rename_i x hop
    obtain ⟨u, hu, h⟩ := Option.map_eq_some_iff.1 h
    injection h with e1 e2; subst e1; subst e2
    exact pure1 (hE.ev hu) rfl (by simp [execOp, hop])
  · rename_i x hop
    obtain ⟨u, hu, h⟩ := Option.map_eq_some_iff.1 h
    injection h with e1 e2; subst e1; subst e2
    exact pure1 (hE.ev hu) rfl (by simp [execOp, hop])
  · rename_i c x y hop
    obtain ⟨u, hu, h⟩ := Option.bind_eq_some_iff.1 h
    have hc := hE.ev hu
    split at h
    · obtain ⟨u', hu', h⟩ := Option.map_eq_some_iff.1 h
      injection h with e1 e2; subst e1; subst e2
      cases hc with
      | dat hc =>
      generalize hcv : a.eval c = cv at hc
      cases hc
      exact pure1 (hE.ev hu') rfl (by simp [execOp, hop, hcv, asBool])
    · obtain ⟨u', hu', h⟩ := Option.map_eq_some_iff.1 h
      injection h with e1 e2; subst e1; subst e2
      cases hc with
      | dat hc =>
      generalize hcv : a.eval c = cv at hc
      cases hc
      exact pure1 (hE.ev hu') rfl (by simp [execOp, hop, hcv, asBool])
    · simp at h
  · rename_i op t x y ty hop
    obtain ⟨u1, hu1, h⟩ := Option.bind_eq_some_iff.1 h
    obtain ⟨u2, hu2, h⟩ := Option.bind_eq_some_iff.1 h
    obtain ⟨u', hu', h⟩ := Option.map_eq_some_iff.1 h
    injection h with e1 e2; subst e1; subst e2
    obtain ⟨c, g1, g2, g3⟩ := abin2L_sound hu' hL (hE.ev hu1) (hE.ev hu2) x y
    exact pure1 g3 rfl (by simp [execOp, hop, g1, g2])
  · rename_i op t x hop
    obtain ⟨u1, hu1, h⟩ := Option.bind_eq_some_iff.1 h
    obtain ⟨u', hu', h⟩ := Option.map_eq_some_iff.1 h
    injection h with e1 e2; subst e1; subst e2
    obtain ⟨c, g1, g2⟩ := aun_sound (P := P) hu' (hE.ev hu1)
    exact pure1 g2 rfl (by simp [execOp, hop, g1])
  · rename_i s d x hop
    obtain ⟨u1, hu1, h⟩ := Option.bind_eq_some_iff.1 h
    obtain ⟨u', hu', h⟩ := Option.map_eq_some_iff.1 h
    injection h with e1 e2; subst e1; subst e2
    obtain ⟨c, g1, g2⟩ := aconv2_sound (P := P) hu' hL (hE.ev hu1)
    exact pure1 g2 rfl (by simp [execOp, hop, g1])
  · rename_i x i hop
    obtain ⟨u1, hu1, h⟩ := Option.bind_eq_some_iff.1 h
    obtain ⟨u', hu', h⟩ := Option.map_eq_some_iff.1 h
    injection h with e1 e2; subst e1; subst e2
    obtain ⟨c, g1, g2⟩ := aextract_sound (P := P) hu' (hE.ev hu1)
    exact pure1 g2 rfl (by simp [execOp, hop, g1])
  · rename_i t x hop
    obtain ⟨u1, hu1, h⟩ := Option.bind_eq_some_iff.1 h
    obtain ⟨u', hu', h⟩ := Option.map_eq_some_iff.1 h
    injection h with e1 e2; subst e1; subst e2
    obtain ⟨c, g1, g2⟩ := aload_sound (P := P) hu' hL (evG_sound hu1 hL hE)
    exact pure1 g2 rfl (by simp [execOp, hop, g1])
  · rename_i t ad x hop
    obtain ⟨u1, hu1, h⟩ := Option.bind_eq_some_iff.1 h
    obtain ⟨u2, hu2, h⟩ := Option.bind_eq_some_iff.1 h
    obtain ⟨u', hu', h⟩ := Option.map_eq_some_iff.1 h
    injection h with e1 e2; subst e1; subst e2
    obtain ⟨w', ρ', g1, g2, g3⟩ := stStore_sound hu' hL (hE.ev hu1) (hE.ev hu2)
    exact ⟨w', ρ', .skip, by simp [execOp, hop, g1], rfl, g2, g3⟩
  · rename_i s x f hop
    obtain ⟨u1, hu1, h⟩ := Option.bind_eq_some_iff.1 h
    obtain ⟨u', hu', h⟩ := Option.map_eq_some_iff.1 h
    injection h with e1 e2; subst e1; subst e2
    obtain ⟨c, g1, g2⟩ := afieldAddr_sound (P := P) hu' (hE.ev hu1)
    exact pure1 g2 rfl (by simp [execOp, hop, g1])
  · rename_i s x f hop
    obtain ⟨u1, hu1, h⟩ := Option.bind_eq_some_iff.1 h
    obtain ⟨u', hu', h⟩ := Option.map_eq_some_iff.1 h
    injection h with e1 e2; subst e1; subst e2
    obtain ⟨c, g1, g2⟩ := afield_sound (P := P) hu' (hE.ev hu1)
    exact pure1 g2 rfl (by simp [execOp, hop, g1])
  · rename_i t x i hop
    obtain ⟨u1, hu1, h⟩ := Option.bind_eq_some_iff.1 h
    obtain ⟨u2, hu2, h⟩ := Option.bind_eq_some_iff.1 h
    obtain ⟨u', hu', h⟩ := Option.map_eq_some_iff.1 h
    injection h with e1 e2; subst e1; subst e2
    obtain ⟨c, g1, g2⟩ := aindexAddr_sound (P := P) hu' hL (hE.ev hu1) (hE.ev hu2)
    exact pure1 g2 rfl (by simp [execOp, hop, g1])
  · rename_i t x i hop
    obtain ⟨u1, hu1, h⟩ := Option.bind_eq_some_iff.1 h
    obtain ⟨u2, hu2, h⟩ := Option.bind_eq_some_iff.1 h
    obtain ⟨u', hu', h⟩ := Option.map_eq_some_iff.1 h
    injection h with e1 e2; subst e1; subst e2
    obtain ⟨c, g1, g2⟩ := aindex_sound (P := P) hu' (hE.ev hu1) (hE.ev hu2)
    exact pure1 g2 rfl (by simp [execOp, hop, g1])
  · rename_i t x lo hi hop
    obtain ⟨u1, hu1, h⟩ := Option.bind_eq_some_iff.1 h
    obtain ⟨u', hu', h⟩ := Option.map_eq_some_iff.1 h
    injection h with e1 e2; subst e1; subst e2
    obtain ⟨c, g1, g2⟩ := aslice_sound (P := P) hu' hL (hE.ev hu1) (oev_sound hE lo) (oev_sound hE hi)
    exact pure1 g2 rfl (by simp [execOp, hop, g1])
  · rename_i t x lo hi mx hop
    obtain ⟨u1, hu1, h⟩ := Option.bind_eq_some_iff.1 h
    obtain ⟨u2, hu2, h⟩ := Option.bind_eq_some_iff.1 h
    obtain ⟨u3, hu3, h⟩ := Option.bind_eq_some_iff.1 h
    obtain ⟨u4, hu4, h⟩ := Option.bind_eq_some_iff.1 h
    obtain ⟨u', hu', h⟩ := Option.map_eq_some_iff.1 h
    injection h with e1 e2; subst e1; subst e2
    obtain ⟨rfl, c, g1⟩ := aslice3_sound hu' hL (hE.ev hu1) (hE.ev hu2) (hE.ev hu3) (hE.ev hu4)
    exact pure1 (.undef c) rfl (by simp [execOp, hop, g1])
  · rename_i t parts hop
    obtain ⟨ps, hps, h⟩ := Option.bind_eq_some_iff.1 h
    obtain ⟨u', hu', h⟩ := Option.map_eq_some_iff.1 h
    injection h with e1 e2; subst e1; subst e2
    obtain ⟨c, g1, g2⟩ := abuild_sound (P := P) hu' (cparts := parts.map fun p => (p.1, a.eval p.2)) (by rw [Array.toList_map]; exact evs_sound hE hps)
    exact pure1 g2 rfl (by simp [execOp, hop, g1])
  · rename_i t n parts hop
    obtain ⟨r, hr, h⟩ := Option.bind_eq_some_iff.1 h
    obtain ⟨ps, hps, h⟩ := Option.bind_eq_some_iff.1 h
    obtain ⟨c, w', ρ', g1, g2, g3, g4⟩ := stBuildSlice_sound h hL (cparts := parts.map fun p => (p.1, a.eval p.2)) (by rw [Array.toList_map]; exact evs_sound hE hps)
    exact fin (by simp [execOp, hop, g1]) g2 g3 g4
  · rename_i t hop
    obtain ⟨r, hr, h⟩ := Option.bind_eq_some_iff.1 h
    obtain ⟨c, w', ρ', g1, g2, g3, g4⟩ := stAlloc_sound h hL
    exact fin (by simp [execOp, hop, g1]) g2 g3 g4
  · rename_i t x hop
    obtain ⟨r, hr, h⟩ := Option.bind_eq_some_iff.1 h
    obtain ⟨u1, hu1, h⟩ := Option.bind_eq_some_iff.1 h
    obtain ⟨c, w', ρ', g1, g2, g3, g4⟩ := stBox_sound h hL (hE.ev hu1)
    exact fin (by simp [execOp, hop, g1]) g2 g3 g4
  · rename_i t l c hop
    obtain ⟨r, hr, h⟩ := Option.bind_eq_some_iff.1 h
    obtain ⟨u1, hu1, h⟩ := Option.bind_eq_some_iff.1 h
    obtain ⟨u2, hu2, h⟩ := Option.bind_eq_some_iff.1 h
    obtain ⟨c, w', ρ', g1, g2, g3, g4⟩ := stMakeSlice_sound h hL (hE.ev hu1) (hE.ev hu2)
    exact fin (by simp [execOp, hop, g1]) g2 g3 g4
  · rename_i f first caps hop
    obtain ⟨bs, hbs, h⟩ := Option.bind_eq_some_iff.1 h
    obtain ⟨vs, hvs, h⟩ := Option.map_eq_some_iff.1 h
    injection h with e1 e2; subst e1; subst e2
    have hc := (evl_sound hE hvs).cs
    have hb := (evl_sound hE hbs).cs
    refine pure1 (c := .func (.func f) (first.map a.eval) (caps.map a.eval)) (.fn ?_ ?_ ?_ ?_) rfl (by simp [execOp, hop, Instr.makeFunc])
    · have := hb.1; simpa using this
    · intro i v hi
      have := hb.2 i v hi
      simpa [Array.getD_eq_getD_getElem?] using this
    · have := hc.1; simpa using this
    · intro i v hi
      have := hc.2 i v hi
      simpa [Array.getD_eq_getD_getElem?] using this
  · rename_i t x hop
    obtain ⟨u1, hu1, h⟩ := Option.bind_eq_some_iff.1 h
    split at h
    · rename_i hc
      injection h with h
      injection h with e1 e2; subst e1; subst e2
      refine pure1 (c := .iface t (a.eval x)) (.iface (hE.ev hu1)) rfl ?_
      unfold isConc at hc
      simp only [execOp, hop, Instr.makeInterface, Sem.run_bind]
      split at hc
      · simp at hc
      · rename_i d hnd hd
        rw [run_underlying hd]
        simp only [Result.andThen_ok]
        cases d <;> first | rfl | exact absurd rfl (hnd _)
      · simp at hc
    · simp at h
  · rename_i t hop
    obtain ⟨r, hr, h⟩ := Option.bind_eq_some_iff.1 h
    obtain ⟨c, w', ρ', g1, g2, g3, g4⟩ := stMakeMap_sound (P := P) (t := t) h hL
    exact fin (by simp [execOp, hop, g1]) g2 g3 g4
  · rename_i t x k ok hop
    obtain ⟨u1, hu1, h⟩ := Option.bind_eq_some_iff.1 h
    obtain ⟨u2, hu2, h⟩ := Option.bind_eq_some_iff.1 h
    obtain ⟨u', hu', h⟩ := Option.map_eq_some_iff.1 h
    injection h with e1 e2; subst e1; subst e2
    obtain ⟨c, g1, g2⟩ := alookup_sound hu' hL (hE.ev hu1) (hE.ev hu2)
    exact pure1 g2 rfl (by simp [execOp, hop, g1])
  · rename_i t m k v hop
    obtain ⟨u1, hu1, h⟩ := Option.bind_eq_some_iff.1 h
    obtain ⟨u2, hu2, h⟩ := Option.bind_eq_some_iff.1 h
    obtain ⟨u3, hu3, h⟩ := Option.bind_eq_some_iff.1 h
    obtain ⟨u', hu', h⟩ := Option.map_eq_some_iff.1 h
    injection h with e1 e2; subst e1; subst e2
    obtain ⟨w', ρ', g1, g2, g3⟩ := stMapUpdate_sound hu' hL (hE.ev hu1) (hE.ev hu2) (hE.ev hu3)
    exact ⟨w', ρ', .skip, by simp [execOp, hop, g1], rfl, g2, g3⟩
  · rename_i t m k v hop
    obtain ⟨u1, hu1, h⟩ := Option.bind_eq_some_iff.1 h
    obtain ⟨u2, hu2, h⟩ := Option.bind_eq_some_iff.1 h
    obtain ⟨u3, hu3, h⟩ := Option.bind_eq_some_iff.1 h
    obtain ⟨u', hu', h⟩ := Option.map_eq_some_iff.1 h
    injection h with e1 e2; subst e1; subst e2
    obtain ⟨w', ρ', g1, g2, g3⟩ := stMapUpdate_sound hu' hL (hE.ev hu1) (hE.ev hu2) (hE.ev hu3)
    exact ⟨w', ρ', .skip, by simp [execOp, hop, g1], rfl, g2, g3⟩
  · rename_i x hop
    obtain ⟨u1, hu1, h⟩ := Option.bind_eq_some_iff.1 h
    have hx := hE.ev hu1
    split at h
    · injection h with h
      injection h with e1 e2; subst e1; subst e2
      generalize hcv : a.eval x = cv at hx
      cases hx with
      | @ptr _ _ _ _ g0 sz ad v0 e0 hr' hle hp =>
        exact pure1 (.ptr hr' hle hp) rfl (by simp [execOp, hop, hcv])
    · injection h with h
      injection h with e1 e2; subst e1; subst e2
      generalize hcv : a.eval x = cv at hx
      cases hx with
      | pdat h1 h2 => exact pure1 (.pdat h1 h2) rfl (by simp [execOp, hop, hcv])
    · injection h with h
      injection h with e1 e2; subst e1; subst e2
      generalize hcv : a.eval x = cv at hx
      cases hx with
      | fn h3 h4 h1 h2 => exact pure1 (.fn h3 h4 h1 h2) rfl (by simp [execOp, hop, hcv])
    · simp at h
  · rename_i b args ts hop
    obtain ⟨w', ρ', nx, g1, g2, g3, g4⟩ := stBuiltin_sound h hL hE o.type (args.map fun | .const _ => true | _ => false)
    exact ⟨w', ρ', nx, by simp only [execOp, hop, resolve, Sem.run_bind, Sem.run_pure, Result.andThen_ok, invoke]; exact g1, g2, g3, g4⟩
  · simp at h
end Go.Sk