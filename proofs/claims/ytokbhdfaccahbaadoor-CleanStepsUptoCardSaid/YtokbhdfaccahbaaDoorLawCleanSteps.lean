/- The law `CleanSteps` of this seat returns true for every input of the bulk that the second form names; each argument reads afterwards as it did before. The walk is the program`s own; the package variable is read from the row`s list. -/
import Derived.Test.YtokbhdfaccahbaaDoorCards
import Derived.Test.YtokbhdfaccahbaaDoorTie
import Derived.Test.YtokbhdfaccahbaaDoorXCleanStepsP3
import Derived.Test.YtokbhdfaccahbaaDoorXCleanStepsL1
import Derived.Test.YtokbhdfaccahbaaDoorSk7
import Derived.WalkKit
import Derived.ProofKit
import Derived.OpenShut
import Derived.ShutString
import Derived.ChangeOld
import Derived.Below
import Derived.SizedLaws
import Derived.Carry
import Derived.Deep.DeepHandedRow
import Derived.Lib.LaidTab
set_option linter.unusedVariables false
set_option maxRecDepth 100000
namespace Go.Sk.X
open Go Go.Sk
def M_S_api_Dep (x : S_api_Dep) : Nat := (m1 x.Var + ((mL m1) x.On + 0))
def M_S_api_Dqbf (x : S_api_Dqbf) : Nat := ((mL m1) x.Univ + ((mL M_S_api_Dep) x.Exist + ((mL (mL m1)) x.Clauses + 0)))
theorem mL1 (l : List Int) : mL m1 l = l.length + 1 := by
  unfold mL
  have : ∀ l : List Int, (l.map m1).sum = l.length := by
    intro l; induction l with
    | nil => rfl
    | cons x l ih => simp only [List.map_cons, List.sum_cons, List.length_cons, ih, m1]; omega
  rw [this]
theorem sm_of {d : S_api_Dqbf} (h : M_S_api_Dqbf d ≤ 1048576) : Sm d := by
  unfold M_S_api_Dqbf at h
  rw [mL1] at h
  have h1 : ∀ l : List S_api_Dep, l.length ≤ (l.map M_S_api_Dep).sum ∧ (l.map fun e => e.On.length).sum ≤ (l.map M_S_api_Dep).sum := by
    intro l
    induction l with
    | nil => simp
    | cons x l ih =>
      have e : M_S_api_Dep x = 1 + (x.On.length + 1 + 0) := by show m1 x.Var + (mL m1 x.On + 0) = _; rw [mL1]; rfl
      simp only [List.map_cons, List.sum_cons, List.length_cons, e]
      omega
  have h2 : ∀ l : List (List Int), (l.map (mL m1)).sum = l.length + tot l := by
    intro l
    induction l with
    | nil => rfl
    | cons x l ih =>
      rw [List.map_cons, List.sum_cons, ih, mL1, tot_cons, List.length_cons]; omega
  have e1 : mL M_S_api_Dep d.Exist = (d.Exist.map M_S_api_Dep).sum + 1 := rfl
  have e2 : mL (mL m1) d.Clauses = (d.Clauses.map (mL m1)).sum + 1 := rfl
  rw [e1, e2, h2] at h
  have := h1 d.Exist
  exact ⟨by omega, by omega, by omega, by omega, by omega⟩
theorem law_CleanSteps {a0 : S_api_Dqbf} {a1 : List Int} (_ : W_S_api_Dqbf a0) (_ : (InL (InK .u8)) a1) (h : M_S_api_Dqbf a0 + (mL m1) a1 ≤ 1048576) : F_skolemlaw13_CleanSteps a0 a1 = some true := cleanSteps_eq (sm_of (by omega)) a1

end Go.Sk.X
namespace Go.Proofs.YtokbhdfaccahbaaDoor.cleanSteps
open Go Go.Sk Go.Sk.X Go.RowKit Go.ChangeShapes Go.WideShapes Go.ChangeAt
theorem own : ownKnob Tryd.prog.godebug = Option.none := by kernel_rfl
theorem laidOut : laidOutB Tryd.prog = true := by kernel_rfl
/-- what the form counts, as sums -/
theorem bulkAll_eq {H : Type} : ∀ l : List (DataW H), Rows.uptoBulkAll l = (l.map Rows.uptoBulk).sum
  | [] => rfl
  | x :: l => by simp only [Rows.uptoBulkAll, List.map_cons, List.sum_cons, bulkAll_eq l]
theorem bulkOk {H : Type} : Bulk (Rows.uptoBulk (H := H)) where
  one d := by
    cases d with
    | lit l => cases l <;> simp [Rows.uptoBulk]
    | nil => simp [Rows.uptoBulk]
    | ptr d => simp [Rows.uptoBulk]
    | slice elems spare => simp [Rows.uptoBulk]
    | agg parts => simp [Rows.uptoBulk]
    | iface t d => simp [Rows.uptoBulk]
    | map entries => simp [Rows.uptoBulk]
    | held h => simp [Rows.uptoBulk]
  sl es rest := by simp only [Rows.uptoBulk, bulkAll_eq]; omega
  ag ps := by simp only [Rows.uptoBulk, bulkAll_eq]; omega
theorem rd3 {H : Type} {enc : TypeId × Value → H} {W : World} : RdU (Rows.uptoBulk (H := H)) enc Tryd.prog W 3 (eI .i64) (InK .i64) m1 := RdU.of bulkOk (rd_int Tryd.underlying3)
theorem rd22 {H : Type} {enc : TypeId × Value → H} {W : World} : RdU (Rows.uptoBulk (H := H)) enc Tryd.prog W 22 (eL 1 (eI .i64)) (InL (InK .i64)) (mL m1) := rd_sliceU bulkOk Tryd.underlying22 (by kernel_rfl) rd3
theorem rd50 {H : Type} {enc : TypeId × Value → H} {W : World} : RdU (Rows.uptoBulk (H := H)) enc Tryd.prog W 50 e_S_api_Dep W_S_api_Dep M_S_api_Dep := rd_structU (ql := [(3, 0, 1), (22, 1, 1)]) bulkOk Tryd.underlying50 (by kernel_rfl) (by kernel_rfl) (rdfU_cons rd3 (rdfU_cons rd22 rdfU_nil)) (fun x => ⟨x.1, x.2.1⟩) (fun _ => rfl) (fun x h => ⟨h.1, h.2.1⟩) (fun _ => rfl)
theorem rd23 {H : Type} {enc : TypeId × Value → H} {W : World} : RdU (Rows.uptoBulk (H := H)) enc Tryd.prog W 23 (eL 2 e_S_api_Dep) (InL W_S_api_Dep) (mL M_S_api_Dep) := rd_sliceU bulkOk Tryd.underlying23 (by kernel_rfl) rd50
theorem rd24 {H : Type} {enc : TypeId × Value → H} {W : World} : RdU (Rows.uptoBulk (H := H)) enc Tryd.prog W 24 (eL 1 (eL 1 (eI .i64))) (InL (InL (InK .i64))) (mL (mL m1)) := rd_sliceU bulkOk Tryd.underlying24 (by kernel_rfl) rd22
theorem rd26 {H : Type} {enc : TypeId × Value → H} {W : World} : RdU (Rows.uptoBulk (H := H)) enc Tryd.prog W 26 e_S_api_Dqbf W_S_api_Dqbf M_S_api_Dqbf := rd_structU (ql := [(22, 0, 1), (23, 1, 1), (24, 2, 1)]) bulkOk Tryd.underlying26 (by kernel_rfl) (by kernel_rfl) (rdfU_cons rd22 (rdfU_cons rd23 (rdfU_cons rd24 rdfU_nil))) (fun x => ⟨x.1, x.2.1, x.2.2.1⟩) (fun _ => rfl) (fun x h => ⟨h.1, h.2.1, h.2.2.1⟩) (fun _ => rfl)
theorem rd27 {H : Type} {enc : TypeId × Value → H} {W : World} : RdU (Rows.uptoBulk (H := H)) enc Tryd.prog W 27 (eI .u8) (InK .u8) m1 := RdU.of bulkOk (rd_int Tryd.underlying27)
theorem rd52 {H : Type} {enc : TypeId × Value → H} {W : World} : RdU (Rows.uptoBulk (H := H)) enc Tryd.prog W 52 (eL 1 (eI .u8)) (InL (InK .u8)) (mL m1) := rd_sliceU bulkOk Tryd.underlying52 (by kernel_rfl) rd27
theorem gTab : Tryd.prog.globalNamed "skolem/clean.order" = some 0 := by kernel_rfl
theorem gTabType : (Tryd.prog.globals[0]?).map (·.type) = some 93 := by kernel_rfl
theorem cellsT : Tryd.prog.cellsOf 93 = 5 := by kernel_rfl
theorem cellsE : Tryd.prog.cellsOf 27 = 1 := by kernel_rfl
/-- what the row`s list gives -/
theorem table {W : World} (h : laidMetH Tryd.prog Rows.cleanStepsUptoRow.laid W) : Lib.TabIs Tryd.prog W "skolem/clean.order" .u8 [1, 3, 2, 4, 5] :=
  Lib.tabIs_of_head (rest := []) gTab gTabType Tryd.underlying93 Tryd.underlying27 cellsE cellsT h
theorem tabG {W : World} (h : laidMetH Tryd.prog Rows.cleanStepsUptoRow.laid W) : VRel W (rhoG 0) (.pdat [.int .u8 1, .int .u8 3, .int .u8 2, .int .u8 4, .int .u8 5] 0) (.pointer (some ⟨0, 0, Option.none⟩)) := by
  refine pdat_of (vs := #[.int .u8 1, .int .u8 3, .int .u8 2, .int .u8 4, .int .u8 5]) (ownG 0 0) (fun j v hj => ?_) rfl (fun j d hj => ?_)
  · match j, hj with
    | 0, hj => simp at hj; subst hj; exact (table h).cell gTab 0 (by decide)
    | 1, hj => simp at hj; subst hj; exact (table h).cell gTab 1 (by decide)
    | 2, hj => simp at hj; subst hj; exact (table h).cell gTab 2 (by decide)
    | 3, hj => simp at hj; subst hj; exact (table h).cell gTab 3 (by decide)
    | 4, hj => simp at hj; subst hj; exact (table h).cell gTab 4 (by decide)
    | j + 5, hj => simp at hj
  · match j, hj with
    | 0, hj => simp at hj; subst hj; exact .int _ _
    | 1, hj => simp at hj; subst hj; exact .int _ _
    | 2, hj => simp at hj; subst hj; exact .int _ _
    | 3, hj => simp at hj; subst hj; exact .int _ _
    | 4, hj => simp at hj; subst hj; exact .int _ _
    | j + 5, hj => simp at hj
noncomputable def laidWorld (os : Os) : World :=
  { World.holding Tryd.prog os ⟨#[], #[], []⟩ with heap := (World.holding Tryd.prog os ⟨#[], #[], []⟩).heap.modify 0 fun
      | .cells _ t frozen => .cells #[.int .u8 1, .int .u8 3, .int .u8 2, .int .u8 4, .int .u8 5] t frozen
      | o => o }
theorem laid_met (os : Os) : laidMet Tryd.prog Rows.cleanStepsUptoRow.laid ((laidWorld os).forCall (fun _ _ => 0) ⟨#[], #[.agg #[.slice none 0 0, .slice none 0 0, .slice none 0 0], .slice none 0 0], []⟩).memory :=
  laidMet_of_run' 8 (by kernel_rfl) (by kernel_rfl)
theorem reads (os : Os) {H : Type} (enc : TypeId × Value → H) : ∃ x, DataW.whole enc Tryd.prog ((laidWorld os).forCall (fun _ _ => 0) ⟨#[], #[.agg #[.slice none 0 0, .slice none 0 0, .slice none 0 0], .slice none 0 0], []⟩).memory Tryd.f5.params.toList Rows.cleanStepsSpec.vars false (#[.agg #[.slice none 0 0, .slice none 0 0, .slice none 0 0], .slice none 0 0] : Array Value).toList 8 = some x ∧ Rows.uptoSmall H (x.1 ++ x.2.1) = true :=
  ⟨([.agg [.nil, .nil, .nil], .nil], [], []), by kernel_rfl, by kernel_rfl⟩
theorem lifted (os : Os) (started : os.Started) (H : Type) (enc : TypeId × Value → H) (F : Stop.Interp) :
    ReturnsInHanded {} Tryd.checked os 5 .any ((Rows.OpenSpec.upto Rows.cleanStepsSpec).preRow enc Tryd.prog Tryd.f5 Rows.cleanStepsUptoRow.domain false Rows.cleanStepsUptoRow.laid) (((Rows.OpenSpec.upto Rows.cleanStepsSpec).at F).post enc Tryd.prog Tryd.f5 false true false false) := by
  obtain ⟨x, hx, hxs⟩ := reads os enc
  refine returnsInHanded_of_row (C := Tryd.checked) (s := Rows.OpenSpec.upto Rows.cleanStepsSpec) own started (by kernel_rfl) Tryd.func5
    (witness_row_at (enc := enc) (C := Tryd.checked) false (laidWorld os) #[.agg #[.slice none 0 0, .slice none 0 0, .slice none 0 0], .slice none 0 0] rfl (by kernel_rfl) (by kernel_rfl) (by kernel_rfl)
      (OpenSpec.preRow_of_cond 8 hx (by kernel_rfl) (fun k hk => by cases hk; exact hxs) (by kernel_rfl) (laid_met os))) ?_
  intro W base args ds gs before hval0 hW _ hcond hsz0 hL _ _
  have hval : ∀ (j : Nat) t v, Tryd.f5.params[j]? = some t → args[j]? = some v → Value.okWide Tryd.prog W .any base t v := hval0
  have hW' := hW
  obtain ⟨p, q, hA0, hV, rfl, hfz, hnd⟩ := hW
  have hA : DataW.TrodAll enc Tryd.prog W 0 (fun _ => true) true Tryd.f5.params.toList args.toList ds p := hA0
  have hsz : (DataW.weightsEach Tryd.prog (Tryd.f5.params.toList ++ _) (ds ++ gs)).all (· ≤ reachBytes) = true := hsz0
  have hb : Rows.uptoBulkAll (ds ++ gs) ≤ 1048576 := of_decide_eq_true (hcond _ rfl)
  rw [Tryd.params5] at hA hval hsz
  obtain ⟨v0, vs0, d0, ds0, p0, q0, hargs, rfl, rfl, h0, r0⟩ := trodAll_cons hA
  obtain ⟨v1, vs1, d1, ds1, p1, q1, rfl, rfl, rfl, h1, r1⟩ := trodAll_cons r0
  obtain ⟨rfl, rfl, rfl⟩ := trodAll_nil r1
  obtain rfl : args = #[v0, v1] := by cases args; simp_all
  obtain ⟨rfl, rfl⟩ := trodVars_none hV
  rw [bulkAll_eq] at hb
  simp only [List.append_nil, List.map_cons, List.map_nil, List.sum_cons, List.sum_nil] at hb
  have lt0 : ∀ x ∈ p0, x.block < W.heap.size := by obtain ⟨m, hm⟩ := h0; exact DataW.trod_lt m _ _ _ hm
  obtain ⟨a0, w0, mm0, y0⟩ := arg_aggU Tryd.underlying26 (hval 0 26 v0 rfl rfl) rd26 h0 (weightsEach_get (i := 0) hsz rfl rfl)
  have lt1 : ∀ x ∈ p1, x.block < W.heap.size := by obtain ⟨m, hm⟩ := h1; exact DataW.trod_lt m _ _ _ hm
  obtain ⟨a1, w1, mm1, y1⟩ := arg_cellU (by kernel_rfl) (hval 1 52 v1 rfl rfl) rd52 (fun xs => .sl 1 (xs.map (eI .u8))) (fun _ => rfl) h1 (weightsEach_get (i := 1) hsz rfl rfl)
  have hm : M_S_api_Dqbf a0 + (mL m1) a1 ≤ 1048576 := by omega
  refine ((ok_skolemlaw13_CleanSteps (law_CleanSteps w0 w1 hm)).calls (W := W) (cs := [v0, v1]) (.cons y0 (.cons y1 .nil)) rfl (tabG hL)).mono fun e W' ⟨he, bel⟩ => ?_
  subst he
  exact ⟨_, rfl, _, _, _, [], _, [], hW', trodAll_mk1 (shut_bool (by kernel_rfl) _), (trodAll_cons_mk (Below.trod laidOut (by kernel_rfl) (of_decide_eq_true (by kernel_rfl)) h0 bel lt0) (trodAll_cons_mk (Below.trod laidOut (by kernel_rfl) (of_decide_eq_true (by kernel_rfl)) h1 bel lt1) trodAll_mk0)), rfl, bel.frame _, fun h => by cases h⟩
theorem saidUpto : Rows.CleanStepsUptoSaid :=
  OpenClaim.holds_of_cond 5 Tryd.f5 rfl rfl rfl rfl rfl rfl rfl ⟨rfl, rfl, rfl, rfl, rfl⟩ rfl rfl rfl rfl rfl (by kernel_rfl) Tryd.func5 (by kernel_rfl)
    (of_decide_eq_true (by kernel_rfl)) (by unfold Func.isWrapper; first | (rw [if_pos (by decide +kernel)]; kernel_rfl) | (rw [if_neg (by decide +kernel)]; exact ⟨rfl, rfl⟩))
    (fun os started H enc _ F => by rw [OpenClaim.pre_eq_preRow]; exact lifted os started H enc F)
theorem plain (f : FuncId) (fn : Func) (hf : Tryd.pinned.checked.prog.funcNamed "skolem/skolemlaw13.CleanSteps" = some f) (hfn : Tryd.pinned.checked.prog.funcs[f]? = some fn) :
    false = Tryd.pinned.checked.prog.looks [] ∧ ∀ (j : Nat) t, fn.params[j]? = some t → Tryd.pinned.checked.prog.wantsStandIn t = false := by
  obtain rfl : f = 5 := Option.some.inj ((show Tryd.prog.funcNamed "skolem/skolemlaw13.CleanSteps" = some 5 by kernel_rfl).symm.trans hf) |>.symm
  obtain rfl : fn = Tryd.f5 := (Option.some.inj (Tryd.func5.symm.trans hfn)).symm
  refine ⟨by kernel_rfl, fun j t ht => ?_⟩
  rw [Tryd.params5] at ht
  have hm := Array.mem_of_getElem? ht
  simp only [List.mem_cons, List.not_mem_nil, or_false, Array.mem_def] at hm
  rcases hm with rfl | rfl
  · exact (show Tryd.prog.wantsStandIn 26 = false by kernel_rfl)
  · exact (show Tryd.prog.wantsStandIn 52 = false by kernel_rfl)
theorem cardUpto : Rows.CleanStepsUptoCardSaid :=
  Claim7.holds_tied_plain_at .later [] _ _ _ _ saidUpto (fun _ h => by cases h) (by kernel_rfl) (fun _ h => by cases h) cleanStepsUpto_row_tie rfl ⟨rfl, rfl⟩ (by kernel_rfl) rfl plain (by kernel_rfl)
end Go.Proofs.YtokbhdfaccahbaaDoor.cleanSteps
namespace Go.Proofs.YtokbhdfaccahbaaDoor
/-- The law holds, for what is of the bulk that the second form names: its card. -/
theorem cleanStepsUpto_card : Rows.CleanStepsUptoCardSaid := cleanSteps.cardUpto
end Go.Proofs.YtokbhdfaccahbaaDoor
