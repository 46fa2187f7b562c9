/- The law `TruthLeast` of this seat returns true for every input; each argument reads afterwards as it did before. No conditions. -/
import Derived.Test.YtppmnjikhealeaaRows
import Derived.Test.YtppmnjikhealeaaXTruthLeastP2
import Derived.Test.YtppmnjikhealeaaXTruthLeastL1
import Derived.WalkKit
import Derived.ProofKit
import Derived.OpenShut
import Derived.ShutString
import Derived.ChangeOld
import Derived.Below
import Derived.SizedLaws
import Derived.Carry
set_option linter.unusedVariables false
set_option maxRecDepth 100000
namespace Go.Proofs.Ytppmnjikhealeaa.truthLeast
open Go Go.Sk Go.Sk.X Go.RowKit Go.ChangeShapes Go.WideShapes Go.ChangeAt
theorem own : ownKnob Try.prog.godebug = Option.none := by kernel_rfl
theorem laidOut : laidOutB Try.prog = true := by kernel_rfl
theorem rd3 {H : Type} {enc : TypeId × Value → H} {W : World} : Rd enc Try.prog W 3 (eI .i64) (InK .i64) := rd_int Try.underlying3
theorem rd34 {H : Type} {enc : TypeId × Value → H} {W : World} : Rd enc Try.prog W 34 (eL 1 (eI .i64)) (InLz (InK .i64)) := rd_sliceS Try.underlying34 (by kernel_rfl) (by kernel_rfl) rd3
theorem rd51 {H : Type} {enc : TypeId × Value → H} {W : World} : Rd enc Try.prog W 51 e_S_api_Dep Z_S_api_Dep := rd_struct (ql := [(3, 0, 1), (34, 1, 1)]) Try.underlying51 (by kernel_rfl) (by kernel_rfl) (rdf_cons rd3 (rdf_cons rd34 rdf_nil)) (fun x => ⟨x.1, x.2.1⟩) (fun _ => rfl) (fun x h => ⟨h.1, h.2.1⟩)
theorem rd35 {H : Type} {enc : TypeId × Value → H} {W : World} : Rd enc Try.prog W 35 (eL 2 e_S_api_Dep) (InLz Z_S_api_Dep) := rd_sliceS Try.underlying35 (by kernel_rfl) (by kernel_rfl) rd51
theorem rd23 {H : Type} {enc : TypeId × Value → H} {W : World} : Rd enc Try.prog W 23 (eL 1 (eL 1 (eI .i64))) (InLz (InLz (InK .i64))) := rd_sliceS Try.underlying23 (by kernel_rfl) (by kernel_rfl) rd34
theorem rd37 {H : Type} {enc : TypeId × Value → H} {W : World} : Rd enc Try.prog W 37 e_S_api_Dqbf Z_S_api_Dqbf := rd_struct (ql := [(34, 0, 1), (35, 1, 1), (23, 2, 1)]) Try.underlying37 (by kernel_rfl) (by kernel_rfl) (rdf_cons rd34 (rdf_cons rd35 (rdf_cons rd23 rdf_nil))) (fun x => ⟨x.1, x.2.1, x.2.2.1⟩) (fun _ => rfl) (fun x h => ⟨h.1, h.2.1, h.2.2.1⟩)
theorem rd53 {H : Type} {enc : TypeId × Value → H} {W : World} : Rd enc Try.prog W 53 (eI .u16) (InK .u16) := rd_int Try.underlying53
theorem lifted (os : Os) (started : os.Started) (H : Type) (enc : TypeId × Value → H) :
    ReturnsInHanded {} Try.checked os 7 .any (Rows.truthLeastSpec.pre6 enc Try.prog Try.f7 Rows.truthLeastRow.domain false) (Rows.truthLeastSpec.post enc Try.prog Try.f7 false true false false) := by
  refine returnsInHanded_of_change_sized (C := Try.checked) own started (by kernel_rfl) Try.func7
    (ChangeSpec.witness6 (enc := enc) (C := Try.checked) false ⟨#[], #[.agg #[.slice none 0 0, .slice none 0 0, .slice none 0 0], .int .u16 0], []⟩ 8 (by kernel_rfl) (by kernel_rfl) (by kernel_rfl) (by kernel_rfl)) ?_
  intro W base args ds gs before hval0 hW hcnd hsz0 _
  have hval : ∀ (j : Nat) t v, Try.f7.params[j]? = some t → args[j]? = some v → Value.okWide Try.prog W .any base t v := hval0
  have hW' := hW
  obtain ⟨p, q, hA0, hV, rfl, hfz, hnd⟩ := hW
  have hA : DataW.TrodAll enc Try.prog W 0 (fun _ => true) true Try.f7.params.toList args.toList ds p := hA0
  have hsz : (DataW.weightsEach Try.prog (Try.f7.params.toList ++ _) (ds ++ gs)).all (· ≤ reachBytes) = true := hsz0
  rw [Try.params7] at hA hval hsz
  obtain ⟨v0, vs0, d0, ds0, p0, q0, hargs, rfl, rfl, h0, r0⟩ := trodAll_cons hA
  obtain ⟨v1, vs1, d1, ds1, p1, q1, rfl, rfl, rfl, h1, r1⟩ := trodAll_cons r0
  obtain ⟨rfl, rfl, rfl⟩ := trodAll_nil r1
  obtain rfl : args = #[v0, v1] := by cases args; simp_all
  obtain ⟨rfl, rfl⟩ := trodVars_none hV
  have lt0 : ∀ x ∈ p0, x.block < W.heap.size := by obtain ⟨m, hm⟩ := h0; exact DataW.trod_lt m _ _ _ hm
  obtain ⟨a0, w0, y0⟩ := arg_agg Try.underlying37 (hval 0 37 v0 rfl rfl) rd37 h0 (weightsEach_get (i := 0) hsz rfl rfl)
  have lt1 : ∀ x ∈ p1, x.block < W.heap.size := by obtain ⟨m, hm⟩ := h1; exact DataW.trod_lt m _ _ _ hm
  obtain ⟨a1, w1, y1⟩ := arg_cell (by kernel_rfl) (hval 1 53 v1 rfl rfl) rd53 (fun n => .int .u16 n) (fun _ => rfl) h1 (weightsEach_get (i := 1) hsz rfl rfl)
  refine ((ok_skolemlaw04_TruthLeast (law_TruthLeast w0 w1)).calls (W := W) (cs := [v0, v1]) (.cons y0 (.cons y1 .nil))).mono fun e W' ⟨he, bel⟩ => ?_
  subst he
  exact ⟨_, rfl, _, _, _, [], _, [], hW', trodAll_mk1 (shut_bool (by kernel_rfl) _), (trodAll_cons_mk (Below.trod laidOut (by kernel_rfl) (of_decide_eq_true (by kernel_rfl)) h0 bel lt0) (trodAll_cons_mk (Below.trod laidOut (by kernel_rfl) (of_decide_eq_true (by kernel_rfl)) h1 bel lt1) trodAll_mk0)), rfl, bel.frame _, fun h => by cases h⟩
theorem over : Rows.truthLeastRow.holds Try.pinned (OpenSpec.ofChange Rows.truthLeastSpec) :=
  OpenClaim.holds_of_wide 7 Try.f7 rfl rfl rfl rfl rfl rfl rfl ⟨rfl, rfl, rfl, rfl, rfl⟩ rfl rfl rfl rfl rfl (by kernel_rfl) Try.func7 (by kernel_rfl)
    (of_decide_eq_true (by kernel_rfl)) (by unfold Func.isWrapper; first | (rw [if_pos (by decide +kernel)]; kernel_rfl) | (rw [if_neg (by decide +kernel)]; exact ⟨rfl, rfl⟩))
    (fun os started H enc _ => lifted os started H enc)
end Go.Proofs.Ytppmnjikhealeaa.truthLeast
namespace Go.Proofs.Ytppmnjikhealeaa
/-- The law holds. -/
theorem truthLeast_holds : Rows.TruthLeastSaid := truthLeast.over
end Go.Proofs.Ytppmnjikhealeaa
