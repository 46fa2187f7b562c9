/- The law `TruthDqbf` of this seat returns true for every input; each argument reads afterwards as it did before. No conditions. -/
import Derived.Test.YtppmnjikhealeaaRows
import Derived.Test.YtppmnjikhealeaaXTruthDqbfP2
import Derived.Test.YtppmnjikhealeaaXTruthDqbfL1
import Derived.WalkKit
import Derived.ProofKit
import Derived.OpenShut
import Derived.ShutString
import Derived.ChangeOld
import Derived.Below
import Derived.SizedLaws
import Derived.Carry
set_option linter.unusedVariables false
set_option maxRecDepth 100000
namespace Go.Proofs.Ytppmnjikhealeaa.truthDqbf
open Go Go.Sk Go.Sk.X Go.RowKit Go.ChangeShapes Go.WideShapes Go.ChangeAt
theorem own : ownKnob Try.prog.godebug = Option.none := by kernel_rfl
theorem laidOut : laidOutB Try.prog = true := by kernel_rfl
theorem rd3 {H : Type} {enc : TypeId × Value → H} {W : World} : Rd enc Try.prog W 3 (eI .i64) (InK .i64) := rd_int Try.underlying3
theorem rd34 {H : Type} {enc : TypeId × Value → H} {W : World} : Rd enc Try.prog W 34 (eL 1 (eI .i64)) (InLz (InK .i64)) := rd_sliceS Try.underlying34 (by kernel_rfl) (by kernel_rfl) rd3
theorem rd51 {H : Type} {enc : TypeId × Value → H} {W : World} : Rd enc Try.prog W 51 e_S_api_Dep Z_S_api_Dep := rd_struct (ql := [(3, 0, 1), (34, 1, 1)]) Try.underlying51 (by kernel_rfl) (by kernel_rfl) (rdf_cons rd3 (rdf_cons rd34 rdf_nil)) (fun x => ⟨x.1, x.2.1⟩) (fun _ => rfl) (fun x h => ⟨h.1, h.2.1⟩)
theorem rd35 {H : Type} {enc : TypeId × Value → H} {W : World} : Rd enc Try.prog W 35 (eL 2 e_S_api_Dep) (InLz Z_S_api_Dep) := rd_sliceS Try.underlying35 (by kernel_rfl) (by kernel_rfl) rd51
theorem rd23 {H : Type} {enc : TypeId × Value → H} {W : World} : Rd enc Try.prog W 23 (eL 1 (eL 1 (eI .i64))) (InLz (InLz (InK .i64))) := rd_sliceS Try.underlying23 (by kernel_rfl) (by kernel_rfl) rd34
theorem rd37 {H : Type} {enc : TypeId × Value → H} {W : World} : Rd enc Try.prog W 37 e_S_api_Dqbf Z_S_api_Dqbf := rd_struct (ql := [(34, 0, 1), (35, 1, 1), (23, 2, 1)]) Try.underlying37 (by kernel_rfl) (by kernel_rfl) (rdf_cons rd34 (rdf_cons rd35 (rdf_cons rd23 rdf_nil))) (fun x => ⟨x.1, x.2.1, x.2.2.1⟩) (fun _ => rfl) (fun x h => ⟨h.1, h.2.1, h.2.2.1⟩)
theorem lifted (os : Os) (started : os.Started) (H : Type) (enc : TypeId × Value → H) :
    ReturnsInHanded {} Try.checked os 4 .any (Rows.truthDqbfSpec.pre6 enc Try.prog Try.f4 Rows.truthDqbfRow.domain false) (Rows.truthDqbfSpec.post enc Try.prog Try.f4 false true false false) := by
  refine returnsInHanded_of_change_sized (C := Try.checked) own started (by kernel_rfl) Try.func4
    (ChangeSpec.witness6 (enc := enc) (C := Try.checked) false ⟨#[], #[.agg #[.slice none 0 0, .slice none 0 0, .slice none 0 0]], []⟩ 8 (by kernel_rfl) (by kernel_rfl) (by kernel_rfl) (by kernel_rfl)) ?_
  intro W base args ds gs before hval0 hW hcnd hsz0 _
  have hval : ∀ (j : Nat) t v, Try.f4.params[j]? = some t → args[j]? = some v → Value.okWide Try.prog W .any base t v := hval0
  have hW' := hW
  obtain ⟨p, q, hA0, hV, rfl, hfz, hnd⟩ := hW
  have hA : DataW.TrodAll enc Try.prog W 0 (fun _ => true) true Try.f4.params.toList args.toList ds p := hA0
  have hsz : (DataW.weightsEach Try.prog (Try.f4.params.toList ++ _) (ds ++ gs)).all (· ≤ reachBytes) = true := hsz0
  rw [Try.params4] at hA hval hsz
  obtain ⟨v0, vs0, d0, ds0, p0, q0, hargs, rfl, rfl, h0, r0⟩ := trodAll_cons hA
  obtain ⟨rfl, rfl, rfl⟩ := trodAll_nil r0
  obtain rfl : args = #[v0] := by cases args; simp_all
  obtain ⟨rfl, rfl⟩ := trodVars_none hV
  have lt0 : ∀ x ∈ p0, x.block < W.heap.size := by obtain ⟨m, hm⟩ := h0; exact DataW.trod_lt m _ _ _ hm
  obtain ⟨a0, w0, y0⟩ := arg_agg Try.underlying37 (hval 0 37 v0 rfl rfl) rd37 h0 (weightsEach_get (i := 0) hsz rfl rfl)
  refine ((ok_skolemlaw04_TruthDqbf (law_TruthDqbf w0)).calls (W := W) (cs := [v0]) (.cons y0 .nil)).mono fun e W' ⟨he, bel⟩ => ?_
  subst he
  exact ⟨_, rfl, _, _, _, [], _, [], hW', trodAll_mk1 (shut_bool (by kernel_rfl) _), (trodAll_cons_mk (Below.trod laidOut (by kernel_rfl) (of_decide_eq_true (by kernel_rfl)) h0 bel lt0) trodAll_mk0), rfl, bel.frame _, fun h => by cases h⟩
theorem over : Rows.truthDqbfRow.holds Try.pinned (OpenSpec.ofChange Rows.truthDqbfSpec) :=
  OpenClaim.holds_of_wide 4 Try.f4 rfl rfl rfl rfl rfl rfl rfl ⟨rfl, rfl, rfl, rfl, rfl⟩ rfl rfl rfl rfl rfl (by kernel_rfl) Try.func4 (by kernel_rfl)
    (of_decide_eq_true (by kernel_rfl)) (by unfold Func.isWrapper; first | (rw [if_pos (by decide +kernel)]; kernel_rfl) | (rw [if_neg (by decide +kernel)]; exact ⟨rfl, rfl⟩))
    (fun os started H enc _ => lifted os started H enc)
end Go.Proofs.Ytppmnjikhealeaa.truthDqbf
namespace Go.Proofs.Ytppmnjikhealeaa
/-- The law holds. -/
theorem truthDqbf_holds : Rows.TruthDqbfSaid := truthDqbf.over
end Go.Proofs.Ytppmnjikhealeaa
