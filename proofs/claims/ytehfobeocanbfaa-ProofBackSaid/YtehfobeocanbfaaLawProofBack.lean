/- The law `ProofBack` of this seat returns true for every input; each argument reads afterwards as it did before. No conditions. -/
import Derived.Test.YtehfobeocanbfaaRows
import Derived.Test.YtehfobeocanbfaaXProofBackP1
import Derived.Test.YtehfobeocanbfaaXProofBackL1
import Derived.WalkKit
import Derived.ProofKit
import Derived.OpenShut
import Derived.ShutString
import Derived.ChangeOld
import Derived.Below
import Derived.SizedLaws
import Derived.Carry
set_option linter.unusedVariables false
set_option maxRecDepth 100000
namespace Go.Proofs.Ytehfobeocanbfaa.proofBack
open Go Go.Sk Go.Sk.X Go.RowKit Go.ChangeShapes Go.WideShapes Go.ChangeAt
theorem own : ownKnob Try.prog.godebug = Option.none := by kernel_rfl
theorem laidOut : laidOutB Try.prog = true := by kernel_rfl
theorem rd4 {H : Type} {enc : TypeId × Value → H} {W : World} : Rd enc Try.prog W 4 eB InB := rd_bool Try.underlying4
theorem rd56 {H : Type} {enc : TypeId × Value → H} {W : World} : Rd enc Try.prog W 56 (eI .u8) (InK .u8) := rd_int Try.underlying56
theorem rd3 {H : Type} {enc : TypeId × Value → H} {W : World} : Rd enc Try.prog W 3 (eI .i64) (InK .i64) := rd_int Try.underlying3
theorem rd28 {H : Type} {enc : TypeId × Value → H} {W : World} : Rd enc Try.prog W 28 (eL 1 (eI .i64)) (InLz (InK .i64)) := rd_sliceS Try.underlying28 (by kernel_rfl) (by kernel_rfl) rd3
theorem rd58 {H : Type} {enc : TypeId × Value → H} {W : World} : Rd enc Try.prog W 58 e_S_api_Line Z_S_api_Line := rd_struct (ql := [(56, 0, 1), (3, 1, 1), (3, 2, 1), (3, 3, 1), (28, 4, 1)]) Try.underlying58 (by kernel_rfl) (by kernel_rfl) (rdf_cons rd56 (rdf_cons rd3 (rdf_cons rd3 (rdf_cons rd3 (rdf_cons rd28 rdf_nil))))) (fun x => ⟨x.1, x.2.1, x.2.2.1, x.2.2.2.1, x.2.2.2.2.1⟩) (fun _ => rfl) (fun x h => ⟨h.1, h.2.1, h.2.2.1, h.2.2.2.1, h.2.2.2.2.1⟩)
theorem rd23 {H : Type} {enc : TypeId × Value → H} {W : World} : Rd enc Try.prog W 23 (eL 5 e_S_api_Line) (InLz Z_S_api_Line) := rd_sliceS Try.underlying23 (by kernel_rfl) (by kernel_rfl) rd58
theorem rd25 {H : Type} {enc : TypeId × Value → H} {W : World} : Rd enc Try.prog W 25 e_S_api_Proof Z_S_api_Proof := rd_struct (ql := [(4, 0, 1), (23, 1, 1)]) Try.underlying25 (by kernel_rfl) (by kernel_rfl) (rdf_cons rd4 (rdf_cons rd23 rdf_nil)) (fun x => ⟨x.1, x.2.1⟩) (fun _ => rfl) (fun x h => ⟨h.1, h.2.1⟩)
theorem rd5 {H : Type} {enc : TypeId × Value → H} {W : World} : Rd enc Try.prog W 5 (eI .u8) (InK .u8) := rd_int Try.underlying5
theorem rd67 {H : Type} {enc : TypeId × Value → H} {W : World} : Rd enc Try.prog W 67 (eL 1 (eI .u8)) (InLz (InK .u8)) := rd_sliceS Try.underlying67 (by kernel_rfl) (by kernel_rfl) rd5
theorem lifted (os : Os) (started : os.Started) (H : Type) (enc : TypeId × Value → H) :
    ReturnsInHanded {} Try.checked os 11 .any (Rows.proofBackSpec.pre6 enc Try.prog Try.f11 Rows.proofBackRow.domain false) (Rows.proofBackSpec.post enc Try.prog Try.f11 false true false false) := by
  refine returnsInHanded_of_change_sized (C := Try.checked) own started (by kernel_rfl) Try.func11
    (ChangeSpec.witness6 (enc := enc) (C := Try.checked) false ⟨#[], #[.agg #[.bool false, .slice none 0 0], .slice none 0 0], []⟩ 8 (by kernel_rfl) (by kernel_rfl) (by kernel_rfl) (by kernel_rfl)) ?_
  intro W base args ds gs before hval0 hW hcnd hsz0 _
  have hval : ∀ (j : Nat) t v, Try.f11.params[j]? = some t → args[j]? = some v → Value.okWide Try.prog W .any base t v := hval0
  have hW' := hW
  obtain ⟨p, q, hA0, hV, rfl, hfz, hnd⟩ := hW
  have hA : DataW.TrodAll enc Try.prog W 0 (fun _ => true) true Try.f11.params.toList args.toList ds p := hA0
  have hsz : (DataW.weightsEach Try.prog (Try.f11.params.toList ++ _) (ds ++ gs)).all (· ≤ reachBytes) = true := hsz0
  rw [Try.params11] at hA hval hsz
  obtain ⟨v0, vs0, d0, ds0, p0, q0, hargs, rfl, rfl, h0, r0⟩ := trodAll_cons hA
  obtain ⟨v1, vs1, d1, ds1, p1, q1, rfl, rfl, rfl, h1, r1⟩ := trodAll_cons r0
  obtain ⟨rfl, rfl, rfl⟩ := trodAll_nil r1
  obtain rfl : args = #[v0, v1] := by cases args; simp_all
  obtain ⟨rfl, rfl⟩ := trodVars_none hV
  have lt0 : ∀ x ∈ p0, x.block < W.heap.size := by obtain ⟨m, hm⟩ := h0; exact DataW.trod_lt m _ _ _ hm
  obtain ⟨a0, w0, y0⟩ := arg_agg Try.underlying25 (hval 0 25 v0 rfl rfl) rd25 h0 (weightsEach_get (i := 0) hsz rfl rfl)
  have lt1 : ∀ x ∈ p1, x.block < W.heap.size := by obtain ⟨m, hm⟩ := h1; exact DataW.trod_lt m _ _ _ hm
  obtain ⟨a1, w1, y1⟩ := arg_cell (by kernel_rfl) (hval 1 67 v1 rfl rfl) rd67 (fun xs => .sl 1 (xs.map (eI .u8))) (fun _ => rfl) h1 (weightsEach_get (i := 1) hsz rfl rfl)
  refine ((ok_skolemlaw10_ProofBack (law_ProofBack w0 w1)).calls (W := W) (cs := [v0, v1]) (.cons y0 (.cons y1 .nil))).mono fun e W' ⟨he, bel⟩ => ?_
  subst he
  exact ⟨_, rfl, _, _, _, [], _, [], hW', trodAll_mk1 (shut_bool (by kernel_rfl) _), (trodAll_cons_mk (Below.trod laidOut (by kernel_rfl) (of_decide_eq_true (by kernel_rfl)) h0 bel lt0) (trodAll_cons_mk (Below.trod laidOut (by kernel_rfl) (of_decide_eq_true (by kernel_rfl)) h1 bel lt1) trodAll_mk0)), rfl, bel.frame _, fun h => by cases h⟩
theorem over : Rows.proofBackRow.holds Try.pinned (OpenSpec.ofChange Rows.proofBackSpec) :=
  OpenClaim.holds_of_wide 11 Try.f11 rfl rfl rfl rfl rfl rfl rfl ⟨rfl, rfl, rfl, rfl, rfl⟩ rfl rfl rfl rfl rfl (by kernel_rfl) Try.func11 (by kernel_rfl)
    (of_decide_eq_true (by kernel_rfl)) (by unfold Func.isWrapper; first | (rw [if_pos (by decide +kernel)]; kernel_rfl) | (rw [if_neg (by decide +kernel)]; exact ⟨rfl, rfl⟩))
    (fun os started H enc _ => lifted os started H enc)
end Go.Proofs.Ytehfobeocanbfaa.proofBack
namespace Go.Proofs.Ytehfobeocanbfaa
/-- The law holds. -/
theorem proofBack_holds : Rows.ProofBackSaid := proofBack.over
end Go.Proofs.Ytehfobeocanbfaa
