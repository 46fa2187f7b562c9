/- The law `TruthGames` of this seat returns true for every input; each argument reads afterwards as it did before. No conditions. -/
import Derived.Test.YtppmnjikhealeaaRows
import Derived.Test.YtppmnjikhealeaaXTruthGamesP3
import Derived.Test.YtppmnjikhealeaaXTruthGamesL1
import Derived.WalkKit
import Derived.ProofKit
import Derived.OpenShut
import Derived.ShutString
import Derived.ChangeOld
import Derived.Below
import Derived.SizedLaws
import Derived.Carry
set_option linter.unusedVariables false
set_option maxRecDepth 100000
namespace Go.Proofs.Ytppmnjikhealeaa.truthGames
open Go Go.Sk Go.Sk.X Go.RowKit Go.ChangeShapes Go.WideShapes Go.ChangeAt
theorem own : ownKnob Try.prog.godebug = Option.none := by kernel_rfl
theorem laidOut : laidOutB Try.prog = true := by kernel_rfl
theorem rd4 {H : Type} {enc : TypeId × Value → H} {W : World} : Rd enc Try.prog W 4 eB InB := rd_bool Try.underlying4
theorem rd3 {H : Type} {enc : TypeId × Value → H} {W : World} : Rd enc Try.prog W 3 (eI .i64) (InK .i64) := rd_int Try.underlying3
theorem rd34 {H : Type} {enc : TypeId × Value → H} {W : World} : Rd enc Try.prog W 34 (eL 1 (eI .i64)) (InLz (InK .i64)) := rd_sliceS Try.underlying34 (by kernel_rfl) (by kernel_rfl) rd3
theorem rd65 {H : Type} {enc : TypeId × Value → H} {W : World} : Rd enc Try.prog W 65 e_S_api_Block Z_S_api_Block := rd_struct (ql := [(4, 0, 1), (34, 1, 1)]) Try.underlying65 (by kernel_rfl) (by kernel_rfl) (rdf_cons rd4 (rdf_cons rd34 rdf_nil)) (fun x => ⟨x.1, x.2.1⟩) (fun _ => rfl) (fun x h => ⟨h.1, h.2.1⟩)
theorem rd22 {H : Type} {enc : TypeId × Value → H} {W : World} : Rd enc Try.prog W 22 (eL 2 e_S_api_Block) (InLz Z_S_api_Block) := rd_sliceS Try.underlying22 (by kernel_rfl) (by kernel_rfl) rd65
theorem rd23 {H : Type} {enc : TypeId × Value → H} {W : World} : Rd enc Try.prog W 23 (eL 1 (eL 1 (eI .i64))) (InLz (InLz (InK .i64))) := rd_sliceS Try.underlying23 (by kernel_rfl) (by kernel_rfl) rd34
theorem rd25 {H : Type} {enc : TypeId × Value → H} {W : World} : Rd enc Try.prog W 25 e_S_api_Qbf Z_S_api_Qbf := rd_struct (ql := [(22, 0, 1), (23, 1, 1)]) Try.underlying25 (by kernel_rfl) (by kernel_rfl) (rdf_cons rd22 (rdf_cons rd23 rdf_nil)) (fun x => ⟨x.1, x.2.1⟩) (fun _ => rfl) (fun x h => ⟨h.1, h.2.1⟩)
theorem lifted (os : Os) (started : os.Started) (H : Type) (enc : TypeId × Value → H) :
    ReturnsInHanded {} Try.checked os 8 .any (Rows.truthGamesSpec.pre6 enc Try.prog Try.f8 Rows.truthGamesRow.domain false) (Rows.truthGamesSpec.post enc Try.prog Try.f8 false true false false) := by
  refine returnsInHanded_of_change_sized (C := Try.checked) own started (by kernel_rfl) Try.func8
    (ChangeSpec.witness6 (enc := enc) (C := Try.checked) false ⟨#[], #[.agg #[.slice none 0 0, .slice none 0 0]], []⟩ 8 (by kernel_rfl) (by kernel_rfl) (by kernel_rfl) (by kernel_rfl)) ?_
  intro W base args ds gs before hval0 hW hcnd hsz0 _
  have hval : ∀ (j : Nat) t v, Try.f8.params[j]? = some t → args[j]? = some v → Value.okWide Try.prog W .any base t v := hval0
  have hW' := hW
  obtain ⟨p, q, hA0, hV, rfl, hfz, hnd⟩ := hW
  have hA : DataW.TrodAll enc Try.prog W 0 (fun _ => true) true Try.f8.params.toList args.toList ds p := hA0
  have hsz : (DataW.weightsEach Try.prog (Try.f8.params.toList ++ _) (ds ++ gs)).all (· ≤ reachBytes) = true := hsz0
  rw [Try.params8] at hA hval hsz
  obtain ⟨v0, vs0, d0, ds0, p0, q0, hargs, rfl, rfl, h0, r0⟩ := trodAll_cons hA
  obtain ⟨rfl, rfl, rfl⟩ := trodAll_nil r0
  obtain rfl : args = #[v0] := by cases args; simp_all
  obtain ⟨rfl, rfl⟩ := trodVars_none hV
  have lt0 : ∀ x ∈ p0, x.block < W.heap.size := by obtain ⟨m, hm⟩ := h0; exact DataW.trod_lt m _ _ _ hm
  obtain ⟨a0, w0, y0⟩ := arg_agg Try.underlying25 (hval 0 25 v0 rfl rfl) rd25 h0 (weightsEach_get (i := 0) hsz rfl rfl)
  refine ((ok_skolemlaw04_TruthGames (law_TruthGames w0)).calls (W := W) (cs := [v0]) (.cons y0 .nil)).mono fun e W' ⟨he, bel⟩ => ?_
  subst he
  exact ⟨_, rfl, _, _, _, [], _, [], hW', trodAll_mk1 (shut_bool (by kernel_rfl) _), (trodAll_cons_mk (Below.trod laidOut (by kernel_rfl) (of_decide_eq_true (by kernel_rfl)) h0 bel lt0) trodAll_mk0), rfl, bel.frame _, fun h => by cases h⟩
theorem over : Rows.truthGamesRow.holds Try.pinned (OpenSpec.ofChange Rows.truthGamesSpec) :=
  OpenClaim.holds_of_wide 8 Try.f8 rfl rfl rfl rfl rfl rfl rfl ⟨rfl, rfl, rfl, rfl, rfl⟩ rfl rfl rfl rfl rfl (by kernel_rfl) Try.func8 (by kernel_rfl)
    (of_decide_eq_true (by kernel_rfl)) (by unfold Func.isWrapper; first | (rw [if_pos (by decide +kernel)]; kernel_rfl) | (rw [if_neg (by decide +kernel)]; exact ⟨rfl, rfl⟩))
    (fun os started H enc _ => lifted os started H enc)
end Go.Proofs.Ytppmnjikhealeaa.truthGames
namespace Go.Proofs.Ytppmnjikhealeaa
/-- The law holds. -/
theorem truthGames_holds : Rows.TruthGamesSaid := truthGames.over
end Go.Proofs.Ytppmnjikhealeaa
