/- The law `TruthWins` of this seat returns true for every input; each argument reads afterwards as it did before. No conditions. -/
import Derived.Test.YtppmnjikhealeaaGreatRows
import Derived.Test.YtppmnjikhealeaaGreatXTruthWinsP2
import Derived.Test.YtppmnjikhealeaaGreatXTruthWinsL1
import Derived.WalkKit
import Derived.ProofKit
import Derived.OpenShut
import Derived.ShutString
import Derived.ChangeOld
import Derived.Below
import Derived.SizedLaws
import Derived.Carry
set_option linter.unusedVariables false
set_option maxRecDepth 100000
namespace Go.Proofs.YtppmnjikhealeaaGreat.truthWins
open Go Go.Sk Go.Sk.X Go.RowKit Go.ChangeShapes Go.WideShapes Go.ChangeAt
theorem own : ownKnob Tryz.prog.godebug = Option.none := by kernel_rfl
theorem laidOut : laidOutB Tryz.prog = true := by kernel_rfl
theorem rd4 {H : Type} {enc : TypeId × Value → H} {W : World} : Rd enc Tryz.prog W 4 eB InB := rd_bool Tryz.underlying4
theorem rd3 {H : Type} {enc : TypeId × Value → H} {W : World} : Rd enc Tryz.prog W 3 (eI .i64) (InK .i64) := rd_int Tryz.underlying3
theorem rd26 {H : Type} {enc : TypeId × Value → H} {W : World} : Rd enc Tryz.prog W 26 (eL 1 (eI .i64)) (InLz (InK .i64)) := rd_sliceS Tryz.underlying26 (by kernel_rfl) (by kernel_rfl) rd3
theorem rd44 {H : Type} {enc : TypeId × Value → H} {W : World} : Rd enc Tryz.prog W 44 e_S_api_Block Z_S_api_Block := rd_struct (ql := [(4, 0, 1), (26, 1, 1)]) Tryz.underlying44 (by kernel_rfl) (by kernel_rfl) (rdf_cons rd4 (rdf_cons rd26 rdf_nil)) (fun x => ⟨x.1, x.2.1⟩) (fun _ => rfl) (fun x h => ⟨h.1, h.2.1⟩)
theorem rd22 {H : Type} {enc : TypeId × Value → H} {W : World} : Rd enc Tryz.prog W 22 (eL 2 e_S_api_Block) (InLz Z_S_api_Block) := rd_sliceS Tryz.underlying22 (by kernel_rfl) (by kernel_rfl) rd44
theorem rd23 {H : Type} {enc : TypeId × Value → H} {W : World} : Rd enc Tryz.prog W 23 (eL 1 (eL 1 (eI .i64))) (InLz (InLz (InK .i64))) := rd_sliceS Tryz.underlying23 (by kernel_rfl) (by kernel_rfl) rd26
theorem rd25 {H : Type} {enc : TypeId × Value → H} {W : World} : Rd enc Tryz.prog W 25 e_S_api_Qbf Z_S_api_Qbf := rd_struct (ql := [(22, 0, 1), (23, 1, 1)]) Tryz.underlying25 (by kernel_rfl) (by kernel_rfl) (rdf_cons rd22 (rdf_cons rd23 rdf_nil)) (fun x => ⟨x.1, x.2.1⟩) (fun _ => rfl) (fun x h => ⟨h.1, h.2.1⟩)
theorem rd47 {H : Type} {enc : TypeId × Value → H} {W : World} : Rd enc Tryz.prog W 47 e_S_api_Dep Z_S_api_Dep := rd_struct (ql := [(3, 0, 1), (26, 1, 1)]) Tryz.underlying47 (by kernel_rfl) (by kernel_rfl) (rdf_cons rd3 (rdf_cons rd26 rdf_nil)) (fun x => ⟨x.1, x.2.1⟩) (fun _ => rfl) (fun x h => ⟨h.1, h.2.1⟩)
theorem rd27 {H : Type} {enc : TypeId × Value → H} {W : World} : Rd enc Tryz.prog W 27 (eL 2 e_S_api_Dep) (InLz Z_S_api_Dep) := rd_sliceS Tryz.underlying27 (by kernel_rfl) (by kernel_rfl) rd47
theorem rd29 {H : Type} {enc : TypeId × Value → H} {W : World} : Rd enc Tryz.prog W 29 e_S_api_Dqbf Z_S_api_Dqbf := rd_struct (ql := [(26, 0, 1), (27, 1, 1), (23, 2, 1)]) Tryz.underlying29 (by kernel_rfl) (by kernel_rfl) (rdf_cons rd26 (rdf_cons rd27 (rdf_cons rd23 rdf_nil))) (fun x => ⟨x.1, x.2.1, x.2.2.1⟩) (fun _ => rfl) (fun x h => ⟨h.1, h.2.1, h.2.2.1⟩)
theorem rd49 {H : Type} {enc : TypeId × Value → H} {W : World} : Rd enc Tryz.prog W 49 (eL 1 eB) (InLz InB) := rd_sliceS Tryz.underlying49 (by kernel_rfl) (by kernel_rfl) rd4
theorem rd51 {H : Type} {enc : TypeId × Value → H} {W : World} : Rd enc Tryz.prog W 51 e_S_api_Table Z_S_api_Table := rd_struct (ql := [(3, 0, 1), (26, 1, 1), (49, 2, 1)]) Tryz.underlying51 (by kernel_rfl) (by kernel_rfl) (rdf_cons rd3 (rdf_cons rd26 (rdf_cons rd49 rdf_nil))) (fun x => ⟨x.1, x.2.1, x.2.2.1⟩) (fun _ => rfl) (fun x h => ⟨h.1, h.2.1, h.2.2.1⟩)
theorem rd30 {H : Type} {enc : TypeId × Value → H} {W : World} : Rd enc Tryz.prog W 30 (eL 3 e_S_api_Table) (InLz Z_S_api_Table) := rd_sliceS Tryz.underlying30 (by kernel_rfl) (by kernel_rfl) rd51
theorem lifted (os : Os) (started : os.Started) (H : Type) (enc : TypeId × Value → H) :
    ReturnsInHanded {} Tryz.checked os 3 .any (Rows.truthWinsSpec.pre6 enc Tryz.prog Tryz.f3 Rows.truthWinsRow.domain false) (Rows.truthWinsSpec.post enc Tryz.prog Tryz.f3 false true false false) := by
  refine returnsInHanded_of_change_sized (C := Tryz.checked) own started (by kernel_rfl) Tryz.func3
    (ChangeSpec.witness6 (enc := enc) (C := Tryz.checked) false ⟨#[], #[.agg #[.slice none 0 0, .slice none 0 0], .agg #[.slice none 0 0, .slice none 0 0, .slice none 0 0], .slice none 0 0], []⟩ 8 (by kernel_rfl) (by kernel_rfl) (by kernel_rfl) (by kernel_rfl)) ?_
  intro W base args ds gs before hval0 hW hcnd hsz0 _
  have hval : ∀ (j : Nat) t v, Tryz.f3.params[j]? = some t → args[j]? = some v → Value.okWide Tryz.prog W .any base t v := hval0
  have hW' := hW
  obtain ⟨p, q, hA0, hV, rfl, hfz, hnd⟩ := hW
  have hA : DataW.TrodAll enc Tryz.prog W 0 (fun _ => true) true Tryz.f3.params.toList args.toList ds p := hA0
  have hsz : (DataW.weightsEach Tryz.prog (Tryz.f3.params.toList ++ _) (ds ++ gs)).all (· ≤ reachBytes) = true := hsz0
  rw [Tryz.params3] at hA hval hsz
  obtain ⟨v0, vs0, d0, ds0, p0, q0, hargs, rfl, rfl, h0, r0⟩ := trodAll_cons hA
  obtain ⟨v1, vs1, d1, ds1, p1, q1, rfl, rfl, rfl, h1, r1⟩ := trodAll_cons r0
  obtain ⟨v2, vs2, d2, ds2, p2, q2, rfl, rfl, rfl, h2, r2⟩ := trodAll_cons r1
  obtain ⟨rfl, rfl, rfl⟩ := trodAll_nil r2
  obtain rfl : args = #[v0, v1, v2] := by cases args; simp_all
  obtain ⟨rfl, rfl⟩ := trodVars_none hV
  have lt0 : ∀ x ∈ p0, x.block < W.heap.size := by obtain ⟨m, hm⟩ := h0; exact DataW.trod_lt m _ _ _ hm
  obtain ⟨a0, w0, y0⟩ := arg_agg Tryz.underlying25 (hval 0 25 v0 rfl rfl) rd25 h0 (weightsEach_get (i := 0) hsz rfl rfl)
  have lt1 : ∀ x ∈ p1, x.block < W.heap.size := by obtain ⟨m, hm⟩ := h1; exact DataW.trod_lt m _ _ _ hm
  obtain ⟨a1, w1, y1⟩ := arg_agg Tryz.underlying29 (hval 1 29 v1 rfl rfl) rd29 h1 (weightsEach_get (i := 1) hsz rfl rfl)
  have lt2 : ∀ x ∈ p2, x.block < W.heap.size := by obtain ⟨m, hm⟩ := h2; exact DataW.trod_lt m _ _ _ hm
  obtain ⟨a2, w2, y2⟩ := arg_cell (by kernel_rfl) (hval 2 30 v2 rfl rfl) rd30 (fun xs => .sl 3 (xs.map e_S_api_Table)) (fun _ => rfl) h2 (weightsEach_get (i := 2) hsz rfl rfl)
  refine ((ok_skolemlaw04_TruthWins (law_TruthWins w0 w1 w2)).calls (W := W) (cs := [v0, v1, v2]) (.cons y0 (.cons y1 (.cons y2 .nil)))).mono fun e W' ⟨he, bel⟩ => ?_
  subst he
  exact ⟨_, rfl, _, _, _, [], _, [], hW', trodAll_mk1 (shut_bool (by kernel_rfl) _), (trodAll_cons_mk (Below.trod laidOut (by kernel_rfl) (of_decide_eq_true (by kernel_rfl)) h0 bel lt0) (trodAll_cons_mk (Below.trod laidOut (by kernel_rfl) (of_decide_eq_true (by kernel_rfl)) h1 bel lt1) (trodAll_cons_mk (Below.trod laidOut (by kernel_rfl) (of_decide_eq_true (by kernel_rfl)) h2 bel lt2) trodAll_mk0))), rfl, bel.frame _, fun h => by cases h⟩
theorem over : Rows.truthWinsRow.holds Tryz.pinned (OpenSpec.ofChange Rows.truthWinsSpec) :=
  OpenClaim.holds_of_wide 3 Tryz.f3 rfl rfl rfl rfl rfl rfl rfl ⟨rfl, rfl, rfl, rfl, rfl⟩ rfl rfl rfl rfl rfl (by kernel_rfl) Tryz.func3 (by kernel_rfl)
    (of_decide_eq_true (by kernel_rfl)) (by unfold Func.isWrapper; first | (rw [if_pos (by decide +kernel)]; kernel_rfl) | (rw [if_neg (by decide +kernel)]; exact ⟨rfl, rfl⟩))
    (fun os started H enc _ => lifted os started H enc)
end Go.Proofs.YtppmnjikhealeaaGreat.truthWins
namespace Go.Proofs.YtppmnjikhealeaaGreat
/-- The law holds. -/
theorem truthWins_holds : Rows.TruthWinsSaid := truthWins.over
end Go.Proofs.YtppmnjikhealeaaGreat
