/- The program computes these plain functions (law TruthQbf, part 2). It has no conditions. -/
import Derived.Test.YtppmnjikhealeaaXTruthQbfP1
set_option linter.unusedVariables false
set_option linter.unusedSimpArgs false
set_option maxRecDepth 100000
set_option maxHeartbeats 4000000
namespace Go.Sk.X
open Go Go.Sk Go.Proofs
theorem ok_skolemlaw04_head  {r : Bool} (h : F_skolemlaw04_head = some r) : Fn Try.prog 10 [] (dB r) := by
  unfold F_skolemlaw04_head at h
  refine Fn.of_body (N := 114) (rs := [.tmp 0]) Try.func10 (c := _) rfl rfl rfl (by kernel_rfl) (Nat.le_of_ble_eq_true rfl) (fun _B => ?_)
  refine awp_rs ?_
  refine ro rfl rfl (st_as rfl) ?_
  refine rw_nilk ?_
  refine awp_rs ?_
  refine ri (N := 29) (rs := [.cell 2 25]) rfl rfl rfl rfl Try.func28 rfl rfl rfl (by kernel_rfl) rfl (fun _B => ?_)
  refine awp_rs ?_
  refine rn (r := 1001) rfl rfl (st_alloc zc25 rfl rfl) rfl ?_
  refine rw_nilk ?_
  refine awp_rs ?_
  refine rn (r := 1002) rfl rfl (st_bsl (els := [[dI .i64 (1 : Int)]]) sl34 zc3 rfl rfl rfl rfl rfl) rfl ?_
  refine ro rfl rfl (st_build (vs := [dB false, .slice 1002 1 0 1]) bl65 rfl rfl) ?_
  refine rn (r := 1003) rfl rfl (st_bsl (els := [[dI .i64 (2 : Int)]]) sl34 zc3 rfl rfl rfl rfl rfl) rfl ?_
  refine ro rfl rfl (st_build (vs := [dB true, .slice 1003 1 0 1]) bl65 rfl rfl) ?_
  refine rn (r := 1004) rfl rfl (st_bsl (els := [[dB false, .slice 1002 1 0 1], [dB true, .slice 1003 1 0 1]]) sl22 zc65 rfl rfl rfl rfl rfl) rfl ?_
  refine rn (r := 1005) rfl rfl (st_bsl (els := [[dI .i64 (1 : Int)], [dI .i64 (2 : Int)]]) sl34 zc3 rfl rfl rfl rfl rfl) rfl ?_
  refine rn (r := 1006) rfl rfl (st_bsl (els := [[dI .i64 (-1 : Int)], [dI .i64 (-2 : Int)]]) sl34 zc3 rfl rfl rfl rfl rfl) rfl ?_
  refine rn (r := 1007) rfl rfl (st_bsl (els := [[.slice 1005 1 0 2], [.slice 1006 1 0 2]]) sl23 zc34 rfl rfl rfl rfl rfl) rfl ?_
  refine ro rfl rfl (st_build (vs := [.slice 1004 1 0 2, .slice 1007 1 0 2]) bl25 rfl rfl) ?_
  refine rn (r := 1008) rfl rfl (st_alloc zc25 rfl rfl) rfl ?_
  refine rx (L' := [(1001, .row 0 25 [[.nilS, .nilS]]), (1002, .row 1 3 [[dI .i64 (1 : Int)]]), (1003, .row 1 3 [[dI .i64 (2 : Int)]]), (1004, .row 1 65 [[dB false, .slice 1002 1 0 1], [dB true, .slice 1003 1 0 1]]), (1005, .row 1 3 [[dI .i64 (1 : Int)], [dI .i64 (2 : Int)]]), (1006, .row 1 3 [[dI .i64 (-1 : Int)], [dI .i64 (-2 : Int)]]), (1007, .row 1 34 [[.slice 1005 1 0 2], [.slice 1006 1 0 2]]), (1008, .row 0 25 [[.slice 1004 1 0 2, .slice 1007 1 0 2]])]) rfl rfl (st_stP ta25 rfl rfl rfl rfl rfl rfl rfl rfl) rfl ?_
  refine rw_nilk ?_
  refine awp_seq ?_
  refine awp_rs ?_
  refine ro rfl rfl (st_mv rfl) ?_
  refine rw_nilk ?_
  refine awp_condF rfl ?_
  refine awp_skip ?_
  refine nx_then ?_
  refine awp_rs ?_
  refine ro rfl rfl (st_ldP (v := .agg [.slice 1004 1 0 2, .slice 1007 1 0 2]) ta25 rfl rfl rfl rfl) ?_
  refine rx (L' := [(1001, .row 0 25 [[.slice 1004 1 0 2, .slice 1007 1 0 2]]), (1002, .row 1 3 [[dI .i64 (1 : Int)]]), (1003, .row 1 3 [[dI .i64 (2 : Int)]]), (1004, .row 1 65 [[dB false, .slice 1002 1 0 1], [dB true, .slice 1003 1 0 1]]), (1005, .row 1 3 [[dI .i64 (1 : Int)], [dI .i64 (2 : Int)]]), (1006, .row 1 3 [[dI .i64 (-1 : Int)], [dI .i64 (-2 : Int)]]), (1007, .row 1 34 [[.slice 1005 1 0 2], [.slice 1006 1 0 2]]), (1008, .row 0 25 [[.slice 1004 1 0 2, .slice 1007 1 0 2]])]) rfl rfl (st_stP ta25 rfl rfl rfl rfl rfl rfl rfl rfl) rfl ?_
  refine rw_nilk ?_
  refine awp_ret ?_
  refine ret_in (v := .agg [.slice 1004 1 0 2, .slice 1007 1 0 2]) (resV_one (resVs_cell (v := .agg [.slice 1004 1 0 2, .slice 1007 1 0 2]) ta25 rfl rfl rfl rfl resVs_nil)) ?_
  show RW _ _ _ _ _ _ _
  refine RW.gh (gh_frz (E' := [(17, .agg [.slice 1004 1 0 2, .slice 1007 1 0 2])]) (L' := [(1001, .row 0 25 [[.slice 1004 1 0 2, .slice 1007 1 0 2]]), (1003, .row 1 3 [[dI .i64 (2 : Int)]]), (1004, .row 1 65 [[dB false, dL 1 (eI .i64) [(1 : Int)]], [dB true, .slice 1003 1 0 1]]), (1005, .row 1 3 [[dI .i64 (1 : Int)], [dI .i64 (2 : Int)]]), (1006, .row 1 3 [[dI .i64 (-1 : Int)], [dI .i64 (-2 : Int)]]), (1007, .row 1 34 [[.slice 1005 1 0 2], [.slice 1006 1 0 2]]), (1008, .row 0 25 [[.slice 1004 1 0 2, .slice 1007 1 0 2]])]) rfl rfl ⟨⟨_, rfl, .keep rfl⟩, trivial⟩ ⟨⟨_, rfl, objOne ⟨⟨rfl, .keep rfl⟩, ⟨rfl, .keep rfl⟩, trivial⟩⟩, ⟨_, rfl, objOne ⟨⟨rfl, .keep rfl⟩, trivial⟩⟩, ⟨_, rfl, objEls ⟨⟨⟨rfl, .keep rfl⟩, ⟨rfl, frzT (f := (eI .i64)) (xs := [(1 : Int)]) rfl rfl co3 rfl⟩, trivial⟩, ⟨⟨rfl, .keep rfl⟩, ⟨rfl, .keep rfl⟩, trivial⟩, trivial⟩⟩, ⟨_, rfl, objKeep rfl⟩, ⟨_, rfl, objKeep rfl⟩, ⟨_, rfl, objKeep rfl⟩, ⟨_, rfl, objOne ⟨⟨rfl, .keep rfl⟩, ⟨rfl, .keep rfl⟩, trivial⟩⟩, trivial⟩) ?_
  refine RW.gh (gh_frz (E' := [(17, .agg [.slice 1004 1 0 2, .slice 1007 1 0 2])]) (L' := [(1001, .row 0 25 [[.slice 1004 1 0 2, .slice 1007 1 0 2]]), (1004, .row 1 65 [[dB false, dL 1 (eI .i64) [(1 : Int)]], [dB true, dL 1 (eI .i64) [(2 : Int)]]]), (1005, .row 1 3 [[dI .i64 (1 : Int)], [dI .i64 (2 : Int)]]), (1006, .row 1 3 [[dI .i64 (-1 : Int)], [dI .i64 (-2 : Int)]]), (1007, .row 1 34 [[.slice 1005 1 0 2], [.slice 1006 1 0 2]]), (1008, .row 0 25 [[.slice 1004 1 0 2, .slice 1007 1 0 2]])]) rfl rfl ⟨⟨_, rfl, .keep rfl⟩, trivial⟩ ⟨⟨_, rfl, objOne ⟨⟨rfl, .keep rfl⟩, ⟨rfl, .keep rfl⟩, trivial⟩⟩, ⟨_, rfl, objEls ⟨⟨⟨rfl, .keep rfl⟩, ⟨rfl, .keep rfl⟩, trivial⟩, ⟨⟨rfl, .keep rfl⟩, ⟨rfl, frzT (f := (eI .i64)) (xs := [(2 : Int)]) rfl rfl co3 rfl⟩, trivial⟩, trivial⟩⟩, ⟨_, rfl, objKeep rfl⟩, ⟨_, rfl, objKeep rfl⟩, ⟨_, rfl, objKeep rfl⟩, ⟨_, rfl, objOne ⟨⟨rfl, .keep rfl⟩, ⟨rfl, .keep rfl⟩, trivial⟩⟩, trivial⟩) ?_
  refine RW.gh (gh_frz (E' := [(17, .agg [dL 2 e_S_api_Block ([(S_api_Block.mk false [(1 : Int)]), (S_api_Block.mk true [(2 : Int)])]), .slice 1007 1 0 2])]) (L' := [(1001, .row 0 25 [[dL 2 e_S_api_Block ([(S_api_Block.mk false [(1 : Int)]), (S_api_Block.mk true [(2 : Int)])]), .slice 1007 1 0 2]]), (1005, .row 1 3 [[dI .i64 (1 : Int)], [dI .i64 (2 : Int)]]), (1006, .row 1 3 [[dI .i64 (-1 : Int)], [dI .i64 (-2 : Int)]]), (1007, .row 1 34 [[.slice 1005 1 0 2], [.slice 1006 1 0 2]]), (1008, .row 0 25 [[dL 2 e_S_api_Block ([(S_api_Block.mk false [(1 : Int)]), (S_api_Block.mk true [(2 : Int)])]), .slice 1007 1 0 2]])]) rfl rfl ⟨⟨_, rfl, frz_agg ⟨(frzT (f := e_S_api_Block) (xs := [(S_api_Block.mk false [(1 : Int)]), (S_api_Block.mk true [(2 : Int)])]) rfl rfl co65 rfl), (.keep rfl), trivial⟩⟩, trivial⟩ ⟨⟨_, rfl, objOne ⟨⟨rfl, frzT (f := e_S_api_Block) (xs := [(S_api_Block.mk false [(1 : Int)]), (S_api_Block.mk true [(2 : Int)])]) rfl rfl co65 rfl⟩, ⟨rfl, .keep rfl⟩, trivial⟩⟩, ⟨_, rfl, objKeep rfl⟩, ⟨_, rfl, objKeep rfl⟩, ⟨_, rfl, objKeep rfl⟩, ⟨_, rfl, objOne ⟨⟨rfl, frzT (f := e_S_api_Block) (xs := [(S_api_Block.mk false [(1 : Int)]), (S_api_Block.mk true [(2 : Int)])]) rfl rfl co65 rfl⟩, ⟨rfl, .keep rfl⟩, trivial⟩⟩, trivial⟩) ?_
  refine RW.gh (gh_frz (E' := [(17, .agg [dL 2 e_S_api_Block ([(S_api_Block.mk false [(1 : Int)]), (S_api_Block.mk true [(2 : Int)])]), .slice 1007 1 0 2])]) (L' := [(1001, .row 0 25 [[dL 2 e_S_api_Block ([(S_api_Block.mk false [(1 : Int)]), (S_api_Block.mk true [(2 : Int)])]), .slice 1007 1 0 2]]), (1006, .row 1 3 [[dI .i64 (-1 : Int)], [dI .i64 (-2 : Int)]]), (1007, .row 1 34 [[dL 1 (eI .i64) [(1 : Int), (2 : Int)]], [.slice 1006 1 0 2]]), (1008, .row 0 25 [[dL 2 e_S_api_Block ([(S_api_Block.mk false [(1 : Int)]), (S_api_Block.mk true [(2 : Int)])]), .slice 1007 1 0 2]])]) rfl rfl ⟨⟨_, rfl, .keep rfl⟩, trivial⟩ ⟨⟨_, rfl, objOne ⟨⟨rfl, .keep rfl⟩, ⟨rfl, .keep rfl⟩, trivial⟩⟩, ⟨_, rfl, objKeep rfl⟩, ⟨_, rfl, objEls ⟨⟨⟨rfl, frzT (f := (eI .i64)) (xs := [(1 : Int), (2 : Int)]) rfl rfl co3 rfl⟩, trivial⟩, ⟨⟨rfl, .keep rfl⟩, trivial⟩, trivial⟩⟩, ⟨_, rfl, objOne ⟨⟨rfl, .keep rfl⟩, ⟨rfl, .keep rfl⟩, trivial⟩⟩, trivial⟩) ?_
  refine RW.gh (gh_frz (E' := [(17, .agg [dL 2 e_S_api_Block ([(S_api_Block.mk false [(1 : Int)]), (S_api_Block.mk true [(2 : Int)])]), .slice 1007 1 0 2])]) (L' := [(1001, .row 0 25 [[dL 2 e_S_api_Block ([(S_api_Block.mk false [(1 : Int)]), (S_api_Block.mk true [(2 : Int)])]), .slice 1007 1 0 2]]), (1007, .row 1 34 [[dL 1 (eI .i64) [(1 : Int), (2 : Int)]], [dL 1 (eI .i64) [(-1 : Int), (-2 : Int)]]]), (1008, .row 0 25 [[dL 2 e_S_api_Block ([(S_api_Block.mk false [(1 : Int)]), (S_api_Block.mk true [(2 : Int)])]), .slice 1007 1 0 2]])]) rfl rfl ⟨⟨_, rfl, .keep rfl⟩, trivial⟩ ⟨⟨_, rfl, objOne ⟨⟨rfl, .keep rfl⟩, ⟨rfl, .keep rfl⟩, trivial⟩⟩, ⟨_, rfl, objEls ⟨⟨⟨rfl, .keep rfl⟩, trivial⟩, ⟨⟨rfl, frzT (f := (eI .i64)) (xs := [(-1 : Int), (-2 : Int)]) rfl rfl co3 rfl⟩, trivial⟩, trivial⟩⟩, ⟨_, rfl, objOne ⟨⟨rfl, .keep rfl⟩, ⟨rfl, .keep rfl⟩, trivial⟩⟩, trivial⟩) ?_
  obtain ⟨y101, hy101, h⟩ := bind_some_elim h
  refine rl rfl rfl (ok_truth_Qbf hy101) rfl ⟨frz_agg ⟨(.keep rfl), (frzT (f := (eL 1 (eI .i64))) (xs := [[(1 : Int), (2 : Int)], [(-1 : Int), (-2 : Int)]]) rfl rfl co34 rfl), trivial⟩, trivial⟩ rfl ?_
  refine ro rfl rfl (st_mv rfl) ?_
  refine ro rfl rfl (st_ext rfl rfl) ?_
  refine ro rfl rfl (st_ext rfl rfl) ?_
  refine ro rfl rfl (st_as rfl) ?_
  refine ro rfl rfl (st_as rfl) ?_
  refine rw_nilk ?_
  refine awp_rs ?_
  refine ri (N := 29) (rs := [.cell 2 25]) rfl rfl rfl rfl Try.func28 rfl rfl rfl (by kernel_rfl) rfl (fun _B => ?_)
  refine awp_rs ?_
  refine rn (r := 1009) rfl rfl (st_alloc zc25 rfl rfl) rfl ?_
  refine rw_nilk ?_
  refine awp_rs ?_
  refine rn (r := 1010) rfl rfl (st_bsl (els := [[dI .i64 (1 : Int)]]) sl34 zc3 rfl rfl rfl rfl rfl) rfl ?_
  refine ro rfl rfl (st_build (vs := [dB false, .slice 1010 1 0 1]) bl65 rfl rfl) ?_
  refine rn (r := 1011) rfl rfl (st_bsl (els := [[dI .i64 (2 : Int)]]) sl34 zc3 rfl rfl rfl rfl rfl) rfl ?_
  refine ro rfl rfl (st_build (vs := [dB true, .slice 1011 1 0 1]) bl65 rfl rfl) ?_
  refine rn (r := 1012) rfl rfl (st_bsl (els := [[dB false, .slice 1010 1 0 1], [dB true, .slice 1011 1 0 1]]) sl22 zc65 rfl rfl rfl rfl rfl) rfl ?_
  refine rn (r := 1013) rfl rfl (st_bsl (els := [[dI .i64 (1 : Int)], [dI .i64 (2 : Int)]]) sl34 zc3 rfl rfl rfl rfl rfl) rfl ?_
  refine rn (r := 1014) rfl rfl (st_bsl (els := [[dI .i64 (-1 : Int)], [dI .i64 (-2 : Int)]]) sl34 zc3 rfl rfl rfl rfl rfl) rfl ?_
  refine rn (r := 1015) rfl rfl (st_bsl (els := [[.slice 1013 1 0 2], [.slice 1014 1 0 2]]) sl23 zc34 rfl rfl rfl rfl rfl) rfl ?_
  refine ro rfl rfl (st_build (vs := [.slice 1012 1 0 2, .slice 1015 1 0 2]) bl25 rfl rfl) ?_
  refine rn (r := 1016) rfl rfl (st_alloc zc25 rfl rfl) rfl ?_
  refine rx (L' := [(1001, .row 0 25 [[dL 2 e_S_api_Block ([(S_api_Block.mk false [(1 : Int)]), (S_api_Block.mk true [(2 : Int)])]), .slice 1007 1 0 2]]), (1007, .row 1 34 [[dL 1 (eI .i64) [(1 : Int), (2 : Int)]], [dL 1 (eI .i64) [(-1 : Int), (-2 : Int)]]]), (1008, .row 0 25 [[dL 2 e_S_api_Block ([(S_api_Block.mk false [(1 : Int)]), (S_api_Block.mk true [(2 : Int)])]), .slice 1007 1 0 2]]), (1009, .row 0 25 [[.nilS, .nilS]]), (1010, .row 1 3 [[dI .i64 (1 : Int)]]), (1011, .row 1 3 [[dI .i64 (2 : Int)]]), (1012, .row 1 65 [[dB false, .slice 1010 1 0 1], [dB true, .slice 1011 1 0 1]]), (1013, .row 1 3 [[dI .i64 (1 : Int)], [dI .i64 (2 : Int)]]), (1014, .row 1 3 [[dI .i64 (-1 : Int)], [dI .i64 (-2 : Int)]]), (1015, .row 1 34 [[.slice 1013 1 0 2], [.slice 1014 1 0 2]]), (1016, .row 0 25 [[.slice 1012 1 0 2, .slice 1015 1 0 2]])]) rfl rfl (st_stP ta25 rfl rfl rfl rfl rfl rfl rfl rfl) rfl ?_
  refine rw_nilk ?_
  refine awp_seq ?_
  refine awp_rs ?_
  refine ro rfl rfl (st_mv rfl) ?_
  refine rw_nilk ?_
  refine awp_condT rfl ?_
  refine awp_rd hmix ?_
  refine do_ rfl rfl (st_faP fo25_0 rfl) rfl rfl rfl ?_
  refine do_ rfl rfl (st_ldP (v := .slice 1012 1 0 2) ta22 rfl rfl rfl rfl) rfl rfl rfl ?_
  refine do_ rfl rfl (st_faP fo25_0 rfl) rfl rfl rfl ?_
  refine do_ rfl rfl (st_ldP (v := .slice 1012 1 0 2) ta22 rfl rfl rfl rfl) rfl rfl rfl ?_
  refine do_ rfl rfl (st_faP fo25_0 rfl) rfl rfl rfl ?_
  refine do_ rfl rfl (st_ldP (v := .slice 1012 1 0 2) ta22 rfl rfl rfl rfl) rfl rfl rfl ?_
  refine do_ rfl rfl (st_ixRc (j := 1) sl22 rfl rfl rfl rfl) rfl rfl rfl ?_
  refine do_ rfl rfl (st_ldP (v := .agg [dB true, .slice 1011 1 0 1]) ta65 rfl rfl rfl rfl) rfl rfl rfl ?_
  refine do_ rfl rfl (st_faP fo25_0 rfl) rfl rfl rfl ?_
  refine do_ rfl rfl (st_ldP (v := .slice 1012 1 0 2) ta22 rfl rfl rfl rfl) rfl rfl rfl ?_
  refine do_ rfl rfl (st_ixRc (j := 0) sl22 rfl rfl rfl rfl) rfl rfl rfl ?_
  refine do_ rfl rfl (st_ldP (v := .agg [dB false, .slice 1010 1 0 1]) ta65 rfl rfl rfl rfl) rfl rfl rfl ?_
  refine do_ rfl rfl (st_ixRc (j := 0) sl22 rfl rfl rfl rfl) rfl rfl rfl ?_
  refine dx (L' := [(1001, .row 0 25 [[dL 2 e_S_api_Block ([(S_api_Block.mk false [(1 : Int)]), (S_api_Block.mk true [(2 : Int)])]), .slice 1007 1 0 2]]), (1007, .row 1 34 [[dL 1 (eI .i64) [(1 : Int), (2 : Int)]], [dL 1 (eI .i64) [(-1 : Int), (-2 : Int)]]]), (1008, .row 0 25 [[dL 2 e_S_api_Block ([(S_api_Block.mk false [(1 : Int)]), (S_api_Block.mk true [(2 : Int)])]), .slice 1007 1 0 2]]), (1009, .row 0 25 [[.nilS, .nilS]]), (1010, .row 1 3 [[dI .i64 (1 : Int)]]), (1011, .row 1 3 [[dI .i64 (2 : Int)]]), (1012, .row 1 65 [[dB true, .slice 1011 1 0 1], [dB true, .slice 1011 1 0 1]]), (1013, .row 1 3 [[dI .i64 (1 : Int)], [dI .i64 (2 : Int)]]), (1014, .row 1 3 [[dI .i64 (-1 : Int)], [dI .i64 (-2 : Int)]]), (1015, .row 1 34 [[.slice 1013 1 0 2], [.slice 1014 1 0 2]]), (1016, .row 0 25 [[.slice 1012 1 0 2, .slice 1015 1 0 2]])]) rfl rfl (st_stP ta65 rfl rfl rfl rfl rfl rfl rfl rfl) rfl rfl rfl rfl ?_
  refine do_ rfl rfl (st_ixRc (j := 1) sl22 rfl rfl rfl rfl) rfl rfl rfl ?_
  refine dx (L' := [(1001, .row 0 25 [[dL 2 e_S_api_Block ([(S_api_Block.mk false [(1 : Int)]), (S_api_Block.mk true [(2 : Int)])]), .slice 1007 1 0 2]]), (1007, .row 1 34 [[dL 1 (eI .i64) [(1 : Int), (2 : Int)]], [dL 1 (eI .i64) [(-1 : Int), (-2 : Int)]]]), (1008, .row 0 25 [[dL 2 e_S_api_Block ([(S_api_Block.mk false [(1 : Int)]), (S_api_Block.mk true [(2 : Int)])]), .slice 1007 1 0 2]]), (1009, .row 0 25 [[.nilS, .nilS]]), (1010, .row 1 3 [[dI .i64 (1 : Int)]]), (1011, .row 1 3 [[dI .i64 (2 : Int)]]), (1012, .row 1 65 [[dB true, .slice 1011 1 0 1], [dB false, .slice 1010 1 0 1]]), (1013, .row 1 3 [[dI .i64 (1 : Int)], [dI .i64 (2 : Int)]]), (1014, .row 1 3 [[dI .i64 (-1 : Int)], [dI .i64 (-2 : Int)]]), (1015, .row 1 34 [[.slice 1013 1 0 2], [.slice 1014 1 0 2]]), (1016, .row 0 25 [[.slice 1012 1 0 2, .slice 1015 1 0 2]])]) rfl rfl (st_stP ta65 rfl rfl rfl rfl rfl rfl rfl rfl) rfl rfl rfl rfl ?_
  refine rd_nil (by kernel_rfl) ?_
  refine nx_then ?_
  refine awp_rs ?_
  refine ro rfl rfl (st_ldP (v := .agg [.slice 1012 1 0 2, .slice 1015 1 0 2]) ta25 rfl rfl rfl rfl) ?_
  refine rx (L' := [(1001, .row 0 25 [[dL 2 e_S_api_Block ([(S_api_Block.mk false [(1 : Int)]), (S_api_Block.mk true [(2 : Int)])]), .slice 1007 1 0 2]]), (1007, .row 1 34 [[dL 1 (eI .i64) [(1 : Int), (2 : Int)]], [dL 1 (eI .i64) [(-1 : Int), (-2 : Int)]]]), (1008, .row 0 25 [[dL 2 e_S_api_Block ([(S_api_Block.mk false [(1 : Int)]), (S_api_Block.mk true [(2 : Int)])]), .slice 1007 1 0 2]]), (1009, .row 0 25 [[.slice 1012 1 0 2, .slice 1015 1 0 2]]), (1010, .row 1 3 [[dI .i64 (1 : Int)]]), (1011, .row 1 3 [[dI .i64 (2 : Int)]]), (1012, .row 1 65 [[dB true, .slice 1011 1 0 1], [dB false, .slice 1010 1 0 1]]), (1013, .row 1 3 [[dI .i64 (1 : Int)], [dI .i64 (2 : Int)]]), (1014, .row 1 3 [[dI .i64 (-1 : Int)], [dI .i64 (-2 : Int)]]), (1015, .row 1 34 [[.slice 1013 1 0 2], [.slice 1014 1 0 2]]), (1016, .row 0 25 [[.slice 1012 1 0 2, .slice 1015 1 0 2]])]) rfl rfl (st_stP ta25 rfl rfl rfl rfl rfl rfl rfl rfl) rfl ?_
  refine rw_nilk ?_
  refine awp_ret ?_
  refine ret_in (v := .agg [.slice 1012 1 0 2, .slice 1015 1 0 2]) (resV_one (resVs_cell (v := .agg [.slice 1012 1 0 2, .slice 1015 1 0 2]) ta25 rfl rfl rfl rfl resVs_nil)) ?_
  show RW _ _ _ _ _ _ _
  refine RW.gh (gh_frz (E' := [(1, dI .u8 y101.1), (2, dI .i64 y101.2), (22, .agg [.slice 1012 1 0 2, .slice 1015 1 0 2])]) (L' := [(1001, .row 0 25 [[dL 2 e_S_api_Block ([(S_api_Block.mk false [(1 : Int)]), (S_api_Block.mk true [(2 : Int)])]), .slice 1007 1 0 2]]), (1007, .row 1 34 [[dL 1 (eI .i64) [(1 : Int), (2 : Int)]], [dL 1 (eI .i64) [(-1 : Int), (-2 : Int)]]]), (1008, .row 0 25 [[dL 2 e_S_api_Block ([(S_api_Block.mk false [(1 : Int)]), (S_api_Block.mk true [(2 : Int)])]), .slice 1007 1 0 2]]), (1009, .row 0 25 [[.slice 1012 1 0 2, .slice 1015 1 0 2]]), (1010, .row 1 3 [[dI .i64 (1 : Int)]]), (1012, .row 1 65 [[dB true, dL 1 (eI .i64) [(2 : Int)]], [dB false, .slice 1010 1 0 1]]), (1013, .row 1 3 [[dI .i64 (1 : Int)], [dI .i64 (2 : Int)]]), (1014, .row 1 3 [[dI .i64 (-1 : Int)], [dI .i64 (-2 : Int)]]), (1015, .row 1 34 [[.slice 1013 1 0 2], [.slice 1014 1 0 2]]), (1016, .row 0 25 [[.slice 1012 1 0 2, .slice 1015 1 0 2]])]) rfl rfl ⟨⟨_, rfl, .keep rfl⟩, ⟨_, rfl, .keep rfl⟩, ⟨_, rfl, .keep rfl⟩, trivial⟩ ⟨⟨_, rfl, objOne ⟨⟨rfl, .keep rfl⟩, ⟨rfl, .keep rfl⟩, trivial⟩⟩, ⟨_, rfl, objKeep rfl⟩, ⟨_, rfl, objOne ⟨⟨rfl, .keep rfl⟩, ⟨rfl, .keep rfl⟩, trivial⟩⟩, ⟨_, rfl, objOne ⟨⟨rfl, .keep rfl⟩, ⟨rfl, .keep rfl⟩, trivial⟩⟩, ⟨_, rfl, objOne ⟨⟨rfl, .keep rfl⟩, trivial⟩⟩, ⟨_, rfl, objEls ⟨⟨⟨rfl, .keep rfl⟩, ⟨rfl, frzT (f := (eI .i64)) (xs := [(2 : Int)]) rfl rfl co3 rfl⟩, trivial⟩, ⟨⟨rfl, .keep rfl⟩, ⟨rfl, .keep rfl⟩, trivial⟩, trivial⟩⟩, ⟨_, rfl, objKeep rfl⟩, ⟨_, rfl, objKeep rfl⟩, ⟨_, rfl, objKeep rfl⟩, ⟨_, rfl, objOne ⟨⟨rfl, .keep rfl⟩, ⟨rfl, .keep rfl⟩, trivial⟩⟩, trivial⟩) ?_
  refine RW.gh (gh_frz (E' := [(1, dI .u8 y101.1), (2, dI .i64 y101.2), (22, .agg [.slice 1012 1 0 2, .slice 1015 1 0 2])]) (L' := [(1001, .row 0 25 [[dL 2 e_S_api_Block ([(S_api_Block.mk false [(1 : Int)]), (S_api_Block.mk true [(2 : Int)])]), .slice 1007 1 0 2]]), (1007, .row 1 34 [[dL 1 (eI .i64) [(1 : Int), (2 : Int)]], [dL 1 (eI .i64) [(-1 : Int), (-2 : Int)]]]), (1008, .row 0 25 [[dL 2 e_S_api_Block ([(S_api_Block.mk false [(1 : Int)]), (S_api_Block.mk true [(2 : Int)])]), .slice 1007 1 0 2]]), (1009, .row 0 25 [[.slice 1012 1 0 2, .slice 1015 1 0 2]]), (1012, .row 1 65 [[dB true, dL 1 (eI .i64) [(2 : Int)]], [dB false, dL 1 (eI .i64) [(1 : Int)]]]), (1013, .row 1 3 [[dI .i64 (1 : Int)], [dI .i64 (2 : Int)]]), (1014, .row 1 3 [[dI .i64 (-1 : Int)], [dI .i64 (-2 : Int)]]), (1015, .row 1 34 [[.slice 1013 1 0 2], [.slice 1014 1 0 2]]), (1016, .row 0 25 [[.slice 1012 1 0 2, .slice 1015 1 0 2]])]) rfl rfl ⟨⟨_, rfl, .keep rfl⟩, ⟨_, rfl, .keep rfl⟩, ⟨_, rfl, .keep rfl⟩, trivial⟩ ⟨⟨_, rfl, objOne ⟨⟨rfl, .keep rfl⟩, ⟨rfl, .keep rfl⟩, trivial⟩⟩, ⟨_, rfl, objKeep rfl⟩, ⟨_, rfl, objOne ⟨⟨rfl, .keep rfl⟩, ⟨rfl, .keep rfl⟩, trivial⟩⟩, ⟨_, rfl, objOne ⟨⟨rfl, .keep rfl⟩, ⟨rfl, .keep rfl⟩, trivial⟩⟩, ⟨_, rfl, objEls ⟨⟨⟨rfl, .keep rfl⟩, ⟨rfl, .keep rfl⟩, trivial⟩, ⟨⟨rfl, .keep rfl⟩, ⟨rfl, frzT (f := (eI .i64)) (xs := [(1 : Int)]) rfl rfl co3 rfl⟩, trivial⟩, trivial⟩⟩, ⟨_, rfl, objKeep rfl⟩, ⟨_, rfl, objKeep rfl⟩, ⟨_, rfl, objKeep rfl⟩, ⟨_, rfl, objOne ⟨⟨rfl, .keep rfl⟩, ⟨rfl, .keep rfl⟩, trivial⟩⟩, trivial⟩) ?_
  refine RW.gh (gh_frz (E' := [(1, dI .u8 y101.1), (2, dI .i64 y101.2), (22, .agg [dL 2 e_S_api_Block ([(S_api_Block.mk true [(2 : Int)]), (S_api_Block.mk false [(1 : Int)])]), .slice 1015 1 0 2])]) (L' := [(1001, .row 0 25 [[dL 2 e_S_api_Block ([(S_api_Block.mk false [(1 : Int)]), (S_api_Block.mk true [(2 : Int)])]), .slice 1007 1 0 2]]), (1007, .row 1 34 [[dL 1 (eI .i64) [(1 : Int), (2 : Int)]], [dL 1 (eI .i64) [(-1 : Int), (-2 : Int)]]]), (1008, .row 0 25 [[dL 2 e_S_api_Block ([(S_api_Block.mk false [(1 : Int)]), (S_api_Block.mk true [(2 : Int)])]), .slice 1007 1 0 2]]), (1009, .row 0 25 [[dL 2 e_S_api_Block ([(S_api_Block.mk true [(2 : Int)]), (S_api_Block.mk false [(1 : Int)])]), .slice 1015 1 0 2]]), (1013, .row 1 3 [[dI .i64 (1 : Int)], [dI .i64 (2 : Int)]]), (1014, .row 1 3 [[dI .i64 (-1 : Int)], [dI .i64 (-2 : Int)]]), (1015, .row 1 34 [[.slice 1013 1 0 2], [.slice 1014 1 0 2]]), (1016, .row 0 25 [[dL 2 e_S_api_Block ([(S_api_Block.mk true [(2 : Int)]), (S_api_Block.mk false [(1 : Int)])]), .slice 1015 1 0 2]])]) rfl rfl ⟨⟨_, rfl, .keep rfl⟩, ⟨_, rfl, .keep rfl⟩, ⟨_, rfl, frz_agg ⟨(frzT (f := e_S_api_Block) (xs := [(S_api_Block.mk true [(2 : Int)]), (S_api_Block.mk false [(1 : Int)])]) rfl rfl co65 rfl), (.keep rfl), trivial⟩⟩, trivial⟩ ⟨⟨_, rfl, objOne ⟨⟨rfl, .keep rfl⟩, ⟨rfl, .keep rfl⟩, trivial⟩⟩, ⟨_, rfl, objKeep rfl⟩, ⟨_, rfl, objOne ⟨⟨rfl, .keep rfl⟩, ⟨rfl, .keep rfl⟩, trivial⟩⟩, ⟨_, rfl, objOne ⟨⟨rfl, frzT (f := e_S_api_Block) (xs := [(S_api_Block.mk true [(2 : Int)]), (S_api_Block.mk false [(1 : Int)])]) rfl rfl co65 rfl⟩, ⟨rfl, .keep rfl⟩, trivial⟩⟩, ⟨_, rfl, objKeep rfl⟩, ⟨_, rfl, objKeep rfl⟩, ⟨_, rfl, objKeep rfl⟩, ⟨_, rfl, objOne ⟨⟨rfl, frzT (f := e_S_api_Block) (xs := [(S_api_Block.mk true [(2 : Int)]), (S_api_Block.mk false [(1 : Int)])]) rfl rfl co65 rfl⟩, ⟨rfl, .keep rfl⟩, trivial⟩⟩, trivial⟩) ?_
  refine RW.gh (gh_frz (E' := [(1, dI .u8 y101.1), (2, dI .i64 y101.2), (22, .agg [dL 2 e_S_api_Block ([(S_api_Block.mk true [(2 : Int)]), (S_api_Block.mk false [(1 : Int)])]), .slice 1015 1 0 2])]) (L' := [(1001, .row 0 25 [[dL 2 e_S_api_Block ([(S_api_Block.mk false [(1 : Int)]), (S_api_Block.mk true [(2 : Int)])]), .slice 1007 1 0 2]]), (1007, .row 1 34 [[dL 1 (eI .i64) [(1 : Int), (2 : Int)]], [dL 1 (eI .i64) [(-1 : Int), (-2 : Int)]]]), (1008, .row 0 25 [[dL 2 e_S_api_Block ([(S_api_Block.mk false [(1 : Int)]), (S_api_Block.mk true [(2 : Int)])]), .slice 1007 1 0 2]]), (1009, .row 0 25 [[dL 2 e_S_api_Block ([(S_api_Block.mk true [(2 : Int)]), (S_api_Block.mk false [(1 : Int)])]), .slice 1015 1 0 2]]), (1014, .row 1 3 [[dI .i64 (-1 : Int)], [dI .i64 (-2 : Int)]]), (1015, .row 1 34 [[dL 1 (eI .i64) [(1 : Int), (2 : Int)]], [.slice 1014 1 0 2]]), (1016, .row 0 25 [[dL 2 e_S_api_Block ([(S_api_Block.mk true [(2 : Int)]), (S_api_Block.mk false [(1 : Int)])]), .slice 1015 1 0 2]])]) rfl rfl ⟨⟨_, rfl, .keep rfl⟩, ⟨_, rfl, .keep rfl⟩, ⟨_, rfl, .keep rfl⟩, trivial⟩ ⟨⟨_, rfl, objOne ⟨⟨rfl, .keep rfl⟩, ⟨rfl, .keep rfl⟩, trivial⟩⟩, ⟨_, rfl, objKeep rfl⟩, ⟨_, rfl, objOne ⟨⟨rfl, .keep rfl⟩, ⟨rfl, .keep rfl⟩, trivial⟩⟩, ⟨_, rfl, objOne ⟨⟨rfl, .keep rfl⟩, ⟨rfl, .keep rfl⟩, trivial⟩⟩, ⟨_, rfl, objKeep rfl⟩, ⟨_, rfl, objEls ⟨⟨⟨rfl, frzT (f := (eI .i64)) (xs := [(1 : Int), (2 : Int)]) rfl rfl co3 rfl⟩, trivial⟩, ⟨⟨rfl, .keep rfl⟩, trivial⟩, trivial⟩⟩, ⟨_, rfl, objOne ⟨⟨rfl, .keep rfl⟩, ⟨rfl, .keep rfl⟩, trivial⟩⟩, trivial⟩) ?_
  refine RW.gh (gh_frz (E' := [(1, dI .u8 y101.1), (2, dI .i64 y101.2), (22, .agg [dL 2 e_S_api_Block ([(S_api_Block.mk true [(2 : Int)]), (S_api_Block.mk false [(1 : Int)])]), .slice 1015 1 0 2])]) (L' := [(1001, .row 0 25 [[dL 2 e_S_api_Block ([(S_api_Block.mk false [(1 : Int)]), (S_api_Block.mk true [(2 : Int)])]), .slice 1007 1 0 2]]), (1007, .row 1 34 [[dL 1 (eI .i64) [(1 : Int), (2 : Int)]], [dL 1 (eI .i64) [(-1 : Int), (-2 : Int)]]]), (1008, .row 0 25 [[dL 2 e_S_api_Block ([(S_api_Block.mk false [(1 : Int)]), (S_api_Block.mk true [(2 : Int)])]), .slice 1007 1 0 2]]), (1009, .row 0 25 [[dL 2 e_S_api_Block ([(S_api_Block.mk true [(2 : Int)]), (S_api_Block.mk false [(1 : Int)])]), .slice 1015 1 0 2]]), (1015, .row 1 34 [[dL 1 (eI .i64) [(1 : Int), (2 : Int)]], [dL 1 (eI .i64) [(-1 : Int), (-2 : Int)]]]), (1016, .row 0 25 [[dL 2 e_S_api_Block ([(S_api_Block.mk true [(2 : Int)]), (S_api_Block.mk false [(1 : Int)])]), .slice 1015 1 0 2]])]) rfl rfl ⟨⟨_, rfl, .keep rfl⟩, ⟨_, rfl, .keep rfl⟩, ⟨_, rfl, .keep rfl⟩, trivial⟩ ⟨⟨_, rfl, objOne ⟨⟨rfl, .keep rfl⟩, ⟨rfl, .keep rfl⟩, trivial⟩⟩, ⟨_, rfl, objKeep rfl⟩, ⟨_, rfl, objOne ⟨⟨rfl, .keep rfl⟩, ⟨rfl, .keep rfl⟩, trivial⟩⟩, ⟨_, rfl, objOne ⟨⟨rfl, .keep rfl⟩, ⟨rfl, .keep rfl⟩, trivial⟩⟩, ⟨_, rfl, objEls ⟨⟨⟨rfl, .keep rfl⟩, trivial⟩, ⟨⟨rfl, frzT (f := (eI .i64)) (xs := [(-1 : Int), (-2 : Int)]) rfl rfl co3 rfl⟩, trivial⟩, trivial⟩⟩, ⟨_, rfl, objOne ⟨⟨rfl, .keep rfl⟩, ⟨rfl, .keep rfl⟩, trivial⟩⟩, trivial⟩) ?_
  obtain ⟨y102, hy102, h⟩ := bind_some_elim h
  refine rl rfl rfl (ok_truth_Qbf hy102) rfl ⟨frz_agg ⟨(.keep rfl), (frzT (f := (eL 1 (eI .i64))) (xs := [[(1 : Int), (2 : Int)], [(-1 : Int), (-2 : Int)]]) rfl rfl co34 rfl), trivial⟩, trivial⟩ rfl ?_
  refine ro rfl rfl (st_mv rfl) ?_
  refine ro rfl rfl (st_ext rfl rfl) ?_
  refine ro rfl rfl (st_ext rfl rfl) ?_
  refine ro rfl rfl (st_as rfl) ?_
  refine ro rfl rfl (st_as rfl) ?_
  refine rw_nilk ?_
  refine awp_rs ?_
  refine ri (N := 29) (rs := [.cell 2 25]) rfl rfl rfl rfl Try.func28 rfl rfl rfl (by kernel_rfl) rfl (fun _B => ?_)
  refine awp_rs ?_
  refine rn (r := 1017) rfl rfl (st_alloc zc25 rfl rfl) rfl ?_
  refine rw_nilk ?_
  refine awp_rs ?_
  refine rn (r := 1018) rfl rfl (st_bsl (els := [[dI .i64 (1 : Int)]]) sl34 zc3 rfl rfl rfl rfl rfl) rfl ?_
  refine ro rfl rfl (st_build (vs := [dB false, .slice 1018 1 0 1]) bl65 rfl rfl) ?_
  refine rn (r := 1019) rfl rfl (st_bsl (els := [[dI .i64 (2 : Int)]]) sl34 zc3 rfl rfl rfl rfl rfl) rfl ?_
  refine ro rfl rfl (st_build (vs := [dB true, .slice 1019 1 0 1]) bl65 rfl rfl) ?_
  refine rn (r := 1020) rfl rfl (st_bsl (els := [[dB false, .slice 1018 1 0 1], [dB true, .slice 1019 1 0 1]]) sl22 zc65 rfl rfl rfl rfl rfl) rfl ?_
  refine rn (r := 1021) rfl rfl (st_bsl (els := [[dI .i64 (1 : Int)], [dI .i64 (2 : Int)]]) sl34 zc3 rfl rfl rfl rfl rfl) rfl ?_
  refine rn (r := 1022) rfl rfl (st_bsl (els := [[dI .i64 (-1 : Int)], [dI .i64 (-2 : Int)]]) sl34 zc3 rfl rfl rfl rfl rfl) rfl ?_
  refine rn (r := 1023) rfl rfl (st_bsl (els := [[.slice 1021 1 0 2], [.slice 1022 1 0 2]]) sl23 zc34 rfl rfl rfl rfl rfl) rfl ?_
  refine ro rfl rfl (st_build (vs := [.slice 1020 1 0 2, .slice 1023 1 0 2]) bl25 rfl rfl) ?_
  refine rn (r := 1024) rfl rfl (st_alloc zc25 rfl rfl) rfl ?_
  refine rx (L' := [(1001, .row 0 25 [[dL 2 e_S_api_Block ([(S_api_Block.mk false [(1 : Int)]), (S_api_Block.mk true [(2 : Int)])]), .slice 1007 1 0 2]]), (1007, .row 1 34 [[dL 1 (eI .i64) [(1 : Int), (2 : Int)]], [dL 1 (eI .i64) [(-1 : Int), (-2 : Int)]]]), (1008, .row 0 25 [[dL 2 e_S_api_Block ([(S_api_Block.mk false [(1 : Int)]), (S_api_Block.mk true [(2 : Int)])]), .slice 1007 1 0 2]]), (1009, .row 0 25 [[dL 2 e_S_api_Block ([(S_api_Block.mk true [(2 : Int)]), (S_api_Block.mk false [(1 : Int)])]), .slice 1015 1 0 2]]), (1015, .row 1 34 [[dL 1 (eI .i64) [(1 : Int), (2 : Int)]], [dL 1 (eI .i64) [(-1 : Int), (-2 : Int)]]]), (1016, .row 0 25 [[dL 2 e_S_api_Block ([(S_api_Block.mk true [(2 : Int)]), (S_api_Block.mk false [(1 : Int)])]), .slice 1015 1 0 2]]), (1017, .row 0 25 [[.nilS, .nilS]]), (1018, .row 1 3 [[dI .i64 (1 : Int)]]), (1019, .row 1 3 [[dI .i64 (2 : Int)]]), (1020, .row 1 65 [[dB false, .slice 1018 1 0 1], [dB true, .slice 1019 1 0 1]]), (1021, .row 1 3 [[dI .i64 (1 : Int)], [dI .i64 (2 : Int)]]), (1022, .row 1 3 [[dI .i64 (-1 : Int)], [dI .i64 (-2 : Int)]]), (1023, .row 1 34 [[.slice 1021 1 0 2], [.slice 1022 1 0 2]]), (1024, .row 0 25 [[.slice 1020 1 0 2, .slice 1023 1 0 2]])]) rfl rfl (st_stP ta25 rfl rfl rfl rfl rfl rfl rfl rfl) rfl ?_
  refine rw_nilk ?_
  refine awp_seq ?_
  refine awp_rs ?_
  refine ro rfl rfl (st_mv rfl) ?_
  refine rw_nilk ?_
  refine awp_condT rfl ?_
  refine awp_rd hmix ?_
  refine do_ rfl rfl (st_faP fo25_0 rfl) rfl rfl rfl ?_
  refine do_ rfl rfl (st_ldP (v := .slice 1020 1 0 2) ta22 rfl rfl rfl rfl) rfl rfl rfl ?_
  refine do_ rfl rfl (st_faP fo25_0 rfl) rfl rfl rfl ?_
  refine do_ rfl rfl (st_ldP (v := .slice 1020 1 0 2) ta22 rfl rfl rfl rfl) rfl rfl rfl ?_
  refine do_ rfl rfl (st_faP fo25_0 rfl) rfl rfl rfl ?_
  refine do_ rfl rfl (st_ldP (v := .slice 1020 1 0 2) ta22 rfl rfl rfl rfl) rfl rfl rfl ?_
  refine do_ rfl rfl (st_ixRc (j := 1) sl22 rfl rfl rfl rfl) rfl rfl rfl ?_
  refine do_ rfl rfl (st_ldP (v := .agg [dB true, .slice 1019 1 0 1]) ta65 rfl rfl rfl rfl) rfl rfl rfl ?_
  refine do_ rfl rfl (st_faP fo25_0 rfl) rfl rfl rfl ?_
  refine do_ rfl rfl (st_ldP (v := .slice 1020 1 0 2) ta22 rfl rfl rfl rfl) rfl rfl rfl ?_
  refine do_ rfl rfl (st_ixRc (j := 0) sl22 rfl rfl rfl rfl) rfl rfl rfl ?_
  refine do_ rfl rfl (st_ldP (v := .agg [dB false, .slice 1018 1 0 1]) ta65 rfl rfl rfl rfl) rfl rfl rfl ?_
  refine do_ rfl rfl (st_ixRc (j := 0) sl22 rfl rfl rfl rfl) rfl rfl rfl ?_
  refine dx (L' := [(1001, .row 0 25 [[dL 2 e_S_api_Block ([(S_api_Block.mk false [(1 : Int)]), (S_api_Block.mk true [(2 : Int)])]), .slice 1007 1 0 2]]), (1007, .row 1 34 [[dL 1 (eI .i64) [(1 : Int), (2 : Int)]], [dL 1 (eI .i64) [(-1 : Int), (-2 : Int)]]]), (1008, .row 0 25 [[dL 2 e_S_api_Block ([(S_api_Block.mk false [(1 : Int)]), (S_api_Block.mk true [(2 : Int)])]), .slice 1007 1 0 2]]), (1009, .row 0 25 [[dL 2 e_S_api_Block ([(S_api_Block.mk true [(2 : Int)]), (S_api_Block.mk false [(1 : Int)])]), .slice 1015 1 0 2]]), (1015, .row 1 34 [[dL 1 (eI .i64) [(1 : Int), (2 : Int)]], [dL 1 (eI .i64) [(-1 : Int), (-2 : Int)]]]), (1016, .row 0 25 [[dL 2 e_S_api_Block ([(S_api_Block.mk true [(2 : Int)]), (S_api_Block.mk false [(1 : Int)])]), .slice 1015 1 0 2]]), (1017, .row 0 25 [[.nilS, .nilS]]), (1018, .row 1 3 [[dI .i64 (1 : Int)]]), (1019, .row 1 3 [[dI .i64 (2 : Int)]]), (1020, .row 1 65 [[dB true, .slice 1019 1 0 1], [dB true, .slice 1019 1 0 1]]), (1021, .row 1 3 [[dI .i64 (1 : Int)], [dI .i64 (2 : Int)]]), (1022, .row 1 3 [[dI .i64 (-1 : Int)], [dI .i64 (-2 : Int)]]), (1023, .row 1 34 [[.slice 1021 1 0 2], [.slice 1022 1 0 2]]), (1024, .row 0 25 [[.slice 1020 1 0 2, .slice 1023 1 0 2]])]) rfl rfl (st_stP ta65 rfl rfl rfl rfl rfl rfl rfl rfl) rfl rfl rfl rfl ?_
  refine do_ rfl rfl (st_ixRc (j := 1) sl22 rfl rfl rfl rfl) rfl rfl rfl ?_
  refine dx (L' := [(1001, .row 0 25 [[dL 2 e_S_api_Block ([(S_api_Block.mk false [(1 : Int)]), (S_api_Block.mk true [(2 : Int)])]), .slice 1007 1 0 2]]), (1007, .row 1 34 [[dL 1 (eI .i64) [(1 : Int), (2 : Int)]], [dL 1 (eI .i64) [(-1 : Int), (-2 : Int)]]]), (1008, .row 0 25 [[dL 2 e_S_api_Block ([(S_api_Block.mk false [(1 : Int)]), (S_api_Block.mk true [(2 : Int)])]), .slice 1007 1 0 2]]), (1009, .row 0 25 [[dL 2 e_S_api_Block ([(S_api_Block.mk true [(2 : Int)]), (S_api_Block.mk false [(1 : Int)])]), .slice 1015 1 0 2]]), (1015, .row 1 34 [[dL 1 (eI .i64) [(1 : Int), (2 : Int)]], [dL 1 (eI .i64) [(-1 : Int), (-2 : Int)]]]), (1016, .row 0 25 [[dL 2 e_S_api_Block ([(S_api_Block.mk true [(2 : Int)]), (S_api_Block.mk false [(1 : Int)])]), .slice 1015 1 0 2]]), (1017, .row 0 25 [[.nilS, .nilS]]), (1018, .row 1 3 [[dI .i64 (1 : Int)]]), (1019, .row 1 3 [[dI .i64 (2 : Int)]]), (1020, .row 1 65 [[dB true, .slice 1019 1 0 1], [dB false, .slice 1018 1 0 1]]), (1021, .row 1 3 [[dI .i64 (1 : Int)], [dI .i64 (2 : Int)]]), (1022, .row 1 3 [[dI .i64 (-1 : Int)], [dI .i64 (-2 : Int)]]), (1023, .row 1 34 [[.slice 1021 1 0 2], [.slice 1022 1 0 2]]), (1024, .row 0 25 [[.slice 1020 1 0 2, .slice 1023 1 0 2]])]) rfl rfl (st_stP ta65 rfl rfl rfl rfl rfl rfl rfl rfl) rfl rfl rfl rfl ?_
  refine rd_nil (by kernel_rfl) ?_
  refine nx_then ?_
  refine awp_rs ?_
  refine ro rfl rfl (st_ldP (v := .agg [.slice 1020 1 0 2, .slice 1023 1 0 2]) ta25 rfl rfl rfl rfl) ?_
  refine rx (L' := [(1001, .row 0 25 [[dL 2 e_S_api_Block ([(S_api_Block.mk false [(1 : Int)]), (S_api_Block.mk true [(2 : Int)])]), .slice 1007 1 0 2]]), (1007, .row 1 34 [[dL 1 (eI .i64) [(1 : Int), (2 : Int)]], [dL 1 (eI .i64) [(-1 : Int), (-2 : Int)]]]), (1008, .row 0 25 [[dL 2 e_S_api_Block ([(S_api_Block.mk false [(1 : Int)]), (S_api_Block.mk true [(2 : Int)])]), .slice 1007 1 0 2]]), (1009, .row 0 25 [[dL 2 e_S_api_Block ([(S_api_Block.mk true [(2 : Int)]), (S_api_Block.mk false [(1 : Int)])]), .slice 1015 1 0 2]]), (1015, .row 1 34 [[dL 1 (eI .i64) [(1 : Int), (2 : Int)]], [dL 1 (eI .i64) [(-1 : Int), (-2 : Int)]]]), (1016, .row 0 25 [[dL 2 e_S_api_Block ([(S_api_Block.mk true [(2 : Int)]), (S_api_Block.mk false [(1 : Int)])]), .slice 1015 1 0 2]]), (1017, .row 0 25 [[.slice 1020 1 0 2, .slice 1023 1 0 2]]), (1018, .row 1 3 [[dI .i64 (1 : Int)]]), (1019, .row 1 3 [[dI .i64 (2 : Int)]]), (1020, .row 1 65 [[dB true, .slice 1019 1 0 1], [dB false, .slice 1018 1 0 1]]), (1021, .row 1 3 [[dI .i64 (1 : Int)], [dI .i64 (2 : Int)]]), (1022, .row 1 3 [[dI .i64 (-1 : Int)], [dI .i64 (-2 : Int)]]), (1023, .row 1 34 [[.slice 1021 1 0 2], [.slice 1022 1 0 2]]), (1024, .row 0 25 [[.slice 1020 1 0 2, .slice 1023 1 0 2]])]) rfl rfl (st_stP ta25 rfl rfl rfl rfl rfl rfl rfl rfl) rfl ?_
  refine rw_nilk ?_
  refine awp_ret ?_
  refine ret_in (v := .agg [.slice 1020 1 0 2, .slice 1023 1 0 2]) (resV_one (resVs_cell (v := .agg [.slice 1020 1 0 2, .slice 1023 1 0 2]) ta25 rfl rfl rfl rfl resVs_nil)) ?_
  show RW _ _ _ _ _ _ _
  refine RW.gh (gh_frz (E' := [(1, dI .u8 y101.1), (2, dI .i64 y101.2), (3, dI .u8 y102.1), (4, dI .i64 y102.2), (27, .agg [.slice 1020 1 0 2, .slice 1023 1 0 2])]) (L' := [(1001, .row 0 25 [[dL 2 e_S_api_Block ([(S_api_Block.mk false [(1 : Int)]), (S_api_Block.mk true [(2 : Int)])]), .slice 1007 1 0 2]]), (1007, .row 1 34 [[dL 1 (eI .i64) [(1 : Int), (2 : Int)]], [dL 1 (eI .i64) [(-1 : Int), (-2 : Int)]]]), (1008, .row 0 25 [[dL 2 e_S_api_Block ([(S_api_Block.mk false [(1 : Int)]), (S_api_Block.mk true [(2 : Int)])]), .slice 1007 1 0 2]]), (1009, .row 0 25 [[dL 2 e_S_api_Block ([(S_api_Block.mk true [(2 : Int)]), (S_api_Block.mk false [(1 : Int)])]), .slice 1015 1 0 2]]), (1015, .row 1 34 [[dL 1 (eI .i64) [(1 : Int), (2 : Int)]], [dL 1 (eI .i64) [(-1 : Int), (-2 : Int)]]]), (1016, .row 0 25 [[dL 2 e_S_api_Block ([(S_api_Block.mk true [(2 : Int)]), (S_api_Block.mk false [(1 : Int)])]), .slice 1015 1 0 2]]), (1017, .row 0 25 [[.slice 1020 1 0 2, .slice 1023 1 0 2]]), (1018, .row 1 3 [[dI .i64 (1 : Int)]]), (1020, .row 1 65 [[dB true, dL 1 (eI .i64) [(2 : Int)]], [dB false, .slice 1018 1 0 1]]), (1021, .row 1 3 [[dI .i64 (1 : Int)], [dI .i64 (2 : Int)]]), (1022, .row 1 3 [[dI .i64 (-1 : Int)], [dI .i64 (-2 : Int)]]), (1023, .row 1 34 [[.slice 1021 1 0 2], [.slice 1022 1 0 2]]), (1024, .row 0 25 [[.slice 1020 1 0 2, .slice 1023 1 0 2]])]) rfl rfl ⟨⟨_, rfl, .keep rfl⟩, ⟨_, rfl, .keep rfl⟩, ⟨_, rfl, .keep rfl⟩, ⟨_, rfl, .keep rfl⟩, ⟨_, rfl, .keep rfl⟩, trivial⟩ ⟨⟨_, rfl, objOne ⟨⟨rfl, .keep rfl⟩, ⟨rfl, .keep rfl⟩, trivial⟩⟩, ⟨_, rfl, objKeep rfl⟩, ⟨_, rfl, objOne ⟨⟨rfl, .keep rfl⟩, ⟨rfl, .keep rfl⟩, trivial⟩⟩, ⟨_, rfl, objOne ⟨⟨rfl, .keep rfl⟩, ⟨rfl, .keep rfl⟩, trivial⟩⟩, ⟨_, rfl, objKeep rfl⟩, ⟨_, rfl, objOne ⟨⟨rfl, .keep rfl⟩, ⟨rfl, .keep rfl⟩, trivial⟩⟩, ⟨_, rfl, objOne ⟨⟨rfl, .keep rfl⟩, ⟨rfl, .keep rfl⟩, trivial⟩⟩, ⟨_, rfl, objOne ⟨⟨rfl, .keep rfl⟩, trivial⟩⟩, ⟨_, rfl, objEls ⟨⟨⟨rfl, .keep rfl⟩, ⟨rfl, frzT (f := (eI .i64)) (xs := [(2 : Int)]) rfl rfl co3 rfl⟩, trivial⟩, ⟨⟨rfl, .keep rfl⟩, ⟨rfl, .keep rfl⟩, trivial⟩, trivial⟩⟩, ⟨_, rfl, objKeep rfl⟩, ⟨_, rfl, objKeep rfl⟩, ⟨_, rfl, objKeep rfl⟩, ⟨_, rfl, objOne ⟨⟨rfl, .keep rfl⟩, ⟨rfl, .keep rfl⟩, trivial⟩⟩, trivial⟩) ?_
  refine RW.gh (gh_frz (E' := [(1, dI .u8 y101.1), (2, dI .i64 y101.2), (3, dI .u8 y102.1), (4, dI .i64 y102.2), (27, .agg [.slice 1020 1 0 2, .slice 1023 1 0 2])]) (L' := [(1001, .row 0 25 [[dL 2 e_S_api_Block ([(S_api_Block.mk false [(1 : Int)]), (S_api_Block.mk true [(2 : Int)])]), .slice 1007 1 0 2]]), (1007, .row 1 34 [[dL 1 (eI .i64) [(1 : Int), (2 : Int)]], [dL 1 (eI .i64) [(-1 : Int), (-2 : Int)]]]), (1008, .row 0 25 [[dL 2 e_S_api_Block ([(S_api_Block.mk false [(1 : Int)]), (S_api_Block.mk true [(2 : Int)])]), .slice 1007 1 0 2]]), (1009, .row 0 25 [[dL 2 e_S_api_Block ([(S_api_Block.mk true [(2 : Int)]), (S_api_Block.mk false [(1 : Int)])]), .slice 1015 1 0 2]]), (1015, .row 1 34 [[dL 1 (eI .i64) [(1 : Int), (2 : Int)]], [dL 1 (eI .i64) [(-1 : Int), (-2 : Int)]]]), (1016, .row 0 25 [[dL 2 e_S_api_Block ([(S_api_Block.mk true [(2 : Int)]), (S_api_Block.mk false [(1 : Int)])]), .slice 1015 1 0 2]]), (1017, .row 0 25 [[.slice 1020 1 0 2, .slice 1023 1 0 2]]), (1020, .row 1 65 [[dB true, dL 1 (eI .i64) [(2 : Int)]], [dB false, dL 1 (eI .i64) [(1 : Int)]]]), (1021, .row 1 3 [[dI .i64 (1 : Int)], [dI .i64 (2 : Int)]]), (1022, .row 1 3 [[dI .i64 (-1 : Int)], [dI .i64 (-2 : Int)]]), (1023, .row 1 34 [[.slice 1021 1 0 2], [.slice 1022 1 0 2]]), (1024, .row 0 25 [[.slice 1020 1 0 2, .slice 1023 1 0 2]])]) rfl rfl ⟨⟨_, rfl, .keep rfl⟩, ⟨_, rfl, .keep rfl⟩, ⟨_, rfl, .keep rfl⟩, ⟨_, rfl, .keep rfl⟩, ⟨_, rfl, .keep rfl⟩, trivial⟩ ⟨⟨_, rfl, objOne ⟨⟨rfl, .keep rfl⟩, ⟨rfl, .keep rfl⟩, trivial⟩⟩, ⟨_, rfl, objKeep rfl⟩, ⟨_, rfl, objOne ⟨⟨rfl, .keep rfl⟩, ⟨rfl, .keep rfl⟩, trivial⟩⟩, ⟨_, rfl, objOne ⟨⟨rfl, .keep rfl⟩, ⟨rfl, .keep rfl⟩, trivial⟩⟩, ⟨_, rfl, objKeep rfl⟩, ⟨_, rfl, objOne ⟨⟨rfl, .keep rfl⟩, ⟨rfl, .keep rfl⟩, trivial⟩⟩, ⟨_, rfl, objOne ⟨⟨rfl, .keep rfl⟩, ⟨rfl, .keep rfl⟩, trivial⟩⟩, ⟨_, rfl, objEls ⟨⟨⟨rfl, .keep rfl⟩, ⟨rfl, .keep rfl⟩, trivial⟩, ⟨⟨rfl, .keep rfl⟩, ⟨rfl, frzT (f := (eI .i64)) (xs := [(1 : Int)]) rfl rfl co3 rfl⟩, trivial⟩, trivial⟩⟩, ⟨_, rfl, objKeep rfl⟩, ⟨_, rfl, objKeep rfl⟩, ⟨_, rfl, objKeep rfl⟩, ⟨_, rfl, objOne ⟨⟨rfl, .keep rfl⟩, ⟨rfl, .keep rfl⟩, trivial⟩⟩, trivial⟩) ?_
  refine RW.gh (gh_frz (E' := [(1, dI .u8 y101.1), (2, dI .i64 y101.2), (3, dI .u8 y102.1), (4, dI .i64 y102.2), (27, .agg [dL 2 e_S_api_Block ([(S_api_Block.mk true [(2 : Int)]), (S_api_Block.mk false [(1 : Int)])]), .slice 1023 1 0 2])]) (L' := [(1001, .row 0 25 [[dL 2 e_S_api_Block ([(S_api_Block.mk false [(1 : Int)]), (S_api_Block.mk true [(2 : Int)])]), .slice 1007 1 0 2]]), (1007, .row 1 34 [[dL 1 (eI .i64) [(1 : Int), (2 : Int)]], [dL 1 (eI .i64) [(-1 : Int), (-2 : Int)]]]), (1008, .row 0 25 [[dL 2 e_S_api_Block ([(S_api_Block.mk false [(1 : Int)]), (S_api_Block.mk true [(2 : Int)])]), .slice 1007 1 0 2]]), (1009, .row 0 25 [[dL 2 e_S_api_Block ([(S_api_Block.mk true [(2 : Int)]), (S_api_Block.mk false [(1 : Int)])]), .slice 1015 1 0 2]]), (1015, .row 1 34 [[dL 1 (eI .i64) [(1 : Int), (2 : Int)]], [dL 1 (eI .i64) [(-1 : Int), (-2 : Int)]]]), (1016, .row 0 25 [[dL 2 e_S_api_Block ([(S_api_Block.mk true [(2 : Int)]), (S_api_Block.mk false [(1 : Int)])]), .slice 1015 1 0 2]]), (1017, .row 0 25 [[dL 2 e_S_api_Block ([(S_api_Block.mk true [(2 : Int)]), (S_api_Block.mk false [(1 : Int)])]), .slice 1023 1 0 2]]), (1021, .row 1 3 [[dI .i64 (1 : Int)], [dI .i64 (2 : Int)]]), (1022, .row 1 3 [[dI .i64 (-1 : Int)], [dI .i64 (-2 : Int)]]), (1023, .row 1 34 [[.slice 1021 1 0 2], [.slice 1022 1 0 2]]), (1024, .row 0 25 [[dL 2 e_S_api_Block ([(S_api_Block.mk true [(2 : Int)]), (S_api_Block.mk false [(1 : Int)])]), .slice 1023 1 0 2]])]) rfl rfl ⟨⟨_, rfl, .keep rfl⟩, ⟨_, rfl, .keep rfl⟩, ⟨_, rfl, .keep rfl⟩, ⟨_, rfl, .keep rfl⟩, ⟨_, rfl, frz_agg ⟨(frzT (f := e_S_api_Block) (xs := [(S_api_Block.mk true [(2 : Int)]), (S_api_Block.mk false [(1 : Int)])]) rfl rfl co65 rfl), (.keep rfl), trivial⟩⟩, trivial⟩ ⟨⟨_, rfl, objOne ⟨⟨rfl, .keep rfl⟩, ⟨rfl, .keep rfl⟩, trivial⟩⟩, ⟨_, rfl, objKeep rfl⟩, ⟨_, rfl, objOne ⟨⟨rfl, .keep rfl⟩, ⟨rfl, .keep rfl⟩, trivial⟩⟩, ⟨_, rfl, objOne ⟨⟨rfl, .keep rfl⟩, ⟨rfl, .keep rfl⟩, trivial⟩⟩, ⟨_, rfl, objKeep rfl⟩, ⟨_, rfl, objOne ⟨⟨rfl, .keep rfl⟩, ⟨rfl, .keep rfl⟩, trivial⟩⟩, ⟨_, rfl, objOne ⟨⟨rfl, frzT (f := e_S_api_Block) (xs := [(S_api_Block.mk true [(2 : Int)]), (S_api_Block.mk false [(1 : Int)])]) rfl rfl co65 rfl⟩, ⟨rfl, .keep rfl⟩, trivial⟩⟩, ⟨_, rfl, objKeep rfl⟩, ⟨_, rfl, objKeep rfl⟩, ⟨_, rfl, objKeep rfl⟩, ⟨_, rfl, objOne ⟨⟨rfl, frzT (f := e_S_api_Block) (xs := [(S_api_Block.mk true [(2 : Int)]), (S_api_Block.mk false [(1 : Int)])]) rfl rfl co65 rfl⟩, ⟨rfl, .keep rfl⟩, trivial⟩⟩, trivial⟩) ?_
  refine RW.gh (gh_frz (E' := [(1, dI .u8 y101.1), (2, dI .i64 y101.2), (3, dI .u8 y102.1), (4, dI .i64 y102.2), (27, .agg [dL 2 e_S_api_Block ([(S_api_Block.mk true [(2 : Int)]), (S_api_Block.mk false [(1 : Int)])]), .slice 1023 1 0 2])]) (L' := [(1001, .row 0 25 [[dL 2 e_S_api_Block ([(S_api_Block.mk false [(1 : Int)]), (S_api_Block.mk true [(2 : Int)])]), .slice 1007 1 0 2]]), (1007, .row 1 34 [[dL 1 (eI .i64) [(1 : Int), (2 : Int)]], [dL 1 (eI .i64) [(-1 : Int), (-2 : Int)]]]), (1008, .row 0 25 [[dL 2 e_S_api_Block ([(S_api_Block.mk false [(1 : Int)]), (S_api_Block.mk true [(2 : Int)])]), .slice 1007 1 0 2]]), (1009, .row 0 25 [[dL 2 e_S_api_Block ([(S_api_Block.mk true [(2 : Int)]), (S_api_Block.mk false [(1 : Int)])]), .slice 1015 1 0 2]]), (1015, .row 1 34 [[dL 1 (eI .i64) [(1 : Int), (2 : Int)]], [dL 1 (eI .i64) [(-1 : Int), (-2 : Int)]]]), (1016, .row 0 25 [[dL 2 e_S_api_Block ([(S_api_Block.mk true [(2 : Int)]), (S_api_Block.mk false [(1 : Int)])]), .slice 1015 1 0 2]]), (1017, .row 0 25 [[dL 2 e_S_api_Block ([(S_api_Block.mk true [(2 : Int)]), (S_api_Block.mk false [(1 : Int)])]), .slice 1023 1 0 2]]), (1022, .row 1 3 [[dI .i64 (-1 : Int)], [dI .i64 (-2 : Int)]]), (1023, .row 1 34 [[dL 1 (eI .i64) [(1 : Int), (2 : Int)]], [.slice 1022 1 0 2]]), (1024, .row 0 25 [[dL 2 e_S_api_Block ([(S_api_Block.mk true [(2 : Int)]), (S_api_Block.mk false [(1 : Int)])]), .slice 1023 1 0 2]])]) rfl rfl ⟨⟨_, rfl, .keep rfl⟩, ⟨_, rfl, .keep rfl⟩, ⟨_, rfl, .keep rfl⟩, ⟨_, rfl, .keep rfl⟩, ⟨_, rfl, .keep rfl⟩, trivial⟩ ⟨⟨_, rfl, objOne ⟨⟨rfl, .keep rfl⟩, ⟨rfl, .keep rfl⟩, trivial⟩⟩, ⟨_, rfl, objKeep rfl⟩, ⟨_, rfl, objOne ⟨⟨rfl, .keep rfl⟩, ⟨rfl, .keep rfl⟩, trivial⟩⟩, ⟨_, rfl, objOne ⟨⟨rfl, .keep rfl⟩, ⟨rfl, .keep rfl⟩, trivial⟩⟩, ⟨_, rfl, objKeep rfl⟩, ⟨_, rfl, objOne ⟨⟨rfl, .keep rfl⟩, ⟨rfl, .keep rfl⟩, trivial⟩⟩, ⟨_, rfl, objOne ⟨⟨rfl, .keep rfl⟩, ⟨rfl, .keep rfl⟩, trivial⟩⟩, ⟨_, rfl, objKeep rfl⟩, ⟨_, rfl, objEls ⟨⟨⟨rfl, frzT (f := (eI .i64)) (xs := [(1 : Int), (2 : Int)]) rfl rfl co3 rfl⟩, trivial⟩, ⟨⟨rfl, .keep rfl⟩, trivial⟩, trivial⟩⟩, ⟨_, rfl, objOne ⟨⟨rfl, .keep rfl⟩, ⟨rfl, .keep rfl⟩, trivial⟩⟩, trivial⟩) ?_
  refine RW.gh (gh_frz (E' := [(1, dI .u8 y101.1), (2, dI .i64 y101.2), (3, dI .u8 y102.1), (4, dI .i64 y102.2), (27, .agg [dL 2 e_S_api_Block ([(S_api_Block.mk true [(2 : Int)]), (S_api_Block.mk false [(1 : Int)])]), .slice 1023 1 0 2])]) (L' := [(1001, .row 0 25 [[dL 2 e_S_api_Block ([(S_api_Block.mk false [(1 : Int)]), (S_api_Block.mk true [(2 : Int)])]), .slice 1007 1 0 2]]), (1007, .row 1 34 [[dL 1 (eI .i64) [(1 : Int), (2 : Int)]], [dL 1 (eI .i64) [(-1 : Int), (-2 : Int)]]]), (1008, .row 0 25 [[dL 2 e_S_api_Block ([(S_api_Block.mk false [(1 : Int)]), (S_api_Block.mk true [(2 : Int)])]), .slice 1007 1 0 2]]), (1009, .row 0 25 [[dL 2 e_S_api_Block ([(S_api_Block.mk true [(2 : Int)]), (S_api_Block.mk false [(1 : Int)])]), .slice 1015 1 0 2]]), (1015, .row 1 34 [[dL 1 (eI .i64) [(1 : Int), (2 : Int)]], [dL 1 (eI .i64) [(-1 : Int), (-2 : Int)]]]), (1016, .row 0 25 [[dL 2 e_S_api_Block ([(S_api_Block.mk true [(2 : Int)]), (S_api_Block.mk false [(1 : Int)])]), .slice 1015 1 0 2]]), (1017, .row 0 25 [[dL 2 e_S_api_Block ([(S_api_Block.mk true [(2 : Int)]), (S_api_Block.mk false [(1 : Int)])]), .slice 1023 1 0 2]]), (1023, .row 1 34 [[dL 1 (eI .i64) [(1 : Int), (2 : Int)]], [dL 1 (eI .i64) [(-1 : Int), (-2 : Int)]]]), (1024, .row 0 25 [[dL 2 e_S_api_Block ([(S_api_Block.mk true [(2 : Int)]), (S_api_Block.mk false [(1 : Int)])]), .slice 1023 1 0 2]])]) rfl rfl ⟨⟨_, rfl, .keep rfl⟩, ⟨_, rfl, .keep rfl⟩, ⟨_, rfl, .keep rfl⟩, ⟨_, rfl, .keep rfl⟩, ⟨_, rfl, .keep rfl⟩, trivial⟩ ⟨⟨_, rfl, objOne ⟨⟨rfl, .keep rfl⟩, ⟨rfl, .keep rfl⟩, trivial⟩⟩, ⟨_, rfl, objKeep rfl⟩, ⟨_, rfl, objOne ⟨⟨rfl, .keep rfl⟩, ⟨rfl, .keep rfl⟩, trivial⟩⟩, ⟨_, rfl, objOne ⟨⟨rfl, .keep rfl⟩, ⟨rfl, .keep rfl⟩, trivial⟩⟩, ⟨_, rfl, objKeep rfl⟩, ⟨_, rfl, objOne ⟨⟨rfl, .keep rfl⟩, ⟨rfl, .keep rfl⟩, trivial⟩⟩, ⟨_, rfl, objOne ⟨⟨rfl, .keep rfl⟩, ⟨rfl, .keep rfl⟩, trivial⟩⟩, ⟨_, rfl, objEls ⟨⟨⟨rfl, .keep rfl⟩, trivial⟩, ⟨⟨rfl, frzT (f := (eI .i64)) (xs := [(-1 : Int), (-2 : Int)]) rfl rfl co3 rfl⟩, trivial⟩, trivial⟩⟩, ⟨_, rfl, objOne ⟨⟨rfl, .keep rfl⟩, ⟨rfl, .keep rfl⟩, trivial⟩⟩, trivial⟩) ?_
  refine RW.gh (gh_frz (E' := [(1, dI .u8 y101.1), (2, dI .i64 y101.2), (3, dI .u8 y102.1), (4, dI .i64 y102.2), (27, .agg [dL 2 e_S_api_Block ([(S_api_Block.mk true [(2 : Int)]), (S_api_Block.mk false [(1 : Int)])]), dL 1 (eL 1 (eI .i64)) ([[(1 : Int), (2 : Int)], [(-1 : Int), (-2 : Int)]])])]) (L' := [(1001, .row 0 25 [[dL 2 e_S_api_Block ([(S_api_Block.mk false [(1 : Int)]), (S_api_Block.mk true [(2 : Int)])]), .slice 1007 1 0 2]]), (1007, .row 1 34 [[dL 1 (eI .i64) [(1 : Int), (2 : Int)]], [dL 1 (eI .i64) [(-1 : Int), (-2 : Int)]]]), (1008, .row 0 25 [[dL 2 e_S_api_Block ([(S_api_Block.mk false [(1 : Int)]), (S_api_Block.mk true [(2 : Int)])]), .slice 1007 1 0 2]]), (1009, .row 0 25 [[dL 2 e_S_api_Block ([(S_api_Block.mk true [(2 : Int)]), (S_api_Block.mk false [(1 : Int)])]), .slice 1015 1 0 2]]), (1015, .row 1 34 [[dL 1 (eI .i64) [(1 : Int), (2 : Int)]], [dL 1 (eI .i64) [(-1 : Int), (-2 : Int)]]]), (1016, .row 0 25 [[dL 2 e_S_api_Block ([(S_api_Block.mk true [(2 : Int)]), (S_api_Block.mk false [(1 : Int)])]), .slice 1015 1 0 2]]), (1017, .row 0 25 [[dL 2 e_S_api_Block ([(S_api_Block.mk true [(2 : Int)]), (S_api_Block.mk false [(1 : Int)])]), dL 1 (eL 1 (eI .i64)) ([[(1 : Int), (2 : Int)], [(-1 : Int), (-2 : Int)]])]]), (1024, .row 0 25 [[dL 2 e_S_api_Block ([(S_api_Block.mk true [(2 : Int)]), (S_api_Block.mk false [(1 : Int)])]), dL 1 (eL 1 (eI .i64)) ([[(1 : Int), (2 : Int)], [(-1 : Int), (-2 : Int)]])]])]) rfl rfl ⟨⟨_, rfl, .keep rfl⟩, ⟨_, rfl, .keep rfl⟩, ⟨_, rfl, .keep rfl⟩, ⟨_, rfl, .keep rfl⟩, ⟨_, rfl, frz_agg ⟨(.keep rfl), (frzT (f := (eL 1 (eI .i64))) (xs := [[(1 : Int), (2 : Int)], [(-1 : Int), (-2 : Int)]]) rfl rfl co34 rfl), trivial⟩⟩, trivial⟩ ⟨⟨_, rfl, objOne ⟨⟨rfl, .keep rfl⟩, ⟨rfl, .keep rfl⟩, trivial⟩⟩, ⟨_, rfl, objKeep rfl⟩, ⟨_, rfl, objOne ⟨⟨rfl, .keep rfl⟩, ⟨rfl, .keep rfl⟩, trivial⟩⟩, ⟨_, rfl, objOne ⟨⟨rfl, .keep rfl⟩, ⟨rfl, .keep rfl⟩, trivial⟩⟩, ⟨_, rfl, objKeep rfl⟩, ⟨_, rfl, objOne ⟨⟨rfl, .keep rfl⟩, ⟨rfl, .keep rfl⟩, trivial⟩⟩, ⟨_, rfl, objOne ⟨⟨rfl, .keep rfl⟩, ⟨rfl, frzT (f := (eL 1 (eI .i64))) (xs := [[(1 : Int), (2 : Int)], [(-1 : Int), (-2 : Int)]]) rfl rfl co34 rfl⟩, trivial⟩⟩, ⟨_, rfl, objOne ⟨⟨rfl, .keep rfl⟩, ⟨rfl, frzT (f := (eL 1 (eI .i64))) (xs := [[(1 : Int), (2 : Int)], [(-1 : Int), (-2 : Int)]]) rfl rfl co34 rfl⟩, trivial⟩⟩, trivial⟩) ?_
  refine rf rfl rfl tab_truth_Herbrand_0 rfl rfl ?_
  refine ro rfl rfl (st_mv rfl) ?_
  refine ro rfl rfl (st_ext rfl rfl) ?_
  refine ro rfl rfl (st_ext rfl rfl) ?_
  refine ro rfl rfl (st_as rfl) ?_
  refine ro rfl rfl (st_as rfl) ?_
  refine rw_nilk ?_
  refine awp_rs ?_
  refine ri (N := 11) (rs := [.cell 0 37]) rfl rfl rfl rfl Try.func29 rfl rfl rfl (by kernel_rfl) rfl (fun _B => ?_)
  refine awp_rs ?_
  refine rn (r := 1025) rfl rfl (st_alloc zc37 rfl rfl) rfl ?_
  refine rw_nilk ?_
  refine awp_rs ?_
  refine rn (r := 1026) rfl rfl (st_bsl (els := [[dI .i64 (1 : Int)], [dI .i64 (3 : Int)]]) sl34 zc3 rfl rfl rfl rfl rfl) rfl ?_
  refine rn (r := 1027) rfl rfl (st_bsl (els := [[dI .i64 (1 : Int)]]) sl34 zc3 rfl rfl rfl rfl rfl) rfl ?_
  refine ro rfl rfl (st_build (vs := [dI .i64 (2 : Int), .slice 1027 1 0 1]) bl51 rfl rfl) ?_
  refine rn (r := 1028) rfl rfl (st_bsl (els := [[dI .i64 (3 : Int)]]) sl34 zc3 rfl rfl rfl rfl rfl) rfl ?_
  refine ro rfl rfl (st_build (vs := [dI .i64 (4 : Int), .slice 1028 1 0 1]) bl51 rfl rfl) ?_
  refine rn (r := 1029) rfl rfl (st_bsl (els := [[dI .i64 (2 : Int), .slice 1027 1 0 1], [dI .i64 (4 : Int), .slice 1028 1 0 1]]) sl35 zc51 rfl rfl rfl rfl rfl) rfl ?_
  refine rn (r := 1030) rfl rfl (st_bsl (els := [[dI .i64 (-1 : Int)], [dI .i64 (2 : Int)], [dI .i64 (4 : Int)]]) sl34 zc3 rfl rfl rfl rfl rfl) rfl ?_
  refine rn (r := 1031) rfl rfl (st_bsl (els := [[dI .i64 (-2 : Int)], [dI .i64 (-4 : Int)]]) sl34 zc3 rfl rfl rfl rfl rfl) rfl ?_
  refine rn (r := 1032) rfl rfl (st_bsl (els := [[.slice 1030 1 0 3], [.slice 1031 1 0 2]]) sl23 zc34 rfl rfl rfl rfl rfl) rfl ?_
  refine ro rfl rfl (st_build (vs := [.slice 1026 1 0 2, .slice 1029 1 0 2, .slice 1032 1 0 2]) bl37 rfl rfl) ?_
  refine rx (L' := [(1001, .row 0 25 [[dL 2 e_S_api_Block ([(S_api_Block.mk false [(1 : Int)]), (S_api_Block.mk true [(2 : Int)])]), .slice 1007 1 0 2]]), (1007, .row 1 34 [[dL 1 (eI .i64) [(1 : Int), (2 : Int)]], [dL 1 (eI .i64) [(-1 : Int), (-2 : Int)]]]), (1008, .row 0 25 [[dL 2 e_S_api_Block ([(S_api_Block.mk false [(1 : Int)]), (S_api_Block.mk true [(2 : Int)])]), .slice 1007 1 0 2]]), (1009, .row 0 25 [[dL 2 e_S_api_Block ([(S_api_Block.mk true [(2 : Int)]), (S_api_Block.mk false [(1 : Int)])]), .slice 1015 1 0 2]]), (1015, .row 1 34 [[dL 1 (eI .i64) [(1 : Int), (2 : Int)]], [dL 1 (eI .i64) [(-1 : Int), (-2 : Int)]]]), (1016, .row 0 25 [[dL 2 e_S_api_Block ([(S_api_Block.mk true [(2 : Int)]), (S_api_Block.mk false [(1 : Int)])]), .slice 1015 1 0 2]]), (1017, .row 0 25 [[dL 2 e_S_api_Block ([(S_api_Block.mk true [(2 : Int)]), (S_api_Block.mk false [(1 : Int)])]), dL 1 (eL 1 (eI .i64)) ([[(1 : Int), (2 : Int)], [(-1 : Int), (-2 : Int)]])]]), (1024, .row 0 25 [[dL 2 e_S_api_Block ([(S_api_Block.mk true [(2 : Int)]), (S_api_Block.mk false [(1 : Int)])]), dL 1 (eL 1 (eI .i64)) ([[(1 : Int), (2 : Int)], [(-1 : Int), (-2 : Int)]])]]), (1025, .row 0 37 [[.slice 1026 1 0 2, .slice 1029 1 0 2, .slice 1032 1 0 2]]), (1026, .row 1 3 [[dI .i64 (1 : Int)], [dI .i64 (3 : Int)]]), (1027, .row 1 3 [[dI .i64 (1 : Int)]]), (1028, .row 1 3 [[dI .i64 (3 : Int)]]), (1029, .row 1 51 [[dI .i64 (2 : Int), .slice 1027 1 0 1], [dI .i64 (4 : Int), .slice 1028 1 0 1]]), (1030, .row 1 3 [[dI .i64 (-1 : Int)], [dI .i64 (2 : Int)], [dI .i64 (4 : Int)]]), (1031, .row 1 3 [[dI .i64 (-2 : Int)], [dI .i64 (-4 : Int)]]), (1032, .row 1 34 [[.slice 1030 1 0 3], [.slice 1031 1 0 2]])]) rfl rfl (st_stP ta37 rfl rfl rfl rfl rfl rfl rfl rfl) rfl ?_
  refine rw_nilk ?_
  refine awp_ret ?_
  refine ret_in (v := .agg [.slice 1026 1 0 2, .slice 1029 1 0 2, .slice 1032 1 0 2]) (resV_one (resVs_cell (v := .agg [.slice 1026 1 0 2, .slice 1029 1 0 2, .slice 1032 1 0 2]) ta37 rfl rfl rfl rfl resVs_nil)) ?_
  show RW _ _ _ _ _ _ _
  refine RW.gh (gh_frz (E' := [(1, dI .u8 y101.1), (2, dI .i64 y101.2), (3, dI .u8 y102.1), (4, dI .i64 y102.2), (5, dL 3 e_S_api_Table ((([(S_api_Table.mk (1 : Int) [(2 : Int)] [false, true])], (0 : Int)) : ((List S_api_Table) × Int)).1)), (6, dI .i64 ((([(S_api_Table.mk (1 : Int) [(2 : Int)] [false, true])], (0 : Int)) : ((List S_api_Table) × Int)).2)), (32, .agg [dL 1 (eI .i64) [(1 : Int), (3 : Int)], .slice 1029 1 0 2, .slice 1032 1 0 2])]) (L' := [(1001, .row 0 25 [[dL 2 e_S_api_Block ([(S_api_Block.mk false [(1 : Int)]), (S_api_Block.mk true [(2 : Int)])]), .slice 1007 1 0 2]]), (1007, .row 1 34 [[dL 1 (eI .i64) [(1 : Int), (2 : Int)]], [dL 1 (eI .i64) [(-1 : Int), (-2 : Int)]]]), (1008, .row 0 25 [[dL 2 e_S_api_Block ([(S_api_Block.mk false [(1 : Int)]), (S_api_Block.mk true [(2 : Int)])]), .slice 1007 1 0 2]]), (1009, .row 0 25 [[dL 2 e_S_api_Block ([(S_api_Block.mk true [(2 : Int)]), (S_api_Block.mk false [(1 : Int)])]), .slice 1015 1 0 2]]), (1015, .row 1 34 [[dL 1 (eI .i64) [(1 : Int), (2 : Int)]], [dL 1 (eI .i64) [(-1 : Int), (-2 : Int)]]]), (1016, .row 0 25 [[dL 2 e_S_api_Block ([(S_api_Block.mk true [(2 : Int)]), (S_api_Block.mk false [(1 : Int)])]), .slice 1015 1 0 2]]), (1017, .row 0 25 [[dL 2 e_S_api_Block ([(S_api_Block.mk true [(2 : Int)]), (S_api_Block.mk false [(1 : Int)])]), dL 1 (eL 1 (eI .i64)) ([[(1 : Int), (2 : Int)], [(-1 : Int), (-2 : Int)]])]]), (1024, .row 0 25 [[dL 2 e_S_api_Block ([(S_api_Block.mk true [(2 : Int)]), (S_api_Block.mk false [(1 : Int)])]), dL 1 (eL 1 (eI .i64)) ([[(1 : Int), (2 : Int)], [(-1 : Int), (-2 : Int)]])]]), (1025, .row 0 37 [[dL 1 (eI .i64) [(1 : Int), (3 : Int)], .slice 1029 1 0 2, .slice 1032 1 0 2]]), (1027, .row 1 3 [[dI .i64 (1 : Int)]]), (1028, .row 1 3 [[dI .i64 (3 : Int)]]), (1029, .row 1 51 [[dI .i64 (2 : Int), .slice 1027 1 0 1], [dI .i64 (4 : Int), .slice 1028 1 0 1]]), (1030, .row 1 3 [[dI .i64 (-1 : Int)], [dI .i64 (2 : Int)], [dI .i64 (4 : Int)]]), (1031, .row 1 3 [[dI .i64 (-2 : Int)], [dI .i64 (-4 : Int)]]), (1032, .row 1 34 [[.slice 1030 1 0 3], [.slice 1031 1 0 2]])]) rfl rfl ⟨⟨_, rfl, .keep rfl⟩, ⟨_, rfl, .keep rfl⟩, ⟨_, rfl, .keep rfl⟩, ⟨_, rfl, .keep rfl⟩, ⟨_, rfl, .keep rfl⟩, ⟨_, rfl, .keep rfl⟩, ⟨_, rfl, frz_agg ⟨(frzT (f := (eI .i64)) (xs := [(1 : Int), (3 : Int)]) rfl rfl co3 rfl), (.keep rfl), (.keep rfl), trivial⟩⟩, trivial⟩ ⟨⟨_, rfl, objOne ⟨⟨rfl, .keep rfl⟩, ⟨rfl, .keep rfl⟩, trivial⟩⟩, ⟨_, rfl, objKeep rfl⟩, ⟨_, rfl, objOne ⟨⟨rfl, .keep rfl⟩, ⟨rfl, .keep rfl⟩, trivial⟩⟩, ⟨_, rfl, objOne ⟨⟨rfl, .keep rfl⟩, ⟨rfl, .keep rfl⟩, trivial⟩⟩, ⟨_, rfl, objKeep rfl⟩, ⟨_, rfl, objOne ⟨⟨rfl, .keep rfl⟩, ⟨rfl, .keep rfl⟩, trivial⟩⟩, ⟨_, rfl, objOne ⟨⟨rfl, .keep rfl⟩, ⟨rfl, .keep rfl⟩, trivial⟩⟩, ⟨_, rfl, objOne ⟨⟨rfl, .keep rfl⟩, ⟨rfl, .keep rfl⟩, trivial⟩⟩, ⟨_, rfl, objOne ⟨⟨rfl, frzT (f := (eI .i64)) (xs := [(1 : Int), (3 : Int)]) rfl rfl co3 rfl⟩, ⟨rfl, .keep rfl⟩, ⟨rfl, .keep rfl⟩, trivial⟩⟩, ⟨_, rfl, objOne ⟨⟨rfl, .keep rfl⟩, trivial⟩⟩, ⟨_, rfl, objOne ⟨⟨rfl, .keep rfl⟩, trivial⟩⟩, ⟨_, rfl, objKeep rfl⟩, ⟨_, rfl, objKeep rfl⟩, ⟨_, rfl, objKeep rfl⟩, ⟨_, rfl, objKeep rfl⟩, trivial⟩) ?_
  refine RW.gh (gh_frz (E' := [(1, dI .u8 y101.1), (2, dI .i64 y101.2), (3, dI .u8 y102.1), (4, dI .i64 y102.2), (5, dL 3 e_S_api_Table ((([(S_api_Table.mk (1 : Int) [(2 : Int)] [false, true])], (0 : Int)) : ((List S_api_Table) × Int)).1)), (6, dI .i64 ((([(S_api_Table.mk (1 : Int) [(2 : Int)] [false, true])], (0 : Int)) : ((List S_api_Table) × Int)).2)), (32, .agg [dL 1 (eI .i64) [(1 : Int), (3 : Int)], .slice 1029 1 0 2, .slice 1032 1 0 2])]) (L' := [(1001, .row 0 25 [[dL 2 e_S_api_Block ([(S_api_Block.mk false [(1 : Int)]), (S_api_Block.mk true [(2 : Int)])]), .slice 1007 1 0 2]]), (1007, .row 1 34 [[dL 1 (eI .i64) [(1 : Int), (2 : Int)]], [dL 1 (eI .i64) [(-1 : Int), (-2 : Int)]]]), (1008, .row 0 25 [[dL 2 e_S_api_Block ([(S_api_Block.mk false [(1 : Int)]), (S_api_Block.mk true [(2 : Int)])]), .slice 1007 1 0 2]]), (1009, .row 0 25 [[dL 2 e_S_api_Block ([(S_api_Block.mk true [(2 : Int)]), (S_api_Block.mk false [(1 : Int)])]), .slice 1015 1 0 2]]), (1015, .row 1 34 [[dL 1 (eI .i64) [(1 : Int), (2 : Int)]], [dL 1 (eI .i64) [(-1 : Int), (-2 : Int)]]]), (1016, .row 0 25 [[dL 2 e_S_api_Block ([(S_api_Block.mk true [(2 : Int)]), (S_api_Block.mk false [(1 : Int)])]), .slice 1015 1 0 2]]), (1017, .row 0 25 [[dL 2 e_S_api_Block ([(S_api_Block.mk true [(2 : Int)]), (S_api_Block.mk false [(1 : Int)])]), dL 1 (eL 1 (eI .i64)) ([[(1 : Int), (2 : Int)], [(-1 : Int), (-2 : Int)]])]]), (1024, .row 0 25 [[dL 2 e_S_api_Block ([(S_api_Block.mk true [(2 : Int)]), (S_api_Block.mk false [(1 : Int)])]), dL 1 (eL 1 (eI .i64)) ([[(1 : Int), (2 : Int)], [(-1 : Int), (-2 : Int)]])]]), (1025, .row 0 37 [[dL 1 (eI .i64) [(1 : Int), (3 : Int)], .slice 1029 1 0 2, .slice 1032 1 0 2]]), (1028, .row 1 3 [[dI .i64 (3 : Int)]]), (1029, .row 1 51 [[dI .i64 (2 : Int), dL 1 (eI .i64) [(1 : Int)]], [dI .i64 (4 : Int), .slice 1028 1 0 1]]), (1030, .row 1 3 [[dI .i64 (-1 : Int)], [dI .i64 (2 : Int)], [dI .i64 (4 : Int)]]), (1031, .row 1 3 [[dI .i64 (-2 : Int)], [dI .i64 (-4 : Int)]]), (1032, .row 1 34 [[.slice 1030 1 0 3], [.slice 1031 1 0 2]])]) rfl rfl ⟨⟨_, rfl, .keep rfl⟩, ⟨_, rfl, .keep rfl⟩, ⟨_, rfl, .keep rfl⟩, ⟨_, rfl, .keep rfl⟩, ⟨_, rfl, .keep rfl⟩, ⟨_, rfl, .keep rfl⟩, ⟨_, rfl, .keep rfl⟩, trivial⟩ ⟨⟨_, rfl, objOne ⟨⟨rfl, .keep rfl⟩, ⟨rfl, .keep rfl⟩, trivial⟩⟩, ⟨_, rfl, objKeep rfl⟩, ⟨_, rfl, objOne ⟨⟨rfl, .keep rfl⟩, ⟨rfl, .keep rfl⟩, trivial⟩⟩, ⟨_, rfl, objOne ⟨⟨rfl, .keep rfl⟩, ⟨rfl, .keep rfl⟩, trivial⟩⟩, ⟨_, rfl, objKeep rfl⟩, ⟨_, rfl, objOne ⟨⟨rfl, .keep rfl⟩, ⟨rfl, .keep rfl⟩, trivial⟩⟩, ⟨_, rfl, objOne ⟨⟨rfl, .keep rfl⟩, ⟨rfl, .keep rfl⟩, trivial⟩⟩, ⟨_, rfl, objOne ⟨⟨rfl, .keep rfl⟩, ⟨rfl, .keep rfl⟩, trivial⟩⟩, ⟨_, rfl, objOne ⟨⟨rfl, .keep rfl⟩, ⟨rfl, .keep rfl⟩, ⟨rfl, .keep rfl⟩, trivial⟩⟩, ⟨_, rfl, objOne ⟨⟨rfl, .keep rfl⟩, trivial⟩⟩, ⟨_, rfl, objEls ⟨⟨⟨rfl, .keep rfl⟩, ⟨rfl, frzT (f := (eI .i64)) (xs := [(1 : Int)]) rfl rfl co3 rfl⟩, trivial⟩, ⟨⟨rfl, .keep rfl⟩, ⟨rfl, .keep rfl⟩, trivial⟩, trivial⟩⟩, ⟨_, rfl, objKeep rfl⟩, ⟨_, rfl, objKeep rfl⟩, ⟨_, rfl, objKeep rfl⟩, trivial⟩) ?_
  refine RW.gh (gh_frz (E' := [(1, dI .u8 y101.1), (2, dI .i64 y101.2), (3, dI .u8 y102.1), (4, dI .i64 y102.2), (5, dL 3 e_S_api_Table ((([(S_api_Table.mk (1 : Int) [(2 : Int)] [false, true])], (0 : Int)) : ((List S_api_Table) × Int)).1)), (6, dI .i64 ((([(S_api_Table.mk (1 : Int) [(2 : Int)] [false, true])], (0 : Int)) : ((List S_api_Table) × Int)).2)), (32, .agg [dL 1 (eI .i64) [(1 : Int), (3 : Int)], .slice 1029 1 0 2, .slice 1032 1 0 2])]) (L' := [(1001, .row 0 25 [[dL 2 e_S_api_Block ([(S_api_Block.mk false [(1 : Int)]), (S_api_Block.mk true [(2 : Int)])]), .slice 1007 1 0 2]]), (1007, .row 1 34 [[dL 1 (eI .i64) [(1 : Int), (2 : Int)]], [dL 1 (eI .i64) [(-1 : Int), (-2 : Int)]]]), (1008, .row 0 25 [[dL 2 e_S_api_Block ([(S_api_Block.mk false [(1 : Int)]), (S_api_Block.mk true [(2 : Int)])]), .slice 1007 1 0 2]]), (1009, .row 0 25 [[dL 2 e_S_api_Block ([(S_api_Block.mk true [(2 : Int)]), (S_api_Block.mk false [(1 : Int)])]), .slice 1015 1 0 2]]), (1015, .row 1 34 [[dL 1 (eI .i64) [(1 : Int), (2 : Int)]], [dL 1 (eI .i64) [(-1 : Int), (-2 : Int)]]]), (1016, .row 0 25 [[dL 2 e_S_api_Block ([(S_api_Block.mk true [(2 : Int)]), (S_api_Block.mk false [(1 : Int)])]), .slice 1015 1 0 2]]), (1017, .row 0 25 [[dL 2 e_S_api_Block ([(S_api_Block.mk true [(2 : Int)]), (S_api_Block.mk false [(1 : Int)])]), dL 1 (eL 1 (eI .i64)) ([[(1 : Int), (2 : Int)], [(-1 : Int), (-2 : Int)]])]]), (1024, .row 0 25 [[dL 2 e_S_api_Block ([(S_api_Block.mk true [(2 : Int)]), (S_api_Block.mk false [(1 : Int)])]), dL 1 (eL 1 (eI .i64)) ([[(1 : Int), (2 : Int)], [(-1 : Int), (-2 : Int)]])]]), (1025, .row 0 37 [[dL 1 (eI .i64) [(1 : Int), (3 : Int)], .slice 1029 1 0 2, .slice 1032 1 0 2]]), (1029, .row 1 51 [[dI .i64 (2 : Int), dL 1 (eI .i64) [(1 : Int)]], [dI .i64 (4 : Int), dL 1 (eI .i64) [(3 : Int)]]]), (1030, .row 1 3 [[dI .i64 (-1 : Int)], [dI .i64 (2 : Int)], [dI .i64 (4 : Int)]]), (1031, .row 1 3 [[dI .i64 (-2 : Int)], [dI .i64 (-4 : Int)]]), (1032, .row 1 34 [[.slice 1030 1 0 3], [.slice 1031 1 0 2]])]) rfl rfl ⟨⟨_, rfl, .keep rfl⟩, ⟨_, rfl, .keep rfl⟩, ⟨_, rfl, .keep rfl⟩, ⟨_, rfl, .keep rfl⟩, ⟨_, rfl, .keep rfl⟩, ⟨_, rfl, .keep rfl⟩, ⟨_, rfl, .keep rfl⟩, trivial⟩ ⟨⟨_, rfl, objOne ⟨⟨rfl, .keep rfl⟩, ⟨rfl, .keep rfl⟩, trivial⟩⟩, ⟨_, rfl, objKeep rfl⟩, ⟨_, rfl, objOne ⟨⟨rfl, .keep rfl⟩, ⟨rfl, .keep rfl⟩, trivial⟩⟩, ⟨_, rfl, objOne ⟨⟨rfl, .keep rfl⟩, ⟨rfl, .keep rfl⟩, trivial⟩⟩, ⟨_, rfl, objKeep rfl⟩, ⟨_, rfl, objOne ⟨⟨rfl, .keep rfl⟩, ⟨rfl, .keep rfl⟩, trivial⟩⟩, ⟨_, rfl, objOne ⟨⟨rfl, .keep rfl⟩, ⟨rfl, .keep rfl⟩, trivial⟩⟩, ⟨_, rfl, objOne ⟨⟨rfl, .keep rfl⟩, ⟨rfl, .keep rfl⟩, trivial⟩⟩, ⟨_, rfl, objOne ⟨⟨rfl, .keep rfl⟩, ⟨rfl, .keep rfl⟩, ⟨rfl, .keep rfl⟩, trivial⟩⟩, ⟨_, rfl, objEls ⟨⟨⟨rfl, .keep rfl⟩, ⟨rfl, .keep rfl⟩, trivial⟩, ⟨⟨rfl, .keep rfl⟩, ⟨rfl, frzT (f := (eI .i64)) (xs := [(3 : Int)]) rfl rfl co3 rfl⟩, trivial⟩, trivial⟩⟩, ⟨_, rfl, objKeep rfl⟩, ⟨_, rfl, objKeep rfl⟩, ⟨_, rfl, objKeep rfl⟩, trivial⟩) ?_
  refine RW.gh (gh_frz (E' := [(1, dI .u8 y101.1), (2, dI .i64 y101.2), (3, dI .u8 y102.1), (4, dI .i64 y102.2), (5, dL 3 e_S_api_Table ((([(S_api_Table.mk (1 : Int) [(2 : Int)] [false, true])], (0 : Int)) : ((List S_api_Table) × Int)).1)), (6, dI .i64 ((([(S_api_Table.mk (1 : Int) [(2 : Int)] [false, true])], (0 : Int)) : ((List S_api_Table) × Int)).2)), (32, .agg [dL 1 (eI .i64) [(1 : Int), (3 : Int)], dL 2 e_S_api_Dep ([(S_api_Dep.mk (2 : Int) [(1 : Int)]), (S_api_Dep.mk (4 : Int) [(3 : Int)])]), .slice 1032 1 0 2])]) (L' := [(1001, .row 0 25 [[dL 2 e_S_api_Block ([(S_api_Block.mk false [(1 : Int)]), (S_api_Block.mk true [(2 : Int)])]), .slice 1007 1 0 2]]), (1007, .row 1 34 [[dL 1 (eI .i64) [(1 : Int), (2 : Int)]], [dL 1 (eI .i64) [(-1 : Int), (-2 : Int)]]]), (1008, .row 0 25 [[dL 2 e_S_api_Block ([(S_api_Block.mk false [(1 : Int)]), (S_api_Block.mk true [(2 : Int)])]), .slice 1007 1 0 2]]), (1009, .row 0 25 [[dL 2 e_S_api_Block ([(S_api_Block.mk true [(2 : Int)]), (S_api_Block.mk false [(1 : Int)])]), .slice 1015 1 0 2]]), (1015, .row 1 34 [[dL 1 (eI .i64) [(1 : Int), (2 : Int)]], [dL 1 (eI .i64) [(-1 : Int), (-2 : Int)]]]), (1016, .row 0 25 [[dL 2 e_S_api_Block ([(S_api_Block.mk true [(2 : Int)]), (S_api_Block.mk false [(1 : Int)])]), .slice 1015 1 0 2]]), (1017, .row 0 25 [[dL 2 e_S_api_Block ([(S_api_Block.mk true [(2 : Int)]), (S_api_Block.mk false [(1 : Int)])]), dL 1 (eL 1 (eI .i64)) ([[(1 : Int), (2 : Int)], [(-1 : Int), (-2 : Int)]])]]), (1024, .row 0 25 [[dL 2 e_S_api_Block ([(S_api_Block.mk true [(2 : Int)]), (S_api_Block.mk false [(1 : Int)])]), dL 1 (eL 1 (eI .i64)) ([[(1 : Int), (2 : Int)], [(-1 : Int), (-2 : Int)]])]]), (1025, .row 0 37 [[dL 1 (eI .i64) [(1 : Int), (3 : Int)], dL 2 e_S_api_Dep ([(S_api_Dep.mk (2 : Int) [(1 : Int)]), (S_api_Dep.mk (4 : Int) [(3 : Int)])]), .slice 1032 1 0 2]]), (1030, .row 1 3 [[dI .i64 (-1 : Int)], [dI .i64 (2 : Int)], [dI .i64 (4 : Int)]]), (1031, .row 1 3 [[dI .i64 (-2 : Int)], [dI .i64 (-4 : Int)]]), (1032, .row 1 34 [[.slice 1030 1 0 3], [.slice 1031 1 0 2]])]) rfl rfl ⟨⟨_, rfl, .keep rfl⟩, ⟨_, rfl, .keep rfl⟩, ⟨_, rfl, .keep rfl⟩, ⟨_, rfl, .keep rfl⟩, ⟨_, rfl, .keep rfl⟩, ⟨_, rfl, .keep rfl⟩, ⟨_, rfl, frz_agg ⟨(.keep rfl), (frzT (f := e_S_api_Dep) (xs := [(S_api_Dep.mk (2 : Int) [(1 : Int)]), (S_api_Dep.mk (4 : Int) [(3 : Int)])]) rfl rfl co51 rfl), (.keep rfl), trivial⟩⟩, trivial⟩ ⟨⟨_, rfl, objOne ⟨⟨rfl, .keep rfl⟩, ⟨rfl, .keep rfl⟩, trivial⟩⟩, ⟨_, rfl, objKeep rfl⟩, ⟨_, rfl, objOne ⟨⟨rfl, .keep rfl⟩, ⟨rfl, .keep rfl⟩, trivial⟩⟩, ⟨_, rfl, objOne ⟨⟨rfl, .keep rfl⟩, ⟨rfl, .keep rfl⟩, trivial⟩⟩, ⟨_, rfl, objKeep rfl⟩, ⟨_, rfl, objOne ⟨⟨rfl, .keep rfl⟩, ⟨rfl, .keep rfl⟩, trivial⟩⟩, ⟨_, rfl, objOne ⟨⟨rfl, .keep rfl⟩, ⟨rfl, .keep rfl⟩, trivial⟩⟩, ⟨_, rfl, objOne ⟨⟨rfl, .keep rfl⟩, ⟨rfl, .keep rfl⟩, trivial⟩⟩, ⟨_, rfl, objOne ⟨⟨rfl, .keep rfl⟩, ⟨rfl, frzT (f := e_S_api_Dep) (xs := [(S_api_Dep.mk (2 : Int) [(1 : Int)]), (S_api_Dep.mk (4 : Int) [(3 : Int)])]) rfl rfl co51 rfl⟩, ⟨rfl, .keep rfl⟩, trivial⟩⟩, ⟨_, rfl, objKeep rfl⟩, ⟨_, rfl, objKeep rfl⟩, ⟨_, rfl, objKeep rfl⟩, trivial⟩) ?_
  refine RW.gh (gh_frz (E' := [(1, dI .u8 y101.1), (2, dI .i64 y101.2), (3, dI .u8 y102.1), (4, dI .i64 y102.2), (5, dL 3 e_S_api_Table ((([(S_api_Table.mk (1 : Int) [(2 : Int)] [false, true])], (0 : Int)) : ((List S_api_Table) × Int)).1)), (6, dI .i64 ((([(S_api_Table.mk (1 : Int) [(2 : Int)] [false, true])], (0 : Int)) : ((List S_api_Table) × Int)).2)), (32, .agg [dL 1 (eI .i64) [(1 : Int), (3 : Int)], dL 2 e_S_api_Dep ([(S_api_Dep.mk (2 : Int) [(1 : Int)]), (S_api_Dep.mk (4 : Int) [(3 : Int)])]), .slice 1032 1 0 2])]) (L' := [(1001, .row 0 25 [[dL 2 e_S_api_Block ([(S_api_Block.mk false [(1 : Int)]), (S_api_Block.mk true [(2 : Int)])]), .slice 1007 1 0 2]]), (1007, .row 1 34 [[dL 1 (eI .i64) [(1 : Int), (2 : Int)]], [dL 1 (eI .i64) [(-1 : Int), (-2 : Int)]]]), (1008, .row 0 25 [[dL 2 e_S_api_Block ([(S_api_Block.mk false [(1 : Int)]), (S_api_Block.mk true [(2 : Int)])]), .slice 1007 1 0 2]]), (1009, .row 0 25 [[dL 2 e_S_api_Block ([(S_api_Block.mk true [(2 : Int)]), (S_api_Block.mk false [(1 : Int)])]), .slice 1015 1 0 2]]), (1015, .row 1 34 [[dL 1 (eI .i64) [(1 : Int), (2 : Int)]], [dL 1 (eI .i64) [(-1 : Int), (-2 : Int)]]]), (1016, .row 0 25 [[dL 2 e_S_api_Block ([(S_api_Block.mk true [(2 : Int)]), (S_api_Block.mk false [(1 : Int)])]), .slice 1015 1 0 2]]), (1017, .row 0 25 [[dL 2 e_S_api_Block ([(S_api_Block.mk true [(2 : Int)]), (S_api_Block.mk false [(1 : Int)])]), dL 1 (eL 1 (eI .i64)) ([[(1 : Int), (2 : Int)], [(-1 : Int), (-2 : Int)]])]]), (1024, .row 0 25 [[dL 2 e_S_api_Block ([(S_api_Block.mk true [(2 : Int)]), (S_api_Block.mk false [(1 : Int)])]), dL 1 (eL 1 (eI .i64)) ([[(1 : Int), (2 : Int)], [(-1 : Int), (-2 : Int)]])]]), (1025, .row 0 37 [[dL 1 (eI .i64) [(1 : Int), (3 : Int)], dL 2 e_S_api_Dep ([(S_api_Dep.mk (2 : Int) [(1 : Int)]), (S_api_Dep.mk (4 : Int) [(3 : Int)])]), .slice 1032 1 0 2]]), (1031, .row 1 3 [[dI .i64 (-2 : Int)], [dI .i64 (-4 : Int)]]), (1032, .row 1 34 [[dL 1 (eI .i64) [(-1 : Int), (2 : Int), (4 : Int)]], [.slice 1031 1 0 2]])]) rfl rfl ⟨⟨_, rfl, .keep rfl⟩, ⟨_, rfl, .keep rfl⟩, ⟨_, rfl, .keep rfl⟩, ⟨_, rfl, .keep rfl⟩, ⟨_, rfl, .keep rfl⟩, ⟨_, rfl, .keep rfl⟩, ⟨_, rfl, .keep rfl⟩, trivial⟩ ⟨⟨_, rfl, objOne ⟨⟨rfl, .keep rfl⟩, ⟨rfl, .keep rfl⟩, trivial⟩⟩, ⟨_, rfl, objKeep rfl⟩, ⟨_, rfl, objOne ⟨⟨rfl, .keep rfl⟩, ⟨rfl, .keep rfl⟩, trivial⟩⟩, ⟨_, rfl, objOne ⟨⟨rfl, .keep rfl⟩, ⟨rfl, .keep rfl⟩, trivial⟩⟩, ⟨_, rfl, objKeep rfl⟩, ⟨_, rfl, objOne ⟨⟨rfl, .keep rfl⟩, ⟨rfl, .keep rfl⟩, trivial⟩⟩, ⟨_, rfl, objOne ⟨⟨rfl, .keep rfl⟩, ⟨rfl, .keep rfl⟩, trivial⟩⟩, ⟨_, rfl, objOne ⟨⟨rfl, .keep rfl⟩, ⟨rfl, .keep rfl⟩, trivial⟩⟩, ⟨_, rfl, objOne ⟨⟨rfl, .keep rfl⟩, ⟨rfl, .keep rfl⟩, ⟨rfl, .keep rfl⟩, trivial⟩⟩, ⟨_, rfl, objKeep rfl⟩, ⟨_, rfl, objEls ⟨⟨⟨rfl, frzT (f := (eI .i64)) (xs := [(-1 : Int), (2 : Int), (4 : Int)]) rfl rfl co3 rfl⟩, trivial⟩, ⟨⟨rfl, .keep rfl⟩, trivial⟩, trivial⟩⟩, trivial⟩) ?_
  refine RW.gh (gh_frz (E' := [(1, dI .u8 y101.1), (2, dI .i64 y101.2), (3, dI .u8 y102.1), (4, dI .i64 y102.2), (5, dL 3 e_S_api_Table ((([(S_api_Table.mk (1 : Int) [(2 : Int)] [false, true])], (0 : Int)) : ((List S_api_Table) × Int)).1)), (6, dI .i64 ((([(S_api_Table.mk (1 : Int) [(2 : Int)] [false, true])], (0 : Int)) : ((List S_api_Table) × Int)).2)), (32, .agg [dL 1 (eI .i64) [(1 : Int), (3 : Int)], dL 2 e_S_api_Dep ([(S_api_Dep.mk (2 : Int) [(1 : Int)]), (S_api_Dep.mk (4 : Int) [(3 : Int)])]), .slice 1032 1 0 2])]) (L' := [(1001, .row 0 25 [[dL 2 e_S_api_Block ([(S_api_Block.mk false [(1 : Int)]), (S_api_Block.mk true [(2 : Int)])]), .slice 1007 1 0 2]]), (1007, .row 1 34 [[dL 1 (eI .i64) [(1 : Int), (2 : Int)]], [dL 1 (eI .i64) [(-1 : Int), (-2 : Int)]]]), (1008, .row 0 25 [[dL 2 e_S_api_Block ([(S_api_Block.mk false [(1 : Int)]), (S_api_Block.mk true [(2 : Int)])]), .slice 1007 1 0 2]]), (1009, .row 0 25 [[dL 2 e_S_api_Block ([(S_api_Block.mk true [(2 : Int)]), (S_api_Block.mk false [(1 : Int)])]), .slice 1015 1 0 2]]), (1015, .row 1 34 [[dL 1 (eI .i64) [(1 : Int), (2 : Int)]], [dL 1 (eI .i64) [(-1 : Int), (-2 : Int)]]]), (1016, .row 0 25 [[dL 2 e_S_api_Block ([(S_api_Block.mk true [(2 : Int)]), (S_api_Block.mk false [(1 : Int)])]), .slice 1015 1 0 2]]), (1017, .row 0 25 [[dL 2 e_S_api_Block ([(S_api_Block.mk true [(2 : Int)]), (S_api_Block.mk false [(1 : Int)])]), dL 1 (eL 1 (eI .i64)) ([[(1 : Int), (2 : Int)], [(-1 : Int), (-2 : Int)]])]]), (1024, .row 0 25 [[dL 2 e_S_api_Block ([(S_api_Block.mk true [(2 : Int)]), (S_api_Block.mk false [(1 : Int)])]), dL 1 (eL 1 (eI .i64)) ([[(1 : Int), (2 : Int)], [(-1 : Int), (-2 : Int)]])]]), (1025, .row 0 37 [[dL 1 (eI .i64) [(1 : Int), (3 : Int)], dL 2 e_S_api_Dep ([(S_api_Dep.mk (2 : Int) [(1 : Int)]), (S_api_Dep.mk (4 : Int) [(3 : Int)])]), .slice 1032 1 0 2]]), (1032, .row 1 34 [[dL 1 (eI .i64) [(-1 : Int), (2 : Int), (4 : Int)]], [dL 1 (eI .i64) [(-2 : Int), (-4 : Int)]]])]) rfl rfl ⟨⟨_, rfl, .keep rfl⟩, ⟨_, rfl, .keep rfl⟩, ⟨_, rfl, .keep rfl⟩, ⟨_, rfl, .keep rfl⟩, ⟨_, rfl, .keep rfl⟩, ⟨_, rfl, .keep rfl⟩, ⟨_, rfl, .keep rfl⟩, trivial⟩ ⟨⟨_, rfl, objOne ⟨⟨rfl, .keep rfl⟩, ⟨rfl, .keep rfl⟩, trivial⟩⟩, ⟨_, rfl, objKeep rfl⟩, ⟨_, rfl, objOne ⟨⟨rfl, .keep rfl⟩, ⟨rfl, .keep rfl⟩, trivial⟩⟩, ⟨_, rfl, objOne ⟨⟨rfl, .keep rfl⟩, ⟨rfl, .keep rfl⟩, trivial⟩⟩, ⟨_, rfl, objKeep rfl⟩, ⟨_, rfl, objOne ⟨⟨rfl, .keep rfl⟩, ⟨rfl, .keep rfl⟩, trivial⟩⟩, ⟨_, rfl, objOne ⟨⟨rfl, .keep rfl⟩, ⟨rfl, .keep rfl⟩, trivial⟩⟩, ⟨_, rfl, objOne ⟨⟨rfl, .keep rfl⟩, ⟨rfl, .keep rfl⟩, trivial⟩⟩, ⟨_, rfl, objOne ⟨⟨rfl, .keep rfl⟩, ⟨rfl, .keep rfl⟩, ⟨rfl, .keep rfl⟩, trivial⟩⟩, ⟨_, rfl, objEls ⟨⟨⟨rfl, .keep rfl⟩, trivial⟩, ⟨⟨rfl, frzT (f := (eI .i64)) (xs := [(-2 : Int), (-4 : Int)]) rfl rfl co3 rfl⟩, trivial⟩, trivial⟩⟩, trivial⟩) ?_
  refine rl rfl rfl tab_truth_Dqbf_0 rfl ⟨frz_agg ⟨(.keep rfl), (.keep rfl), (frzT (f := (eL 1 (eI .i64))) (xs := [[(-1 : Int), (2 : Int), (4 : Int)], [(-2 : Int), (-4 : Int)]]) rfl rfl co34 rfl), trivial⟩, trivial⟩ rfl ?_
  refine ro rfl rfl (st_mv rfl) ?_
  refine ro rfl rfl (st_ext rfl rfl) ?_
  refine ro rfl rfl (st_ext rfl rfl) ?_
  refine ro rfl rfl (st_as rfl) ?_
  refine ro rfl rfl (st_as rfl) ?_
  refine rw_nilk ?_
  refine awp_rs ?_
  refine rn (r := 1033) rfl rfl (st_bsl (els := [[dI .i64 (1 : Int)]]) sl34 zc3 rfl rfl rfl rfl rfl) rfl ?_
  refine rn (r := 1034) rfl rfl (st_bsl (els := [[.slice 1033 1 0 1]]) sl23 zc34 rfl rfl rfl rfl rfl) rfl ?_
  refine ro rfl rfl (st_build (vs := [.nilS, .slice 1034 1 0 1]) bl25 rfl rfl) ?_
  refine RW.gh (gh_frz (E' := [(1, dI .u8 y101.1), (2, dI .i64 y101.2), (3, dI .u8 y102.1), (4, dI .i64 y102.2), (5, dL 3 e_S_api_Table ((([(S_api_Table.mk (1 : Int) [(2 : Int)] [false, true])], (0 : Int)) : ((List S_api_Table) × Int)).1)), (6, dI .i64 ((([(S_api_Table.mk (1 : Int) [(2 : Int)] [false, true])], (0 : Int)) : ((List S_api_Table) × Int)).2)), (7, dI .u8 ((((1 : Int), (0 : Int)) : (Int × Int)).1)), (8, dI .i64 ((((1 : Int), (0 : Int)) : (Int × Int)).2)), (39, .agg [.nilS, .slice 1034 1 0 1])]) (L' := [(1001, .row 0 25 [[dL 2 e_S_api_Block ([(S_api_Block.mk false [(1 : Int)]), (S_api_Block.mk true [(2 : Int)])]), .slice 1007 1 0 2]]), (1007, .row 1 34 [[dL 1 (eI .i64) [(1 : Int), (2 : Int)]], [dL 1 (eI .i64) [(-1 : Int), (-2 : Int)]]]), (1008, .row 0 25 [[dL 2 e_S_api_Block ([(S_api_Block.mk false [(1 : Int)]), (S_api_Block.mk true [(2 : Int)])]), .slice 1007 1 0 2]]), (1009, .row 0 25 [[dL 2 e_S_api_Block ([(S_api_Block.mk true [(2 : Int)]), (S_api_Block.mk false [(1 : Int)])]), .slice 1015 1 0 2]]), (1015, .row 1 34 [[dL 1 (eI .i64) [(1 : Int), (2 : Int)]], [dL 1 (eI .i64) [(-1 : Int), (-2 : Int)]]]), (1016, .row 0 25 [[dL 2 e_S_api_Block ([(S_api_Block.mk true [(2 : Int)]), (S_api_Block.mk false [(1 : Int)])]), .slice 1015 1 0 2]]), (1017, .row 0 25 [[dL 2 e_S_api_Block ([(S_api_Block.mk true [(2 : Int)]), (S_api_Block.mk false [(1 : Int)])]), dL 1 (eL 1 (eI .i64)) ([[(1 : Int), (2 : Int)], [(-1 : Int), (-2 : Int)]])]]), (1024, .row 0 25 [[dL 2 e_S_api_Block ([(S_api_Block.mk true [(2 : Int)]), (S_api_Block.mk false [(1 : Int)])]), dL 1 (eL 1 (eI .i64)) ([[(1 : Int), (2 : Int)], [(-1 : Int), (-2 : Int)]])]]), (1025, .row 0 37 [[dL 1 (eI .i64) [(1 : Int), (3 : Int)], dL 2 e_S_api_Dep ([(S_api_Dep.mk (2 : Int) [(1 : Int)]), (S_api_Dep.mk (4 : Int) [(3 : Int)])]), .slice 1032 1 0 2]]), (1032, .row 1 34 [[dL 1 (eI .i64) [(-1 : Int), (2 : Int), (4 : Int)]], [dL 1 (eI .i64) [(-2 : Int), (-4 : Int)]]]), (1034, .row 1 34 [[dL 1 (eI .i64) [(1 : Int)]]])]) rfl rfl ⟨⟨_, rfl, .keep rfl⟩, ⟨_, rfl, .keep rfl⟩, ⟨_, rfl, .keep rfl⟩, ⟨_, rfl, .keep rfl⟩, ⟨_, rfl, .keep rfl⟩, ⟨_, rfl, .keep rfl⟩, ⟨_, rfl, .keep rfl⟩, ⟨_, rfl, .keep rfl⟩, ⟨_, rfl, .keep rfl⟩, trivial⟩ ⟨⟨_, rfl, objOne ⟨⟨rfl, .keep rfl⟩, ⟨rfl, .keep rfl⟩, trivial⟩⟩, ⟨_, rfl, objKeep rfl⟩, ⟨_, rfl, objOne ⟨⟨rfl, .keep rfl⟩, ⟨rfl, .keep rfl⟩, trivial⟩⟩, ⟨_, rfl, objOne ⟨⟨rfl, .keep rfl⟩, ⟨rfl, .keep rfl⟩, trivial⟩⟩, ⟨_, rfl, objKeep rfl⟩, ⟨_, rfl, objOne ⟨⟨rfl, .keep rfl⟩, ⟨rfl, .keep rfl⟩, trivial⟩⟩, ⟨_, rfl, objOne ⟨⟨rfl, .keep rfl⟩, ⟨rfl, .keep rfl⟩, trivial⟩⟩, ⟨_, rfl, objOne ⟨⟨rfl, .keep rfl⟩, ⟨rfl, .keep rfl⟩, trivial⟩⟩, ⟨_, rfl, objOne ⟨⟨rfl, .keep rfl⟩, ⟨rfl, .keep rfl⟩, ⟨rfl, .keep rfl⟩, trivial⟩⟩, ⟨_, rfl, objKeep rfl⟩, ⟨_, rfl, objOne ⟨⟨rfl, frzT (f := (eI .i64)) (xs := [(1 : Int)]) rfl rfl co3 rfl⟩, trivial⟩⟩, trivial⟩) ?_
  obtain ⟨y105, hy105, h⟩ := bind_some_elim h
  refine rl rfl rfl (ok_truth_Qbf hy105) rfl ⟨frz_agg ⟨(.nilS _), (frzT (f := (eL 1 (eI .i64))) (xs := [[(1 : Int)]]) rfl rfl co34 rfl), trivial⟩, trivial⟩ rfl ?_
  refine ro rfl rfl (st_mv rfl) ?_
  refine ro rfl rfl (st_ext rfl rfl) ?_
  refine ro rfl rfl (st_ext rfl rfl) ?_
  refine ro rfl rfl (st_as rfl) ?_
  refine ro rfl rfl (st_as rfl) ?_
  refine rw_nilk ?_
  refine awp_rs ?_
  refine ri (N := 29) (rs := [.cell 2 25]) rfl rfl rfl rfl Try.func28 rfl rfl rfl (by kernel_rfl) rfl (fun _B => ?_)
  refine awp_rs ?_
  refine rn (r := 1035) rfl rfl (st_alloc zc25 rfl rfl) rfl ?_
  refine rw_nilk ?_
  refine awp_rs ?_
  refine rn (r := 1036) rfl rfl (st_bsl (els := [[dI .i64 (1 : Int)]]) sl34 zc3 rfl rfl rfl rfl rfl) rfl ?_
  refine ro rfl rfl (st_build (vs := [dB false, .slice 1036 1 0 1]) bl65 rfl rfl) ?_
  refine rn (r := 1037) rfl rfl (st_bsl (els := [[dI .i64 (2 : Int)]]) sl34 zc3 rfl rfl rfl rfl rfl) rfl ?_
  refine ro rfl rfl (st_build (vs := [dB true, .slice 1037 1 0 1]) bl65 rfl rfl) ?_
  refine rn (r := 1038) rfl rfl (st_bsl (els := [[dB false, .slice 1036 1 0 1], [dB true, .slice 1037 1 0 1]]) sl22 zc65 rfl rfl rfl rfl rfl) rfl ?_
  refine rn (r := 1039) rfl rfl (st_bsl (els := [[dI .i64 (1 : Int)], [dI .i64 (2 : Int)]]) sl34 zc3 rfl rfl rfl rfl rfl) rfl ?_
  refine rn (r := 1040) rfl rfl (st_bsl (els := [[dI .i64 (-1 : Int)], [dI .i64 (-2 : Int)]]) sl34 zc3 rfl rfl rfl rfl rfl) rfl ?_
  refine rn (r := 1041) rfl rfl (st_bsl (els := [[.slice 1039 1 0 2], [.slice 1040 1 0 2]]) sl23 zc34 rfl rfl rfl rfl rfl) rfl ?_
  refine ro rfl rfl (st_build (vs := [.slice 1038 1 0 2, .slice 1041 1 0 2]) bl25 rfl rfl) ?_
  refine rn (r := 1042) rfl rfl (st_alloc zc25 rfl rfl) rfl ?_
  refine rx (L' := [(1001, .row 0 25 [[dL 2 e_S_api_Block ([(S_api_Block.mk false [(1 : Int)]), (S_api_Block.mk true [(2 : Int)])]), .slice 1007 1 0 2]]), (1007, .row 1 34 [[dL 1 (eI .i64) [(1 : Int), (2 : Int)]], [dL 1 (eI .i64) [(-1 : Int), (-2 : Int)]]]), (1008, .row 0 25 [[dL 2 e_S_api_Block ([(S_api_Block.mk false [(1 : Int)]), (S_api_Block.mk true [(2 : Int)])]), .slice 1007 1 0 2]]), (1009, .row 0 25 [[dL 2 e_S_api_Block ([(S_api_Block.mk true [(2 : Int)]), (S_api_Block.mk false [(1 : Int)])]), .slice 1015 1 0 2]]), (1015, .row 1 34 [[dL 1 (eI .i64) [(1 : Int), (2 : Int)]], [dL 1 (eI .i64) [(-1 : Int), (-2 : Int)]]]), (1016, .row 0 25 [[dL 2 e_S_api_Block ([(S_api_Block.mk true [(2 : Int)]), (S_api_Block.mk false [(1 : Int)])]), .slice 1015 1 0 2]]), (1017, .row 0 25 [[dL 2 e_S_api_Block ([(S_api_Block.mk true [(2 : Int)]), (S_api_Block.mk false [(1 : Int)])]), dL 1 (eL 1 (eI .i64)) ([[(1 : Int), (2 : Int)], [(-1 : Int), (-2 : Int)]])]]), (1024, .row 0 25 [[dL 2 e_S_api_Block ([(S_api_Block.mk true [(2 : Int)]), (S_api_Block.mk false [(1 : Int)])]), dL 1 (eL 1 (eI .i64)) ([[(1 : Int), (2 : Int)], [(-1 : Int), (-2 : Int)]])]]), (1025, .row 0 37 [[dL 1 (eI .i64) [(1 : Int), (3 : Int)], dL 2 e_S_api_Dep ([(S_api_Dep.mk (2 : Int) [(1 : Int)]), (S_api_Dep.mk (4 : Int) [(3 : Int)])]), .slice 1032 1 0 2]]), (1032, .row 1 34 [[dL 1 (eI .i64) [(-1 : Int), (2 : Int), (4 : Int)]], [dL 1 (eI .i64) [(-2 : Int), (-4 : Int)]]]), (1034, .row 1 34 [[dL 1 (eI .i64) [(1 : Int)]]]), (1035, .row 0 25 [[.nilS, .nilS]]), (1036, .row 1 3 [[dI .i64 (1 : Int)]]), (1037, .row 1 3 [[dI .i64 (2 : Int)]]), (1038, .row 1 65 [[dB false, .slice 1036 1 0 1], [dB true, .slice 1037 1 0 1]]), (1039, .row 1 3 [[dI .i64 (1 : Int)], [dI .i64 (2 : Int)]]), (1040, .row 1 3 [[dI .i64 (-1 : Int)], [dI .i64 (-2 : Int)]]), (1041, .row 1 34 [[.slice 1039 1 0 2], [.slice 1040 1 0 2]]), (1042, .row 0 25 [[.slice 1038 1 0 2, .slice 1041 1 0 2]])]) rfl rfl (st_stP ta25 rfl rfl rfl rfl rfl rfl rfl rfl) rfl ?_
  refine rw_nilk ?_
  refine awp_seq ?_
  refine awp_rs ?_
  refine ro rfl rfl (st_mv rfl) ?_
  refine rw_nilk ?_
  refine awp_condF rfl ?_
  refine awp_skip ?_
  refine nx_then ?_
  refine awp_rs ?_
  refine ro rfl rfl (st_ldP (v := .agg [.slice 1038 1 0 2, .slice 1041 1 0 2]) ta25 rfl rfl rfl rfl) ?_
  refine rx (L' := [(1001, .row 0 25 [[dL 2 e_S_api_Block ([(S_api_Block.mk false [(1 : Int)]), (S_api_Block.mk true [(2 : Int)])]), .slice 1007 1 0 2]]), (1007, .row 1 34 [[dL 1 (eI .i64) [(1 : Int), (2 : Int)]], [dL 1 (eI .i64) [(-1 : Int), (-2 : Int)]]]), (1008, .row 0 25 [[dL 2 e_S_api_Block ([(S_api_Block.mk false [(1 : Int)]), (S_api_Block.mk true [(2 : Int)])]), .slice 1007 1 0 2]]), (1009, .row 0 25 [[dL 2 e_S_api_Block ([(S_api_Block.mk true [(2 : Int)]), (S_api_Block.mk false [(1 : Int)])]), .slice 1015 1 0 2]]), (1015, .row 1 34 [[dL 1 (eI .i64) [(1 : Int), (2 : Int)]], [dL 1 (eI .i64) [(-1 : Int), (-2 : Int)]]]), (1016, .row 0 25 [[dL 2 e_S_api_Block ([(S_api_Block.mk true [(2 : Int)]), (S_api_Block.mk false [(1 : Int)])]), .slice 1015 1 0 2]]), (1017, .row 0 25 [[dL 2 e_S_api_Block ([(S_api_Block.mk true [(2 : Int)]), (S_api_Block.mk false [(1 : Int)])]), dL 1 (eL 1 (eI .i64)) ([[(1 : Int), (2 : Int)], [(-1 : Int), (-2 : Int)]])]]), (1024, .row 0 25 [[dL 2 e_S_api_Block ([(S_api_Block.mk true [(2 : Int)]), (S_api_Block.mk false [(1 : Int)])]), dL 1 (eL 1 (eI .i64)) ([[(1 : Int), (2 : Int)], [(-1 : Int), (-2 : Int)]])]]), (1025, .row 0 37 [[dL 1 (eI .i64) [(1 : Int), (3 : Int)], dL 2 e_S_api_Dep ([(S_api_Dep.mk (2 : Int) [(1 : Int)]), (S_api_Dep.mk (4 : Int) [(3 : Int)])]), .slice 1032 1 0 2]]), (1032, .row 1 34 [[dL 1 (eI .i64) [(-1 : Int), (2 : Int), (4 : Int)]], [dL 1 (eI .i64) [(-2 : Int), (-4 : Int)]]]), (1034, .row 1 34 [[dL 1 (eI .i64) [(1 : Int)]]]), (1035, .row 0 25 [[.slice 1038 1 0 2, .slice 1041 1 0 2]]), (1036, .row 1 3 [[dI .i64 (1 : Int)]]), (1037, .row 1 3 [[dI .i64 (2 : Int)]]), (1038, .row 1 65 [[dB false, .slice 1036 1 0 1], [dB true, .slice 1037 1 0 1]]), (1039, .row 1 3 [[dI .i64 (1 : Int)], [dI .i64 (2 : Int)]]), (1040, .row 1 3 [[dI .i64 (-1 : Int)], [dI .i64 (-2 : Int)]]), (1041, .row 1 34 [[.slice 1039 1 0 2], [.slice 1040 1 0 2]]), (1042, .row 0 25 [[.slice 1038 1 0 2, .slice 1041 1 0 2]])]) rfl rfl (st_stP ta25 rfl rfl rfl rfl rfl rfl rfl rfl) rfl ?_
  refine rw_nilk ?_
  refine awp_ret ?_
  refine ret_in (v := .agg [.slice 1038 1 0 2, .slice 1041 1 0 2]) (resV_one (resVs_cell (v := .agg [.slice 1038 1 0 2, .slice 1041 1 0 2]) ta25 rfl rfl rfl rfl resVs_nil)) ?_
  show RW _ _ _ _ _ _ _
  refine RW.gh (gh_frz (E' := [(1, dI .u8 y101.1), (2, dI .i64 y101.2), (3, dI .u8 y102.1), (4, dI .i64 y102.2), (5, dL 3 e_S_api_Table ((([(S_api_Table.mk (1 : Int) [(2 : Int)] [false, true])], (0 : Int)) : ((List S_api_Table) × Int)).1)), (6, dI .i64 ((([(S_api_Table.mk (1 : Int) [(2 : Int)] [false, true])], (0 : Int)) : ((List S_api_Table) × Int)).2)), (7, dI .u8 ((((1 : Int), (0 : Int)) : (Int × Int)).1)), (8, dI .i64 ((((1 : Int), (0 : Int)) : (Int × Int)).2)), (10, dI .i64 y105.2), (44, .agg [.slice 1038 1 0 2, .slice 1041 1 0 2])]) (L' := [(1001, .row 0 25 [[dL 2 e_S_api_Block ([(S_api_Block.mk false [(1 : Int)]), (S_api_Block.mk true [(2 : Int)])]), .slice 1007 1 0 2]]), (1007, .row 1 34 [[dL 1 (eI .i64) [(1 : Int), (2 : Int)]], [dL 1 (eI .i64) [(-1 : Int), (-2 : Int)]]]), (1008, .row 0 25 [[dL 2 e_S_api_Block ([(S_api_Block.mk false [(1 : Int)]), (S_api_Block.mk true [(2 : Int)])]), .slice 1007 1 0 2]]), (1009, .row 0 25 [[dL 2 e_S_api_Block ([(S_api_Block.mk true [(2 : Int)]), (S_api_Block.mk false [(1 : Int)])]), .slice 1015 1 0 2]]), (1015, .row 1 34 [[dL 1 (eI .i64) [(1 : Int), (2 : Int)]], [dL 1 (eI .i64) [(-1 : Int), (-2 : Int)]]]), (1016, .row 0 25 [[dL 2 e_S_api_Block ([(S_api_Block.mk true [(2 : Int)]), (S_api_Block.mk false [(1 : Int)])]), .slice 1015 1 0 2]]), (1017, .row 0 25 [[dL 2 e_S_api_Block ([(S_api_Block.mk true [(2 : Int)]), (S_api_Block.mk false [(1 : Int)])]), dL 1 (eL 1 (eI .i64)) ([[(1 : Int), (2 : Int)], [(-1 : Int), (-2 : Int)]])]]), (1024, .row 0 25 [[dL 2 e_S_api_Block ([(S_api_Block.mk true [(2 : Int)]), (S_api_Block.mk false [(1 : Int)])]), dL 1 (eL 1 (eI .i64)) ([[(1 : Int), (2 : Int)], [(-1 : Int), (-2 : Int)]])]]), (1025, .row 0 37 [[dL 1 (eI .i64) [(1 : Int), (3 : Int)], dL 2 e_S_api_Dep ([(S_api_Dep.mk (2 : Int) [(1 : Int)]), (S_api_Dep.mk (4 : Int) [(3 : Int)])]), .slice 1032 1 0 2]]), (1032, .row 1 34 [[dL 1 (eI .i64) [(-1 : Int), (2 : Int), (4 : Int)]], [dL 1 (eI .i64) [(-2 : Int), (-4 : Int)]]]), (1034, .row 1 34 [[dL 1 (eI .i64) [(1 : Int)]]]), (1035, .row 0 25 [[.slice 1038 1 0 2, .slice 1041 1 0 2]]), (1037, .row 1 3 [[dI .i64 (2 : Int)]]), (1038, .row 1 65 [[dB false, dL 1 (eI .i64) [(1 : Int)]], [dB true, .slice 1037 1 0 1]]), (1039, .row 1 3 [[dI .i64 (1 : Int)], [dI .i64 (2 : Int)]]), (1040, .row 1 3 [[dI .i64 (-1 : Int)], [dI .i64 (-2 : Int)]]), (1041, .row 1 34 [[.slice 1039 1 0 2], [.slice 1040 1 0 2]]), (1042, .row 0 25 [[.slice 1038 1 0 2, .slice 1041 1 0 2]])]) rfl rfl ⟨⟨_, rfl, .keep rfl⟩, ⟨_, rfl, .keep rfl⟩, ⟨_, rfl, .keep rfl⟩, ⟨_, rfl, .keep rfl⟩, ⟨_, rfl, .keep rfl⟩, ⟨_, rfl, .keep rfl⟩, ⟨_, rfl, .keep rfl⟩, ⟨_, rfl, .keep rfl⟩, ⟨_, rfl, .keep rfl⟩, ⟨_, rfl, .keep rfl⟩, trivial⟩ ⟨⟨_, rfl, objOne ⟨⟨rfl, .keep rfl⟩, ⟨rfl, .keep rfl⟩, trivial⟩⟩, ⟨_, rfl, objKeep rfl⟩, ⟨_, rfl, objOne ⟨⟨rfl, .keep rfl⟩, ⟨rfl, .keep rfl⟩, trivial⟩⟩, ⟨_, rfl, objOne ⟨⟨rfl, .keep rfl⟩, ⟨rfl, .keep rfl⟩, trivial⟩⟩, ⟨_, rfl, objKeep rfl⟩, ⟨_, rfl, objOne ⟨⟨rfl, .keep rfl⟩, ⟨rfl, .keep rfl⟩, trivial⟩⟩, ⟨_, rfl, objOne ⟨⟨rfl, .keep rfl⟩, ⟨rfl, .keep rfl⟩, trivial⟩⟩, ⟨_, rfl, objOne ⟨⟨rfl, .keep rfl⟩, ⟨rfl, .keep rfl⟩, trivial⟩⟩, ⟨_, rfl, objOne ⟨⟨rfl, .keep rfl⟩, ⟨rfl, .keep rfl⟩, ⟨rfl, .keep rfl⟩, trivial⟩⟩, ⟨_, rfl, objKeep rfl⟩, ⟨_, rfl, objOne ⟨⟨rfl, .keep rfl⟩, trivial⟩⟩, ⟨_, rfl, objOne ⟨⟨rfl, .keep rfl⟩, ⟨rfl, .keep rfl⟩, trivial⟩⟩, ⟨_, rfl, objOne ⟨⟨rfl, .keep rfl⟩, trivial⟩⟩, ⟨_, rfl, objEls ⟨⟨⟨rfl, .keep rfl⟩, ⟨rfl, frzT (f := (eI .i64)) (xs := [(1 : Int)]) rfl rfl co3 rfl⟩, trivial⟩, ⟨⟨rfl, .keep rfl⟩, ⟨rfl, .keep rfl⟩, trivial⟩, trivial⟩⟩, ⟨_, rfl, objKeep rfl⟩, ⟨_, rfl, objKeep rfl⟩, ⟨_, rfl, objKeep rfl⟩, ⟨_, rfl, objOne ⟨⟨rfl, .keep rfl⟩, ⟨rfl, .keep rfl⟩, trivial⟩⟩, trivial⟩) ?_
  refine RW.gh (gh_frz (E' := [(1, dI .u8 y101.1), (2, dI .i64 y101.2), (3, dI .u8 y102.1), (4, dI .i64 y102.2), (5, dL 3 e_S_api_Table ((([(S_api_Table.mk (1 : Int) [(2 : Int)] [false, true])], (0 : Int)) : ((List S_api_Table) × Int)).1)), (6, dI .i64 ((([(S_api_Table.mk (1 : Int) [(2 : Int)] [false, true])], (0 : Int)) : ((List S_api_Table) × Int)).2)), (7, dI .u8 ((((1 : Int), (0 : Int)) : (Int × Int)).1)), (8, dI .i64 ((((1 : Int), (0 : Int)) : (Int × Int)).2)), (10, dI .i64 y105.2), (44, .agg [.slice 1038 1 0 2, .slice 1041 1 0 2])]) (L' := [(1001, .row 0 25 [[dL 2 e_S_api_Block ([(S_api_Block.mk false [(1 : Int)]), (S_api_Block.mk true [(2 : Int)])]), .slice 1007 1 0 2]]), (1007, .row 1 34 [[dL 1 (eI .i64) [(1 : Int), (2 : Int)]], [dL 1 (eI .i64) [(-1 : Int), (-2 : Int)]]]), (1008, .row 0 25 [[dL 2 e_S_api_Block ([(S_api_Block.mk false [(1 : Int)]), (S_api_Block.mk true [(2 : Int)])]), .slice 1007 1 0 2]]), (1009, .row 0 25 [[dL 2 e_S_api_Block ([(S_api_Block.mk true [(2 : Int)]), (S_api_Block.mk false [(1 : Int)])]), .slice 1015 1 0 2]]), (1015, .row 1 34 [[dL 1 (eI .i64) [(1 : Int), (2 : Int)]], [dL 1 (eI .i64) [(-1 : Int), (-2 : Int)]]]), (1016, .row 0 25 [[dL 2 e_S_api_Block ([(S_api_Block.mk true [(2 : Int)]), (S_api_Block.mk false [(1 : Int)])]), .slice 1015 1 0 2]]), (1017, .row 0 25 [[dL 2 e_S_api_Block ([(S_api_Block.mk true [(2 : Int)]), (S_api_Block.mk false [(1 : Int)])]), dL 1 (eL 1 (eI .i64)) ([[(1 : Int), (2 : Int)], [(-1 : Int), (-2 : Int)]])]]), (1024, .row 0 25 [[dL 2 e_S_api_Block ([(S_api_Block.mk true [(2 : Int)]), (S_api_Block.mk false [(1 : Int)])]), dL 1 (eL 1 (eI .i64)) ([[(1 : Int), (2 : Int)], [(-1 : Int), (-2 : Int)]])]]), (1025, .row 0 37 [[dL 1 (eI .i64) [(1 : Int), (3 : Int)], dL 2 e_S_api_Dep ([(S_api_Dep.mk (2 : Int) [(1 : Int)]), (S_api_Dep.mk (4 : Int) [(3 : Int)])]), .slice 1032 1 0 2]]), (1032, .row 1 34 [[dL 1 (eI .i64) [(-1 : Int), (2 : Int), (4 : Int)]], [dL 1 (eI .i64) [(-2 : Int), (-4 : Int)]]]), (1034, .row 1 34 [[dL 1 (eI .i64) [(1 : Int)]]]), (1035, .row 0 25 [[.slice 1038 1 0 2, .slice 1041 1 0 2]]), (1038, .row 1 65 [[dB false, dL 1 (eI .i64) [(1 : Int)]], [dB true, dL 1 (eI .i64) [(2 : Int)]]]), (1039, .row 1 3 [[dI .i64 (1 : Int)], [dI .i64 (2 : Int)]]), (1040, .row 1 3 [[dI .i64 (-1 : Int)], [dI .i64 (-2 : Int)]]), (1041, .row 1 34 [[.slice 1039 1 0 2], [.slice 1040 1 0 2]]), (1042, .row 0 25 [[.slice 1038 1 0 2, .slice 1041 1 0 2]])]) rfl rfl ⟨⟨_, rfl, .keep rfl⟩, ⟨_, rfl, .keep rfl⟩, ⟨_, rfl, .keep rfl⟩, ⟨_, rfl, .keep rfl⟩, ⟨_, rfl, .keep rfl⟩, ⟨_, rfl, .keep rfl⟩, ⟨_, rfl, .keep rfl⟩, ⟨_, rfl, .keep rfl⟩, ⟨_, rfl, .keep rfl⟩, ⟨_, rfl, .keep rfl⟩, trivial⟩ ⟨⟨_, rfl, objOne ⟨⟨rfl, .keep rfl⟩, ⟨rfl, .keep rfl⟩, trivial⟩⟩, ⟨_, rfl, objKeep rfl⟩, ⟨_, rfl, objOne ⟨⟨rfl, .keep rfl⟩, ⟨rfl, .keep rfl⟩, trivial⟩⟩, ⟨_, rfl, objOne ⟨⟨rfl, .keep rfl⟩, ⟨rfl, .keep rfl⟩, trivial⟩⟩, ⟨_, rfl, objKeep rfl⟩, ⟨_, rfl, objOne ⟨⟨rfl, .keep rfl⟩, ⟨rfl, .keep rfl⟩, trivial⟩⟩, ⟨_, rfl, objOne ⟨⟨rfl, .keep rfl⟩, ⟨rfl, .keep rfl⟩, trivial⟩⟩, ⟨_, rfl, objOne ⟨⟨rfl, .keep rfl⟩, ⟨rfl, .keep rfl⟩, trivial⟩⟩, ⟨_, rfl, objOne ⟨⟨rfl, .keep rfl⟩, ⟨rfl, .keep rfl⟩, ⟨rfl, .keep rfl⟩, trivial⟩⟩, ⟨_, rfl, objKeep rfl⟩, ⟨_, rfl, objOne ⟨⟨rfl, .keep rfl⟩, trivial⟩⟩, ⟨_, rfl, objOne ⟨⟨rfl, .keep rfl⟩, ⟨rfl, .keep rfl⟩, trivial⟩⟩, ⟨_, rfl, objEls ⟨⟨⟨rfl, .keep rfl⟩, ⟨rfl, .keep rfl⟩, trivial⟩, ⟨⟨rfl, .keep rfl⟩, ⟨rfl, frzT (f := (eI .i64)) (xs := [(2 : Int)]) rfl rfl co3 rfl⟩, trivial⟩, trivial⟩⟩, ⟨_, rfl, objKeep rfl⟩, ⟨_, rfl, objKeep rfl⟩, ⟨_, rfl, objKeep rfl⟩, ⟨_, rfl, objOne ⟨⟨rfl, .keep rfl⟩, ⟨rfl, .keep rfl⟩, trivial⟩⟩, trivial⟩) ?_
  refine RW.gh (gh_frz (E' := [(1, dI .u8 y101.1), (2, dI .i64 y101.2), (3, dI .u8 y102.1), (4, dI .i64 y102.2), (5, dL 3 e_S_api_Table ((([(S_api_Table.mk (1 : Int) [(2 : Int)] [false, true])], (0 : Int)) : ((List S_api_Table) × Int)).1)), (6, dI .i64 ((([(S_api_Table.mk (1 : Int) [(2 : Int)] [false, true])], (0 : Int)) : ((List S_api_Table) × Int)).2)), (7, dI .u8 ((((1 : Int), (0 : Int)) : (Int × Int)).1)), (8, dI .i64 ((((1 : Int), (0 : Int)) : (Int × Int)).2)), (10, dI .i64 y105.2), (44, .agg [dL 2 e_S_api_Block ([(S_api_Block.mk false [(1 : Int)]), (S_api_Block.mk true [(2 : Int)])]), .slice 1041 1 0 2])]) (L' := [(1001, .row 0 25 [[dL 2 e_S_api_Block ([(S_api_Block.mk false [(1 : Int)]), (S_api_Block.mk true [(2 : Int)])]), .slice 1007 1 0 2]]), (1007, .row 1 34 [[dL 1 (eI .i64) [(1 : Int), (2 : Int)]], [dL 1 (eI .i64) [(-1 : Int), (-2 : Int)]]]), (1008, .row 0 25 [[dL 2 e_S_api_Block ([(S_api_Block.mk false [(1 : Int)]), (S_api_Block.mk true [(2 : Int)])]), .slice 1007 1 0 2]]), (1009, .row 0 25 [[dL 2 e_S_api_Block ([(S_api_Block.mk true [(2 : Int)]), (S_api_Block.mk false [(1 : Int)])]), .slice 1015 1 0 2]]), (1015, .row 1 34 [[dL 1 (eI .i64) [(1 : Int), (2 : Int)]], [dL 1 (eI .i64) [(-1 : Int), (-2 : Int)]]]), (1016, .row 0 25 [[dL 2 e_S_api_Block ([(S_api_Block.mk true [(2 : Int)]), (S_api_Block.mk false [(1 : Int)])]), .slice 1015 1 0 2]]), (1017, .row 0 25 [[dL 2 e_S_api_Block ([(S_api_Block.mk true [(2 : Int)]), (S_api_Block.mk false [(1 : Int)])]), dL 1 (eL 1 (eI .i64)) ([[(1 : Int), (2 : Int)], [(-1 : Int), (-2 : Int)]])]]), (1024, .row 0 25 [[dL 2 e_S_api_Block ([(S_api_Block.mk true [(2 : Int)]), (S_api_Block.mk false [(1 : Int)])]), dL 1 (eL 1 (eI .i64)) ([[(1 : Int), (2 : Int)], [(-1 : Int), (-2 : Int)]])]]), (1025, .row 0 37 [[dL 1 (eI .i64) [(1 : Int), (3 : Int)], dL 2 e_S_api_Dep ([(S_api_Dep.mk (2 : Int) [(1 : Int)]), (S_api_Dep.mk (4 : Int) [(3 : Int)])]), .slice 1032 1 0 2]]), (1032, .row 1 34 [[dL 1 (eI .i64) [(-1 : Int), (2 : Int), (4 : Int)]], [dL 1 (eI .i64) [(-2 : Int), (-4 : Int)]]]), (1034, .row 1 34 [[dL 1 (eI .i64) [(1 : Int)]]]), (1035, .row 0 25 [[dL 2 e_S_api_Block ([(S_api_Block.mk false [(1 : Int)]), (S_api_Block.mk true [(2 : Int)])]), .slice 1041 1 0 2]]), (1039, .row 1 3 [[dI .i64 (1 : Int)], [dI .i64 (2 : Int)]]), (1040, .row 1 3 [[dI .i64 (-1 : Int)], [dI .i64 (-2 : Int)]]), (1041, .row 1 34 [[.slice 1039 1 0 2], [.slice 1040 1 0 2]]), (1042, .row 0 25 [[dL 2 e_S_api_Block ([(S_api_Block.mk false [(1 : Int)]), (S_api_Block.mk true [(2 : Int)])]), .slice 1041 1 0 2]])]) rfl rfl ⟨⟨_, rfl, .keep rfl⟩, ⟨_, rfl, .keep rfl⟩, ⟨_, rfl, .keep rfl⟩, ⟨_, rfl, .keep rfl⟩, ⟨_, rfl, .keep rfl⟩, ⟨_, rfl, .keep rfl⟩, ⟨_, rfl, .keep rfl⟩, ⟨_, rfl, .keep rfl⟩, ⟨_, rfl, .keep rfl⟩, ⟨_, rfl, frz_agg ⟨(frzT (f := e_S_api_Block) (xs := [(S_api_Block.mk false [(1 : Int)]), (S_api_Block.mk true [(2 : Int)])]) rfl rfl co65 rfl), (.keep rfl), trivial⟩⟩, trivial⟩ ⟨⟨_, rfl, objOne ⟨⟨rfl, .keep rfl⟩, ⟨rfl, .keep rfl⟩, trivial⟩⟩, ⟨_, rfl, objKeep rfl⟩, ⟨_, rfl, objOne ⟨⟨rfl, .keep rfl⟩, ⟨rfl, .keep rfl⟩, trivial⟩⟩, ⟨_, rfl, objOne ⟨⟨rfl, .keep rfl⟩, ⟨rfl, .keep rfl⟩, trivial⟩⟩, ⟨_, rfl, objKeep rfl⟩, ⟨_, rfl, objOne ⟨⟨rfl, .keep rfl⟩, ⟨rfl, .keep rfl⟩, trivial⟩⟩, ⟨_, rfl, objOne ⟨⟨rfl, .keep rfl⟩, ⟨rfl, .keep rfl⟩, trivial⟩⟩, ⟨_, rfl, objOne ⟨⟨rfl, .keep rfl⟩, ⟨rfl, .keep rfl⟩, trivial⟩⟩, ⟨_, rfl, objOne ⟨⟨rfl, .keep rfl⟩, ⟨rfl, .keep rfl⟩, ⟨rfl, .keep rfl⟩, trivial⟩⟩, ⟨_, rfl, objKeep rfl⟩, ⟨_, rfl, objOne ⟨⟨rfl, .keep rfl⟩, trivial⟩⟩, ⟨_, rfl, objOne ⟨⟨rfl, frzT (f := e_S_api_Block) (xs := [(S_api_Block.mk false [(1 : Int)]), (S_api_Block.mk true [(2 : Int)])]) rfl rfl co65 rfl⟩, ⟨rfl, .keep rfl⟩, trivial⟩⟩, ⟨_, rfl, objKeep rfl⟩, ⟨_, rfl, objKeep rfl⟩, ⟨_, rfl, objKeep rfl⟩, ⟨_, rfl, objOne ⟨⟨rfl, frzT (f := e_S_api_Block) (xs := [(S_api_Block.mk false [(1 : Int)]), (S_api_Block.mk true [(2 : Int)])]) rfl rfl co65 rfl⟩, ⟨rfl, .keep rfl⟩, trivial⟩⟩, trivial⟩) ?_
  refine RW.gh (gh_frz (E' := [(1, dI .u8 y101.1), (2, dI .i64 y101.2), (3, dI .u8 y102.1), (4, dI .i64 y102.2), (5, dL 3 e_S_api_Table ((([(S_api_Table.mk (1 : Int) [(2 : Int)] [false, true])], (0 : Int)) : ((List S_api_Table) × Int)).1)), (6, dI .i64 ((([(S_api_Table.mk (1 : Int) [(2 : Int)] [false, true])], (0 : Int)) : ((List S_api_Table) × Int)).2)), (7, dI .u8 ((((1 : Int), (0 : Int)) : (Int × Int)).1)), (8, dI .i64 ((((1 : Int), (0 : Int)) : (Int × Int)).2)), (10, dI .i64 y105.2), (44, .agg [dL 2 e_S_api_Block ([(S_api_Block.mk false [(1 : Int)]), (S_api_Block.mk true [(2 : Int)])]), .slice 1041 1 0 2])]) (L' := [(1001, .row 0 25 [[dL 2 e_S_api_Block ([(S_api_Block.mk false [(1 : Int)]), (S_api_Block.mk true [(2 : Int)])]), .slice 1007 1 0 2]]), (1007, .row 1 34 [[dL 1 (eI .i64) [(1 : Int), (2 : Int)]], [dL 1 (eI .i64) [(-1 : Int), (-2 : Int)]]]), (1008, .row 0 25 [[dL 2 e_S_api_Block ([(S_api_Block.mk false [(1 : Int)]), (S_api_Block.mk true [(2 : Int)])]), .slice 1007 1 0 2]]), (1009, .row 0 25 [[dL 2 e_S_api_Block ([(S_api_Block.mk true [(2 : Int)]), (S_api_Block.mk false [(1 : Int)])]), .slice 1015 1 0 2]]), (1015, .row 1 34 [[dL 1 (eI .i64) [(1 : Int), (2 : Int)]], [dL 1 (eI .i64) [(-1 : Int), (-2 : Int)]]]), (1016, .row 0 25 [[dL 2 e_S_api_Block ([(S_api_Block.mk true [(2 : Int)]), (S_api_Block.mk false [(1 : Int)])]), .slice 1015 1 0 2]]), (1017, .row 0 25 [[dL 2 e_S_api_Block ([(S_api_Block.mk true [(2 : Int)]), (S_api_Block.mk false [(1 : Int)])]), dL 1 (eL 1 (eI .i64)) ([[(1 : Int), (2 : Int)], [(-1 : Int), (-2 : Int)]])]]), (1024, .row 0 25 [[dL 2 e_S_api_Block ([(S_api_Block.mk true [(2 : Int)]), (S_api_Block.mk false [(1 : Int)])]), dL 1 (eL 1 (eI .i64)) ([[(1 : Int), (2 : Int)], [(-1 : Int), (-2 : Int)]])]]), (1025, .row 0 37 [[dL 1 (eI .i64) [(1 : Int), (3 : Int)], dL 2 e_S_api_Dep ([(S_api_Dep.mk (2 : Int) [(1 : Int)]), (S_api_Dep.mk (4 : Int) [(3 : Int)])]), .slice 1032 1 0 2]]), (1032, .row 1 34 [[dL 1 (eI .i64) [(-1 : Int), (2 : Int), (4 : Int)]], [dL 1 (eI .i64) [(-2 : Int), (-4 : Int)]]]), (1034, .row 1 34 [[dL 1 (eI .i64) [(1 : Int)]]]), (1035, .row 0 25 [[dL 2 e_S_api_Block ([(S_api_Block.mk false [(1 : Int)]), (S_api_Block.mk true [(2 : Int)])]), .slice 1041 1 0 2]]), (1040, .row 1 3 [[dI .i64 (-1 : Int)], [dI .i64 (-2 : Int)]]), (1041, .row 1 34 [[dL 1 (eI .i64) [(1 : Int), (2 : Int)]], [.slice 1040 1 0 2]]), (1042, .row 0 25 [[dL 2 e_S_api_Block ([(S_api_Block.mk false [(1 : Int)]), (S_api_Block.mk true [(2 : Int)])]), .slice 1041 1 0 2]])]) rfl rfl ⟨⟨_, rfl, .keep rfl⟩, ⟨_, rfl, .keep rfl⟩, ⟨_, rfl, .keep rfl⟩, ⟨_, rfl, .keep rfl⟩, ⟨_, rfl, .keep rfl⟩, ⟨_, rfl, .keep rfl⟩, ⟨_, rfl, .keep rfl⟩, ⟨_, rfl, .keep rfl⟩, ⟨_, rfl, .keep rfl⟩, ⟨_, rfl, .keep rfl⟩, trivial⟩ ⟨⟨_, rfl, objOne ⟨⟨rfl, .keep rfl⟩, ⟨rfl, .keep rfl⟩, trivial⟩⟩, ⟨_, rfl, objKeep rfl⟩, ⟨_, rfl, objOne ⟨⟨rfl, .keep rfl⟩, ⟨rfl, .keep rfl⟩, trivial⟩⟩, ⟨_, rfl, objOne ⟨⟨rfl, .keep rfl⟩, ⟨rfl, .keep rfl⟩, trivial⟩⟩, ⟨_, rfl, objKeep rfl⟩, ⟨_, rfl, objOne ⟨⟨rfl, .keep rfl⟩, ⟨rfl, .keep rfl⟩, trivial⟩⟩, ⟨_, rfl, objOne ⟨⟨rfl, .keep rfl⟩, ⟨rfl, .keep rfl⟩, trivial⟩⟩, ⟨_, rfl, objOne ⟨⟨rfl, .keep rfl⟩, ⟨rfl, .keep rfl⟩, trivial⟩⟩, ⟨_, rfl, objOne ⟨⟨rfl, .keep rfl⟩, ⟨rfl, .keep rfl⟩, ⟨rfl, .keep rfl⟩, trivial⟩⟩, ⟨_, rfl, objKeep rfl⟩, ⟨_, rfl, objOne ⟨⟨rfl, .keep rfl⟩, trivial⟩⟩, ⟨_, rfl, objOne ⟨⟨rfl, .keep rfl⟩, ⟨rfl, .keep rfl⟩, trivial⟩⟩, ⟨_, rfl, objKeep rfl⟩, ⟨_, rfl, objEls ⟨⟨⟨rfl, frzT (f := (eI .i64)) (xs := [(1 : Int), (2 : Int)]) rfl rfl co3 rfl⟩, trivial⟩, ⟨⟨rfl, .keep rfl⟩, trivial⟩, trivial⟩⟩, ⟨_, rfl, objOne ⟨⟨rfl, .keep rfl⟩, ⟨rfl, .keep rfl⟩, trivial⟩⟩, trivial⟩) ?_
  refine RW.gh (gh_frz (E' := [(1, dI .u8 y101.1), (2, dI .i64 y101.2), (3, dI .u8 y102.1), (4, dI .i64 y102.2), (5, dL 3 e_S_api_Table ((([(S_api_Table.mk (1 : Int) [(2 : Int)] [false, true])], (0 : Int)) : ((List S_api_Table) × Int)).1)), (6, dI .i64 ((([(S_api_Table.mk (1 : Int) [(2 : Int)] [false, true])], (0 : Int)) : ((List S_api_Table) × Int)).2)), (7, dI .u8 ((((1 : Int), (0 : Int)) : (Int × Int)).1)), (8, dI .i64 ((((1 : Int), (0 : Int)) : (Int × Int)).2)), (10, dI .i64 y105.2), (44, .agg [dL 2 e_S_api_Block ([(S_api_Block.mk false [(1 : Int)]), (S_api_Block.mk true [(2 : Int)])]), .slice 1041 1 0 2])]) (L' := [(1001, .row 0 25 [[dL 2 e_S_api_Block ([(S_api_Block.mk false [(1 : Int)]), (S_api_Block.mk true [(2 : Int)])]), .slice 1007 1 0 2]]), (1007, .row 1 34 [[dL 1 (eI .i64) [(1 : Int), (2 : Int)]], [dL 1 (eI .i64) [(-1 : Int), (-2 : Int)]]]), (1008, .row 0 25 [[dL 2 e_S_api_Block ([(S_api_Block.mk false [(1 : Int)]), (S_api_Block.mk true [(2 : Int)])]), .slice 1007 1 0 2]]), (1009, .row 0 25 [[dL 2 e_S_api_Block ([(S_api_Block.mk true [(2 : Int)]), (S_api_Block.mk false [(1 : Int)])]), .slice 1015 1 0 2]]), (1015, .row 1 34 [[dL 1 (eI .i64) [(1 : Int), (2 : Int)]], [dL 1 (eI .i64) [(-1 : Int), (-2 : Int)]]]), (1016, .row 0 25 [[dL 2 e_S_api_Block ([(S_api_Block.mk true [(2 : Int)]), (S_api_Block.mk false [(1 : Int)])]), .slice 1015 1 0 2]]), (1017, .row 0 25 [[dL 2 e_S_api_Block ([(S_api_Block.mk true [(2 : Int)]), (S_api_Block.mk false [(1 : Int)])]), dL 1 (eL 1 (eI .i64)) ([[(1 : Int), (2 : Int)], [(-1 : Int), (-2 : Int)]])]]), (1024, .row 0 25 [[dL 2 e_S_api_Block ([(S_api_Block.mk true [(2 : Int)]), (S_api_Block.mk false [(1 : Int)])]), dL 1 (eL 1 (eI .i64)) ([[(1 : Int), (2 : Int)], [(-1 : Int), (-2 : Int)]])]]), (1025, .row 0 37 [[dL 1 (eI .i64) [(1 : Int), (3 : Int)], dL 2 e_S_api_Dep ([(S_api_Dep.mk (2 : Int) [(1 : Int)]), (S_api_Dep.mk (4 : Int) [(3 : Int)])]), .slice 1032 1 0 2]]), (1032, .row 1 34 [[dL 1 (eI .i64) [(-1 : Int), (2 : Int), (4 : Int)]], [dL 1 (eI .i64) [(-2 : Int), (-4 : Int)]]]), (1034, .row 1 34 [[dL 1 (eI .i64) [(1 : Int)]]]), (1035, .row 0 25 [[dL 2 e_S_api_Block ([(S_api_Block.mk false [(1 : Int)]), (S_api_Block.mk true [(2 : Int)])]), .slice 1041 1 0 2]]), (1041, .row 1 34 [[dL 1 (eI .i64) [(1 : Int), (2 : Int)]], [dL 1 (eI .i64) [(-1 : Int), (-2 : Int)]]]), (1042, .row 0 25 [[dL 2 e_S_api_Block ([(S_api_Block.mk false [(1 : Int)]), (S_api_Block.mk true [(2 : Int)])]), .slice 1041 1 0 2]])]) rfl rfl ⟨⟨_, rfl, .keep rfl⟩, ⟨_, rfl, .keep rfl⟩, ⟨_, rfl, .keep rfl⟩, ⟨_, rfl, .keep rfl⟩, ⟨_, rfl, .keep rfl⟩, ⟨_, rfl, .keep rfl⟩, ⟨_, rfl, .keep rfl⟩, ⟨_, rfl, .keep rfl⟩, ⟨_, rfl, .keep rfl⟩, ⟨_, rfl, .keep rfl⟩, trivial⟩ ⟨⟨_, rfl, objOne ⟨⟨rfl, .keep rfl⟩, ⟨rfl, .keep rfl⟩, trivial⟩⟩, ⟨_, rfl, objKeep rfl⟩, ⟨_, rfl, objOne ⟨⟨rfl, .keep rfl⟩, ⟨rfl, .keep rfl⟩, trivial⟩⟩, ⟨_, rfl, objOne ⟨⟨rfl, .keep rfl⟩, ⟨rfl, .keep rfl⟩, trivial⟩⟩, ⟨_, rfl, objKeep rfl⟩, ⟨_, rfl, objOne ⟨⟨rfl, .keep rfl⟩, ⟨rfl, .keep rfl⟩, trivial⟩⟩, ⟨_, rfl, objOne ⟨⟨rfl, .keep rfl⟩, ⟨rfl, .keep rfl⟩, trivial⟩⟩, ⟨_, rfl, objOne ⟨⟨rfl, .keep rfl⟩, ⟨rfl, .keep rfl⟩, trivial⟩⟩, ⟨_, rfl, objOne ⟨⟨rfl, .keep rfl⟩, ⟨rfl, .keep rfl⟩, ⟨rfl, .keep rfl⟩, trivial⟩⟩, ⟨_, rfl, objKeep rfl⟩, ⟨_, rfl, objOne ⟨⟨rfl, .keep rfl⟩, trivial⟩⟩, ⟨_, rfl, objOne ⟨⟨rfl, .keep rfl⟩, ⟨rfl, .keep rfl⟩, trivial⟩⟩, ⟨_, rfl, objEls ⟨⟨⟨rfl, .keep rfl⟩, trivial⟩, ⟨⟨rfl, frzT (f := (eI .i64)) (xs := [(-1 : Int), (-2 : Int)]) rfl rfl co3 rfl⟩, trivial⟩, trivial⟩⟩, ⟨_, rfl, objOne ⟨⟨rfl, .keep rfl⟩, ⟨rfl, .keep rfl⟩, trivial⟩⟩, trivial⟩) ?_
  refine RW.gh (gh_frz (E' := [(1, dI .u8 y101.1), (2, dI .i64 y101.2), (3, dI .u8 y102.1), (4, dI .i64 y102.2), (5, dL 3 e_S_api_Table ((([(S_api_Table.mk (1 : Int) [(2 : Int)] [false, true])], (0 : Int)) : ((List S_api_Table) × Int)).1)), (6, dI .i64 ((([(S_api_Table.mk (1 : Int) [(2 : Int)] [false, true])], (0 : Int)) : ((List S_api_Table) × Int)).2)), (7, dI .u8 ((((1 : Int), (0 : Int)) : (Int × Int)).1)), (8, dI .i64 ((((1 : Int), (0 : Int)) : (Int × Int)).2)), (10, dI .i64 y105.2), (44, .agg [dL 2 e_S_api_Block ([(S_api_Block.mk false [(1 : Int)]), (S_api_Block.mk true [(2 : Int)])]), dL 1 (eL 1 (eI .i64)) ([[(1 : Int), (2 : Int)], [(-1 : Int), (-2 : Int)]])])]) (L' := [(1001, .row 0 25 [[dL 2 e_S_api_Block ([(S_api_Block.mk false [(1 : Int)]), (S_api_Block.mk true [(2 : Int)])]), .slice 1007 1 0 2]]), (1007, .row 1 34 [[dL 1 (eI .i64) [(1 : Int), (2 : Int)]], [dL 1 (eI .i64) [(-1 : Int), (-2 : Int)]]]), (1008, .row 0 25 [[dL 2 e_S_api_Block ([(S_api_Block.mk false [(1 : Int)]), (S_api_Block.mk true [(2 : Int)])]), .slice 1007 1 0 2]]), (1009, .row 0 25 [[dL 2 e_S_api_Block ([(S_api_Block.mk true [(2 : Int)]), (S_api_Block.mk false [(1 : Int)])]), .slice 1015 1 0 2]]), (1015, .row 1 34 [[dL 1 (eI .i64) [(1 : Int), (2 : Int)]], [dL 1 (eI .i64) [(-1 : Int), (-2 : Int)]]]), (1016, .row 0 25 [[dL 2 e_S_api_Block ([(S_api_Block.mk true [(2 : Int)]), (S_api_Block.mk false [(1 : Int)])]), .slice 1015 1 0 2]]), (1017, .row 0 25 [[dL 2 e_S_api_Block ([(S_api_Block.mk true [(2 : Int)]), (S_api_Block.mk false [(1 : Int)])]), dL 1 (eL 1 (eI .i64)) ([[(1 : Int), (2 : Int)], [(-1 : Int), (-2 : Int)]])]]), (1024, .row 0 25 [[dL 2 e_S_api_Block ([(S_api_Block.mk true [(2 : Int)]), (S_api_Block.mk false [(1 : Int)])]), dL 1 (eL 1 (eI .i64)) ([[(1 : Int), (2 : Int)], [(-1 : Int), (-2 : Int)]])]]), (1025, .row 0 37 [[dL 1 (eI .i64) [(1 : Int), (3 : Int)], dL 2 e_S_api_Dep ([(S_api_Dep.mk (2 : Int) [(1 : Int)]), (S_api_Dep.mk (4 : Int) [(3 : Int)])]), .slice 1032 1 0 2]]), (1032, .row 1 34 [[dL 1 (eI .i64) [(-1 : Int), (2 : Int), (4 : Int)]], [dL 1 (eI .i64) [(-2 : Int), (-4 : Int)]]]), (1034, .row 1 34 [[dL 1 (eI .i64) [(1 : Int)]]]), (1035, .row 0 25 [[dL 2 e_S_api_Block ([(S_api_Block.mk false [(1 : Int)]), (S_api_Block.mk true [(2 : Int)])]), dL 1 (eL 1 (eI .i64)) ([[(1 : Int), (2 : Int)], [(-1 : Int), (-2 : Int)]])]]), (1042, .row 0 25 [[dL 2 e_S_api_Block ([(S_api_Block.mk false [(1 : Int)]), (S_api_Block.mk true [(2 : Int)])]), dL 1 (eL 1 (eI .i64)) ([[(1 : Int), (2 : Int)], [(-1 : Int), (-2 : Int)]])]])]) rfl rfl ⟨⟨_, rfl, .keep rfl⟩, ⟨_, rfl, .keep rfl⟩, ⟨_, rfl, .keep rfl⟩, ⟨_, rfl, .keep rfl⟩, ⟨_, rfl, .keep rfl⟩, ⟨_, rfl, .keep rfl⟩, ⟨_, rfl, .keep rfl⟩, ⟨_, rfl, .keep rfl⟩, ⟨_, rfl, .keep rfl⟩, ⟨_, rfl, frz_agg ⟨(.keep rfl), (frzT (f := (eL 1 (eI .i64))) (xs := [[(1 : Int), (2 : Int)], [(-1 : Int), (-2 : Int)]]) rfl rfl co34 rfl), trivial⟩⟩, trivial⟩ ⟨⟨_, rfl, objOne ⟨⟨rfl, .keep rfl⟩, ⟨rfl, .keep rfl⟩, trivial⟩⟩, ⟨_, rfl, objKeep rfl⟩, ⟨_, rfl, objOne ⟨⟨rfl, .keep rfl⟩, ⟨rfl, .keep rfl⟩, trivial⟩⟩, ⟨_, rfl, objOne ⟨⟨rfl, .keep rfl⟩, ⟨rfl, .keep rfl⟩, trivial⟩⟩, ⟨_, rfl, objKeep rfl⟩, ⟨_, rfl, objOne ⟨⟨rfl, .keep rfl⟩, ⟨rfl, .keep rfl⟩, trivial⟩⟩, ⟨_, rfl, objOne ⟨⟨rfl, .keep rfl⟩, ⟨rfl, .keep rfl⟩, trivial⟩⟩, ⟨_, rfl, objOne ⟨⟨rfl, .keep rfl⟩, ⟨rfl, .keep rfl⟩, trivial⟩⟩, ⟨_, rfl, objOne ⟨⟨rfl, .keep rfl⟩, ⟨rfl, .keep rfl⟩, ⟨rfl, .keep rfl⟩, trivial⟩⟩, ⟨_, rfl, objKeep rfl⟩, ⟨_, rfl, objOne ⟨⟨rfl, .keep rfl⟩, trivial⟩⟩, ⟨_, rfl, objOne ⟨⟨rfl, .keep rfl⟩, ⟨rfl, frzT (f := (eL 1 (eI .i64))) (xs := [[(1 : Int), (2 : Int)], [(-1 : Int), (-2 : Int)]]) rfl rfl co34 rfl⟩, trivial⟩⟩, ⟨_, rfl, objOne ⟨⟨rfl, .keep rfl⟩, ⟨rfl, frzT (f := (eL 1 (eI .i64))) (xs := [[(1 : Int), (2 : Int)], [(-1 : Int), (-2 : Int)]]) rfl rfl co34 rfl⟩, trivial⟩⟩, trivial⟩) ?_
  refine rf rfl rfl tab_truth_Herbrand_1 rfl rfl ?_
  refine ro rfl rfl (st_mv rfl) ?_
  refine ro rfl rfl (st_ext rfl rfl) ?_
  refine ro rfl rfl (st_ext rfl rfl) ?_
  refine ro rfl rfl (st_as rfl) ?_
  refine ro rfl rfl (st_as rfl) ?_
  refine rw_nilk ?_
  refine awp_rs ?_
  refine rn (r := 1043) rfl rfl (st_bsl (els := [[dI .i64 (1 : Int)]]) sl34 zc3 rfl rfl rfl rfl rfl) rfl ?_
  refine rn (r := 1044) rfl rfl (st_bsl (els := [[dI .i64 (1 : Int)]]) sl34 zc3 rfl rfl rfl rfl rfl) rfl ?_
  refine ro rfl rfl (st_build (vs := [dI .i64 (2 : Int), .slice 1044 1 0 1]) bl51 rfl rfl) ?_
  refine rn (r := 1045) rfl rfl (st_bsl (els := [[dI .i64 (2 : Int), .slice 1044 1 0 1]]) sl35 zc51 rfl rfl rfl rfl rfl) rfl ?_
  refine ri (N := 29) (rs := [.cell 2 25]) rfl rfl rfl rfl Try.func28 rfl rfl rfl (by kernel_rfl) rfl (fun _B => ?_)
  refine awp_rs ?_
  refine rn (r := 1046) rfl rfl (st_alloc zc25 rfl rfl) rfl ?_
  refine rw_nilk ?_
  refine awp_rs ?_
  refine rn (r := 1047) rfl rfl (st_bsl (els := [[dI .i64 (1 : Int)]]) sl34 zc3 rfl rfl rfl rfl rfl) rfl ?_
  refine ro rfl rfl (st_build (vs := [dB false, .slice 1047 1 0 1]) bl65 rfl rfl) ?_
  refine rn (r := 1048) rfl rfl (st_bsl (els := [[dI .i64 (2 : Int)]]) sl34 zc3 rfl rfl rfl rfl rfl) rfl ?_
  refine ro rfl rfl (st_build (vs := [dB true, .slice 1048 1 0 1]) bl65 rfl rfl) ?_
  refine rn (r := 1049) rfl rfl (st_bsl (els := [[dB false, .slice 1047 1 0 1], [dB true, .slice 1048 1 0 1]]) sl22 zc65 rfl rfl rfl rfl rfl) rfl ?_
  refine rn (r := 1050) rfl rfl (st_bsl (els := [[dI .i64 (1 : Int)], [dI .i64 (2 : Int)]]) sl34 zc3 rfl rfl rfl rfl rfl) rfl ?_
  refine rn (r := 1051) rfl rfl (st_bsl (els := [[dI .i64 (-1 : Int)], [dI .i64 (-2 : Int)]]) sl34 zc3 rfl rfl rfl rfl rfl) rfl ?_
  refine rn (r := 1052) rfl rfl (st_bsl (els := [[.slice 1050 1 0 2], [.slice 1051 1 0 2]]) sl23 zc34 rfl rfl rfl rfl rfl) rfl ?_
  refine ro rfl rfl (st_build (vs := [.slice 1049 1 0 2, .slice 1052 1 0 2]) bl25 rfl rfl) ?_
  refine rn (r := 1053) rfl rfl (st_alloc zc25 rfl rfl) rfl ?_
  refine rx (L' := [(1001, .row 0 25 [[dL 2 e_S_api_Block ([(S_api_Block.mk false [(1 : Int)]), (S_api_Block.mk true [(2 : Int)])]), .slice 1007 1 0 2]]), (1007, .row 1 34 [[dL 1 (eI .i64) [(1 : Int), (2 : Int)]], [dL 1 (eI .i64) [(-1 : Int), (-2 : Int)]]]), (1008, .row 0 25 [[dL 2 e_S_api_Block ([(S_api_Block.mk false [(1 : Int)]), (S_api_Block.mk true [(2 : Int)])]), .slice 1007 1 0 2]]), (1009, .row 0 25 [[dL 2 e_S_api_Block ([(S_api_Block.mk true [(2 : Int)]), (S_api_Block.mk false [(1 : Int)])]), .slice 1015 1 0 2]]), (1015, .row 1 34 [[dL 1 (eI .i64) [(1 : Int), (2 : Int)]], [dL 1 (eI .i64) [(-1 : Int), (-2 : Int)]]]), (1016, .row 0 25 [[dL 2 e_S_api_Block ([(S_api_Block.mk true [(2 : Int)]), (S_api_Block.mk false [(1 : Int)])]), .slice 1015 1 0 2]]), (1017, .row 0 25 [[dL 2 e_S_api_Block ([(S_api_Block.mk true [(2 : Int)]), (S_api_Block.mk false [(1 : Int)])]), dL 1 (eL 1 (eI .i64)) ([[(1 : Int), (2 : Int)], [(-1 : Int), (-2 : Int)]])]]), (1024, .row 0 25 [[dL 2 e_S_api_Block ([(S_api_Block.mk true [(2 : Int)]), (S_api_Block.mk false [(1 : Int)])]), dL 1 (eL 1 (eI .i64)) ([[(1 : Int), (2 : Int)], [(-1 : Int), (-2 : Int)]])]]), (1025, .row 0 37 [[dL 1 (eI .i64) [(1 : Int), (3 : Int)], dL 2 e_S_api_Dep ([(S_api_Dep.mk (2 : Int) [(1 : Int)]), (S_api_Dep.mk (4 : Int) [(3 : Int)])]), .slice 1032 1 0 2]]), (1032, .row 1 34 [[dL 1 (eI .i64) [(-1 : Int), (2 : Int), (4 : Int)]], [dL 1 (eI .i64) [(-2 : Int), (-4 : Int)]]]), (1034, .row 1 34 [[dL 1 (eI .i64) [(1 : Int)]]]), (1035, .row 0 25 [[dL 2 e_S_api_Block ([(S_api_Block.mk false [(1 : Int)]), (S_api_Block.mk true [(2 : Int)])]), dL 1 (eL 1 (eI .i64)) ([[(1 : Int), (2 : Int)], [(-1 : Int), (-2 : Int)]])]]), (1042, .row 0 25 [[dL 2 e_S_api_Block ([(S_api_Block.mk false [(1 : Int)]), (S_api_Block.mk true [(2 : Int)])]), dL 1 (eL 1 (eI .i64)) ([[(1 : Int), (2 : Int)], [(-1 : Int), (-2 : Int)]])]]), (1043, .row 1 3 [[dI .i64 (1 : Int)]]), (1044, .row 1 3 [[dI .i64 (1 : Int)]]), (1045, .row 1 51 [[dI .i64 (2 : Int), .slice 1044 1 0 1]]), (1046, .row 0 25 [[.nilS, .nilS]]), (1047, .row 1 3 [[dI .i64 (1 : Int)]]), (1048, .row 1 3 [[dI .i64 (2 : Int)]]), (1049, .row 1 65 [[dB false, .slice 1047 1 0 1], [dB true, .slice 1048 1 0 1]]), (1050, .row 1 3 [[dI .i64 (1 : Int)], [dI .i64 (2 : Int)]]), (1051, .row 1 3 [[dI .i64 (-1 : Int)], [dI .i64 (-2 : Int)]]), (1052, .row 1 34 [[.slice 1050 1 0 2], [.slice 1051 1 0 2]]), (1053, .row 0 25 [[.slice 1049 1 0 2, .slice 1052 1 0 2]])]) rfl rfl (st_stP ta25 rfl rfl rfl rfl rfl rfl rfl rfl) rfl ?_
  refine rw_nilk ?_
  refine awp_seq ?_
  refine awp_rs ?_
  refine ro rfl rfl (st_mv rfl) ?_
  refine rw_nilk ?_
  refine awp_condT rfl ?_
  refine awp_rd hmix ?_
  refine do_ rfl rfl (st_faP fo25_0 rfl) rfl rfl rfl ?_
  refine do_ rfl rfl (st_ldP (v := .slice 1049 1 0 2) ta22 rfl rfl rfl rfl) rfl rfl rfl ?_
  refine do_ rfl rfl (st_faP fo25_0 rfl) rfl rfl rfl ?_
  refine do_ rfl rfl (st_ldP (v := .slice 1049 1 0 2) ta22 rfl rfl rfl rfl) rfl rfl rfl ?_
  refine do_ rfl rfl (st_faP fo25_0 rfl) rfl rfl rfl ?_
  refine do_ rfl rfl (st_ldP (v := .slice 1049 1 0 2) ta22 rfl rfl rfl rfl) rfl rfl rfl ?_
  refine do_ rfl rfl (st_ixRc (j := 1) sl22 rfl rfl rfl rfl) rfl rfl rfl ?_
  refine do_ rfl rfl (st_ldP (v := .agg [dB true, .slice 1048 1 0 1]) ta65 rfl rfl rfl rfl) rfl rfl rfl ?_
  refine do_ rfl rfl (st_faP fo25_0 rfl) rfl rfl rfl ?_
  refine do_ rfl rfl (st_ldP (v := .slice 1049 1 0 2) ta22 rfl rfl rfl rfl) rfl rfl rfl ?_
  refine do_ rfl rfl (st_ixRc (j := 0) sl22 rfl rfl rfl rfl) rfl rfl rfl ?_
  refine do_ rfl rfl (st_ldP (v := .agg [dB false, .slice 1047 1 0 1]) ta65 rfl rfl rfl rfl) rfl rfl rfl ?_
  refine do_ rfl rfl (st_ixRc (j := 0) sl22 rfl rfl rfl rfl) rfl rfl rfl ?_
  refine dx (L' := [(1001, .row 0 25 [[dL 2 e_S_api_Block ([(S_api_Block.mk false [(1 : Int)]), (S_api_Block.mk true [(2 : Int)])]), .slice 1007 1 0 2]]), (1007, .row 1 34 [[dL 1 (eI .i64) [(1 : Int), (2 : Int)]], [dL 1 (eI .i64) [(-1 : Int), (-2 : Int)]]]), (1008, .row 0 25 [[dL 2 e_S_api_Block ([(S_api_Block.mk false [(1 : Int)]), (S_api_Block.mk true [(2 : Int)])]), .slice 1007 1 0 2]]), (1009, .row 0 25 [[dL 2 e_S_api_Block ([(S_api_Block.mk true [(2 : Int)]), (S_api_Block.mk false [(1 : Int)])]), .slice 1015 1 0 2]]), (1015, .row 1 34 [[dL 1 (eI .i64) [(1 : Int), (2 : Int)]], [dL 1 (eI .i64) [(-1 : Int), (-2 : Int)]]]), (1016, .row 0 25 [[dL 2 e_S_api_Block ([(S_api_Block.mk true [(2 : Int)]), (S_api_Block.mk false [(1 : Int)])]), .slice 1015 1 0 2]]), (1017, .row 0 25 [[dL 2 e_S_api_Block ([(S_api_Block.mk true [(2 : Int)]), (S_api_Block.mk false [(1 : Int)])]), dL 1 (eL 1 (eI .i64)) ([[(1 : Int), (2 : Int)], [(-1 : Int), (-2 : Int)]])]]), (1024, .row 0 25 [[dL 2 e_S_api_Block ([(S_api_Block.mk true [(2 : Int)]), (S_api_Block.mk false [(1 : Int)])]), dL 1 (eL 1 (eI .i64)) ([[(1 : Int), (2 : Int)], [(-1 : Int), (-2 : Int)]])]]), (1025, .row 0 37 [[dL 1 (eI .i64) [(1 : Int), (3 : Int)], dL 2 e_S_api_Dep ([(S_api_Dep.mk (2 : Int) [(1 : Int)]), (S_api_Dep.mk (4 : Int) [(3 : Int)])]), .slice 1032 1 0 2]]), (1032, .row 1 34 [[dL 1 (eI .i64) [(-1 : Int), (2 : Int), (4 : Int)]], [dL 1 (eI .i64) [(-2 : Int), (-4 : Int)]]]), (1034, .row 1 34 [[dL 1 (eI .i64) [(1 : Int)]]]), (1035, .row 0 25 [[dL 2 e_S_api_Block ([(S_api_Block.mk false [(1 : Int)]), (S_api_Block.mk true [(2 : Int)])]), dL 1 (eL 1 (eI .i64)) ([[(1 : Int), (2 : Int)], [(-1 : Int), (-2 : Int)]])]]), (1042, .row 0 25 [[dL 2 e_S_api_Block ([(S_api_Block.mk false [(1 : Int)]), (S_api_Block.mk true [(2 : Int)])]), dL 1 (eL 1 (eI .i64)) ([[(1 : Int), (2 : Int)], [(-1 : Int), (-2 : Int)]])]]), (1043, .row 1 3 [[dI .i64 (1 : Int)]]), (1044, .row 1 3 [[dI .i64 (1 : Int)]]), (1045, .row 1 51 [[dI .i64 (2 : Int), .slice 1044 1 0 1]]), (1046, .row 0 25 [[.nilS, .nilS]]), (1047, .row 1 3 [[dI .i64 (1 : Int)]]), (1048, .row 1 3 [[dI .i64 (2 : Int)]]), (1049, .row 1 65 [[dB true, .slice 1048 1 0 1], [dB true, .slice 1048 1 0 1]]), (1050, .row 1 3 [[dI .i64 (1 : Int)], [dI .i64 (2 : Int)]]), (1051, .row 1 3 [[dI .i64 (-1 : Int)], [dI .i64 (-2 : Int)]]), (1052, .row 1 34 [[.slice 1050 1 0 2], [.slice 1051 1 0 2]]), (1053, .row 0 25 [[.slice 1049 1 0 2, .slice 1052 1 0 2]])]) rfl rfl (st_stP ta65 rfl rfl rfl rfl rfl rfl rfl rfl) rfl rfl rfl rfl ?_
  refine do_ rfl rfl (st_ixRc (j := 1) sl22 rfl rfl rfl rfl) rfl rfl rfl ?_
  refine dx (L' := [(1001, .row 0 25 [[dL 2 e_S_api_Block ([(S_api_Block.mk false [(1 : Int)]), (S_api_Block.mk true [(2 : Int)])]), .slice 1007 1 0 2]]), (1007, .row 1 34 [[dL 1 (eI .i64) [(1 : Int), (2 : Int)]], [dL 1 (eI .i64) [(-1 : Int), (-2 : Int)]]]), (1008, .row 0 25 [[dL 2 e_S_api_Block ([(S_api_Block.mk false [(1 : Int)]), (S_api_Block.mk true [(2 : Int)])]), .slice 1007 1 0 2]]), (1009, .row 0 25 [[dL 2 e_S_api_Block ([(S_api_Block.mk true [(2 : Int)]), (S_api_Block.mk false [(1 : Int)])]), .slice 1015 1 0 2]]), (1015, .row 1 34 [[dL 1 (eI .i64) [(1 : Int), (2 : Int)]], [dL 1 (eI .i64) [(-1 : Int), (-2 : Int)]]]), (1016, .row 0 25 [[dL 2 e_S_api_Block ([(S_api_Block.mk true [(2 : Int)]), (S_api_Block.mk false [(1 : Int)])]), .slice 1015 1 0 2]]), (1017, .row 0 25 [[dL 2 e_S_api_Block ([(S_api_Block.mk true [(2 : Int)]), (S_api_Block.mk false [(1 : Int)])]), dL 1 (eL 1 (eI .i64)) ([[(1 : Int), (2 : Int)], [(-1 : Int), (-2 : Int)]])]]), (1024, .row 0 25 [[dL 2 e_S_api_Block ([(S_api_Block.mk true [(2 : Int)]), (S_api_Block.mk false [(1 : Int)])]), dL 1 (eL 1 (eI .i64)) ([[(1 : Int), (2 : Int)], [(-1 : Int), (-2 : Int)]])]]), (1025, .row 0 37 [[dL 1 (eI .i64) [(1 : Int), (3 : Int)], dL 2 e_S_api_Dep ([(S_api_Dep.mk (2 : Int) [(1 : Int)]), (S_api_Dep.mk (4 : Int) [(3 : Int)])]), .slice 1032 1 0 2]]), (1032, .row 1 34 [[dL 1 (eI .i64) [(-1 : Int), (2 : Int), (4 : Int)]], [dL 1 (eI .i64) [(-2 : Int), (-4 : Int)]]]), (1034, .row 1 34 [[dL 1 (eI .i64) [(1 : Int)]]]), (1035, .row 0 25 [[dL 2 e_S_api_Block ([(S_api_Block.mk false [(1 : Int)]), (S_api_Block.mk true [(2 : Int)])]), dL 1 (eL 1 (eI .i64)) ([[(1 : Int), (2 : Int)], [(-1 : Int), (-2 : Int)]])]]), (1042, .row 0 25 [[dL 2 e_S_api_Block ([(S_api_Block.mk false [(1 : Int)]), (S_api_Block.mk true [(2 : Int)])]), dL 1 (eL 1 (eI .i64)) ([[(1 : Int), (2 : Int)], [(-1 : Int), (-2 : Int)]])]]), (1043, .row 1 3 [[dI .i64 (1 : Int)]]), (1044, .row 1 3 [[dI .i64 (1 : Int)]]), (1045, .row 1 51 [[dI .i64 (2 : Int), .slice 1044 1 0 1]]), (1046, .row 0 25 [[.nilS, .nilS]]), (1047, .row 1 3 [[dI .i64 (1 : Int)]]), (1048, .row 1 3 [[dI .i64 (2 : Int)]]), (1049, .row 1 65 [[dB true, .slice 1048 1 0 1], [dB false, .slice 1047 1 0 1]]), (1050, .row 1 3 [[dI .i64 (1 : Int)], [dI .i64 (2 : Int)]]), (1051, .row 1 3 [[dI .i64 (-1 : Int)], [dI .i64 (-2 : Int)]]), (1052, .row 1 34 [[.slice 1050 1 0 2], [.slice 1051 1 0 2]]), (1053, .row 0 25 [[.slice 1049 1 0 2, .slice 1052 1 0 2]])]) rfl rfl (st_stP ta65 rfl rfl rfl rfl rfl rfl rfl rfl) rfl rfl rfl rfl ?_
  refine rd_nil (by kernel_rfl) ?_
  refine nx_then ?_
  refine awp_rs ?_
  refine ro rfl rfl (st_ldP (v := .agg [.slice 1049 1 0 2, .slice 1052 1 0 2]) ta25 rfl rfl rfl rfl) ?_
  refine rx (L' := [(1001, .row 0 25 [[dL 2 e_S_api_Block ([(S_api_Block.mk false [(1 : Int)]), (S_api_Block.mk true [(2 : Int)])]), .slice 1007 1 0 2]]), (1007, .row 1 34 [[dL 1 (eI .i64) [(1 : Int), (2 : Int)]], [dL 1 (eI .i64) [(-1 : Int), (-2 : Int)]]]), (1008, .row 0 25 [[dL 2 e_S_api_Block ([(S_api_Block.mk false [(1 : Int)]), (S_api_Block.mk true [(2 : Int)])]), .slice 1007 1 0 2]]), (1009, .row 0 25 [[dL 2 e_S_api_Block ([(S_api_Block.mk true [(2 : Int)]), (S_api_Block.mk false [(1 : Int)])]), .slice 1015 1 0 2]]), (1015, .row 1 34 [[dL 1 (eI .i64) [(1 : Int), (2 : Int)]], [dL 1 (eI .i64) [(-1 : Int), (-2 : Int)]]]), (1016, .row 0 25 [[dL 2 e_S_api_Block ([(S_api_Block.mk true [(2 : Int)]), (S_api_Block.mk false [(1 : Int)])]), .slice 1015 1 0 2]]), (1017, .row 0 25 [[dL 2 e_S_api_Block ([(S_api_Block.mk true [(2 : Int)]), (S_api_Block.mk false [(1 : Int)])]), dL 1 (eL 1 (eI .i64)) ([[(1 : Int), (2 : Int)], [(-1 : Int), (-2 : Int)]])]]), (1024, .row 0 25 [[dL 2 e_S_api_Block ([(S_api_Block.mk true [(2 : Int)]), (S_api_Block.mk false [(1 : Int)])]), dL 1 (eL 1 (eI .i64)) ([[(1 : Int), (2 : Int)], [(-1 : Int), (-2 : Int)]])]]), (1025, .row 0 37 [[dL 1 (eI .i64) [(1 : Int), (3 : Int)], dL 2 e_S_api_Dep ([(S_api_Dep.mk (2 : Int) [(1 : Int)]), (S_api_Dep.mk (4 : Int) [(3 : Int)])]), .slice 1032 1 0 2]]), (1032, .row 1 34 [[dL 1 (eI .i64) [(-1 : Int), (2 : Int), (4 : Int)]], [dL 1 (eI .i64) [(-2 : Int), (-4 : Int)]]]), (1034, .row 1 34 [[dL 1 (eI .i64) [(1 : Int)]]]), (1035, .row 0 25 [[dL 2 e_S_api_Block ([(S_api_Block.mk false [(1 : Int)]), (S_api_Block.mk true [(2 : Int)])]), dL 1 (eL 1 (eI .i64)) ([[(1 : Int), (2 : Int)], [(-1 : Int), (-2 : Int)]])]]), (1042, .row 0 25 [[dL 2 e_S_api_Block ([(S_api_Block.mk false [(1 : Int)]), (S_api_Block.mk true [(2 : Int)])]), dL 1 (eL 1 (eI .i64)) ([[(1 : Int), (2 : Int)], [(-1 : Int), (-2 : Int)]])]]), (1043, .row 1 3 [[dI .i64 (1 : Int)]]), (1044, .row 1 3 [[dI .i64 (1 : Int)]]), (1045, .row 1 51 [[dI .i64 (2 : Int), .slice 1044 1 0 1]]), (1046, .row 0 25 [[.slice 1049 1 0 2, .slice 1052 1 0 2]]), (1047, .row 1 3 [[dI .i64 (1 : Int)]]), (1048, .row 1 3 [[dI .i64 (2 : Int)]]), (1049, .row 1 65 [[dB true, .slice 1048 1 0 1], [dB false, .slice 1047 1 0 1]]), (1050, .row 1 3 [[dI .i64 (1 : Int)], [dI .i64 (2 : Int)]]), (1051, .row 1 3 [[dI .i64 (-1 : Int)], [dI .i64 (-2 : Int)]]), (1052, .row 1 34 [[.slice 1050 1 0 2], [.slice 1051 1 0 2]]), (1053, .row 0 25 [[.slice 1049 1 0 2, .slice 1052 1 0 2]])]) rfl rfl (st_stP ta25 rfl rfl rfl rfl rfl rfl rfl rfl) rfl ?_
  refine rw_nilk ?_
  refine awp_ret ?_
  refine ret_in (v := .agg [.slice 1049 1 0 2, .slice 1052 1 0 2]) (resV_one (resVs_cell (v := .agg [.slice 1049 1 0 2, .slice 1052 1 0 2]) ta25 rfl rfl rfl rfl resVs_nil)) ?_
  show RW _ _ _ _ _ _ _
  refine ro rfl rfl (st_field (v := .slice 1052 1 0 2) fo25_1 rfl rfl) ?_
  refine ro rfl rfl (st_build (vs := [.slice 1043 1 0 1, .slice 1045 1 0 1, .slice 1052 1 0 2]) bl37 rfl rfl) ?_
  refine RW.gh (gh_frz (E' := [(1, dI .u8 y101.1), (2, dI .i64 y101.2), (3, dI .u8 y102.1), (4, dI .i64 y102.2), (5, dL 3 e_S_api_Table ((([(S_api_Table.mk (1 : Int) [(2 : Int)] [false, true])], (0 : Int)) : ((List S_api_Table) × Int)).1)), (6, dI .i64 ((([(S_api_Table.mk (1 : Int) [(2 : Int)] [false, true])], (0 : Int)) : ((List S_api_Table) × Int)).2)), (7, dI .u8 ((((1 : Int), (0 : Int)) : (Int × Int)).1)), (8, dI .i64 ((((1 : Int), (0 : Int)) : (Int × Int)).2)), (10, dI .i64 y105.2), (12, dI .i64 (((([] : List S_api_Table), (6 : Int)) : ((List S_api_Table) × Int)).2)), (55, .agg [dL 1 (eI .i64) [(1 : Int)], .slice 1045 1 0 1, .slice 1052 1 0 2])]) (L' := [(1001, .row 0 25 [[dL 2 e_S_api_Block ([(S_api_Block.mk false [(1 : Int)]), (S_api_Block.mk true [(2 : Int)])]), .slice 1007 1 0 2]]), (1007, .row 1 34 [[dL 1 (eI .i64) [(1 : Int), (2 : Int)]], [dL 1 (eI .i64) [(-1 : Int), (-2 : Int)]]]), (1008, .row 0 25 [[dL 2 e_S_api_Block ([(S_api_Block.mk false [(1 : Int)]), (S_api_Block.mk true [(2 : Int)])]), .slice 1007 1 0 2]]), (1009, .row 0 25 [[dL 2 e_S_api_Block ([(S_api_Block.mk true [(2 : Int)]), (S_api_Block.mk false [(1 : Int)])]), .slice 1015 1 0 2]]), (1015, .row 1 34 [[dL 1 (eI .i64) [(1 : Int), (2 : Int)]], [dL 1 (eI .i64) [(-1 : Int), (-2 : Int)]]]), (1016, .row 0 25 [[dL 2 e_S_api_Block ([(S_api_Block.mk true [(2 : Int)]), (S_api_Block.mk false [(1 : Int)])]), .slice 1015 1 0 2]]), (1017, .row 0 25 [[dL 2 e_S_api_Block ([(S_api_Block.mk true [(2 : Int)]), (S_api_Block.mk false [(1 : Int)])]), dL 1 (eL 1 (eI .i64)) ([[(1 : Int), (2 : Int)], [(-1 : Int), (-2 : Int)]])]]), (1024, .row 0 25 [[dL 2 e_S_api_Block ([(S_api_Block.mk true [(2 : Int)]), (S_api_Block.mk false [(1 : Int)])]), dL 1 (eL 1 (eI .i64)) ([[(1 : Int), (2 : Int)], [(-1 : Int), (-2 : Int)]])]]), (1025, .row 0 37 [[dL 1 (eI .i64) [(1 : Int), (3 : Int)], dL 2 e_S_api_Dep ([(S_api_Dep.mk (2 : Int) [(1 : Int)]), (S_api_Dep.mk (4 : Int) [(3 : Int)])]), .slice 1032 1 0 2]]), (1032, .row 1 34 [[dL 1 (eI .i64) [(-1 : Int), (2 : Int), (4 : Int)]], [dL 1 (eI .i64) [(-2 : Int), (-4 : Int)]]]), (1034, .row 1 34 [[dL 1 (eI .i64) [(1 : Int)]]]), (1035, .row 0 25 [[dL 2 e_S_api_Block ([(S_api_Block.mk false [(1 : Int)]), (S_api_Block.mk true [(2 : Int)])]), dL 1 (eL 1 (eI .i64)) ([[(1 : Int), (2 : Int)], [(-1 : Int), (-2 : Int)]])]]), (1042, .row 0 25 [[dL 2 e_S_api_Block ([(S_api_Block.mk false [(1 : Int)]), (S_api_Block.mk true [(2 : Int)])]), dL 1 (eL 1 (eI .i64)) ([[(1 : Int), (2 : Int)], [(-1 : Int), (-2 : Int)]])]]), (1044, .row 1 3 [[dI .i64 (1 : Int)]]), (1045, .row 1 51 [[dI .i64 (2 : Int), .slice 1044 1 0 1]]), (1046, .row 0 25 [[.slice 1049 1 0 2, .slice 1052 1 0 2]]), (1047, .row 1 3 [[dI .i64 (1 : Int)]]), (1048, .row 1 3 [[dI .i64 (2 : Int)]]), (1049, .row 1 65 [[dB true, .slice 1048 1 0 1], [dB false, .slice 1047 1 0 1]]), (1050, .row 1 3 [[dI .i64 (1 : Int)], [dI .i64 (2 : Int)]]), (1051, .row 1 3 [[dI .i64 (-1 : Int)], [dI .i64 (-2 : Int)]]), (1052, .row 1 34 [[.slice 1050 1 0 2], [.slice 1051 1 0 2]]), (1053, .row 0 25 [[.slice 1049 1 0 2, .slice 1052 1 0 2]])]) rfl rfl ⟨⟨_, rfl, .keep rfl⟩, ⟨_, rfl, .keep rfl⟩, ⟨_, rfl, .keep rfl⟩, ⟨_, rfl, .keep rfl⟩, ⟨_, rfl, .keep rfl⟩, ⟨_, rfl, .keep rfl⟩, ⟨_, rfl, .keep rfl⟩, ⟨_, rfl, .keep rfl⟩, ⟨_, rfl, .keep rfl⟩, ⟨_, rfl, .keep rfl⟩, ⟨_, rfl, frz_agg ⟨(frzT (f := (eI .i64)) (xs := [(1 : Int)]) rfl rfl co3 rfl), (.keep rfl), (.keep rfl), trivial⟩⟩, trivial⟩ ⟨⟨_, rfl, objOne ⟨⟨rfl, .keep rfl⟩, ⟨rfl, .keep rfl⟩, trivial⟩⟩, ⟨_, rfl, objKeep rfl⟩, ⟨_, rfl, objOne ⟨⟨rfl, .keep rfl⟩, ⟨rfl, .keep rfl⟩, trivial⟩⟩, ⟨_, rfl, objOne ⟨⟨rfl, .keep rfl⟩, ⟨rfl, .keep rfl⟩, trivial⟩⟩, ⟨_, rfl, objKeep rfl⟩, ⟨_, rfl, objOne ⟨⟨rfl, .keep rfl⟩, ⟨rfl, .keep rfl⟩, trivial⟩⟩, ⟨_, rfl, objOne ⟨⟨rfl, .keep rfl⟩, ⟨rfl, .keep rfl⟩, trivial⟩⟩, ⟨_, rfl, objOne ⟨⟨rfl, .keep rfl⟩, ⟨rfl, .keep rfl⟩, trivial⟩⟩, ⟨_, rfl, objOne ⟨⟨rfl, .keep rfl⟩, ⟨rfl, .keep rfl⟩, ⟨rfl, .keep rfl⟩, trivial⟩⟩, ⟨_, rfl, objKeep rfl⟩, ⟨_, rfl, objOne ⟨⟨rfl, .keep rfl⟩, trivial⟩⟩, ⟨_, rfl, objOne ⟨⟨rfl, .keep rfl⟩, ⟨rfl, .keep rfl⟩, trivial⟩⟩, ⟨_, rfl, objOne ⟨⟨rfl, .keep rfl⟩, ⟨rfl, .keep rfl⟩, trivial⟩⟩, ⟨_, rfl, objOne ⟨⟨rfl, .keep rfl⟩, trivial⟩⟩, ⟨_, rfl, objOne ⟨⟨rfl, .keep rfl⟩, ⟨rfl, .keep rfl⟩, trivial⟩⟩, ⟨_, rfl, objOne ⟨⟨rfl, .keep rfl⟩, ⟨rfl, .keep rfl⟩, trivial⟩⟩, ⟨_, rfl, objOne ⟨⟨rfl, .keep rfl⟩, trivial⟩⟩, ⟨_, rfl, objOne ⟨⟨rfl, .keep rfl⟩, trivial⟩⟩, ⟨_, rfl, objKeep rfl⟩, ⟨_, rfl, objKeep rfl⟩, ⟨_, rfl, objKeep rfl⟩, ⟨_, rfl, objKeep rfl⟩, ⟨_, rfl, objOne ⟨⟨rfl, .keep rfl⟩, ⟨rfl, .keep rfl⟩, trivial⟩⟩, trivial⟩) ?_
  refine RW.gh (gh_frz (E' := [(1, dI .u8 y101.1), (2, dI .i64 y101.2), (3, dI .u8 y102.1), (4, dI .i64 y102.2), (5, dL 3 e_S_api_Table ((([(S_api_Table.mk (1 : Int) [(2 : Int)] [false, true])], (0 : Int)) : ((List S_api_Table) × Int)).1)), (6, dI .i64 ((([(S_api_Table.mk (1 : Int) [(2 : Int)] [false, true])], (0 : Int)) : ((List S_api_Table) × Int)).2)), (7, dI .u8 ((((1 : Int), (0 : Int)) : (Int × Int)).1)), (8, dI .i64 ((((1 : Int), (0 : Int)) : (Int × Int)).2)), (10, dI .i64 y105.2), (12, dI .i64 (((([] : List S_api_Table), (6 : Int)) : ((List S_api_Table) × Int)).2)), (55, .agg [dL 1 (eI .i64) [(1 : Int)], .slice 1045 1 0 1, .slice 1052 1 0 2])]) (L' := [(1001, .row 0 25 [[dL 2 e_S_api_Block ([(S_api_Block.mk false [(1 : Int)]), (S_api_Block.mk true [(2 : Int)])]), .slice 1007 1 0 2]]), (1007, .row 1 34 [[dL 1 (eI .i64) [(1 : Int), (2 : Int)]], [dL 1 (eI .i64) [(-1 : Int), (-2 : Int)]]]), (1008, .row 0 25 [[dL 2 e_S_api_Block ([(S_api_Block.mk false [(1 : Int)]), (S_api_Block.mk true [(2 : Int)])]), .slice 1007 1 0 2]]), (1009, .row 0 25 [[dL 2 e_S_api_Block ([(S_api_Block.mk true [(2 : Int)]), (S_api_Block.mk false [(1 : Int)])]), .slice 1015 1 0 2]]), (1015, .row 1 34 [[dL 1 (eI .i64) [(1 : Int), (2 : Int)]], [dL 1 (eI .i64) [(-1 : Int), (-2 : Int)]]]), (1016, .row 0 25 [[dL 2 e_S_api_Block ([(S_api_Block.mk true [(2 : Int)]), (S_api_Block.mk false [(1 : Int)])]), .slice 1015 1 0 2]]), (1017, .row 0 25 [[dL 2 e_S_api_Block ([(S_api_Block.mk true [(2 : Int)]), (S_api_Block.mk false [(1 : Int)])]), dL 1 (eL 1 (eI .i64)) ([[(1 : Int), (2 : Int)], [(-1 : Int), (-2 : Int)]])]]), (1024, .row 0 25 [[dL 2 e_S_api_Block ([(S_api_Block.mk true [(2 : Int)]), (S_api_Block.mk false [(1 : Int)])]), dL 1 (eL 1 (eI .i64)) ([[(1 : Int), (2 : Int)], [(-1 : Int), (-2 : Int)]])]]), (1025, .row 0 37 [[dL 1 (eI .i64) [(1 : Int), (3 : Int)], dL 2 e_S_api_Dep ([(S_api_Dep.mk (2 : Int) [(1 : Int)]), (S_api_Dep.mk (4 : Int) [(3 : Int)])]), .slice 1032 1 0 2]]), (1032, .row 1 34 [[dL 1 (eI .i64) [(-1 : Int), (2 : Int), (4 : Int)]], [dL 1 (eI .i64) [(-2 : Int), (-4 : Int)]]]), (1034, .row 1 34 [[dL 1 (eI .i64) [(1 : Int)]]]), (1035, .row 0 25 [[dL 2 e_S_api_Block ([(S_api_Block.mk false [(1 : Int)]), (S_api_Block.mk true [(2 : Int)])]), dL 1 (eL 1 (eI .i64)) ([[(1 : Int), (2 : Int)], [(-1 : Int), (-2 : Int)]])]]), (1042, .row 0 25 [[dL 2 e_S_api_Block ([(S_api_Block.mk false [(1 : Int)]), (S_api_Block.mk true [(2 : Int)])]), dL 1 (eL 1 (eI .i64)) ([[(1 : Int), (2 : Int)], [(-1 : Int), (-2 : Int)]])]]), (1045, .row 1 51 [[dI .i64 (2 : Int), dL 1 (eI .i64) [(1 : Int)]]]), (1046, .row 0 25 [[.slice 1049 1 0 2, .slice 1052 1 0 2]]), (1047, .row 1 3 [[dI .i64 (1 : Int)]]), (1048, .row 1 3 [[dI .i64 (2 : Int)]]), (1049, .row 1 65 [[dB true, .slice 1048 1 0 1], [dB false, .slice 1047 1 0 1]]), (1050, .row 1 3 [[dI .i64 (1 : Int)], [dI .i64 (2 : Int)]]), (1051, .row 1 3 [[dI .i64 (-1 : Int)], [dI .i64 (-2 : Int)]]), (1052, .row 1 34 [[.slice 1050 1 0 2], [.slice 1051 1 0 2]]), (1053, .row 0 25 [[.slice 1049 1 0 2, .slice 1052 1 0 2]])]) rfl rfl ⟨⟨_, rfl, .keep rfl⟩, ⟨_, rfl, .keep rfl⟩, ⟨_, rfl, .keep rfl⟩, ⟨_, rfl, .keep rfl⟩, ⟨_, rfl, .keep rfl⟩, ⟨_, rfl, .keep rfl⟩, ⟨_, rfl, .keep rfl⟩, ⟨_, rfl, .keep rfl⟩, ⟨_, rfl, .keep rfl⟩, ⟨_, rfl, .keep rfl⟩, ⟨_, rfl, .keep rfl⟩, trivial⟩ ⟨⟨_, rfl, objOne ⟨⟨rfl, .keep rfl⟩, ⟨rfl, .keep rfl⟩, trivial⟩⟩, ⟨_, rfl, objKeep rfl⟩, ⟨_, rfl, objOne ⟨⟨rfl, .keep rfl⟩, ⟨rfl, .keep rfl⟩, trivial⟩⟩, ⟨_, rfl, objOne ⟨⟨rfl, .keep rfl⟩, ⟨rfl, .keep rfl⟩, trivial⟩⟩, ⟨_, rfl, objKeep rfl⟩, ⟨_, rfl, objOne ⟨⟨rfl, .keep rfl⟩, ⟨rfl, .keep rfl⟩, trivial⟩⟩, ⟨_, rfl, objOne ⟨⟨rfl, .keep rfl⟩, ⟨rfl, .keep rfl⟩, trivial⟩⟩, ⟨_, rfl, objOne ⟨⟨rfl, .keep rfl⟩, ⟨rfl, .keep rfl⟩, trivial⟩⟩, ⟨_, rfl, objOne ⟨⟨rfl, .keep rfl⟩, ⟨rfl, .keep rfl⟩, ⟨rfl, .keep rfl⟩, trivial⟩⟩, ⟨_, rfl, objKeep rfl⟩, ⟨_, rfl, objOne ⟨⟨rfl, .keep rfl⟩, trivial⟩⟩, ⟨_, rfl, objOne ⟨⟨rfl, .keep rfl⟩, ⟨rfl, .keep rfl⟩, trivial⟩⟩, ⟨_, rfl, objOne ⟨⟨rfl, .keep rfl⟩, ⟨rfl, .keep rfl⟩, trivial⟩⟩, ⟨_, rfl, objOne ⟨⟨rfl, .keep rfl⟩, ⟨rfl, frzT (f := (eI .i64)) (xs := [(1 : Int)]) rfl rfl co3 rfl⟩, trivial⟩⟩, ⟨_, rfl, objOne ⟨⟨rfl, .keep rfl⟩, ⟨rfl, .keep rfl⟩, trivial⟩⟩, ⟨_, rfl, objOne ⟨⟨rfl, .keep rfl⟩, trivial⟩⟩, ⟨_, rfl, objOne ⟨⟨rfl, .keep rfl⟩, trivial⟩⟩, ⟨_, rfl, objKeep rfl⟩, ⟨_, rfl, objKeep rfl⟩, ⟨_, rfl, objKeep rfl⟩, ⟨_, rfl, objKeep rfl⟩, ⟨_, rfl, objOne ⟨⟨rfl, .keep rfl⟩, ⟨rfl, .keep rfl⟩, trivial⟩⟩, trivial⟩) ?_
  refine RW.gh (gh_frz (E' := [(1, dI .u8 y101.1), (2, dI .i64 y101.2), (3, dI .u8 y102.1), (4, dI .i64 y102.2), (5, dL 3 e_S_api_Table ((([(S_api_Table.mk (1 : Int) [(2 : Int)] [false, true])], (0 : Int)) : ((List S_api_Table) × Int)).1)), (6, dI .i64 ((([(S_api_Table.mk (1 : Int) [(2 : Int)] [false, true])], (0 : Int)) : ((List S_api_Table) × Int)).2)), (7, dI .u8 ((((1 : Int), (0 : Int)) : (Int × Int)).1)), (8, dI .i64 ((((1 : Int), (0 : Int)) : (Int × Int)).2)), (10, dI .i64 y105.2), (12, dI .i64 (((([] : List S_api_Table), (6 : Int)) : ((List S_api_Table) × Int)).2)), (55, .agg [dL 1 (eI .i64) [(1 : Int)], dL 2 e_S_api_Dep ([(S_api_Dep.mk (2 : Int) [(1 : Int)])]), .slice 1052 1 0 2])]) (L' := [(1001, .row 0 25 [[dL 2 e_S_api_Block ([(S_api_Block.mk false [(1 : Int)]), (S_api_Block.mk true [(2 : Int)])]), .slice 1007 1 0 2]]), (1007, .row 1 34 [[dL 1 (eI .i64) [(1 : Int), (2 : Int)]], [dL 1 (eI .i64) [(-1 : Int), (-2 : Int)]]]), (1008, .row 0 25 [[dL 2 e_S_api_Block ([(S_api_Block.mk false [(1 : Int)]), (S_api_Block.mk true [(2 : Int)])]), .slice 1007 1 0 2]]), (1009, .row 0 25 [[dL 2 e_S_api_Block ([(S_api_Block.mk true [(2 : Int)]), (S_api_Block.mk false [(1 : Int)])]), .slice 1015 1 0 2]]), (1015, .row 1 34 [[dL 1 (eI .i64) [(1 : Int), (2 : Int)]], [dL 1 (eI .i64) [(-1 : Int), (-2 : Int)]]]), (1016, .row 0 25 [[dL 2 e_S_api_Block ([(S_api_Block.mk true [(2 : Int)]), (S_api_Block.mk false [(1 : Int)])]), .slice 1015 1 0 2]]), (1017, .row 0 25 [[dL 2 e_S_api_Block ([(S_api_Block.mk true [(2 : Int)]), (S_api_Block.mk false [(1 : Int)])]), dL 1 (eL 1 (eI .i64)) ([[(1 : Int), (2 : Int)], [(-1 : Int), (-2 : Int)]])]]), (1024, .row 0 25 [[dL 2 e_S_api_Block ([(S_api_Block.mk true [(2 : Int)]), (S_api_Block.mk false [(1 : Int)])]), dL 1 (eL 1 (eI .i64)) ([[(1 : Int), (2 : Int)], [(-1 : Int), (-2 : Int)]])]]), (1025, .row 0 37 [[dL 1 (eI .i64) [(1 : Int), (3 : Int)], dL 2 e_S_api_Dep ([(S_api_Dep.mk (2 : Int) [(1 : Int)]), (S_api_Dep.mk (4 : Int) [(3 : Int)])]), .slice 1032 1 0 2]]), (1032, .row 1 34 [[dL 1 (eI .i64) [(-1 : Int), (2 : Int), (4 : Int)]], [dL 1 (eI .i64) [(-2 : Int), (-4 : Int)]]]), (1034, .row 1 34 [[dL 1 (eI .i64) [(1 : Int)]]]), (1035, .row 0 25 [[dL 2 e_S_api_Block ([(S_api_Block.mk false [(1 : Int)]), (S_api_Block.mk true [(2 : Int)])]), dL 1 (eL 1 (eI .i64)) ([[(1 : Int), (2 : Int)], [(-1 : Int), (-2 : Int)]])]]), (1042, .row 0 25 [[dL 2 e_S_api_Block ([(S_api_Block.mk false [(1 : Int)]), (S_api_Block.mk true [(2 : Int)])]), dL 1 (eL 1 (eI .i64)) ([[(1 : Int), (2 : Int)], [(-1 : Int), (-2 : Int)]])]]), (1046, .row 0 25 [[.slice 1049 1 0 2, .slice 1052 1 0 2]]), (1047, .row 1 3 [[dI .i64 (1 : Int)]]), (1048, .row 1 3 [[dI .i64 (2 : Int)]]), (1049, .row 1 65 [[dB true, .slice 1048 1 0 1], [dB false, .slice 1047 1 0 1]]), (1050, .row 1 3 [[dI .i64 (1 : Int)], [dI .i64 (2 : Int)]]), (1051, .row 1 3 [[dI .i64 (-1 : Int)], [dI .i64 (-2 : Int)]]), (1052, .row 1 34 [[.slice 1050 1 0 2], [.slice 1051 1 0 2]]), (1053, .row 0 25 [[.slice 1049 1 0 2, .slice 1052 1 0 2]])]) rfl rfl ⟨⟨_, rfl, .keep rfl⟩, ⟨_, rfl, .keep rfl⟩, ⟨_, rfl, .keep rfl⟩, ⟨_, rfl, .keep rfl⟩, ⟨_, rfl, .keep rfl⟩, ⟨_, rfl, .keep rfl⟩, ⟨_, rfl, .keep rfl⟩, ⟨_, rfl, .keep rfl⟩, ⟨_, rfl, .keep rfl⟩, ⟨_, rfl, .keep rfl⟩, ⟨_, rfl, frz_agg ⟨(.keep rfl), (frzT (f := e_S_api_Dep) (xs := [(S_api_Dep.mk (2 : Int) [(1 : Int)])]) rfl rfl co51 rfl), (.keep rfl), trivial⟩⟩, trivial⟩ ⟨⟨_, rfl, objOne ⟨⟨rfl, .keep rfl⟩, ⟨rfl, .keep rfl⟩, trivial⟩⟩, ⟨_, rfl, objKeep rfl⟩, ⟨_, rfl, objOne ⟨⟨rfl, .keep rfl⟩, ⟨rfl, .keep rfl⟩, trivial⟩⟩, ⟨_, rfl, objOne ⟨⟨rfl, .keep rfl⟩, ⟨rfl, .keep rfl⟩, trivial⟩⟩, ⟨_, rfl, objKeep rfl⟩, ⟨_, rfl, objOne ⟨⟨rfl, .keep rfl⟩, ⟨rfl, .keep rfl⟩, trivial⟩⟩, ⟨_, rfl, objOne ⟨⟨rfl, .keep rfl⟩, ⟨rfl, .keep rfl⟩, trivial⟩⟩, ⟨_, rfl, objOne ⟨⟨rfl, .keep rfl⟩, ⟨rfl, .keep rfl⟩, trivial⟩⟩, ⟨_, rfl, objOne ⟨⟨rfl, .keep rfl⟩, ⟨rfl, .keep rfl⟩, ⟨rfl, .keep rfl⟩, trivial⟩⟩, ⟨_, rfl, objKeep rfl⟩, ⟨_, rfl, objOne ⟨⟨rfl, .keep rfl⟩, trivial⟩⟩, ⟨_, rfl, objOne ⟨⟨rfl, .keep rfl⟩, ⟨rfl, .keep rfl⟩, trivial⟩⟩, ⟨_, rfl, objOne ⟨⟨rfl, .keep rfl⟩, ⟨rfl, .keep rfl⟩, trivial⟩⟩, ⟨_, rfl, objOne ⟨⟨rfl, .keep rfl⟩, ⟨rfl, .keep rfl⟩, trivial⟩⟩, ⟨_, rfl, objOne ⟨⟨rfl, .keep rfl⟩, trivial⟩⟩, ⟨_, rfl, objOne ⟨⟨rfl, .keep rfl⟩, trivial⟩⟩, ⟨_, rfl, objKeep rfl⟩, ⟨_, rfl, objKeep rfl⟩, ⟨_, rfl, objKeep rfl⟩, ⟨_, rfl, objKeep rfl⟩, ⟨_, rfl, objOne ⟨⟨rfl, .keep rfl⟩, ⟨rfl, .keep rfl⟩, trivial⟩⟩, trivial⟩) ?_
  refine RW.gh (gh_frz (E' := [(1, dI .u8 y101.1), (2, dI .i64 y101.2), (3, dI .u8 y102.1), (4, dI .i64 y102.2), (5, dL 3 e_S_api_Table ((([(S_api_Table.mk (1 : Int) [(2 : Int)] [false, true])], (0 : Int)) : ((List S_api_Table) × Int)).1)), (6, dI .i64 ((([(S_api_Table.mk (1 : Int) [(2 : Int)] [false, true])], (0 : Int)) : ((List S_api_Table) × Int)).2)), (7, dI .u8 ((((1 : Int), (0 : Int)) : (Int × Int)).1)), (8, dI .i64 ((((1 : Int), (0 : Int)) : (Int × Int)).2)), (10, dI .i64 y105.2), (12, dI .i64 (((([] : List S_api_Table), (6 : Int)) : ((List S_api_Table) × Int)).2)), (55, .agg [dL 1 (eI .i64) [(1 : Int)], dL 2 e_S_api_Dep ([(S_api_Dep.mk (2 : Int) [(1 : Int)])]), .slice 1052 1 0 2])]) (L' := [(1001, .row 0 25 [[dL 2 e_S_api_Block ([(S_api_Block.mk false [(1 : Int)]), (S_api_Block.mk true [(2 : Int)])]), .slice 1007 1 0 2]]), (1007, .row 1 34 [[dL 1 (eI .i64) [(1 : Int), (2 : Int)]], [dL 1 (eI .i64) [(-1 : Int), (-2 : Int)]]]), (1008, .row 0 25 [[dL 2 e_S_api_Block ([(S_api_Block.mk false [(1 : Int)]), (S_api_Block.mk true [(2 : Int)])]), .slice 1007 1 0 2]]), (1009, .row 0 25 [[dL 2 e_S_api_Block ([(S_api_Block.mk true [(2 : Int)]), (S_api_Block.mk false [(1 : Int)])]), .slice 1015 1 0 2]]), (1015, .row 1 34 [[dL 1 (eI .i64) [(1 : Int), (2 : Int)]], [dL 1 (eI .i64) [(-1 : Int), (-2 : Int)]]]), (1016, .row 0 25 [[dL 2 e_S_api_Block ([(S_api_Block.mk true [(2 : Int)]), (S_api_Block.mk false [(1 : Int)])]), .slice 1015 1 0 2]]), (1017, .row 0 25 [[dL 2 e_S_api_Block ([(S_api_Block.mk true [(2 : Int)]), (S_api_Block.mk false [(1 : Int)])]), dL 1 (eL 1 (eI .i64)) ([[(1 : Int), (2 : Int)], [(-1 : Int), (-2 : Int)]])]]), (1024, .row 0 25 [[dL 2 e_S_api_Block ([(S_api_Block.mk true [(2 : Int)]), (S_api_Block.mk false [(1 : Int)])]), dL 1 (eL 1 (eI .i64)) ([[(1 : Int), (2 : Int)], [(-1 : Int), (-2 : Int)]])]]), (1025, .row 0 37 [[dL 1 (eI .i64) [(1 : Int), (3 : Int)], dL 2 e_S_api_Dep ([(S_api_Dep.mk (2 : Int) [(1 : Int)]), (S_api_Dep.mk (4 : Int) [(3 : Int)])]), .slice 1032 1 0 2]]), (1032, .row 1 34 [[dL 1 (eI .i64) [(-1 : Int), (2 : Int), (4 : Int)]], [dL 1 (eI .i64) [(-2 : Int), (-4 : Int)]]]), (1034, .row 1 34 [[dL 1 (eI .i64) [(1 : Int)]]]), (1035, .row 0 25 [[dL 2 e_S_api_Block ([(S_api_Block.mk false [(1 : Int)]), (S_api_Block.mk true [(2 : Int)])]), dL 1 (eL 1 (eI .i64)) ([[(1 : Int), (2 : Int)], [(-1 : Int), (-2 : Int)]])]]), (1042, .row 0 25 [[dL 2 e_S_api_Block ([(S_api_Block.mk false [(1 : Int)]), (S_api_Block.mk true [(2 : Int)])]), dL 1 (eL 1 (eI .i64)) ([[(1 : Int), (2 : Int)], [(-1 : Int), (-2 : Int)]])]]), (1046, .row 0 25 [[.slice 1049 1 0 2, .slice 1052 1 0 2]]), (1047, .row 1 3 [[dI .i64 (1 : Int)]]), (1048, .row 1 3 [[dI .i64 (2 : Int)]]), (1049, .row 1 65 [[dB true, .slice 1048 1 0 1], [dB false, .slice 1047 1 0 1]]), (1051, .row 1 3 [[dI .i64 (-1 : Int)], [dI .i64 (-2 : Int)]]), (1052, .row 1 34 [[dL 1 (eI .i64) [(1 : Int), (2 : Int)]], [.slice 1051 1 0 2]]), (1053, .row 0 25 [[.slice 1049 1 0 2, .slice 1052 1 0 2]])]) rfl rfl ⟨⟨_, rfl, .keep rfl⟩, ⟨_, rfl, .keep rfl⟩, ⟨_, rfl, .keep rfl⟩, ⟨_, rfl, .keep rfl⟩, ⟨_, rfl, .keep rfl⟩, ⟨_, rfl, .keep rfl⟩, ⟨_, rfl, .keep rfl⟩, ⟨_, rfl, .keep rfl⟩, ⟨_, rfl, .keep rfl⟩, ⟨_, rfl, .keep rfl⟩, ⟨_, rfl, .keep rfl⟩, trivial⟩ ⟨⟨_, rfl, objOne ⟨⟨rfl, .keep rfl⟩, ⟨rfl, .keep rfl⟩, trivial⟩⟩, ⟨_, rfl, objKeep rfl⟩, ⟨_, rfl, objOne ⟨⟨rfl, .keep rfl⟩, ⟨rfl, .keep rfl⟩, trivial⟩⟩, ⟨_, rfl, objOne ⟨⟨rfl, .keep rfl⟩, ⟨rfl, .keep rfl⟩, trivial⟩⟩, ⟨_, rfl, objKeep rfl⟩, ⟨_, rfl, objOne ⟨⟨rfl, .keep rfl⟩, ⟨rfl, .keep rfl⟩, trivial⟩⟩, ⟨_, rfl, objOne ⟨⟨rfl, .keep rfl⟩, ⟨rfl, .keep rfl⟩, trivial⟩⟩, ⟨_, rfl, objOne ⟨⟨rfl, .keep rfl⟩, ⟨rfl, .keep rfl⟩, trivial⟩⟩, ⟨_, rfl, objOne ⟨⟨rfl, .keep rfl⟩, ⟨rfl, .keep rfl⟩, ⟨rfl, .keep rfl⟩, trivial⟩⟩, ⟨_, rfl, objKeep rfl⟩, ⟨_, rfl, objOne ⟨⟨rfl, .keep rfl⟩, trivial⟩⟩, ⟨_, rfl, objOne ⟨⟨rfl, .keep rfl⟩, ⟨rfl, .keep rfl⟩, trivial⟩⟩, ⟨_, rfl, objOne ⟨⟨rfl, .keep rfl⟩, ⟨rfl, .keep rfl⟩, trivial⟩⟩, ⟨_, rfl, objOne ⟨⟨rfl, .keep rfl⟩, ⟨rfl, .keep rfl⟩, trivial⟩⟩, ⟨_, rfl, objOne ⟨⟨rfl, .keep rfl⟩, trivial⟩⟩, ⟨_, rfl, objOne ⟨⟨rfl, .keep rfl⟩, trivial⟩⟩, ⟨_, rfl, objKeep rfl⟩, ⟨_, rfl, objKeep rfl⟩, ⟨_, rfl, objEls ⟨⟨⟨rfl, frzT (f := (eI .i64)) (xs := [(1 : Int), (2 : Int)]) rfl rfl co3 rfl⟩, trivial⟩, ⟨⟨rfl, .keep rfl⟩, trivial⟩, trivial⟩⟩, ⟨_, rfl, objOne ⟨⟨rfl, .keep rfl⟩, ⟨rfl, .keep rfl⟩, trivial⟩⟩, trivial⟩) ?_
  refine RW.gh (gh_frz (E' := [(1, dI .u8 y101.1), (2, dI .i64 y101.2), (3, dI .u8 y102.1), (4, dI .i64 y102.2), (5, dL 3 e_S_api_Table ((([(S_api_Table.mk (1 : Int) [(2 : Int)] [false, true])], (0 : Int)) : ((List S_api_Table) × Int)).1)), (6, dI .i64 ((([(S_api_Table.mk (1 : Int) [(2 : Int)] [false, true])], (0 : Int)) : ((List S_api_Table) × Int)).2)), (7, dI .u8 ((((1 : Int), (0 : Int)) : (Int × Int)).1)), (8, dI .i64 ((((1 : Int), (0 : Int)) : (Int × Int)).2)), (10, dI .i64 y105.2), (12, dI .i64 (((([] : List S_api_Table), (6 : Int)) : ((List S_api_Table) × Int)).2)), (55, .agg [dL 1 (eI .i64) [(1 : Int)], dL 2 e_S_api_Dep ([(S_api_Dep.mk (2 : Int) [(1 : Int)])]), .slice 1052 1 0 2])]) (L' := [(1001, .row 0 25 [[dL 2 e_S_api_Block ([(S_api_Block.mk false [(1 : Int)]), (S_api_Block.mk true [(2 : Int)])]), .slice 1007 1 0 2]]), (1007, .row 1 34 [[dL 1 (eI .i64) [(1 : Int), (2 : Int)]], [dL 1 (eI .i64) [(-1 : Int), (-2 : Int)]]]), (1008, .row 0 25 [[dL 2 e_S_api_Block ([(S_api_Block.mk false [(1 : Int)]), (S_api_Block.mk true [(2 : Int)])]), .slice 1007 1 0 2]]), (1009, .row 0 25 [[dL 2 e_S_api_Block ([(S_api_Block.mk true [(2 : Int)]), (S_api_Block.mk false [(1 : Int)])]), .slice 1015 1 0 2]]), (1015, .row 1 34 [[dL 1 (eI .i64) [(1 : Int), (2 : Int)]], [dL 1 (eI .i64) [(-1 : Int), (-2 : Int)]]]), (1016, .row 0 25 [[dL 2 e_S_api_Block ([(S_api_Block.mk true [(2 : Int)]), (S_api_Block.mk false [(1 : Int)])]), .slice 1015 1 0 2]]), (1017, .row 0 25 [[dL 2 e_S_api_Block ([(S_api_Block.mk true [(2 : Int)]), (S_api_Block.mk false [(1 : Int)])]), dL 1 (eL 1 (eI .i64)) ([[(1 : Int), (2 : Int)], [(-1 : Int), (-2 : Int)]])]]), (1024, .row 0 25 [[dL 2 e_S_api_Block ([(S_api_Block.mk true [(2 : Int)]), (S_api_Block.mk false [(1 : Int)])]), dL 1 (eL 1 (eI .i64)) ([[(1 : Int), (2 : Int)], [(-1 : Int), (-2 : Int)]])]]), (1025, .row 0 37 [[dL 1 (eI .i64) [(1 : Int), (3 : Int)], dL 2 e_S_api_Dep ([(S_api_Dep.mk (2 : Int) [(1 : Int)]), (S_api_Dep.mk (4 : Int) [(3 : Int)])]), .slice 1032 1 0 2]]), (1032, .row 1 34 [[dL 1 (eI .i64) [(-1 : Int), (2 : Int), (4 : Int)]], [dL 1 (eI .i64) [(-2 : Int), (-4 : Int)]]]), (1034, .row 1 34 [[dL 1 (eI .i64) [(1 : Int)]]]), (1035, .row 0 25 [[dL 2 e_S_api_Block ([(S_api_Block.mk false [(1 : Int)]), (S_api_Block.mk true [(2 : Int)])]), dL 1 (eL 1 (eI .i64)) ([[(1 : Int), (2 : Int)], [(-1 : Int), (-2 : Int)]])]]), (1042, .row 0 25 [[dL 2 e_S_api_Block ([(S_api_Block.mk false [(1 : Int)]), (S_api_Block.mk true [(2 : Int)])]), dL 1 (eL 1 (eI .i64)) ([[(1 : Int), (2 : Int)], [(-1 : Int), (-2 : Int)]])]]), (1046, .row 0 25 [[.slice 1049 1 0 2, .slice 1052 1 0 2]]), (1047, .row 1 3 [[dI .i64 (1 : Int)]]), (1048, .row 1 3 [[dI .i64 (2 : Int)]]), (1049, .row 1 65 [[dB true, .slice 1048 1 0 1], [dB false, .slice 1047 1 0 1]]), (1052, .row 1 34 [[dL 1 (eI .i64) [(1 : Int), (2 : Int)]], [dL 1 (eI .i64) [(-1 : Int), (-2 : Int)]]]), (1053, .row 0 25 [[.slice 1049 1 0 2, .slice 1052 1 0 2]])]) rfl rfl ⟨⟨_, rfl, .keep rfl⟩, ⟨_, rfl, .keep rfl⟩, ⟨_, rfl, .keep rfl⟩, ⟨_, rfl, .keep rfl⟩, ⟨_, rfl, .keep rfl⟩, ⟨_, rfl, .keep rfl⟩, ⟨_, rfl, .keep rfl⟩, ⟨_, rfl, .keep rfl⟩, ⟨_, rfl, .keep rfl⟩, ⟨_, rfl, .keep rfl⟩, ⟨_, rfl, .keep rfl⟩, trivial⟩ ⟨⟨_, rfl, objOne ⟨⟨rfl, .keep rfl⟩, ⟨rfl, .keep rfl⟩, trivial⟩⟩, ⟨_, rfl, objKeep rfl⟩, ⟨_, rfl, objOne ⟨⟨rfl, .keep rfl⟩, ⟨rfl, .keep rfl⟩, trivial⟩⟩, ⟨_, rfl, objOne ⟨⟨rfl, .keep rfl⟩, ⟨rfl, .keep rfl⟩, trivial⟩⟩, ⟨_, rfl, objKeep rfl⟩, ⟨_, rfl, objOne ⟨⟨rfl, .keep rfl⟩, ⟨rfl, .keep rfl⟩, trivial⟩⟩, ⟨_, rfl, objOne ⟨⟨rfl, .keep rfl⟩, ⟨rfl, .keep rfl⟩, trivial⟩⟩, ⟨_, rfl, objOne ⟨⟨rfl, .keep rfl⟩, ⟨rfl, .keep rfl⟩, trivial⟩⟩, ⟨_, rfl, objOne ⟨⟨rfl, .keep rfl⟩, ⟨rfl, .keep rfl⟩, ⟨rfl, .keep rfl⟩, trivial⟩⟩, ⟨_, rfl, objKeep rfl⟩, ⟨_, rfl, objOne ⟨⟨rfl, .keep rfl⟩, trivial⟩⟩, ⟨_, rfl, objOne ⟨⟨rfl, .keep rfl⟩, ⟨rfl, .keep rfl⟩, trivial⟩⟩, ⟨_, rfl, objOne ⟨⟨rfl, .keep rfl⟩, ⟨rfl, .keep rfl⟩, trivial⟩⟩, ⟨_, rfl, objOne ⟨⟨rfl, .keep rfl⟩, ⟨rfl, .keep rfl⟩, trivial⟩⟩, ⟨_, rfl, objOne ⟨⟨rfl, .keep rfl⟩, trivial⟩⟩, ⟨_, rfl, objOne ⟨⟨rfl, .keep rfl⟩, trivial⟩⟩, ⟨_, rfl, objKeep rfl⟩, ⟨_, rfl, objEls ⟨⟨⟨rfl, .keep rfl⟩, trivial⟩, ⟨⟨rfl, frzT (f := (eI .i64)) (xs := [(-1 : Int), (-2 : Int)]) rfl rfl co3 rfl⟩, trivial⟩, trivial⟩⟩, ⟨_, rfl, objOne ⟨⟨rfl, .keep rfl⟩, ⟨rfl, .keep rfl⟩, trivial⟩⟩, trivial⟩) ?_
  refine RW.gh (gh_frz (E' := [(1, dI .u8 y101.1), (2, dI .i64 y101.2), (3, dI .u8 y102.1), (4, dI .i64 y102.2), (5, dL 3 e_S_api_Table ((([(S_api_Table.mk (1 : Int) [(2 : Int)] [false, true])], (0 : Int)) : ((List S_api_Table) × Int)).1)), (6, dI .i64 ((([(S_api_Table.mk (1 : Int) [(2 : Int)] [false, true])], (0 : Int)) : ((List S_api_Table) × Int)).2)), (7, dI .u8 ((((1 : Int), (0 : Int)) : (Int × Int)).1)), (8, dI .i64 ((((1 : Int), (0 : Int)) : (Int × Int)).2)), (10, dI .i64 y105.2), (12, dI .i64 (((([] : List S_api_Table), (6 : Int)) : ((List S_api_Table) × Int)).2)), (55, .agg [dL 1 (eI .i64) [(1 : Int)], dL 2 e_S_api_Dep ([(S_api_Dep.mk (2 : Int) [(1 : Int)])]), dL 1 (eL 1 (eI .i64)) ([[(1 : Int), (2 : Int)], [(-1 : Int), (-2 : Int)]])])]) (L' := [(1001, .row 0 25 [[dL 2 e_S_api_Block ([(S_api_Block.mk false [(1 : Int)]), (S_api_Block.mk true [(2 : Int)])]), .slice 1007 1 0 2]]), (1007, .row 1 34 [[dL 1 (eI .i64) [(1 : Int), (2 : Int)]], [dL 1 (eI .i64) [(-1 : Int), (-2 : Int)]]]), (1008, .row 0 25 [[dL 2 e_S_api_Block ([(S_api_Block.mk false [(1 : Int)]), (S_api_Block.mk true [(2 : Int)])]), .slice 1007 1 0 2]]), (1009, .row 0 25 [[dL 2 e_S_api_Block ([(S_api_Block.mk true [(2 : Int)]), (S_api_Block.mk false [(1 : Int)])]), .slice 1015 1 0 2]]), (1015, .row 1 34 [[dL 1 (eI .i64) [(1 : Int), (2 : Int)]], [dL 1 (eI .i64) [(-1 : Int), (-2 : Int)]]]), (1016, .row 0 25 [[dL 2 e_S_api_Block ([(S_api_Block.mk true [(2 : Int)]), (S_api_Block.mk false [(1 : Int)])]), .slice 1015 1 0 2]]), (1017, .row 0 25 [[dL 2 e_S_api_Block ([(S_api_Block.mk true [(2 : Int)]), (S_api_Block.mk false [(1 : Int)])]), dL 1 (eL 1 (eI .i64)) ([[(1 : Int), (2 : Int)], [(-1 : Int), (-2 : Int)]])]]), (1024, .row 0 25 [[dL 2 e_S_api_Block ([(S_api_Block.mk true [(2 : Int)]), (S_api_Block.mk false [(1 : Int)])]), dL 1 (eL 1 (eI .i64)) ([[(1 : Int), (2 : Int)], [(-1 : Int), (-2 : Int)]])]]), (1025, .row 0 37 [[dL 1 (eI .i64) [(1 : Int), (3 : Int)], dL 2 e_S_api_Dep ([(S_api_Dep.mk (2 : Int) [(1 : Int)]), (S_api_Dep.mk (4 : Int) [(3 : Int)])]), .slice 1032 1 0 2]]), (1032, .row 1 34 [[dL 1 (eI .i64) [(-1 : Int), (2 : Int), (4 : Int)]], [dL 1 (eI .i64) [(-2 : Int), (-4 : Int)]]]), (1034, .row 1 34 [[dL 1 (eI .i64) [(1 : Int)]]]), (1035, .row 0 25 [[dL 2 e_S_api_Block ([(S_api_Block.mk false [(1 : Int)]), (S_api_Block.mk true [(2 : Int)])]), dL 1 (eL 1 (eI .i64)) ([[(1 : Int), (2 : Int)], [(-1 : Int), (-2 : Int)]])]]), (1042, .row 0 25 [[dL 2 e_S_api_Block ([(S_api_Block.mk false [(1 : Int)]), (S_api_Block.mk true [(2 : Int)])]), dL 1 (eL 1 (eI .i64)) ([[(1 : Int), (2 : Int)], [(-1 : Int), (-2 : Int)]])]]), (1046, .row 0 25 [[.slice 1049 1 0 2, dL 1 (eL 1 (eI .i64)) ([[(1 : Int), (2 : Int)], [(-1 : Int), (-2 : Int)]])]]), (1047, .row 1 3 [[dI .i64 (1 : Int)]]), (1048, .row 1 3 [[dI .i64 (2 : Int)]]), (1049, .row 1 65 [[dB true, .slice 1048 1 0 1], [dB false, .slice 1047 1 0 1]]), (1053, .row 0 25 [[.slice 1049 1 0 2, dL 1 (eL 1 (eI .i64)) ([[(1 : Int), (2 : Int)], [(-1 : Int), (-2 : Int)]])]])]) rfl rfl ⟨⟨_, rfl, .keep rfl⟩, ⟨_, rfl, .keep rfl⟩, ⟨_, rfl, .keep rfl⟩, ⟨_, rfl, .keep rfl⟩, ⟨_, rfl, .keep rfl⟩, ⟨_, rfl, .keep rfl⟩, ⟨_, rfl, .keep rfl⟩, ⟨_, rfl, .keep rfl⟩, ⟨_, rfl, .keep rfl⟩, ⟨_, rfl, .keep rfl⟩, ⟨_, rfl, frz_agg ⟨(.keep rfl), (.keep rfl), (frzT (f := (eL 1 (eI .i64))) (xs := [[(1 : Int), (2 : Int)], [(-1 : Int), (-2 : Int)]]) rfl rfl co34 rfl), trivial⟩⟩, trivial⟩ ⟨⟨_, rfl, objOne ⟨⟨rfl, .keep rfl⟩, ⟨rfl, .keep rfl⟩, trivial⟩⟩, ⟨_, rfl, objKeep rfl⟩, ⟨_, rfl, objOne ⟨⟨rfl, .keep rfl⟩, ⟨rfl, .keep rfl⟩, trivial⟩⟩, ⟨_, rfl, objOne ⟨⟨rfl, .keep rfl⟩, ⟨rfl, .keep rfl⟩, trivial⟩⟩, ⟨_, rfl, objKeep rfl⟩, ⟨_, rfl, objOne ⟨⟨rfl, .keep rfl⟩, ⟨rfl, .keep rfl⟩, trivial⟩⟩, ⟨_, rfl, objOne ⟨⟨rfl, .keep rfl⟩, ⟨rfl, .keep rfl⟩, trivial⟩⟩, ⟨_, rfl, objOne ⟨⟨rfl, .keep rfl⟩, ⟨rfl, .keep rfl⟩, trivial⟩⟩, ⟨_, rfl, objOne ⟨⟨rfl, .keep rfl⟩, ⟨rfl, .keep rfl⟩, ⟨rfl, .keep rfl⟩, trivial⟩⟩, ⟨_, rfl, objKeep rfl⟩, ⟨_, rfl, objOne ⟨⟨rfl, .keep rfl⟩, trivial⟩⟩, ⟨_, rfl, objOne ⟨⟨rfl, .keep rfl⟩, ⟨rfl, .keep rfl⟩, trivial⟩⟩, ⟨_, rfl, objOne ⟨⟨rfl, .keep rfl⟩, ⟨rfl, .keep rfl⟩, trivial⟩⟩, ⟨_, rfl, objOne ⟨⟨rfl, .keep rfl⟩, ⟨rfl, frzT (f := (eL 1 (eI .i64))) (xs := [[(1 : Int), (2 : Int)], [(-1 : Int), (-2 : Int)]]) rfl rfl co34 rfl⟩, trivial⟩⟩, ⟨_, rfl, objOne ⟨⟨rfl, .keep rfl⟩, trivial⟩⟩, ⟨_, rfl, objOne ⟨⟨rfl, .keep rfl⟩, trivial⟩⟩, ⟨_, rfl, objKeep rfl⟩, ⟨_, rfl, objOne ⟨⟨rfl, .keep rfl⟩, ⟨rfl, frzT (f := (eL 1 (eI .i64))) (xs := [[(1 : Int), (2 : Int)], [(-1 : Int), (-2 : Int)]]) rfl rfl co34 rfl⟩, trivial⟩⟩, trivial⟩) ?_
  refine rf rfl rfl tab_truth_Skolem_0 rfl rfl ?_
  refine ro rfl rfl (st_mv rfl) ?_
  refine ro rfl rfl (st_ext rfl rfl) ?_
  refine ro rfl rfl (st_ext rfl rfl) ?_
  refine ro rfl rfl (st_as rfl) ?_
  refine ro rfl rfl (st_as rfl) ?_
  refine rw_nilk ?_
  refine awp_jn (fun (s114 : Bool) (g115 : Unit) => [(7, dI .u8 ((((1 : Int), (0 : Int)) : (Int × Int)).1)), (8, dI .i64 ((((1 : Int), (0 : Int)) : (Int × Int)).2)), (10, dI .i64 y105.2), (12, dI .i64 (((([] : List S_api_Table), (6 : Int)) : ((List S_api_Table) × Int)).2)), (13, dL 3 e_S_api_Table ((([(S_api_Table.mk (2 : Int) [(1 : Int)] [true, false])], (0 : Int)) : ((List S_api_Table) × Int)).1)), (14, dI .i64 ((([(S_api_Table.mk (2 : Int) [(1 : Int)] [true, false])], (0 : Int)) : ((List S_api_Table) × Int)).2)), (15, dB s114)]) (fun (s114 : Bool) (g115 : Unit) => []) h ?_ ?_
  · clear h
    intro s114 g115 h
    refine awp_rs ?_
    refine ro rfl rfl (st_mv rfl) ?_
    refine ro rfl rfl (st_mv rfl) ?_
    refine bool_split s114 (fun p124 => ?_) (fun p124 => ?_)
    · replace h := ite_T p124 h
      rw [p124]
      refine ro rfl rfl (st_mv rfl) ?_
      refine ro rfl rfl (st_bin (v := dB (((((1 : Int), (0 : Int)) : (Int × Int)).2) == (0 : Int))) rfl rfl rfl) ?_
      refine ro rfl rfl (st_pickT rfl rfl) ?_
      refine ro rfl rfl (st_mv rfl) ?_
      refine bool_split (((((1 : Int), (0 : Int)) : (Int × Int)).2) == (0 : Int)) (fun p125 => ?_) (fun p125 => ?_)
      · replace h := ite_T p125 h
        rw [p125]
        refine ro rfl rfl (st_mv rfl) ?_
        refine ro rfl rfl (st_bin (v := dB (((((1 : Int), (0 : Int)) : (Int × Int)).1) == (1 : Int))) rfl rfl rfl) ?_
        refine ro rfl rfl (st_pickT rfl rfl) ?_
        refine ro rfl rfl (st_mv rfl) ?_
        refine bool_split (((((1 : Int), (0 : Int)) : (Int × Int)).1) == (1 : Int)) (fun p126 => ?_) (fun p126 => ?_)
        · replace h := ite_T p126 h
          rw [p126]
          refine ro rfl rfl (st_mv rfl) ?_
          refine ro rfl rfl (st_bin (v := dB (y105.2 == (2 : Int))) rfl rfl rfl) ?_
          refine ro rfl rfl (st_pickT rfl rfl) ?_
          refine ro rfl rfl (st_mv rfl) ?_
          refine bool_split (y105.2 == (2 : Int)) (fun p127 => ?_) (fun p127 => ?_)
          · replace h := ite_T p127 h
            rw [p127]
            refine ro rfl rfl (st_mv rfl) ?_
            refine ro rfl rfl (st_bin (v := dB ((((([] : List S_api_Table), (6 : Int)) : ((List S_api_Table) × Int)).2) == (6 : Int))) rfl rfl rfl) ?_
            refine ro rfl rfl (st_pickT rfl rfl) ?_
            refine ro rfl rfl (st_mv rfl) ?_
            refine bool_split ((((([] : List S_api_Table), (6 : Int)) : ((List S_api_Table) × Int)).2) == (6 : Int)) (fun p128 => ?_) (fun p128 => ?_)
            · replace h := ite_T p128 h
              rw [p128]
              refine ro rfl rfl (st_mv rfl) ?_
              refine ro rfl rfl (st_bin (v := dB (((([(S_api_Table.mk (2 : Int) [(1 : Int)] [true, false])], (0 : Int)) : ((List S_api_Table) × Int)).2) == (0 : Int))) rfl rfl rfl) ?_
              refine ro rfl rfl (st_pickT rfl rfl) ?_
              refine ro rfl rfl (st_mv rfl) ?_
              refine bool_split (((([(S_api_Table.mk (2 : Int) [(1 : Int)] [true, false])], (0 : Int)) : ((List S_api_Table) × Int)).2) == (0 : Int)) (fun p129 => ?_) (fun p129 => ?_)
              · replace h := ite_T p129 h
                rw [p129]
                refine ro rfl rfl (st_mv rfl) ?_
                refine rn (r := 1057) rfl rfl (st_bsl (els := [[dI .i64 (1 : Int)]]) sl34 zc3 rfl rfl rfl rfl rfl) rfl ?_
                refine rn (r := 1058) rfl rfl (st_bsl (els := [[dB true], [dB false]]) sl54 zc4 rfl rfl rfl rfl rfl) rfl ?_
                refine ro rfl rfl (st_build (vs := [dI .i64 (2 : Int), .slice 1057 1 0 1, .slice 1058 1 0 2]) bl56 rfl rfl) ?_
                refine rn (r := 1059) rfl rfl (st_bsl (els := [[dI .i64 (2 : Int), .slice 1057 1 0 1, .slice 1058 1 0 2]]) sl41 zc56 rfl rfl rfl rfl rfl) rfl ?_
                refine RW.gh (gh_frz (E' := [(106, dB true), (107, dL 3 e_S_api_Table ((([(S_api_Table.mk (2 : Int) [(1 : Int)] [true, false])], (0 : Int)) : ((List S_api_Table) × Int)).1)), (111, .slice 1059 1 0 1)]) (L' := [(1058, .row 1 4 [[dB true], [dB false]]), (1059, .row 1 56 [[dI .i64 (2 : Int), dL 1 (eI .i64) [(1 : Int)], .slice 1058 1 0 2]])]) rfl rfl ⟨⟨_, rfl, .keep rfl⟩, ⟨_, rfl, .keep rfl⟩, ⟨_, rfl, .keep rfl⟩, trivial⟩ ⟨⟨_, rfl, objKeep rfl⟩, ⟨_, rfl, objOne ⟨⟨rfl, .keep rfl⟩, ⟨rfl, frzT (f := (eI .i64)) (xs := [(1 : Int)]) rfl rfl co3 rfl⟩, ⟨rfl, .keep rfl⟩, trivial⟩⟩, trivial⟩) ?_
                refine RW.gh (gh_frz (E' := [(106, dB true), (107, dL 3 e_S_api_Table ((([(S_api_Table.mk (2 : Int) [(1 : Int)] [true, false])], (0 : Int)) : ((List S_api_Table) × Int)).1)), (111, .slice 1059 1 0 1)]) (L' := [(1059, .row 1 56 [[dI .i64 (2 : Int), dL 1 (eI .i64) [(1 : Int)], dL 1 eB [true, false]]])]) rfl rfl ⟨⟨_, rfl, .keep rfl⟩, ⟨_, rfl, .keep rfl⟩, ⟨_, rfl, .keep rfl⟩, trivial⟩ ⟨⟨_, rfl, objOne ⟨⟨rfl, .keep rfl⟩, ⟨rfl, .keep rfl⟩, ⟨rfl, frzT (f := eB) (xs := [true, false]) rfl rfl co4 rfl⟩, trivial⟩⟩, trivial⟩) ?_
                obtain ⟨y130, hy130, h⟩ := bind_some_elim h
                refine rl rfl rfl (ok_skolemref04_SameTables hy130) rfl ⟨.keep rfl, frzT (f := e_S_api_Table) (xs := [(S_api_Table.mk (2 : Int) [(1 : Int)] [true, false])]) rfl rfl co56 rfl, trivial⟩ rfl ?_
                refine ro rfl rfl (st_pickT rfl rfl) ?_
                refine ro rfl rfl (st_as rfl) ?_
                refine rw_nilk ?_
                refine awp_ret ?_
                injection h with h
                subst h
                exact ret_out (v := dB y130) (resV_one (resVs_tmp rfl resVs_nil)) (.keep rfl)
              · replace h := ite_F p129 h
                rw [p129]
                refine rz rfl rfl ?_
                refine rz rfl rfl ?_
                refine rz rfl rfl ?_
                refine rz rfl rfl ?_
                refine rz rfl rfl ?_
                refine rz rfl rfl ?_
                refine ro rfl rfl (st_pickF rfl rfl) ?_
                refine ro rfl rfl (st_as rfl) ?_
                refine rw_nilk ?_
                refine awp_ret ?_
                injection h with h
                subst h
                exact ret_out (v := dB false) (resV_one (resVs_tmp rfl resVs_nil)) (.keep rfl)
            · replace h := ite_F p128 h
              rw [p128]
              refine rz rfl rfl ?_
              refine rz rfl rfl ?_
              refine ro rfl rfl (st_pickF rfl rfl) ?_
              refine ro rfl rfl (st_mv rfl) ?_
              refine rz rfl rfl ?_
              refine rz rfl rfl ?_
              refine rz rfl rfl ?_
              refine rz rfl rfl ?_
              refine rz rfl rfl ?_
              refine rz rfl rfl ?_
              refine ro rfl rfl (st_pickF rfl rfl) ?_
              refine ro rfl rfl (st_as rfl) ?_
              refine rw_nilk ?_
              refine awp_ret ?_
              injection h with h
              subst h
              exact ret_out (v := dB false) (resV_one (resVs_tmp rfl resVs_nil)) (.keep rfl)
          · replace h := ite_F p127 h
            rw [p127]
            refine rz rfl rfl ?_
            refine rz rfl rfl ?_
            refine ro rfl rfl (st_pickF rfl rfl) ?_
            refine ro rfl rfl (st_mv rfl) ?_
            refine rz rfl rfl ?_
            refine rz rfl rfl ?_
            refine ro rfl rfl (st_pickF rfl rfl) ?_
            refine ro rfl rfl (st_mv rfl) ?_
            refine rz rfl rfl ?_
            refine rz rfl rfl ?_
            refine rz rfl rfl ?_
            refine rz rfl rfl ?_
            refine rz rfl rfl ?_
            refine rz rfl rfl ?_
            refine ro rfl rfl (st_pickF rfl rfl) ?_
            refine ro rfl rfl (st_as rfl) ?_
            refine rw_nilk ?_
            refine awp_ret ?_
            injection h with h
            subst h
            exact ret_out (v := dB false) (resV_one (resVs_tmp rfl resVs_nil)) (.keep rfl)
        · replace h := ite_F p126 h
          rw [p126]
          refine rz rfl rfl ?_
          refine rz rfl rfl ?_
          refine ro rfl rfl (st_pickF rfl rfl) ?_
          refine ro rfl rfl (st_mv rfl) ?_
          refine rz rfl rfl ?_
          refine rz rfl rfl ?_
          refine ro rfl rfl (st_pickF rfl rfl) ?_
          refine ro rfl rfl (st_mv rfl) ?_
          refine rz rfl rfl ?_
          refine rz rfl rfl ?_
          refine ro rfl rfl (st_pickF rfl rfl) ?_
          refine ro rfl rfl (st_mv rfl) ?_
          refine rz rfl rfl ?_
          refine rz rfl rfl ?_
          refine rz rfl rfl ?_
          refine rz rfl rfl ?_
          refine rz rfl rfl ?_
          refine rz rfl rfl ?_
          refine ro rfl rfl (st_pickF rfl rfl) ?_
          refine ro rfl rfl (st_as rfl) ?_
          refine rw_nilk ?_
          refine awp_ret ?_
          injection h with h
          subst h
          exact ret_out (v := dB false) (resV_one (resVs_tmp rfl resVs_nil)) (.keep rfl)
      · replace h := ite_F p125 h
        rw [p125]
        refine rz rfl rfl ?_
        refine rz rfl rfl ?_
        refine ro rfl rfl (st_pickF rfl rfl) ?_
        refine ro rfl rfl (st_mv rfl) ?_
        refine rz rfl rfl ?_
        refine rz rfl rfl ?_
        refine ro rfl rfl (st_pickF rfl rfl) ?_
        refine ro rfl rfl (st_mv rfl) ?_
        refine rz rfl rfl ?_
        refine rz rfl rfl ?_
        refine ro rfl rfl (st_pickF rfl rfl) ?_
        refine ro rfl rfl (st_mv rfl) ?_
        refine rz rfl rfl ?_
        refine rz rfl rfl ?_
        refine ro rfl rfl (st_pickF rfl rfl) ?_
        refine ro rfl rfl (st_mv rfl) ?_
        refine rz rfl rfl ?_
        refine rz rfl rfl ?_
        refine rz rfl rfl ?_
        refine rz rfl rfl ?_
        refine rz rfl rfl ?_
        refine rz rfl rfl ?_
        refine ro rfl rfl (st_pickF rfl rfl) ?_
        refine ro rfl rfl (st_as rfl) ?_
        refine rw_nilk ?_
        refine awp_ret ?_
        injection h with h
        subst h
        exact ret_out (v := dB false) (resV_one (resVs_tmp rfl resVs_nil)) (.keep rfl)
    · replace h := ite_F p124 h
      rw [p124]
      refine rz rfl rfl ?_
      refine rz rfl rfl ?_
      refine ro rfl rfl (st_pickF rfl rfl) ?_
      refine ro rfl rfl (st_mv rfl) ?_
      refine rz rfl rfl ?_
      refine rz rfl rfl ?_
      refine ro rfl rfl (st_pickF rfl rfl) ?_
      refine ro rfl rfl (st_mv rfl) ?_
      refine rz rfl rfl ?_
      refine rz rfl rfl ?_
      refine ro rfl rfl (st_pickF rfl rfl) ?_
      refine ro rfl rfl (st_mv rfl) ?_
      refine rz rfl rfl ?_
      refine rz rfl rfl ?_
      refine ro rfl rfl (st_pickF rfl rfl) ?_
      refine ro rfl rfl (st_mv rfl) ?_
      refine rz rfl rfl ?_
      refine rz rfl rfl ?_
      refine ro rfl rfl (st_pickF rfl rfl) ?_
      refine ro rfl rfl (st_mv rfl) ?_
      refine rz rfl rfl ?_
      refine rz rfl rfl ?_
      refine rz rfl rfl ?_
      refine rz rfl rfl ?_
      refine rz rfl rfl ?_
      refine rz rfl rfl ?_
      refine ro rfl rfl (st_pickF rfl rfl) ?_
      refine ro rfl rfl (st_as rfl) ?_
      refine rw_nilk ?_
      refine awp_ret ?_
      injection h with h
      subst h
      exact ret_out (v := dB false) (resV_one (resVs_tmp rfl resVs_nil)) (.keep rfl)
  · clear h
    intro k116 h J116
    refine awp_rw ?_
    refine ro rfl rfl (st_mv rfl) ?_
    refine ro rfl rfl (st_bin (v := dB (y101.2 == (0 : Int))) rfl rfl rfl) ?_
    refine ro rfl rfl (st_mv rfl) ?_
    refine bool_split (y101.2 == (0 : Int)) (fun p131 => ?_) (fun p131 => ?_)
    · replace h := ite_T p131 h
      rw [p131]
      refine ro rfl rfl (st_mv rfl) ?_
      refine ro rfl rfl (st_bin (v := dB (y101.1 == (1 : Int))) rfl rfl rfl) ?_
      refine ro rfl rfl (st_pickT rfl rfl) ?_
      refine ro rfl rfl (st_mv rfl) ?_
      refine bool_split (y101.1 == (1 : Int)) (fun p132 => ?_) (fun p132 => ?_)
      · replace h := ite_T p132 h
        rw [p132]
        refine ro rfl rfl (st_mv rfl) ?_
        refine ro rfl rfl (st_bin (v := dB (y102.2 == (0 : Int))) rfl rfl rfl) ?_
        refine ro rfl rfl (st_pickT rfl rfl) ?_
        refine ro rfl rfl (st_mv rfl) ?_
        refine bool_split (y102.2 == (0 : Int)) (fun p133 => ?_) (fun p133 => ?_)
        · replace h := ite_T p133 h
          rw [p133]
          refine ro rfl rfl (st_mv rfl) ?_
          refine ro rfl rfl (st_bin (v := dB (y102.1 == (2 : Int))) rfl rfl rfl) ?_
          refine ro rfl rfl (st_pickT rfl rfl) ?_
          refine ro rfl rfl (st_mv rfl) ?_
          refine bool_split (y102.1 == (2 : Int)) (fun p134 => ?_) (fun p134 => ?_)
          · replace h := ite_T p134 h
            rw [p134]
            refine ro rfl rfl (st_mv rfl) ?_
            refine ro rfl rfl (st_bin (v := dB (((([(S_api_Table.mk (1 : Int) [(2 : Int)] [false, true])], (0 : Int)) : ((List S_api_Table) × Int)).2) == (0 : Int))) rfl rfl rfl) ?_
            refine ro rfl rfl (st_pickT rfl rfl) ?_
            refine ro rfl rfl (st_mv rfl) ?_
            refine bool_split (((([(S_api_Table.mk (1 : Int) [(2 : Int)] [false, true])], (0 : Int)) : ((List S_api_Table) × Int)).2) == (0 : Int)) (fun p135 => ?_) (fun p135 => ?_)
            · replace h := ite_T p135 h
              rw [p135]
              refine ro rfl rfl (st_mv rfl) ?_
              refine rn (r := 1054) rfl rfl (st_bsl (els := [[dI .i64 (2 : Int)]]) sl34 zc3 rfl rfl rfl rfl rfl) rfl ?_
              refine rn (r := 1055) rfl rfl (st_bsl (els := [[dB false], [dB true]]) sl54 zc4 rfl rfl rfl rfl rfl) rfl ?_
              refine ro rfl rfl (st_build (vs := [dI .i64 (1 : Int), .slice 1054 1 0 1, .slice 1055 1 0 2]) bl56 rfl rfl) ?_
              refine rn (r := 1056) rfl rfl (st_bsl (els := [[dI .i64 (1 : Int), .slice 1054 1 0 1, .slice 1055 1 0 2]]) sl41 zc56 rfl rfl rfl rfl rfl) rfl ?_
              refine RW.gh (gh_frz (E' := [(7, dI .u8 ((((1 : Int), (0 : Int)) : (Int × Int)).1)), (8, dI .i64 ((((1 : Int), (0 : Int)) : (Int × Int)).2)), (10, dI .i64 y105.2), (12, dI .i64 (((([] : List S_api_Table), (6 : Int)) : ((List S_api_Table) × Int)).2)), (13, dL 3 e_S_api_Table ((([(S_api_Table.mk (2 : Int) [(1 : Int)] [true, false])], (0 : Int)) : ((List S_api_Table) × Int)).1)), (14, dI .i64 ((([(S_api_Table.mk (2 : Int) [(1 : Int)] [true, false])], (0 : Int)) : ((List S_api_Table) × Int)).2)), (77, dB true), (78, dL 3 e_S_api_Table ((([(S_api_Table.mk (1 : Int) [(2 : Int)] [false, true])], (0 : Int)) : ((List S_api_Table) × Int)).1)), (82, .slice 1056 1 0 1)]) (L' := [(1001, .row 0 25 [[dL 2 e_S_api_Block ([(S_api_Block.mk false [(1 : Int)]), (S_api_Block.mk true [(2 : Int)])]), .slice 1007 1 0 2]]), (1007, .row 1 34 [[dL 1 (eI .i64) [(1 : Int), (2 : Int)]], [dL 1 (eI .i64) [(-1 : Int), (-2 : Int)]]]), (1008, .row 0 25 [[dL 2 e_S_api_Block ([(S_api_Block.mk false [(1 : Int)]), (S_api_Block.mk true [(2 : Int)])]), .slice 1007 1 0 2]]), (1009, .row 0 25 [[dL 2 e_S_api_Block ([(S_api_Block.mk true [(2 : Int)]), (S_api_Block.mk false [(1 : Int)])]), .slice 1015 1 0 2]]), (1015, .row 1 34 [[dL 1 (eI .i64) [(1 : Int), (2 : Int)]], [dL 1 (eI .i64) [(-1 : Int), (-2 : Int)]]]), (1016, .row 0 25 [[dL 2 e_S_api_Block ([(S_api_Block.mk true [(2 : Int)]), (S_api_Block.mk false [(1 : Int)])]), .slice 1015 1 0 2]]), (1017, .row 0 25 [[dL 2 e_S_api_Block ([(S_api_Block.mk true [(2 : Int)]), (S_api_Block.mk false [(1 : Int)])]), dL 1 (eL 1 (eI .i64)) ([[(1 : Int), (2 : Int)], [(-1 : Int), (-2 : Int)]])]]), (1024, .row 0 25 [[dL 2 e_S_api_Block ([(S_api_Block.mk true [(2 : Int)]), (S_api_Block.mk false [(1 : Int)])]), dL 1 (eL 1 (eI .i64)) ([[(1 : Int), (2 : Int)], [(-1 : Int), (-2 : Int)]])]]), (1025, .row 0 37 [[dL 1 (eI .i64) [(1 : Int), (3 : Int)], dL 2 e_S_api_Dep ([(S_api_Dep.mk (2 : Int) [(1 : Int)]), (S_api_Dep.mk (4 : Int) [(3 : Int)])]), .slice 1032 1 0 2]]), (1032, .row 1 34 [[dL 1 (eI .i64) [(-1 : Int), (2 : Int), (4 : Int)]], [dL 1 (eI .i64) [(-2 : Int), (-4 : Int)]]]), (1034, .row 1 34 [[dL 1 (eI .i64) [(1 : Int)]]]), (1035, .row 0 25 [[dL 2 e_S_api_Block ([(S_api_Block.mk false [(1 : Int)]), (S_api_Block.mk true [(2 : Int)])]), dL 1 (eL 1 (eI .i64)) ([[(1 : Int), (2 : Int)], [(-1 : Int), (-2 : Int)]])]]), (1042, .row 0 25 [[dL 2 e_S_api_Block ([(S_api_Block.mk false [(1 : Int)]), (S_api_Block.mk true [(2 : Int)])]), dL 1 (eL 1 (eI .i64)) ([[(1 : Int), (2 : Int)], [(-1 : Int), (-2 : Int)]])]]), (1046, .row 0 25 [[.slice 1049 1 0 2, dL 1 (eL 1 (eI .i64)) ([[(1 : Int), (2 : Int)], [(-1 : Int), (-2 : Int)]])]]), (1047, .row 1 3 [[dI .i64 (1 : Int)]]), (1048, .row 1 3 [[dI .i64 (2 : Int)]]), (1049, .row 1 65 [[dB true, .slice 1048 1 0 1], [dB false, .slice 1047 1 0 1]]), (1053, .row 0 25 [[.slice 1049 1 0 2, dL 1 (eL 1 (eI .i64)) ([[(1 : Int), (2 : Int)], [(-1 : Int), (-2 : Int)]])]]), (1055, .row 1 4 [[dB false], [dB true]]), (1056, .row 1 56 [[dI .i64 (1 : Int), dL 1 (eI .i64) [(2 : Int)], .slice 1055 1 0 2]])]) rfl rfl ⟨⟨_, rfl, .keep rfl⟩, ⟨_, rfl, .keep rfl⟩, ⟨_, rfl, .keep rfl⟩, ⟨_, rfl, .keep rfl⟩, ⟨_, rfl, .keep rfl⟩, ⟨_, rfl, .keep rfl⟩, ⟨_, rfl, .keep rfl⟩, ⟨_, rfl, .keep rfl⟩, ⟨_, rfl, .keep rfl⟩, trivial⟩ ⟨⟨_, rfl, objOne ⟨⟨rfl, .keep rfl⟩, ⟨rfl, .keep rfl⟩, trivial⟩⟩, ⟨_, rfl, objKeep rfl⟩, ⟨_, rfl, objOne ⟨⟨rfl, .keep rfl⟩, ⟨rfl, .keep rfl⟩, trivial⟩⟩, ⟨_, rfl, objOne ⟨⟨rfl, .keep rfl⟩, ⟨rfl, .keep rfl⟩, trivial⟩⟩, ⟨_, rfl, objKeep rfl⟩, ⟨_, rfl, objOne ⟨⟨rfl, .keep rfl⟩, ⟨rfl, .keep rfl⟩, trivial⟩⟩, ⟨_, rfl, objOne ⟨⟨rfl, .keep rfl⟩, ⟨rfl, .keep rfl⟩, trivial⟩⟩, ⟨_, rfl, objOne ⟨⟨rfl, .keep rfl⟩, ⟨rfl, .keep rfl⟩, trivial⟩⟩, ⟨_, rfl, objOne ⟨⟨rfl, .keep rfl⟩, ⟨rfl, .keep rfl⟩, ⟨rfl, .keep rfl⟩, trivial⟩⟩, ⟨_, rfl, objKeep rfl⟩, ⟨_, rfl, objOne ⟨⟨rfl, .keep rfl⟩, trivial⟩⟩, ⟨_, rfl, objOne ⟨⟨rfl, .keep rfl⟩, ⟨rfl, .keep rfl⟩, trivial⟩⟩, ⟨_, rfl, objOne ⟨⟨rfl, .keep rfl⟩, ⟨rfl, .keep rfl⟩, trivial⟩⟩, ⟨_, rfl, objOne ⟨⟨rfl, .keep rfl⟩, ⟨rfl, .keep rfl⟩, trivial⟩⟩, ⟨_, rfl, objOne ⟨⟨rfl, .keep rfl⟩, trivial⟩⟩, ⟨_, rfl, objOne ⟨⟨rfl, .keep rfl⟩, trivial⟩⟩, ⟨_, rfl, objKeep rfl⟩, ⟨_, rfl, objOne ⟨⟨rfl, .keep rfl⟩, ⟨rfl, .keep rfl⟩, trivial⟩⟩, ⟨_, rfl, objKeep rfl⟩, ⟨_, rfl, objOne ⟨⟨rfl, .keep rfl⟩, ⟨rfl, frzT (f := (eI .i64)) (xs := [(2 : Int)]) rfl rfl co3 rfl⟩, ⟨rfl, .keep rfl⟩, trivial⟩⟩, trivial⟩) ?_
              refine RW.gh (gh_frz (E' := [(7, dI .u8 ((((1 : Int), (0 : Int)) : (Int × Int)).1)), (8, dI .i64 ((((1 : Int), (0 : Int)) : (Int × Int)).2)), (10, dI .i64 y105.2), (12, dI .i64 (((([] : List S_api_Table), (6 : Int)) : ((List S_api_Table) × Int)).2)), (13, dL 3 e_S_api_Table ((([(S_api_Table.mk (2 : Int) [(1 : Int)] [true, false])], (0 : Int)) : ((List S_api_Table) × Int)).1)), (14, dI .i64 ((([(S_api_Table.mk (2 : Int) [(1 : Int)] [true, false])], (0 : Int)) : ((List S_api_Table) × Int)).2)), (77, dB true), (78, dL 3 e_S_api_Table ((([(S_api_Table.mk (1 : Int) [(2 : Int)] [false, true])], (0 : Int)) : ((List S_api_Table) × Int)).1)), (82, .slice 1056 1 0 1)]) (L' := [(1001, .row 0 25 [[dL 2 e_S_api_Block ([(S_api_Block.mk false [(1 : Int)]), (S_api_Block.mk true [(2 : Int)])]), .slice 1007 1 0 2]]), (1007, .row 1 34 [[dL 1 (eI .i64) [(1 : Int), (2 : Int)]], [dL 1 (eI .i64) [(-1 : Int), (-2 : Int)]]]), (1008, .row 0 25 [[dL 2 e_S_api_Block ([(S_api_Block.mk false [(1 : Int)]), (S_api_Block.mk true [(2 : Int)])]), .slice 1007 1 0 2]]), (1009, .row 0 25 [[dL 2 e_S_api_Block ([(S_api_Block.mk true [(2 : Int)]), (S_api_Block.mk false [(1 : Int)])]), .slice 1015 1 0 2]]), (1015, .row 1 34 [[dL 1 (eI .i64) [(1 : Int), (2 : Int)]], [dL 1 (eI .i64) [(-1 : Int), (-2 : Int)]]]), (1016, .row 0 25 [[dL 2 e_S_api_Block ([(S_api_Block.mk true [(2 : Int)]), (S_api_Block.mk false [(1 : Int)])]), .slice 1015 1 0 2]]), (1017, .row 0 25 [[dL 2 e_S_api_Block ([(S_api_Block.mk true [(2 : Int)]), (S_api_Block.mk false [(1 : Int)])]), dL 1 (eL 1 (eI .i64)) ([[(1 : Int), (2 : Int)], [(-1 : Int), (-2 : Int)]])]]), (1024, .row 0 25 [[dL 2 e_S_api_Block ([(S_api_Block.mk true [(2 : Int)]), (S_api_Block.mk false [(1 : Int)])]), dL 1 (eL 1 (eI .i64)) ([[(1 : Int), (2 : Int)], [(-1 : Int), (-2 : Int)]])]]), (1025, .row 0 37 [[dL 1 (eI .i64) [(1 : Int), (3 : Int)], dL 2 e_S_api_Dep ([(S_api_Dep.mk (2 : Int) [(1 : Int)]), (S_api_Dep.mk (4 : Int) [(3 : Int)])]), .slice 1032 1 0 2]]), (1032, .row 1 34 [[dL 1 (eI .i64) [(-1 : Int), (2 : Int), (4 : Int)]], [dL 1 (eI .i64) [(-2 : Int), (-4 : Int)]]]), (1034, .row 1 34 [[dL 1 (eI .i64) [(1 : Int)]]]), (1035, .row 0 25 [[dL 2 e_S_api_Block ([(S_api_Block.mk false [(1 : Int)]), (S_api_Block.mk true [(2 : Int)])]), dL 1 (eL 1 (eI .i64)) ([[(1 : Int), (2 : Int)], [(-1 : Int), (-2 : Int)]])]]), (1042, .row 0 25 [[dL 2 e_S_api_Block ([(S_api_Block.mk false [(1 : Int)]), (S_api_Block.mk true [(2 : Int)])]), dL 1 (eL 1 (eI .i64)) ([[(1 : Int), (2 : Int)], [(-1 : Int), (-2 : Int)]])]]), (1046, .row 0 25 [[.slice 1049 1 0 2, dL 1 (eL 1 (eI .i64)) ([[(1 : Int), (2 : Int)], [(-1 : Int), (-2 : Int)]])]]), (1047, .row 1 3 [[dI .i64 (1 : Int)]]), (1048, .row 1 3 [[dI .i64 (2 : Int)]]), (1049, .row 1 65 [[dB true, .slice 1048 1 0 1], [dB false, .slice 1047 1 0 1]]), (1053, .row 0 25 [[.slice 1049 1 0 2, dL 1 (eL 1 (eI .i64)) ([[(1 : Int), (2 : Int)], [(-1 : Int), (-2 : Int)]])]]), (1056, .row 1 56 [[dI .i64 (1 : Int), dL 1 (eI .i64) [(2 : Int)], dL 1 eB [false, true]]])]) rfl rfl ⟨⟨_, rfl, .keep rfl⟩, ⟨_, rfl, .keep rfl⟩, ⟨_, rfl, .keep rfl⟩, ⟨_, rfl, .keep rfl⟩, ⟨_, rfl, .keep rfl⟩, ⟨_, rfl, .keep rfl⟩, ⟨_, rfl, .keep rfl⟩, ⟨_, rfl, .keep rfl⟩, ⟨_, rfl, .keep rfl⟩, trivial⟩ ⟨⟨_, rfl, objOne ⟨⟨rfl, .keep rfl⟩, ⟨rfl, .keep rfl⟩, trivial⟩⟩, ⟨_, rfl, objKeep rfl⟩, ⟨_, rfl, objOne ⟨⟨rfl, .keep rfl⟩, ⟨rfl, .keep rfl⟩, trivial⟩⟩, ⟨_, rfl, objOne ⟨⟨rfl, .keep rfl⟩, ⟨rfl, .keep rfl⟩, trivial⟩⟩, ⟨_, rfl, objKeep rfl⟩, ⟨_, rfl, objOne ⟨⟨rfl, .keep rfl⟩, ⟨rfl, .keep rfl⟩, trivial⟩⟩, ⟨_, rfl, objOne ⟨⟨rfl, .keep rfl⟩, ⟨rfl, .keep rfl⟩, trivial⟩⟩, ⟨_, rfl, objOne ⟨⟨rfl, .keep rfl⟩, ⟨rfl, .keep rfl⟩, trivial⟩⟩, ⟨_, rfl, objOne ⟨⟨rfl, .keep rfl⟩, ⟨rfl, .keep rfl⟩, ⟨rfl, .keep rfl⟩, trivial⟩⟩, ⟨_, rfl, objKeep rfl⟩, ⟨_, rfl, objOne ⟨⟨rfl, .keep rfl⟩, trivial⟩⟩, ⟨_, rfl, objOne ⟨⟨rfl, .keep rfl⟩, ⟨rfl, .keep rfl⟩, trivial⟩⟩, ⟨_, rfl, objOne ⟨⟨rfl, .keep rfl⟩, ⟨rfl, .keep rfl⟩, trivial⟩⟩, ⟨_, rfl, objOne ⟨⟨rfl, .keep rfl⟩, ⟨rfl, .keep rfl⟩, trivial⟩⟩, ⟨_, rfl, objOne ⟨⟨rfl, .keep rfl⟩, trivial⟩⟩, ⟨_, rfl, objOne ⟨⟨rfl, .keep rfl⟩, trivial⟩⟩, ⟨_, rfl, objKeep rfl⟩, ⟨_, rfl, objOne ⟨⟨rfl, .keep rfl⟩, ⟨rfl, .keep rfl⟩, trivial⟩⟩, ⟨_, rfl, objOne ⟨⟨rfl, .keep rfl⟩, ⟨rfl, .keep rfl⟩, ⟨rfl, frzT (f := eB) (xs := [false, true]) rfl rfl co4 rfl⟩, trivial⟩⟩, trivial⟩) ?_
              obtain ⟨y136, hy136, h⟩ := bind_some_elim h
              refine rl rfl rfl (ok_skolemref04_SameTables hy136) rfl ⟨.keep rfl, frzT (f := e_S_api_Table) (xs := [(S_api_Table.mk (1 : Int) [(2 : Int)] [false, true])]) rfl rfl co56 rfl, trivial⟩ rfl ?_
              refine ro rfl rfl (st_pickT rfl rfl) ?_
              refine ro rfl rfl (st_as rfl) ?_
              refine rw_nil ?_
              refine nx_then ?_
              exact J116 y136 () _ _ h (gh_frz rfl rfl ⟨⟨_, rfl, .keep rfl⟩, ⟨_, rfl, .keep rfl⟩, ⟨_, rfl, .keep rfl⟩, ⟨_, rfl, .keep rfl⟩, ⟨_, rfl, .keep rfl⟩, ⟨_, rfl, .keep rfl⟩, ⟨_, rfl, .keep rfl⟩, trivial⟩ trivial)
            · replace h := ite_F p135 h
              rw [p135]
              refine rz rfl rfl ?_
              refine rz rfl rfl ?_
              refine rz rfl rfl ?_
              refine rz rfl rfl ?_
              refine rz rfl rfl ?_
              refine rz rfl rfl ?_
              refine ro rfl rfl (st_pickF rfl rfl) ?_
              refine ro rfl rfl (st_as rfl) ?_
              refine rw_nil ?_
              refine nx_then ?_
              exact J116 false () _ _ h (gh_frz rfl rfl ⟨⟨_, rfl, .keep rfl⟩, ⟨_, rfl, .keep rfl⟩, ⟨_, rfl, .keep rfl⟩, ⟨_, rfl, .keep rfl⟩, ⟨_, rfl, .keep rfl⟩, ⟨_, rfl, .keep rfl⟩, ⟨_, rfl, .keep rfl⟩, trivial⟩ trivial)
          · replace h := ite_F p134 h
            rw [p134]
            refine rz rfl rfl ?_
            refine rz rfl rfl ?_
            refine ro rfl rfl (st_pickF rfl rfl) ?_
            refine ro rfl rfl (st_mv rfl) ?_
            refine rz rfl rfl ?_
            refine rz rfl rfl ?_
            refine rz rfl rfl ?_
            refine rz rfl rfl ?_
            refine rz rfl rfl ?_
            refine rz rfl rfl ?_
            refine ro rfl rfl (st_pickF rfl rfl) ?_
            refine ro rfl rfl (st_as rfl) ?_
            refine rw_nil ?_
            refine nx_then ?_
            exact J116 false () _ _ h (gh_frz rfl rfl ⟨⟨_, rfl, .keep rfl⟩, ⟨_, rfl, .keep rfl⟩, ⟨_, rfl, .keep rfl⟩, ⟨_, rfl, .keep rfl⟩, ⟨_, rfl, .keep rfl⟩, ⟨_, rfl, .keep rfl⟩, ⟨_, rfl, .keep rfl⟩, trivial⟩ trivial)
        · replace h := ite_F p133 h
          rw [p133]
          refine rz rfl rfl ?_
          refine rz rfl rfl ?_
          refine ro rfl rfl (st_pickF rfl rfl) ?_
          refine ro rfl rfl (st_mv rfl) ?_
          refine rz rfl rfl ?_
          refine rz rfl rfl ?_
          refine ro rfl rfl (st_pickF rfl rfl) ?_
          refine ro rfl rfl (st_mv rfl) ?_
          refine rz rfl rfl ?_
          refine rz rfl rfl ?_
          refine rz rfl rfl ?_
          refine rz rfl rfl ?_
          refine rz rfl rfl ?_
          refine rz rfl rfl ?_
          refine ro rfl rfl (st_pickF rfl rfl) ?_
          refine ro rfl rfl (st_as rfl) ?_
          refine rw_nil ?_
          refine nx_then ?_
          exact J116 false () _ _ h (gh_frz rfl rfl ⟨⟨_, rfl, .keep rfl⟩, ⟨_, rfl, .keep rfl⟩, ⟨_, rfl, .keep rfl⟩, ⟨_, rfl, .keep rfl⟩, ⟨_, rfl, .keep rfl⟩, ⟨_, rfl, .keep rfl⟩, ⟨_, rfl, .keep rfl⟩, trivial⟩ trivial)
      · replace h := ite_F p132 h
        rw [p132]
        refine rz rfl rfl ?_
        refine rz rfl rfl ?_
        refine ro rfl rfl (st_pickF rfl rfl) ?_
        refine ro rfl rfl (st_mv rfl) ?_
        refine rz rfl rfl ?_
        refine rz rfl rfl ?_
        refine ro rfl rfl (st_pickF rfl rfl) ?_
        refine ro rfl rfl (st_mv rfl) ?_
        refine rz rfl rfl ?_
        refine rz rfl rfl ?_
        refine ro rfl rfl (st_pickF rfl rfl) ?_
        refine ro rfl rfl (st_mv rfl) ?_
        refine rz rfl rfl ?_
        refine rz rfl rfl ?_
        refine rz rfl rfl ?_
        refine rz rfl rfl ?_
        refine rz rfl rfl ?_
        refine rz rfl rfl ?_
        refine ro rfl rfl (st_pickF rfl rfl) ?_
        refine ro rfl rfl (st_as rfl) ?_
        refine rw_nil ?_
        refine nx_then ?_
        exact J116 false () _ _ h (gh_frz rfl rfl ⟨⟨_, rfl, .keep rfl⟩, ⟨_, rfl, .keep rfl⟩, ⟨_, rfl, .keep rfl⟩, ⟨_, rfl, .keep rfl⟩, ⟨_, rfl, .keep rfl⟩, ⟨_, rfl, .keep rfl⟩, ⟨_, rfl, .keep rfl⟩, trivial⟩ trivial)
    · replace h := ite_F p131 h
      rw [p131]
      refine rz rfl rfl ?_
      refine rz rfl rfl ?_
      refine ro rfl rfl (st_pickF rfl rfl) ?_
      refine ro rfl rfl (st_mv rfl) ?_
      refine rz rfl rfl ?_
      refine rz rfl rfl ?_
      refine ro rfl rfl (st_pickF rfl rfl) ?_
      refine ro rfl rfl (st_mv rfl) ?_
      refine rz rfl rfl ?_
      refine rz rfl rfl ?_
      refine ro rfl rfl (st_pickF rfl rfl) ?_
      refine ro rfl rfl (st_mv rfl) ?_
      refine rz rfl rfl ?_
      refine rz rfl rfl ?_
      refine ro rfl rfl (st_pickF rfl rfl) ?_
      refine ro rfl rfl (st_mv rfl) ?_
      refine rz rfl rfl ?_
      refine rz rfl rfl ?_
      refine rz rfl rfl ?_
      refine rz rfl rfl ?_
      refine rz rfl rfl ?_
      refine rz rfl rfl ?_
      refine ro rfl rfl (st_pickF rfl rfl) ?_
      refine ro rfl rfl (st_as rfl) ?_
      refine rw_nil ?_
      refine nx_then ?_
      exact J116 false () _ _ h (gh_frz rfl rfl ⟨⟨_, rfl, .keep rfl⟩, ⟨_, rfl, .keep rfl⟩, ⟨_, rfl, .keep rfl⟩, ⟨_, rfl, .keep rfl⟩, ⟨_, rfl, .keep rfl⟩, ⟨_, rfl, .keep rfl⟩, ⟨_, rfl, .keep rfl⟩, trivial⟩ trivial)

theorem ok_skolemref03_Abs {a0 : Int} {r : Int} (h : F_skolemref03_Abs a0 = some r) : Fn Try.prog 83 [dI .i64 a0] (dI .i64 r) := by
  unfold F_skolemref03_Abs at h
  refine Fn.of_body (N := 8) (rs := [.tmp 2]) Try.func83 (c := _) rfl rfl rfl (by kernel_rfl) (Nat.le_of_ble_eq_true rfl) (fun _B => ?_)
  refine awp_rs ?_
  refine ro rfl rfl (st_as rfl) ?_
  refine rw_nilk ?_
  refine awp_seq ?_
  refine awp_rs ?_
  refine ro rfl rfl (st_mv rfl) ?_
  refine ro rfl rfl (st_bin (v := dB (decide (a0 < (0 : Int)))) rfl rfl rfl) ?_
  refine rw_nilk ?_
  refine awp_ite (b := (decide (a0 < (0 : Int)))) rfl (fun p101 => ?_) (fun p101 => ?_)
  · replace h := ite_T p101 h
    refine awp_rs ?_
    refine ro rfl rfl (st_mv rfl) ?_
    refine ro rfl rfl (st_un (v := dI .i64 (IntKind.wrap .i64 (0 - a0))) rfl rfl) ?_
    refine ro rfl rfl (st_as rfl) ?_
    refine rw_nilk ?_
    refine awp_ret ?_
    refine rt_then ?_
    injection h with h
    subst h
    exact ret_out (v := dI .i64 (IntKind.wrap .i64 (0 - a0))) (resV_one (resVs_tmp rfl resVs_nil)) (.keep rfl)
  · replace h := ite_F p101 h
    refine awp_skip ?_
    refine nx_then ?_
    refine awp_rs ?_
    refine ro rfl rfl (st_mv rfl) ?_
    refine ro rfl rfl (st_as rfl) ?_
    refine rw_nilk ?_
    refine awp_ret ?_
    injection h with h
    subst h
    exact ret_out (v := dI .i64 a0) (resV_one (resVs_tmp rfl resVs_nil)) (.keep rfl)

theorem ok_skolemref03_Normal {a0 : (List Int)} {r : Bool} (h : F_skolemref03_Normal a0 = some r) : Fn Try.prog 82 [dL 1 (eI .i64) a0] (dB r) := by
  unfold F_skolemref03_Normal at h
  refine Fn.of_body (N := 47) (rs := [.tmp 2]) Try.func82 (c := _) rfl rfl rfl (by kernel_rfl) (Nat.le_of_ble_eq_true rfl) (fun _B => ?_)
  refine awp_rs ?_
  refine ro rfl rfl (st_as rfl) ?_
  refine rw_nilk ?_
  refine awp_seq ?_
  refine awp_rs ?_
  refine ro rfl rfl (st_as rfl) ?_
  refine rw_nilk ?_
  refine awp_block ?_
  refine awp_len (t := 0) rfl (fun hl104 => ?_)
  rw [List.length_map] at hl104
  refine awp_range (fun (j104 : Nat) (s101 : Unit) (g102 : Unit) => [(0, dL 1 (eI .i64) a0), (3, dI .i64 ((j104 : Nat) : Int))]) (fun (s101 : Unit) (g102 : Unit) => []) () (fun _ _ _ h => h) h (gh_frz rfl rfl ⟨⟨_, rfl, .keep rfl⟩, ⟨_, rfl, .keep rfl⟩, trivial⟩ trivial) ?_ ?_
  · clear h
    intro j104 x105 s101 g102 k103 hj104 hx104 h ih103
    refine awp_seq ?_
    refine awp_rs ?_
    refine ro rfl rfl (st_mv rfl) ?_
    refine ro rfl rfl (st_mv rfl) ?_
    refine ro rfl rfl (st_lenD rfl un34) ?_
    refine ro rfl rfl (st_bin (v := dB (decide (((j104 : Nat) : Int) < ((a0.length : Nat) : Int)))) rfl rfl rfl) ?_
    refine rw_nilk ?_
    refine awp_ifT rfl (dlt hj104) ?_
    refine awp_skip ?_
    refine nx_then ?_
    refine awp_seq ?_
    refine awp_block ?_
    refine awp_jn (fun (s167 : Bool) (g168 : Unit) => [(0, dL 1 (eI .i64) a0), (3, dI .i64 ((j104 : Nat) : Int)), (46, dB s167)]) (fun (s167 : Bool) (g168 : Unit) => []) h ?_ ?_
    · clear h
      intro s167 g168 h
      refine awp_ite (b := s167) rfl (fun p170 => ?_) (fun p170 => ?_)
      · replace h := ite_T p170 h
        refine awp_rs ?_
        refine ro rfl rfl (st_as rfl) ?_
        refine rw_nilk ?_
        refine awp_ret ?_
        refine rt_block ?_
        refine rt_then ?_
        refine rt_then ?_
        refine rt_block ?_
        refine rt_then ?_
        injection h with h
        subst h
        exact ret_out (v := dB false) (resV_one (resVs_tmp rfl resVs_nil)) (.keep rfl)
      · replace h := ite_F p170 h
        refine awp_skip ?_
        refine nx_block ?_
        refine nx_then ?_
        refine awp_rw ?_
        refine ro rfl rfl (st_mv rfl) ?_
        refine ro rfl rfl (st_inc rfl rfl hj104 hl104) ?_
        refine ro rfl rfl (st_as rfl) ?_
        refine rw_nil ?_
        refine nx_then ?_
        refine awp_gh ?_ (ih103 () () h)
        exact (gh_frz rfl rfl ⟨⟨_, rfl, .keep rfl⟩, ⟨_, rfl, .keep rfl⟩, trivial⟩ trivial)
    · clear h
      intro k169 h J169
      refine awp_rd hmix ?_
      refine do_ rfl rfl (st_mv rfl) rfl rfl rfl ?_
      refine do_ rfl rfl (st_mv rfl) rfl rfl rfl ?_
      refine do_ rfl rfl (st_ixDn sl34 rfl rfl hx104) rfl rfl rfl ?_
      refine do_ rfl rfl (st_ldD (v := dI .i64 x105) ta3 rfl rfl) rfl rfl rfl ?_
      refine do_ rfl rfl (st_bin (v := dB (x105 == (0 : Int))) rfl rfl rfl) rfl rfl rfl ?_
      refine do_ rfl rfl (st_mv rfl) rfl rfl rfl ?_
      refine bool_split (x105 == (0 : Int)) (fun p171 => ?_) (fun p171 => ?_)
      · replace h := ite_T p171 h
        rw [p171]
        refine dz rfl rfl ?_
        refine dz rfl rfl ?_
        refine dz rfl rfl ?_
        refine dz rfl rfl ?_
        refine dz rfl rfl ?_
        refine do_ rfl rfl (st_pickT rfl rfl) rfl rfl rfl ?_
        refine do_ rfl rfl (st_mv rfl) rfl rfl rfl ?_
        refine dz rfl rfl ?_
        refine dz rfl rfl ?_
        refine dz rfl rfl ?_
        refine dz rfl rfl ?_
        refine dz rfl rfl ?_
        refine do_ rfl rfl (st_pickT rfl rfl) rfl rfl rfl ?_
        refine do_ rfl rfl (st_mv rfl) rfl rfl rfl ?_
        refine dz rfl rfl ?_
        refine dz rfl rfl ?_
        refine dz rfl rfl ?_
        refine dz rfl rfl ?_
        refine dz rfl rfl ?_
        refine dz rfl rfl ?_
        refine dz rfl rfl ?_
        refine dz rfl rfl ?_
        refine dz rfl rfl ?_
        refine dz rfl rfl ?_
        refine dz rfl rfl ?_
        refine dz rfl rfl ?_
        refine dz rfl rfl ?_
        refine dz rfl rfl ?_
        refine dz rfl rfl ?_
        refine dz rfl rfl ?_
        refine do_ rfl rfl (st_pickT rfl rfl) rfl rfl rfl ?_
        refine rd_nil (by kernel_rfl) ?_
        refine nx_then ?_
        exact J169 true () _ _ h (gh_frz rfl rfl ⟨⟨_, rfl, .keep rfl⟩, ⟨_, rfl, .keep rfl⟩, ⟨_, rfl, .keep rfl⟩, trivial⟩ trivial)
      · replace h := ite_F p171 h
        rw [p171]
        refine do_ rfl rfl (st_mv rfl) rfl rfl rfl ?_
        refine do_ rfl rfl (st_mv rfl) rfl rfl rfl ?_
        refine do_ rfl rfl (st_ixDn sl34 rfl rfl hx104) rfl rfl rfl ?_
        refine do_ rfl rfl (st_ldD (v := dI .i64 x105) ta3 rfl rfl) rfl rfl rfl ?_
        refine do_ rfl rfl (st_bin (v := dB (decide (x105 < (-65536 : Int)))) rfl rfl rfl) rfl rfl rfl ?_
        refine do_ rfl rfl (st_pickF rfl rfl) rfl rfl rfl ?_
        refine do_ rfl rfl (st_mv rfl) rfl rfl rfl ?_
        refine bool_split (decide (x105 < (-65536 : Int))) (fun p172 => ?_) (fun p172 => ?_)
        · replace h := ite_T p172 h
          rw [p172]
          refine dz rfl rfl ?_
          refine dz rfl rfl ?_
          refine dz rfl rfl ?_
          refine dz rfl rfl ?_
          refine dz rfl rfl ?_
          refine do_ rfl rfl (st_pickT rfl rfl) rfl rfl rfl ?_
          refine do_ rfl rfl (st_mv rfl) rfl rfl rfl ?_
          refine dz rfl rfl ?_
          refine dz rfl rfl ?_
          refine dz rfl rfl ?_
          refine dz rfl rfl ?_
          refine dz rfl rfl ?_
          refine dz rfl rfl ?_
          refine dz rfl rfl ?_
          refine dz rfl rfl ?_
          refine dz rfl rfl ?_
          refine dz rfl rfl ?_
          refine dz rfl rfl ?_
          refine dz rfl rfl ?_
          refine dz rfl rfl ?_
          refine dz rfl rfl ?_
          refine dz rfl rfl ?_
          refine dz rfl rfl ?_
          refine do_ rfl rfl (st_pickT rfl rfl) rfl rfl rfl ?_
          refine rd_nil (by kernel_rfl) ?_
          refine nx_then ?_
          exact J169 true () _ _ h (gh_frz rfl rfl ⟨⟨_, rfl, .keep rfl⟩, ⟨_, rfl, .keep rfl⟩, ⟨_, rfl, .keep rfl⟩, trivial⟩ trivial)
        · replace h := ite_F p172 h
          rw [p172]
          refine do_ rfl rfl (st_mv rfl) rfl rfl rfl ?_
          refine do_ rfl rfl (st_mv rfl) rfl rfl rfl ?_
          refine do_ rfl rfl (st_ixDn sl34 rfl rfl hx104) rfl rfl rfl ?_
          refine do_ rfl rfl (st_ldD (v := dI .i64 x105) ta3 rfl rfl) rfl rfl rfl ?_
          refine do_ rfl rfl (st_bin (v := dB (decide (x105 > (65536 : Int)))) rfl rfl rfl) rfl rfl rfl ?_
          refine do_ rfl rfl (st_pickF rfl rfl) rfl rfl rfl ?_
          refine do_ rfl rfl (st_mv rfl) rfl rfl rfl ?_
          refine bool_split (decide (x105 > (65536 : Int))) (fun p173 => ?_) (fun p173 => ?_)
          · replace h := ite_T p173 h
            rw [p173]
            refine dz rfl rfl ?_
            refine dz rfl rfl ?_
            refine dz rfl rfl ?_
            refine dz rfl rfl ?_
            refine dz rfl rfl ?_
            refine dz rfl rfl ?_
            refine dz rfl rfl ?_
            refine dz rfl rfl ?_
            refine dz rfl rfl ?_
            refine dz rfl rfl ?_
            refine dz rfl rfl ?_
            refine dz rfl rfl ?_
            refine dz rfl rfl ?_
            refine dz rfl rfl ?_
            refine dz rfl rfl ?_
            refine dz rfl rfl ?_
            refine do_ rfl rfl (st_pickT rfl rfl) rfl rfl rfl ?_
            refine rd_nil (by kernel_rfl) ?_
            refine nx_then ?_
            exact J169 true () _ _ h (gh_frz rfl rfl ⟨⟨_, rfl, .keep rfl⟩, ⟨_, rfl, .keep rfl⟩, ⟨_, rfl, .keep rfl⟩, trivial⟩ trivial)
          · replace h := ite_F p173 h
            rw [p173]
            refine do_ rfl rfl (st_mv rfl) rfl rfl rfl ?_
            refine do_ rfl rfl (st_bin (v := dB (decide (((j104 : Nat) : Int) > (0 : Int)))) rfl rfl rfl) rfl rfl rfl ?_
            refine do_ rfl rfl (st_mv rfl) rfl rfl rfl ?_
            refine bool_split (decide (((j104 : Nat) : Int) > (0 : Int))) (fun p174 => ?_) (fun p174 => ?_)
            · replace h := ite_T p174 h
              rw [p174]
              refine do_ rfl rfl (st_mv rfl) rfl rfl rfl ?_
              refine do_ rfl rfl (st_mv rfl) rfl rfl rfl ?_
              refine do_ rfl rfl (st_bin (v := dI .i64 (IntKind.wrap .i64 (((j104 : Nat) : Int) - (1 : Int)))) rfl rfl rfl) rfl rfl rfl ?_
              obtain ⟨x175, h0175, hx175, h⟩ := getI_some h
              refine do_ rfl rfl (st_ixD sl34 rfl rfl h0175 hx175) rfl rfl rfl ?_
              refine do_ rfl rfl (st_ldD (v := dI .i64 x175) ta3 rfl rfl) rfl rfl rfl ?_
              obtain ⟨y176, hy176, h⟩ := bind_some_elim h
              refine df rfl rfl (ok_skolemref03_Abs hy176) rfl rfl ?_
              refine do_ rfl rfl (st_mv rfl) rfl rfl rfl ?_
              refine do_ rfl rfl (st_mv rfl) rfl rfl rfl ?_
              refine do_ rfl rfl (st_ixDn sl34 rfl rfl hx104) rfl rfl rfl ?_
              refine do_ rfl rfl (st_ldD (v := dI .i64 x105) ta3 rfl rfl) rfl rfl rfl ?_
              obtain ⟨y177, hy177, h⟩ := bind_some_elim h
              refine df rfl rfl (ok_skolemref03_Abs hy177) rfl rfl ?_
              refine do_ rfl rfl (st_bin (v := dB (decide (y176 ≥ y177))) rfl rfl rfl) rfl rfl rfl ?_
              refine do_ rfl rfl (st_pickT rfl rfl) rfl rfl rfl ?_
              refine do_ rfl rfl (st_pickF rfl rfl) rfl rfl rfl ?_
              refine rd_nil (by kernel_rfl) ?_
              refine nx_then ?_
              exact J169 (decide (y176 ≥ y177)) () _ _ h (gh_frz rfl rfl ⟨⟨_, rfl, .keep rfl⟩, ⟨_, rfl, .keep rfl⟩, ⟨_, rfl, .keep rfl⟩, trivial⟩ trivial)
            · replace h := ite_F p174 h
              rw [p174]
              refine dz rfl rfl ?_
              refine dz rfl rfl ?_
              refine dz rfl rfl ?_
              refine dz rfl rfl ?_
              refine dz rfl rfl ?_
              refine dz rfl rfl ?_
              refine dz rfl rfl ?_
              refine dz rfl rfl ?_
              refine dz rfl rfl ?_
              refine dz rfl rfl ?_
              refine dz rfl rfl ?_
              refine dz rfl rfl ?_
              refine do_ rfl rfl (st_pickF rfl rfl) rfl rfl rfl ?_
              refine do_ rfl rfl (st_pickF rfl rfl) rfl rfl rfl ?_
              refine rd_nil (by kernel_rfl) ?_
              refine nx_then ?_
              exact J169 false () _ _ h (gh_frz rfl rfl ⟨⟨_, rfl, .keep rfl⟩, ⟨_, rfl, .keep rfl⟩, ⟨_, rfl, .keep rfl⟩, trivial⟩ trivial)
  · clear h
    intro s101 g102 h
    refine awp_seq ?_
    refine awp_rs ?_
    refine ro rfl rfl (st_mv rfl) ?_
    refine ro rfl rfl (st_mv rfl) ?_
    refine ro rfl rfl (st_lenD rfl un34) ?_
    refine ro rfl rfl (st_bin (v := dB (decide (((a0.length : Nat) : Int) < ((a0.length : Nat) : Int)))) rfl rfl rfl) ?_
    refine rw_nilk ?_
    refine awp_ifF rfl dge ?_
    refine awp_exit ?_
    refine ex_out ?_
    refine ex_out ?_
    refine ex_in ?_
    refine nx_then ?_
    refine awp_rs ?_
    refine ro rfl rfl (st_as rfl) ?_
    refine rw_nilk ?_
    refine awp_ret ?_
    injection h with h
    subst h
    exact ret_out (v := dB true) (resV_one (resVs_tmp rfl resVs_nil)) (.keep rfl)

theorem ok_skolemref03_Cnf {a0 : (List (List Int))} {r : Bool} (h : F_skolemref03_Cnf a0 = some r) : Fn Try.prog 56 [dL 1 (eL 1 (eI .i64)) a0] (dB r) := by
  unfold F_skolemref03_Cnf at h
  refine Fn.of_body (N := 31) (rs := [.tmp 2]) Try.func56 (c := _) rfl rfl rfl (by kernel_rfl) (Nat.le_of_ble_eq_true rfl) (fun _B => ?_)
  refine awp_rs ?_
  refine ro rfl rfl (st_as rfl) ?_
  refine rw_nilk ?_
  refine awp_rs ?_
  refine ro rfl rfl (st_as rfl) ?_
  refine rw_nilk ?_
  refine awp_seq ?_
  refine awp_rs ?_
  refine ro rfl rfl (st_as rfl) ?_
  refine rw_nilk ?_
  refine awp_block ?_
  refine awp_len (t := 0) rfl (fun hl104 => ?_)
  rw [List.length_map] at hl104
  refine awp_range (fun (j104 : Nat) (s101 : Int) (g102 : Unit) => [(0, dL 1 (eL 1 (eI .i64)) a0), (3, dI .i64 s101), (4, dI .i64 ((j104 : Nat) : Int))]) (fun (s101 : Int) (g102 : Unit) => []) () (fun _ _ _ h => h) h (gh_frz rfl rfl ⟨⟨_, rfl, .keep rfl⟩, ⟨_, rfl, .keep rfl⟩, ⟨_, rfl, .keep rfl⟩, trivial⟩ trivial) ?_ ?_
  · clear h
    intro j104 x105 s101 g102 k103 hj104 hx104 h ih103
    refine awp_seq ?_
    refine awp_rs ?_
    refine ro rfl rfl (st_mv rfl) ?_
    refine ro rfl rfl (st_mv rfl) ?_
    refine ro rfl rfl (st_lenD rfl un23) ?_
    refine ro rfl rfl (st_bin (v := dB (decide (((j104 : Nat) : Int) < ((a0.length : Nat) : Int)))) rfl rfl rfl) ?_
    refine rw_nilk ?_
    refine awp_ifT rfl (dlt hj104) ?_
    refine awp_skip ?_
    refine nx_then ?_
    refine awp_seq ?_
    refine awp_block ?_
    refine awp_rs ?_
    refine ro rfl rfl (st_mv rfl) ?_
    refine ro rfl rfl (st_mv rfl) ?_
    refine ro rfl rfl (st_mv rfl) ?_
    refine ro rfl rfl (st_ixDn sl23 rfl rfl hx104) ?_
    refine ro rfl rfl (st_ldD (v := dL 1 (eI .i64) x105) ta34 rfl rfl) ?_
    refine ro rfl rfl (st_lenD rfl un34) ?_
    refine ro rfl rfl (st_bin (v := dI .i64 (IntKind.wrap .i64 (s101 + ((x105.length : Nat) : Int)))) rfl rfl rfl) ?_
    refine ro rfl rfl (st_as rfl) ?_
    refine rw_nilk ?_
    refine awp_rs ?_
    refine ro rfl rfl (st_mv rfl) ?_
    refine ro rfl rfl (st_mv rfl) ?_
    refine ro rfl rfl (st_ixDn sl23 rfl rfl hx104) ?_
    refine ro rfl rfl (st_ldD (v := dL 1 (eI .i64) x105) ta34 rfl rfl) ?_
    obtain ⟨y110, hy110, h⟩ := bind_some_elim h
    refine rf rfl rfl (ok_skolemref03_Normal hy110) rfl rfl ?_
    refine ro rfl rfl (st_un (v := dB (!y110)) rfl rfl) ?_
    refine rw_nilk ?_
    refine awp_ite (b := (!y110)) rfl (fun p111 => ?_) (fun p111 => ?_)
    · replace h := ite_T p111 h
      refine awp_rs ?_
      refine ro rfl rfl (st_as rfl) ?_
      refine rw_nilk ?_
      refine awp_ret ?_
      refine rt_block ?_
      refine rt_then ?_
      refine rt_then ?_
      refine rt_block ?_
      refine rt_then ?_
      injection h with h
      subst h
      exact ret_out (v := dB false) (resV_one (resVs_tmp rfl resVs_nil)) (.keep rfl)
    · replace h := ite_F p111 h
      refine awp_skip ?_
      refine nx_block ?_
      refine nx_then ?_
      refine awp_rw ?_
      refine ro rfl rfl (st_mv rfl) ?_
      refine ro rfl rfl (st_inc rfl rfl hj104 hl104) ?_
      refine ro rfl rfl (st_as rfl) ?_
      refine rw_nil ?_
      refine nx_then ?_
      refine awp_gh ?_ (ih103 (IntKind.wrap .i64 (s101 + ((x105.length : Nat) : Int))) () h)
      exact (gh_frz rfl rfl ⟨⟨_, rfl, .keep rfl⟩, ⟨_, rfl, .keep rfl⟩, ⟨_, rfl, .keep rfl⟩, trivial⟩ trivial)
  · clear h
    intro s101 g102 h
    refine awp_seq ?_
    refine awp_rs ?_
    refine ro rfl rfl (st_mv rfl) ?_
    refine ro rfl rfl (st_mv rfl) ?_
    refine ro rfl rfl (st_lenD rfl un23) ?_
    refine ro rfl rfl (st_bin (v := dB (decide (((a0.length : Nat) : Int) < ((a0.length : Nat) : Int)))) rfl rfl rfl) ?_
    refine rw_nilk ?_
    refine awp_ifF rfl dge ?_
    refine awp_exit ?_
    refine ex_out ?_
    refine ex_out ?_
    refine ex_in ?_
    refine nx_then ?_
    refine awp_rs ?_
    refine ro rfl rfl (st_mv rfl) ?_
    refine ro rfl rfl (st_lenD rfl un23) ?_
    refine ro rfl rfl (st_bin (v := dB (decide (((a0.length : Nat) : Int) ≤ (20000 : Int)))) rfl rfl rfl) ?_
    refine ro rfl rfl (st_mv rfl) ?_
    refine bool_split (decide (((a0.length : Nat) : Int) ≤ (20000 : Int))) (fun p113 => ?_) (fun p113 => ?_)
    · replace h := ite_T p113 h
      rw [p113]
      refine ro rfl rfl (st_mv rfl) ?_
      refine ro rfl rfl (st_bin (v := dB (decide (s101 ≤ (200000 : Int)))) rfl rfl rfl) ?_
      refine ro rfl rfl (st_pickT rfl rfl) ?_
      refine ro rfl rfl (st_as rfl) ?_
      refine rw_nilk ?_
      refine awp_ret ?_
      injection h with h
      subst h
      exact ret_out (v := dB (decide (s101 ≤ (200000 : Int)))) (resV_one (resVs_tmp rfl resVs_nil)) (.keep rfl)
    · replace h := ite_F p113 h
      rw [p113]
      refine rz rfl rfl ?_
      refine rz rfl rfl ?_
      refine ro rfl rfl (st_pickF rfl rfl) ?_
      refine ro rfl rfl (st_as rfl) ?_
      refine rw_nilk ?_
      refine awp_ret ?_
      injection h with h
      subst h
      exact ret_out (v := dB false) (resV_one (resVs_tmp rfl resVs_nil)) (.keep rfl)

theorem ok_skolemref03_Has {a0 : (List Int)} {a1 : Int} {r : Bool} (h : F_skolemref03_Has a0 a1 = some r) : Fn Try.prog 81 [dL 1 (eI .i64) a0, dI .i64 a1] (dB r) := by
  unfold F_skolemref03_Has at h
  refine Fn.of_body (N := 18) (rs := [.tmp 4]) Try.func81 (c := _) rfl rfl rfl (by kernel_rfl) (Nat.le_of_ble_eq_true rfl) (fun _B => ?_)
  refine awp_rs ?_
  refine ro rfl rfl (st_as rfl) ?_
  refine rw_nilk ?_
  refine awp_seq ?_
  refine awp_rs ?_
  refine ro rfl rfl (st_as rfl) ?_
  refine rw_nilk ?_
  refine awp_block ?_
  refine awp_len (t := 0) rfl (fun hl104 => ?_)
  rw [List.length_map] at hl104
  refine awp_range (fun (j104 : Nat) (s101 : Unit) (g102 : Unit) => [(0, dL 1 (eI .i64) a0), (1, dI .i64 a1), (5, dI .i64 ((j104 : Nat) : Int))]) (fun (s101 : Unit) (g102 : Unit) => []) () (fun _ _ _ h => h) h (gh_frz rfl rfl ⟨⟨_, rfl, .keep rfl⟩, ⟨_, rfl, .keep rfl⟩, ⟨_, rfl, .keep rfl⟩, trivial⟩ trivial) ?_ ?_
  · clear h
    intro j104 x105 s101 g102 k103 hj104 hx104 h ih103
    refine awp_seq ?_
    refine awp_rs ?_
    refine ro rfl rfl (st_mv rfl) ?_
    refine ro rfl rfl (st_mv rfl) ?_
    refine ro rfl rfl (st_lenD rfl un34) ?_
    refine ro rfl rfl (st_bin (v := dB (decide (((j104 : Nat) : Int) < ((a0.length : Nat) : Int)))) rfl rfl rfl) ?_
    refine rw_nilk ?_
    refine awp_ifT rfl (dlt hj104) ?_
    refine awp_skip ?_
    refine nx_then ?_
    refine awp_seq ?_
    refine awp_block ?_
    refine awp_rs ?_
    refine ro rfl rfl (st_mv rfl) ?_
    refine ro rfl rfl (st_mv rfl) ?_
    refine ro rfl rfl (st_ixDn sl34 rfl rfl hx104) ?_
    refine ro rfl rfl (st_ldD (v := dI .i64 x105) ta3 rfl rfl) ?_
    refine ro rfl rfl (st_mv rfl) ?_
    refine ro rfl rfl (st_bin (v := dB (x105 == a1)) rfl rfl rfl) ?_
    refine rw_nilk ?_
    refine awp_ite (b := (x105 == a1)) rfl (fun p107 => ?_) (fun p107 => ?_)
    · replace h := ite_T p107 h
      refine awp_rs ?_
      refine ro rfl rfl (st_as rfl) ?_
      refine rw_nilk ?_
      refine awp_ret ?_
      refine rt_block ?_
      refine rt_then ?_
      refine rt_then ?_
      refine rt_block ?_
      refine rt_then ?_
      injection h with h
      subst h
      exact ret_out (v := dB true) (resV_one (resVs_tmp rfl resVs_nil)) (.keep rfl)
    · replace h := ite_F p107 h
      refine awp_skip ?_
      refine nx_block ?_
      refine nx_then ?_
      refine awp_rw ?_
      refine ro rfl rfl (st_mv rfl) ?_
      refine ro rfl rfl (st_inc rfl rfl hj104 hl104) ?_
      refine ro rfl rfl (st_as rfl) ?_
      refine rw_nil ?_
      refine nx_then ?_
      refine awp_gh ?_ (ih103 () () h)
      exact (gh_frz rfl rfl ⟨⟨_, rfl, .keep rfl⟩, ⟨_, rfl, .keep rfl⟩, ⟨_, rfl, .keep rfl⟩, trivial⟩ trivial)
  · clear h
    intro s101 g102 h
    refine awp_seq ?_
    refine awp_rs ?_
    refine ro rfl rfl (st_mv rfl) ?_
    refine ro rfl rfl (st_mv rfl) ?_
    refine ro rfl rfl (st_lenD rfl un34) ?_
    refine ro rfl rfl (st_bin (v := dB (decide (((a0.length : Nat) : Int) < ((a0.length : Nat) : Int)))) rfl rfl rfl) ?_
    refine rw_nilk ?_
    refine awp_ifF rfl dge ?_
    refine awp_exit ?_
    refine ex_out ?_
    refine ex_out ?_
    refine ex_in ?_
    refine nx_then ?_
    refine awp_rs ?_
    refine ro rfl rfl (st_as rfl) ?_
    refine rw_nilk ?_
    refine awp_ret ?_
    injection h with h
    subst h
    exact ret_out (v := dB false) (resV_one (resVs_tmp rfl resVs_nil)) (.keep rfl)

theorem ok_skolemref03_within {a0 : (List (List Int))} {a1 : (List Int)} {r : Bool} (h : F_skolemref03_within a0 a1 = some r) : Fn Try.prog 57 [dL 1 (eL 1 (eI .i64)) a0, dL 1 (eI .i64) a1] (dB r) := by
  unfold F_skolemref03_within at h
  refine Fn.of_body (N := 33) (rs := [.tmp 4]) Try.func57 (c := _) rfl rfl rfl (by kernel_rfl) (Nat.le_of_ble_eq_true rfl) (fun _B => ?_)
  refine awp_rs ?_
  refine ro rfl rfl (st_as rfl) ?_
  refine rw_nilk ?_
  refine awp_seq ?_
  refine awp_rs ?_
  refine ro rfl rfl (st_as rfl) ?_
  refine rw_nilk ?_
  refine awp_block ?_
  refine awp_len (t := 0) rfl (fun hl104 => ?_)
  rw [List.length_map] at hl104
  refine awp_range (fun (j104 : Nat) (s101 : Unit) (g102 : Unit) => [(0, dL 1 (eL 1 (eI .i64)) a0), (1, dL 1 (eI .i64) a1), (5, dI .i64 ((j104 : Nat) : Int))]) (fun (s101 : Unit) (g102 : Unit) => []) () (fun _ _ _ h => h) h (gh_frz rfl rfl ⟨⟨_, rfl, .keep rfl⟩, ⟨_, rfl, .keep rfl⟩, ⟨_, rfl, .keep rfl⟩, trivial⟩ trivial) ?_ ?_
  · clear h
    intro j104 x105 s101 g102 k103 hj104 hx104 h ih103
    refine awp_seq ?_
    refine awp_rs ?_
    refine ro rfl rfl (st_mv rfl) ?_
    refine ro rfl rfl (st_mv rfl) ?_
    refine ro rfl rfl (st_lenD rfl un23) ?_
    refine ro rfl rfl (st_bin (v := dB (decide (((j104 : Nat) : Int) < ((a0.length : Nat) : Int)))) rfl rfl rfl) ?_
    refine rw_nilk ?_
    refine awp_ifT rfl (dlt hj104) ?_
    refine awp_skip ?_
    refine nx_then ?_
    refine awp_seq ?_
    refine awp_block ?_
    refine awp_rs ?_
    refine ro rfl rfl (st_as rfl) ?_
    refine rw_nilk ?_
    refine awp_block ?_
    refine awp_while (fun (s128 : Int) (g129 : Unit) => [(0, dL 1 (eL 1 (eI .i64)) a0), (1, dL 1 (eI .i64) a1), (5, dI .i64 ((j104 : Nat) : Int)), (6, dI .i64 s128)]) (fun (s128 : Int) (g129 : Unit) => []) () (fun _ _ _ h => h) h (gh_frz rfl rfl ⟨⟨_, rfl, .keep rfl⟩, ⟨_, rfl, .keep rfl⟩, ⟨_, rfl, .keep rfl⟩, ⟨_, rfl, .keep rfl⟩, trivial⟩ trivial) ?_
    clear h
    intro s128 g129 k130 h ih130
    refine awp_seq ?_
    refine awp_rs ?_
    refine ro rfl rfl (st_mv rfl) ?_
    refine ro rfl rfl (st_mv rfl) ?_
    refine ro rfl rfl (st_mv rfl) ?_
    refine ro rfl rfl (st_ixDn sl23 rfl rfl hx104) ?_
    refine ro rfl rfl (st_ldD (v := dL 1 (eI .i64) x105) ta34 rfl rfl) ?_
    refine ro rfl rfl (st_lenD rfl un34) ?_
    refine ro rfl rfl (st_bin (v := dB (decide (s128 < ((x105.length : Nat) : Int)))) rfl rfl rfl) ?_
    refine rw_nilk ?_
    refine awp_ite (b := (decide (s128 < ((x105.length : Nat) : Int)))) rfl (fun p145 => ?_) (fun p145 => ?_)
    · replace h := ite_T p145 h
      refine awp_skip ?_
      refine nx_then ?_
      refine awp_seq ?_
      refine awp_block ?_
      refine awp_rs ?_
      refine ro rfl rfl (st_mv rfl) ?_
      refine ro rfl rfl (st_mv rfl) ?_
      refine ro rfl rfl (st_mv rfl) ?_
      refine ro rfl rfl (st_ixDn sl23 rfl rfl hx104) ?_
      refine ro rfl rfl (st_ldD (v := dL 1 (eI .i64) x105) ta34 rfl rfl) ?_
      refine ro rfl rfl (st_mv rfl) ?_
      obtain ⟨x146, h0146, hx146, h⟩ := getI_some h
      refine ro rfl rfl (st_ixD sl34 rfl rfl h0146 hx146) ?_
      refine ro rfl rfl (st_ldD (v := dI .i64 x146) ta3 rfl rfl) ?_
      obtain ⟨y147, hy147, h⟩ := bind_some_elim h
      refine rf rfl rfl (ok_skolemref03_Abs hy147) rfl rfl ?_
      obtain ⟨y148, hy148, h⟩ := bind_some_elim h
      refine rf rfl rfl (ok_skolemref03_Has hy148) rfl rfl ?_
      refine ro rfl rfl (st_un (v := dB (!y148)) rfl rfl) ?_
      refine rw_nilk ?_
      refine awp_ite (b := (!y148)) rfl (fun p149 => ?_) (fun p149 => ?_)
      · replace h := ite_T p149 h
        refine awp_rs ?_
        refine ro rfl rfl (st_as rfl) ?_
        refine rw_nilk ?_
        refine awp_ret ?_
        refine rt_block ?_
        refine rt_then ?_
        refine rt_then ?_
        refine rt_block ?_
        refine rt_block ?_
        refine rt_then ?_
        refine rt_then ?_
        refine rt_block ?_
        refine rt_then ?_
        injection h with h
        subst h
        exact ret_out (v := dB false) (resV_one (resVs_tmp rfl resVs_nil)) (.keep rfl)
      · replace h := ite_F p149 h
        refine awp_skip ?_
        refine nx_block ?_
        refine nx_then ?_
        refine awp_rw ?_
        refine ro rfl rfl (st_mv rfl) ?_
        refine ro rfl rfl (st_bin (v := dI .i64 (IntKind.wrap .i64 (s128 + (1 : Int)))) rfl rfl rfl) ?_
        refine ro rfl rfl (st_as rfl) ?_
        refine rw_nil ?_
        refine nx_then ?_
        refine awp_gh ?_ (ih130 (IntKind.wrap .i64 (s128 + (1 : Int))) () h)
        exact (gh_frz rfl rfl ⟨⟨_, rfl, .keep rfl⟩, ⟨_, rfl, .keep rfl⟩, ⟨_, rfl, .keep rfl⟩, ⟨_, rfl, .keep rfl⟩, trivial⟩ trivial)
    · replace h := ite_F p145 h
      refine awp_exit ?_
      refine ex_out ?_
      refine ex_out ?_
      refine ex_in ?_
      refine nx_block ?_
      refine nx_then ?_
      refine awp_rw ?_
      refine ro rfl rfl (st_mv rfl) ?_
      refine ro rfl rfl (st_inc rfl rfl hj104 hl104) ?_
      refine ro rfl rfl (st_as rfl) ?_
      refine rw_nil ?_
      refine nx_then ?_
      refine awp_gh ?_ (ih103 () () h)
      exact (gh_frz rfl rfl ⟨⟨_, rfl, .keep rfl⟩, ⟨_, rfl, .keep rfl⟩, ⟨_, rfl, .keep rfl⟩, trivial⟩ trivial)
  · clear h
    intro s101 g102 h
    refine awp_seq ?_
    refine awp_rs ?_
    refine ro rfl rfl (st_mv rfl) ?_
    refine ro rfl rfl (st_mv rfl) ?_
    refine ro rfl rfl (st_lenD rfl un23) ?_
    refine ro rfl rfl (st_bin (v := dB (decide (((a0.length : Nat) : Int) < ((a0.length : Nat) : Int)))) rfl rfl rfl) ?_
    refine rw_nilk ?_
    refine awp_ifF rfl dge ?_
    refine awp_exit ?_
    refine ex_out ?_
    refine ex_out ?_
    refine ex_in ?_
    refine nx_then ?_
    refine awp_rs ?_
    refine ro rfl rfl (st_as rfl) ?_
    refine rw_nilk ?_
    refine awp_ret ?_
    injection h with h
    subst h
    exact ret_out (v := dB true) (resV_one (resVs_tmp rfl resVs_nil)) (.keep rfl)

theorem ok_skolemref03_single {a0 : (List Int)} {r : Bool} (h : F_skolemref03_single a0 = some r) : Fn Try.prog 54 [dL 1 (eI .i64) a0] (dB r) := by
  unfold F_skolemref03_single at h
  refine Fn.of_body (N := 32) (rs := [.tmp 2]) Try.func54 (c := _) rfl rfl rfl (by kernel_rfl) (Nat.le_of_ble_eq_true rfl) (fun _B => ?_)
  refine awp_rs ?_
  refine ro rfl rfl (st_as rfl) ?_
  refine rw_nilk ?_
  refine awp_seq ?_
  refine awp_rs ?_
  refine ro rfl rfl (st_as rfl) ?_
  refine rw_nilk ?_
  refine awp_block ?_
  refine awp_len (t := 0) rfl (fun hl104 => ?_)
  rw [List.length_map] at hl104
  refine awp_range (fun (j104 : Nat) (s101 : Unit) (g102 : Unit) => [(0, dL 1 (eI .i64) a0), (3, dI .i64 ((j104 : Nat) : Int))]) (fun (s101 : Unit) (g102 : Unit) => []) () (fun _ _ _ h => h) h (gh_frz rfl rfl ⟨⟨_, rfl, .keep rfl⟩, ⟨_, rfl, .keep rfl⟩, trivial⟩ trivial) ?_ ?_
  · clear h
    intro j104 x105 s101 g102 k103 hj104 hx104 h ih103
    refine awp_seq ?_
    refine awp_rs ?_
    refine ro rfl rfl (st_mv rfl) ?_
    refine ro rfl rfl (st_mv rfl) ?_
    refine ro rfl rfl (st_lenD rfl un34) ?_
    refine ro rfl rfl (st_bin (v := dB (decide (((j104 : Nat) : Int) < ((a0.length : Nat) : Int)))) rfl rfl rfl) ?_
    refine rw_nilk ?_
    refine awp_ifT rfl (dlt hj104) ?_
    refine awp_skip ?_
    refine nx_then ?_
    refine awp_seq ?_
    refine awp_block ?_
    refine awp_jn (fun (s146 : Bool) (g147 : Unit) => [(0, dL 1 (eI .i64) a0), (3, dI .i64 ((j104 : Nat) : Int)), (31, dB s146)]) (fun (s146 : Bool) (g147 : Unit) => []) h ?_ ?_
    · clear h
      intro s146 g147 h
      refine awp_ite (b := s146) rfl (fun p149 => ?_) (fun p149 => ?_)
      · replace h := ite_T p149 h
        refine awp_rs ?_
        refine ro rfl rfl (st_as rfl) ?_
        refine rw_nilk ?_
        refine awp_ret ?_
        refine rt_block ?_
        refine rt_then ?_
        refine rt_then ?_
        refine rt_block ?_
        refine rt_then ?_
        injection h with h
        subst h
        exact ret_out (v := dB false) (resV_one (resVs_tmp rfl resVs_nil)) (.keep rfl)
      · replace h := ite_F p149 h
        refine awp_skip ?_
        refine nx_block ?_
        refine nx_then ?_
        refine awp_rw ?_
        refine ro rfl rfl (st_mv rfl) ?_
        refine ro rfl rfl (st_inc rfl rfl hj104 hl104) ?_
        refine ro rfl rfl (st_as rfl) ?_
        refine rw_nil ?_
        refine nx_then ?_
        refine awp_gh ?_ (ih103 () () h)
        exact (gh_frz rfl rfl ⟨⟨_, rfl, .keep rfl⟩, ⟨_, rfl, .keep rfl⟩, trivial⟩ trivial)
    · clear h
      intro k148 h J148
      refine awp_rd hmix ?_
      refine do_ rfl rfl (st_mv rfl) rfl rfl rfl ?_
      refine do_ rfl rfl (st_mv rfl) rfl rfl rfl ?_
      refine do_ rfl rfl (st_ixDn sl34 rfl rfl hx104) rfl rfl rfl ?_
      refine do_ rfl rfl (st_ldD (v := dI .i64 x105) ta3 rfl rfl) rfl rfl rfl ?_
      refine do_ rfl rfl (st_bin (v := dB (decide (x105 < (1 : Int)))) rfl rfl rfl) rfl rfl rfl ?_
      refine do_ rfl rfl (st_mv rfl) rfl rfl rfl ?_
      refine bool_split (decide (x105 < (1 : Int))) (fun p150 => ?_) (fun p150 => ?_)
      · replace h := ite_T p150 h
        rw [p150]
        refine dz rfl rfl ?_
        refine dz rfl rfl ?_
        refine dz rfl rfl ?_
        refine dz rfl rfl ?_
        refine dz rfl rfl ?_
        refine do_ rfl rfl (st_pickT rfl rfl) rfl rfl rfl ?_
        refine do_ rfl rfl (st_mv rfl) rfl rfl rfl ?_
        refine dz rfl rfl ?_
        refine dz rfl rfl ?_
        refine dz rfl rfl ?_
        refine dz rfl rfl ?_
        refine dz rfl rfl ?_
        refine dz rfl rfl ?_
        refine dz rfl rfl ?_
        refine dz rfl rfl ?_
        refine do_ rfl rfl (st_pickT rfl rfl) rfl rfl rfl ?_
        refine rd_nil (by kernel_rfl) ?_
        refine nx_then ?_
        exact J148 true () _ _ h (gh_frz rfl rfl ⟨⟨_, rfl, .keep rfl⟩, ⟨_, rfl, .keep rfl⟩, ⟨_, rfl, .keep rfl⟩, trivial⟩ trivial)
      · replace h := ite_F p150 h
        rw [p150]
        refine do_ rfl rfl (st_mv rfl) rfl rfl rfl ?_
        refine do_ rfl rfl (st_mv rfl) rfl rfl rfl ?_
        refine do_ rfl rfl (st_ixDn sl34 rfl rfl hx104) rfl rfl rfl ?_
        refine do_ rfl rfl (st_ldD (v := dI .i64 x105) ta3 rfl rfl) rfl rfl rfl ?_
        refine do_ rfl rfl (st_bin (v := dB (decide (x105 > (65536 : Int)))) rfl rfl rfl) rfl rfl rfl ?_
        refine do_ rfl rfl (st_pickF rfl rfl) rfl rfl rfl ?_
        refine do_ rfl rfl (st_mv rfl) rfl rfl rfl ?_
        refine bool_split (decide (x105 > (65536 : Int))) (fun p151 => ?_) (fun p151 => ?_)
        · replace h := ite_T p151 h
          rw [p151]
          refine dz rfl rfl ?_
          refine dz rfl rfl ?_
          refine dz rfl rfl ?_
          refine dz rfl rfl ?_
          refine dz rfl rfl ?_
          refine dz rfl rfl ?_
          refine dz rfl rfl ?_
          refine dz rfl rfl ?_
          refine do_ rfl rfl (st_pickT rfl rfl) rfl rfl rfl ?_
          refine rd_nil (by kernel_rfl) ?_
          refine nx_then ?_
          exact J148 true () _ _ h (gh_frz rfl rfl ⟨⟨_, rfl, .keep rfl⟩, ⟨_, rfl, .keep rfl⟩, ⟨_, rfl, .keep rfl⟩, trivial⟩ trivial)
        · replace h := ite_F p151 h
          rw [p151]
          refine do_ rfl rfl (st_mv rfl) rfl rfl rfl ?_
          refine do_ rfl rfl (st_mv rfl) rfl rfl rfl ?_
          obtain ⟨c152, h⟩ := okI_some h
          refine do_ rfl rfl (st_slHi sl34 rfl rfl c152.1 c152.2) rfl rfl rfl ?_
          refine do_ rfl rfl (st_mv rfl) rfl rfl rfl ?_
          refine do_ rfl rfl (st_mv rfl) rfl rfl rfl ?_
          refine do_ rfl rfl (st_ixDn sl34 rfl rfl hx104) rfl rfl rfl ?_
          refine do_ rfl rfl (st_ldD (v := dI .i64 x105) ta3 rfl rfl) rfl rfl rfl ?_
          obtain ⟨y153, hy153, h⟩ := bind_some_elim h
          refine df rfl rfl (ok_skolemref03_Has hy153) rfl rfl ?_
          refine do_ rfl rfl (st_pickF rfl rfl) rfl rfl rfl ?_
          refine rd_nil (by kernel_rfl) ?_
          refine nx_then ?_
          exact J148 y153 () _ _ h (gh_frz rfl rfl ⟨⟨_, rfl, .keep rfl⟩, ⟨_, rfl, .keep rfl⟩, ⟨_, rfl, .keep rfl⟩, trivial⟩ trivial)
  · clear h
    intro s101 g102 h
    refine awp_seq ?_
    refine awp_rs ?_
    refine ro rfl rfl (st_mv rfl) ?_
    refine ro rfl rfl (st_mv rfl) ?_
    refine ro rfl rfl (st_lenD rfl un34) ?_
    refine ro rfl rfl (st_bin (v := dB (decide (((a0.length : Nat) : Int) < ((a0.length : Nat) : Int)))) rfl rfl rfl) ?_
    refine rw_nilk ?_
    refine awp_ifF rfl dge ?_
    refine awp_exit ?_
    refine ex_out ?_
    refine ex_out ?_
    refine ex_in ?_
    refine nx_then ?_
    refine awp_rs ?_
    refine ro rfl rfl (st_as rfl) ?_
    refine rw_nilk ?_
    refine awp_ret ?_
    injection h with h
    subst h
    exact ret_out (v := dB true) (resV_one (resVs_tmp rfl resVs_nil)) (.keep rfl)

theorem ok_skolemref03_Flat {a0 : (List S_api_Block)} {r : (List Int)} (h : F_skolemref03_Flat a0 = some r) : Fn Try.prog 62 [dL 2 e_S_api_Block a0] (dL 1 (eI .i64) r) := by
  unfold F_skolemref03_Flat at h
  refine Fn.of_body (N := 19) (rs := [.tmp 2]) Try.func62 (c := _) rfl rfl rfl (by kernel_rfl) (Nat.le_of_ble_eq_true rfl) (fun _B => ?_)
  refine awp_rs ?_
  refine ro rfl rfl (st_as rfl) ?_
  refine rw_nilk ?_
  refine awp_rs ?_
  refine ro rfl rfl (st_as rfl) ?_
  refine rw_nilk ?_
  refine awp_seq ?_
  refine awp_rs ?_
  refine ro rfl rfl (st_as rfl) ?_
  refine rw_nilk ?_
  refine awp_block ?_
  refine awp_len (t := 0) rfl (fun hl104 => ?_)
  rw [List.length_map] at hl104
  refine awp_range (fun (j104 : Nat) (s101 : (List Int)) (g102 : Nat) => [(0, dL 2 e_S_api_Block a0), (3, .slice 1001 g102 0 s101.length), (4, dI .i64 ((j104 : Nat) : Int))]) (fun (s101 : (List Int)) (g102 : Nat) => [(1001, rw' g102 3 (eI .i64) s101)]) 0 (fun _ _ _ h => h) h (Gh.trans (gh_nil (r := 1001) (E' := [(0, dL 2 e_S_api_Block a0), (3, .slice 1001 0 0 (([] : List Int).length)), (4, dI .i64 (0 : Int))]) (L' := []) rfl co3 rfl rfl ⟨⟨_, rfl, .keep _⟩, ⟨_, rfl, .nil⟩, ⟨_, rfl, .keep _⟩, trivial⟩ trivial) (gh_frz rfl rfl ⟨⟨_, rfl, .keep rfl⟩, ⟨_, rfl, .keep rfl⟩, ⟨_, rfl, .keep rfl⟩, trivial⟩ ⟨⟨_, rfl, objRow (List.map (eI .i64) ([] : List Int))⟩, trivial⟩)) ?_ ?_
  · clear h
    intro j104 x105 s101 g102 k103 hj104 hx104 h ih103
    refine awp_seq ?_
    refine awp_rs ?_
    refine ro rfl rfl (st_mv rfl) ?_
    refine ro rfl rfl (st_mv rfl) ?_
    refine ro rfl rfl (st_lenD rfl un22) ?_
    refine ro rfl rfl (st_bin (v := dB (decide (((j104 : Nat) : Int) < ((a0.length : Nat) : Int)))) rfl rfl rfl) ?_
    refine rw_nilk ?_
    refine awp_ifT rfl (dlt hj104) ?_
    refine awp_skip ?_
    refine nx_then ?_
    refine awp_seq ?_
    refine awp_block ?_
    refine awp_rw ?_
    refine ro rfl rfl (st_mv rfl) ?_
    refine ro rfl rfl (st_mv rfl) ?_
    refine ro rfl rfl (st_mv rfl) ?_
    refine ro rfl rfl (st_ixDn sl22 rfl rfl hx104) ?_
    refine ro rfl rfl (st_faD fo65_1 rfl) ?_
    refine ro rfl rfl (st_ldD (v := dL 1 (eI .i64) x105.Vars) ta34 rfl rfl) ?_
    obtain ⟨c109, h⟩ := capN_some h
    refine rn (r := 0) (L' := [(1001, rw' (g102 + 2) 3 (eI .i64) (s101 ++ x105.Vars))]) rfl rfl (st_appR (f := (eI .i64)) (xs := s101) (ys := x105.Vars) sl34 zc3 rfl rfl rfl rfl rfl news_dat c109) rfl ?_
    refine ro rfl rfl (st_as rfl) ?_
    refine rw_nil ?_
    refine nx_block ?_
    refine nx_then ?_
    refine awp_rw ?_
    refine ro rfl rfl (st_mv rfl) ?_
    refine ro rfl rfl (st_inc rfl rfl hj104 hl104) ?_
    refine ro rfl rfl (st_as rfl) ?_
    refine rw_nil ?_
    refine nx_then ?_
    refine awp_gh ?_ (ih103 (s101 ++ x105.Vars) (g102 + 2) h)
    exact (gh_frz rfl rfl ⟨⟨_, rfl, .keep rfl⟩, ⟨_, rfl, .keep rfl⟩, ⟨_, rfl, .keep rfl⟩, trivial⟩ ⟨⟨_, rfl, objRow _⟩, trivial⟩)
  · clear h
    intro s101 g102 h
    refine awp_seq ?_
    refine awp_rs ?_
    refine ro rfl rfl (st_mv rfl) ?_
    refine ro rfl rfl (st_mv rfl) ?_
    refine ro rfl rfl (st_lenD rfl un22) ?_
    refine ro rfl rfl (st_bin (v := dB (decide (((a0.length : Nat) : Int) < ((a0.length : Nat) : Int)))) rfl rfl rfl) ?_
    refine rw_nilk ?_
    refine awp_ifF rfl dge ?_
    refine awp_exit ?_
    refine ex_out ?_
    refine ex_out ?_
    refine ex_in ?_
    refine nx_then ?_
    refine awp_rs ?_
    refine ro rfl rfl (st_mv rfl) ?_
    refine ro rfl rfl (st_as rfl) ?_
    refine rw_nilk ?_
    refine awp_ret ?_
    injection h with h
    subst h
    exact ret_out (v := .slice 1001 g102 0 s101.length) (resV_one (resVs_tmp rfl resVs_nil)) (frzT rfl rfl co3 rfl)

theorem ok_skolemref03_May {a0 : (List S_api_Block)} {r : Bool} (h : F_skolemref03_May a0 = some r) : Fn Try.prog 61 [dL 2 e_S_api_Block a0] (dB r) := by
  unfold F_skolemref03_May at h
  refine Fn.of_body (N := 45) (rs := [.tmp 2]) Try.func61 (c := _) rfl rfl rfl (by kernel_rfl) (Nat.le_of_ble_eq_true rfl) (fun _B => ?_)
  refine awp_rs ?_
  refine ro rfl rfl (st_as rfl) ?_
  refine rw_nilk ?_
  refine awp_seq ?_
  refine awp_rs ?_
  refine ro rfl rfl (st_as rfl) ?_
  refine rw_nilk ?_
  refine awp_block ?_
  refine awp_len (t := 0) rfl (fun hl104 => ?_)
  rw [List.length_map] at hl104
  refine awp_range (fun (j104 : Nat) (s101 : Unit) (g102 : Unit) => [(0, dL 2 e_S_api_Block a0), (3, dI .i64 ((j104 : Nat) : Int))]) (fun (s101 : Unit) (g102 : Unit) => []) () (fun _ _ _ h => h) h (gh_frz rfl rfl ⟨⟨_, rfl, .keep rfl⟩, ⟨_, rfl, .keep rfl⟩, trivial⟩ trivial) ?_ ?_
  · clear h
    intro j104 x105 s101 g102 k103 hj104 hx104 h ih103
    refine awp_seq ?_
    refine awp_rs ?_
    refine ro rfl rfl (st_mv rfl) ?_
    refine ro rfl rfl (st_mv rfl) ?_
    refine ro rfl rfl (st_lenD rfl un22) ?_
    refine ro rfl rfl (st_bin (v := dB (decide (((j104 : Nat) : Int) < ((a0.length : Nat) : Int)))) rfl rfl rfl) ?_
    refine rw_nilk ?_
    refine awp_ifT rfl (dlt hj104) ?_
    refine awp_skip ?_
    refine nx_then ?_
    refine awp_seq ?_
    refine awp_block ?_
    refine awp_jn (fun (s139 : Bool) (g140 : Unit) => [(0, dL 2 e_S_api_Block a0), (3, dI .i64 ((j104 : Nat) : Int)), (35, dB s139)]) (fun (s139 : Bool) (g140 : Unit) => []) h ?_ ?_
    · clear h
      intro s139 g140 h
      refine awp_ite (b := s139) rfl (fun p142 => ?_) (fun p142 => ?_)
      · replace h := ite_T p142 h
        refine awp_rs ?_
        refine ro rfl rfl (st_as rfl) ?_
        refine rw_nilk ?_
        refine awp_ret ?_
        refine rt_block ?_
        refine rt_then ?_
        refine rt_then ?_
        refine rt_block ?_
        refine rt_then ?_
        injection h with h
        subst h
        exact ret_out (v := dB false) (resV_one (resVs_tmp rfl resVs_nil)) (.keep rfl)
      · replace h := ite_F p142 h
        refine awp_skip ?_
        refine nx_block ?_
        refine nx_then ?_
        refine awp_rw ?_
        refine ro rfl rfl (st_mv rfl) ?_
        refine ro rfl rfl (st_inc rfl rfl hj104 hl104) ?_
        refine ro rfl rfl (st_as rfl) ?_
        refine rw_nil ?_
        refine nx_then ?_
        refine awp_gh ?_ (ih103 () () h)
        exact (gh_frz rfl rfl ⟨⟨_, rfl, .keep rfl⟩, ⟨_, rfl, .keep rfl⟩, trivial⟩ trivial)
    · clear h
      intro k141 h J141
      refine awp_rd hmix ?_
      refine do_ rfl rfl (st_mv rfl) rfl rfl rfl ?_
      refine do_ rfl rfl (st_mv rfl) rfl rfl rfl ?_
      refine do_ rfl rfl (st_ixDn sl22 rfl rfl hx104) rfl rfl rfl ?_
      refine do_ rfl rfl (st_faD fo65_1 rfl) rfl rfl rfl ?_
      refine do_ rfl rfl (st_ldD (v := dL 1 (eI .i64) x105.Vars) ta34 rfl rfl) rfl rfl rfl ?_
      refine do_ rfl rfl (st_lenD rfl un34) rfl rfl rfl ?_
      refine do_ rfl rfl (st_bin (v := dB (((x105.Vars.length : Nat) : Int) == (0 : Int))) rfl rfl rfl) rfl rfl rfl ?_
      refine do_ rfl rfl (st_mv rfl) rfl rfl rfl ?_
      refine bool_split (((x105.Vars.length : Nat) : Int) == (0 : Int)) (fun p143 => ?_) (fun p143 => ?_)
      · replace h := ite_T p143 h
        rw [p143]
        refine dz rfl rfl ?_
        refine dz rfl rfl ?_
        refine dz rfl rfl ?_
        refine dz rfl rfl ?_
        refine dz rfl rfl ?_
        refine dz rfl rfl ?_
        refine dz rfl rfl ?_
        refine dz rfl rfl ?_
        refine dz rfl rfl ?_
        refine dz rfl rfl ?_
        refine dz rfl rfl ?_
        refine dz rfl rfl ?_
        refine dz rfl rfl ?_
        refine dz rfl rfl ?_
        refine dz rfl rfl ?_
        refine dz rfl rfl ?_
        refine do_ rfl rfl (st_pickT rfl rfl) rfl rfl rfl ?_
        refine rd_nil (by kernel_rfl) ?_
        refine nx_then ?_
        exact J141 true () _ _ h (gh_frz rfl rfl ⟨⟨_, rfl, .keep rfl⟩, ⟨_, rfl, .keep rfl⟩, ⟨_, rfl, .keep rfl⟩, trivial⟩ trivial)
      · replace h := ite_F p143 h
        rw [p143]
        refine do_ rfl rfl (st_mv rfl) rfl rfl rfl ?_
        refine do_ rfl rfl (st_bin (v := dB (decide (((j104 : Nat) : Int) > (0 : Int)))) rfl rfl rfl) rfl rfl rfl ?_
        refine do_ rfl rfl (st_mv rfl) rfl rfl rfl ?_
        refine bool_split (decide (((j104 : Nat) : Int) > (0 : Int))) (fun p144 => ?_) (fun p144 => ?_)
        · replace h := ite_T p144 h
          rw [p144]
          refine do_ rfl rfl (st_mv rfl) rfl rfl rfl ?_
          refine do_ rfl rfl (st_mv rfl) rfl rfl rfl ?_
          refine do_ rfl rfl (st_bin (v := dI .i64 (IntKind.wrap .i64 (((j104 : Nat) : Int) - (1 : Int)))) rfl rfl rfl) rfl rfl rfl ?_
          obtain ⟨x145, h0145, hx145, h⟩ := getI_some h
          refine do_ rfl rfl (st_ixD sl22 rfl rfl h0145 hx145) rfl rfl rfl ?_
          refine do_ rfl rfl (st_faD fo65_0 rfl) rfl rfl rfl ?_
          refine do_ rfl rfl (st_ldD (v := dB x145.Exists) ta4 rfl rfl) rfl rfl rfl ?_
          refine do_ rfl rfl (st_mv rfl) rfl rfl rfl ?_
          refine do_ rfl rfl (st_mv rfl) rfl rfl rfl ?_
          refine do_ rfl rfl (st_ixDn sl22 rfl rfl hx104) rfl rfl rfl ?_
          refine do_ rfl rfl (st_faD fo65_0 rfl) rfl rfl rfl ?_
          refine do_ rfl rfl (st_ldD (v := dB x105.Exists) ta4 rfl rfl) rfl rfl rfl ?_
          refine do_ rfl rfl (st_binB (v := dB (x145.Exists == x105.Exists)) rfl rfl un4 rfl) rfl rfl rfl ?_
          refine do_ rfl rfl (st_pickT rfl rfl) rfl rfl rfl ?_
          refine do_ rfl rfl (st_pickF rfl rfl) rfl rfl rfl ?_
          refine rd_nil (by kernel_rfl) ?_
          refine nx_then ?_
          exact J141 (x145.Exists == x105.Exists) () _ _ h (gh_frz rfl rfl ⟨⟨_, rfl, .keep rfl⟩, ⟨_, rfl, .keep rfl⟩, ⟨_, rfl, .keep rfl⟩, trivial⟩ trivial)
        · replace h := ite_F p144 h
          rw [p144]
          refine dz rfl rfl ?_
          refine dz rfl rfl ?_
          refine dz rfl rfl ?_
          refine dz rfl rfl ?_
          refine dz rfl rfl ?_
          refine dz rfl rfl ?_
          refine dz rfl rfl ?_
          refine dz rfl rfl ?_
          refine dz rfl rfl ?_
          refine dz rfl rfl ?_
          refine dz rfl rfl ?_
          refine dz rfl rfl ?_
          refine do_ rfl rfl (st_pickF rfl rfl) rfl rfl rfl ?_
          refine do_ rfl rfl (st_pickF rfl rfl) rfl rfl rfl ?_
          refine rd_nil (by kernel_rfl) ?_
          refine nx_then ?_
          exact J141 false () _ _ h (gh_frz rfl rfl ⟨⟨_, rfl, .keep rfl⟩, ⟨_, rfl, .keep rfl⟩, ⟨_, rfl, .keep rfl⟩, trivial⟩ trivial)
  · clear h
    intro s101 g102 h
    refine awp_seq ?_
    refine awp_rs ?_
    refine ro rfl rfl (st_mv rfl) ?_
    refine ro rfl rfl (st_mv rfl) ?_
    refine ro rfl rfl (st_lenD rfl un22) ?_
    refine ro rfl rfl (st_bin (v := dB (decide (((a0.length : Nat) : Int) < ((a0.length : Nat) : Int)))) rfl rfl rfl) ?_
    refine rw_nilk ?_
    refine awp_ifF rfl dge ?_
    refine awp_exit ?_
    refine ex_out ?_
    refine ex_out ?_
    refine ex_in ?_
    refine nx_then ?_
    refine awp_rs ?_
    refine ro rfl rfl (st_mv rfl) ?_
    obtain ⟨y146, hy146, h⟩ := bind_some_elim h
    refine rf rfl rfl (ok_skolemref03_Flat hy146) rfl rfl ?_
    refine ro rfl rfl (st_as rfl) ?_
    refine rw_nilk ?_
    refine awp_rs ?_
    refine ro rfl rfl (st_mv rfl) ?_
    refine ro rfl rfl (st_lenD rfl un34) ?_
    refine ro rfl rfl (st_bin (v := dB (decide (((y146.length : Nat) : Int) ≤ (1024 : Int)))) rfl rfl rfl) ?_
    refine ro rfl rfl (st_mv rfl) ?_
    refine bool_split (decide (((y146.length : Nat) : Int) ≤ (1024 : Int))) (fun p149 => ?_) (fun p149 => ?_)
    · replace h := ite_T p149 h
      rw [p149]
      refine ro rfl rfl (st_mv rfl) ?_
      obtain ⟨y150, hy150, h⟩ := bind_some_elim h
      refine rf rfl rfl (ok_skolemref03_single hy150) rfl rfl ?_
      refine ro rfl rfl (st_pickT rfl rfl) ?_
      refine ro rfl rfl (st_as rfl) ?_
      refine rw_nilk ?_
      refine awp_ret ?_
      injection h with h
      subst h
      exact ret_out (v := dB y150) (resV_one (resVs_tmp rfl resVs_nil)) (.keep rfl)
    · replace h := ite_F p149 h
      rw [p149]
      refine rz rfl rfl ?_
      refine rz rfl rfl ?_
      refine ro rfl rfl (st_pickF rfl rfl) ?_
      refine ro rfl rfl (st_as rfl) ?_
      refine rw_nilk ?_
      refine awp_ret ?_
      injection h with h
      subst h
      exact ret_out (v := dB false) (resV_one (resVs_tmp rfl resVs_nil)) (.keep rfl)

theorem ok_skolemref03_MayQbf {a0 : S_api_Qbf} {r : Bool} (h : F_skolemref03_MayQbf a0 = some r) : Fn Try.prog 24 [.agg [dL 2 e_S_api_Block a0.Prefix, dL 1 (eL 1 (eI .i64)) a0.Clauses]] (dB r) := by
  unfold F_skolemref03_MayQbf at h
  refine Fn.of_body (N := 19) (rs := [.tmp 2]) Try.func24 (c := _) rfl rfl rfl (by kernel_rfl) (Nat.le_of_ble_eq_true rfl) (fun _B => ?_)
  refine awp_rs ?_
  refine rn (r := 1001) rfl rfl (st_box rfl rfl rfl co25 rfl rfl) rfl ?_
  refine ro rfl rfl (st_as rfl) ?_
  refine rw_nilk ?_
  refine awp_rds hmix ?_
  refine do_ rfl rfl (st_faP fo25_0 rfl) rfl rfl rfl ?_
  refine do_ rfl rfl (st_ldP (v := dL 2 e_S_api_Block a0.Prefix) ta22 rfl rfl rfl rfl) rfl rfl rfl ?_
  obtain ⟨y107, hy107, h⟩ := bind_some_elim h
  refine df rfl rfl (ok_skolemref03_May hy107) rfl rfl ?_
  refine do_ rfl rfl (st_mv rfl) rfl rfl rfl ?_
  refine bool_split y107 (fun p108 => ?_) (fun p108 => ?_)
  · replace h := ite_T p108 h
    rw [p108]
    refine do_ rfl rfl (st_faP fo25_1 rfl) rfl rfl rfl ?_
    refine do_ rfl rfl (st_ldP (v := dL 1 (eL 1 (eI .i64)) a0.Clauses) ta23 rfl rfl rfl rfl) rfl rfl rfl ?_
    obtain ⟨y109, hy109, h⟩ := bind_some_elim h
    refine df rfl rfl (ok_skolemref03_Cnf hy109) rfl rfl ?_
    refine do_ rfl rfl (st_pickT rfl rfl) rfl rfl rfl ?_
    refine do_ rfl rfl (st_mv rfl) rfl rfl rfl ?_
    refine bool_split y109 (fun p110 => ?_) (fun p110 => ?_)
    · replace h := ite_T p110 h
      rw [p110]
      refine do_ rfl rfl (st_faP fo25_1 rfl) rfl rfl rfl ?_
      refine do_ rfl rfl (st_ldP (v := dL 1 (eL 1 (eI .i64)) a0.Clauses) ta23 rfl rfl rfl rfl) rfl rfl rfl ?_
      refine do_ rfl rfl (st_faP fo25_0 rfl) rfl rfl rfl ?_
      refine do_ rfl rfl (st_ldP (v := dL 2 e_S_api_Block a0.Prefix) ta22 rfl rfl rfl rfl) rfl rfl rfl ?_
      obtain ⟨y111, hy111, h⟩ := bind_some_elim h
      refine df rfl rfl (ok_skolemref03_Flat hy111) rfl rfl ?_
      obtain ⟨y112, hy112, h⟩ := bind_some_elim h
      refine df rfl rfl (ok_skolemref03_within hy112) rfl rfl ?_
      refine do_ rfl rfl (st_pickT rfl rfl) rfl rfl rfl ?_
      refine do_ rfl rfl (st_as rfl) rfl rfl rfl ?_
      refine rd_nil (by kernel_rfl) ?_
      refine awp_ret ?_
      injection h with h
      subst h
      exact ret_out (v := dB y112) (resV_one (resVs_tmp rfl resVs_nil)) (.keep rfl)
    · replace h := ite_F p110 h
      rw [p110]
      refine dz rfl rfl ?_
      refine dz rfl rfl ?_
      refine dz rfl rfl ?_
      refine dz rfl rfl ?_
      refine dz rfl rfl ?_
      refine dz rfl rfl ?_
      refine do_ rfl rfl (st_pickF rfl rfl) rfl rfl rfl ?_
      refine do_ rfl rfl (st_as rfl) rfl rfl rfl ?_
      refine rd_nil (by kernel_rfl) ?_
      refine awp_ret ?_
      injection h with h
      subst h
      exact ret_out (v := dB false) (resV_one (resVs_tmp rfl resVs_nil)) (.keep rfl)
  · replace h := ite_F p108 h
    rw [p108]
    refine dz rfl rfl ?_
    refine dz rfl rfl ?_
    refine dz rfl rfl ?_
    refine do_ rfl rfl (st_pickF rfl rfl) rfl rfl rfl ?_
    refine do_ rfl rfl (st_mv rfl) rfl rfl rfl ?_
    refine dz rfl rfl ?_
    refine dz rfl rfl ?_
    refine dz rfl rfl ?_
    refine dz rfl rfl ?_
    refine dz rfl rfl ?_
    refine dz rfl rfl ?_
    refine do_ rfl rfl (st_pickF rfl rfl) rfl rfl rfl ?_
    refine do_ rfl rfl (st_as rfl) rfl rfl rfl ?_
    refine rd_nil (by kernel_rfl) ?_
    refine awp_ret ?_
    injection h with h
    subst h
    exact ret_out (v := dB false) (resV_one (resVs_tmp rfl resVs_nil)) (.keep rfl)

theorem ok_skolemref04_order {a0 : (List S_api_Block)} {r : ((List Int) × (List Bool))} (h : F_skolemref04_order a0 = some r) : Fn Try.prog 34 [dL 2 e_S_api_Block a0] (.tup [dL 1 (eI .i64) r.1, dL 1 eB r.2]) := by
  unfold F_skolemref04_order at h
  refine Fn.of_body (N := 45) (rs := [.tmp 2, .tmp 3]) Try.func34 (c := _) rfl rfl rfl (by kernel_rfl) (Nat.le_of_ble_eq_true rfl) (fun _B => ?_)
  refine awp_rs ?_
  refine ro rfl rfl (st_as rfl) ?_
  refine ro rfl rfl (st_as rfl) ?_
  refine rw_nilk ?_
  refine awp_rs ?_
  refine ro rfl rfl (st_as rfl) ?_
  refine rw_nilk ?_
  refine awp_rs ?_
  refine ro rfl rfl (st_as rfl) ?_
  refine rw_nilk ?_
  refine awp_seq ?_
  refine awp_rs ?_
  refine ro rfl rfl (st_as rfl) ?_
  refine rw_nilk ?_
  refine awp_block ?_
  refine awp_len (t := 0) rfl (fun hl104 => ?_)
  rw [List.length_map] at hl104
  refine awp_range (fun (j104 : Nat) (s101 : ((List Int) × (List Bool))) (g102 : (Nat × Nat)) => [(0, dL 2 e_S_api_Block a0), (4, .slice 1002 g102.1 0 s101.1.length), (5, .slice 1004 g102.2 0 s101.2.length), (6, dI .i64 ((j104 : Nat) : Int))]) (fun (s101 : ((List Int) × (List Bool))) (g102 : (Nat × Nat)) => [(1002, rw' g102.1 3 (eI .i64) s101.1), (1004, rw' g102.2 4 eB s101.2)]) (0, 0) (fun _ _ _ h => h) h (Gh.trans (gh_nil (r := 1002) (E' := [(0, dL 2 e_S_api_Block a0), (4, .slice 1002 0 0 (([] : List Int).length)), (5, .nilS), (6, dI .i64 (0 : Int))]) (L' := []) rfl co3 rfl rfl ⟨⟨_, rfl, .keep _⟩, ⟨_, rfl, .nil⟩, ⟨_, rfl, .keep _⟩, ⟨_, rfl, .keep _⟩, trivial⟩ trivial) (Gh.trans (gh_nil (r := 1004) (E' := [(0, dL 2 e_S_api_Block a0), (4, .slice 1002 0 0 (([] : List Int).length)), (5, .slice 1004 0 0 (([] : List Bool).length)), (6, dI .i64 (0 : Int))]) (L' := [(1002, rw' 0 3 (eI .i64) ([] : List Int))]) rfl co4 rfl rfl ⟨⟨_, rfl, .keep _⟩, ⟨_, rfl, .keep _⟩, ⟨_, rfl, .nil⟩, ⟨_, rfl, .keep _⟩, trivial⟩ ⟨⟨_, rfl, .keep _⟩, trivial⟩) (gh_frz rfl rfl ⟨⟨_, rfl, .keep rfl⟩, ⟨_, rfl, .keep rfl⟩, ⟨_, rfl, .keep rfl⟩, ⟨_, rfl, .keep rfl⟩, trivial⟩ ⟨⟨_, rfl, objRow (List.map (eI .i64) ([] : List Int))⟩, ⟨_, rfl, objRow (List.map eB ([] : List Bool))⟩, trivial⟩))) ?_ ?_
  · clear h
    intro j104 x105 s101 g102 k103 hj104 hx104 h ih103
    refine awp_seq ?_
    refine awp_rs ?_
    refine ro rfl rfl (st_mv rfl) ?_
    refine ro rfl rfl (st_mv rfl) ?_
    refine ro rfl rfl (st_lenD rfl un22) ?_
    refine ro rfl rfl (st_bin (v := dB (decide (((j104 : Nat) : Int) < ((a0.length : Nat) : Int)))) rfl rfl rfl) ?_
    refine rw_nilk ?_
    refine awp_ifT rfl (dlt hj104) ?_
    refine awp_skip ?_
    refine nx_then ?_
    refine awp_seq ?_
    refine awp_block ?_
    refine awp_rs ?_
    refine ro rfl rfl (st_as rfl) ?_
    refine rw_nilk ?_
    refine awp_block ?_
    refine awp_while (fun (s168 : (Int × (List Int) × (List Bool))) (g169 : (Nat × Nat)) => [(0, dL 2 e_S_api_Block a0), (4, .slice 1002 g169.1 0 s168.2.1.length), (5, .slice 1004 g169.2 0 s168.2.2.length), (6, dI .i64 ((j104 : Nat) : Int)), (7, dI .i64 s168.1)]) (fun (s168 : (Int × (List Int) × (List Bool))) (g169 : (Nat × Nat)) => [(1002, rw' g169.1 3 (eI .i64) s168.2.1), (1004, rw' g169.2 4 eB s168.2.2)]) (g102.1, g102.2) (fun _ _ _ h => h) h (gh_frz rfl rfl ⟨⟨_, rfl, .keep rfl⟩, ⟨_, rfl, .keep rfl⟩, ⟨_, rfl, .keep rfl⟩, ⟨_, rfl, .keep rfl⟩, ⟨_, rfl, .keep rfl⟩, trivial⟩ ⟨⟨_, rfl, objRow _⟩, ⟨_, rfl, objRow _⟩, trivial⟩) ?_
    clear h
    intro s168 g169 k170 h ih170
    refine awp_seq ?_
    refine awp_rs ?_
    refine ro rfl rfl (st_mv rfl) ?_
    refine ro rfl rfl (st_mv rfl) ?_
    refine ro rfl rfl (st_mv rfl) ?_
    refine ro rfl rfl (st_ixDn sl22 rfl rfl hx104) ?_
    refine ro rfl rfl (st_faD fo65_1 rfl) ?_
    refine ro rfl rfl (st_ldD (v := dL 1 (eI .i64) x105.Vars) ta34 rfl rfl) ?_
    refine ro rfl rfl (st_lenD rfl un34) ?_
    refine ro rfl rfl (st_bin (v := dB (decide (s168.1 < ((x105.Vars.length : Nat) : Int)))) rfl rfl rfl) ?_
    refine rw_nilk ?_
    refine awp_ite (b := (decide (s168.1 < ((x105.Vars.length : Nat) : Int)))) rfl (fun p183 => ?_) (fun p183 => ?_)
    · replace h := ite_T p183 h
      refine awp_skip ?_
      refine nx_then ?_
      refine awp_seq ?_
      refine awp_block ?_
      refine awp_rs ?_
      refine ro rfl rfl (st_mv rfl) ?_
      refine ro rfl rfl (st_mv rfl) ?_
      refine ro rfl rfl (st_mv rfl) ?_
      refine ro rfl rfl (st_ixDn sl22 rfl rfl hx104) ?_
      refine ro rfl rfl (st_faD fo65_1 rfl) ?_
      refine ro rfl rfl (st_ldD (v := dL 1 (eI .i64) x105.Vars) ta34 rfl rfl) ?_
      refine ro rfl rfl (st_mv rfl) ?_
      obtain ⟨x184, h0184, hx184, h⟩ := getI_some h
      refine ro rfl rfl (st_ixD sl34 rfl rfl h0184 hx184) ?_
      refine ro rfl rfl (st_ldD (v := dI .i64 x184) ta3 rfl rfl) ?_
      refine rn (r := 1005) rfl rfl (st_bsl (els := [[dI .i64 x184]]) sl34 zc3 rfl rfl rfl rfl rfl) rfl ?_
      obtain ⟨c185, h⟩ := capN_some h
      refine rn (r := 0) (L' := [(1002, rw' (g169.1 + 2) 3 (eI .i64) (s168.2.1 ++ [x184])), (1004, rw' g169.2 4 eB s168.2.2), (1005, .row 1 3 [[dI .i64 x184]])]) rfl rfl (st_appR (f := (eI .i64)) (xs := s168.2.1) (ys := [x184]) sl34 zc3 rfl rfl rfl rfl rfl (news_one (a := x184) rfl rfl) c185) rfl ?_
      refine ro rfl rfl (st_as rfl) ?_
      refine rw_nilk ?_
      refine awp_rw ?_
      refine ro rfl rfl (st_mv rfl) ?_
      refine ro rfl rfl (st_mv rfl) ?_
      refine ro rfl rfl (st_mv rfl) ?_
      refine ro rfl rfl (st_ixDn sl22 rfl rfl hx104) ?_
      refine ro rfl rfl (st_faD fo65_0 rfl) ?_
      refine ro rfl rfl (st_ldD (v := dB x105.Exists) ta4 rfl rfl) ?_
      refine rn (r := 1006) rfl rfl (st_bsl (els := [[dB x105.Exists]]) sl54 zc4 rfl rfl rfl rfl rfl) rfl ?_
      obtain ⟨c186, h⟩ := capN_some h
      refine rn (r := 0) (L' := [(1002, rw' (g169.1 + 2) 3 (eI .i64) (s168.2.1 ++ [x184])), (1004, rw' (g169.2 + 2) 4 eB (s168.2.2 ++ [x105.Exists])), (1005, .row 1 3 [[dI .i64 x184]]), (1006, .row 1 4 [[dB x105.Exists]])]) rfl rfl (st_appR (f := eB) (xs := s168.2.2) (ys := [x105.Exists]) sl54 zc4 rfl rfl rfl rfl rfl (news_one (a := x105.Exists) rfl rfl) c186) rfl ?_
      refine ro rfl rfl (st_as rfl) ?_
      refine rw_nil ?_
      refine nx_block ?_
      refine nx_then ?_
      refine awp_rw ?_
      refine ro rfl rfl (st_mv rfl) ?_
      refine ro rfl rfl (st_bin (v := dI .i64 (IntKind.wrap .i64 (s168.1 + (1 : Int)))) rfl rfl rfl) ?_
      refine ro rfl rfl (st_as rfl) ?_
      refine rw_nil ?_
      refine nx_then ?_
      refine awp_gh ?_ (ih170 ((IntKind.wrap .i64 (s168.1 + (1 : Int))), (s168.2.1 ++ [x184]), (s168.2.2 ++ [x105.Exists])) ((g169.1 + 2), (g169.2 + 2)) h)
      exact (gh_frz rfl rfl ⟨⟨_, rfl, .keep rfl⟩, ⟨_, rfl, .keep rfl⟩, ⟨_, rfl, .keep rfl⟩, ⟨_, rfl, .keep rfl⟩, ⟨_, rfl, .keep rfl⟩, trivial⟩ ⟨⟨_, rfl, objRow _⟩, ⟨_, rfl, objRow _⟩, trivial⟩)
    · replace h := ite_F p183 h
      refine awp_exit ?_
      refine ex_out ?_
      refine ex_out ?_
      refine ex_in ?_
      refine nx_block ?_
      refine nx_then ?_
      refine awp_rw ?_
      refine ro rfl rfl (st_mv rfl) ?_
      refine ro rfl rfl (st_inc rfl rfl hj104 hl104) ?_
      refine ro rfl rfl (st_as rfl) ?_
      refine rw_nil ?_
      refine nx_then ?_
      refine awp_gh ?_ (ih103 (s168.2.1, s168.2.2) (g169.1, g169.2) h)
      exact (gh_frz rfl rfl ⟨⟨_, rfl, .keep rfl⟩, ⟨_, rfl, .keep rfl⟩, ⟨_, rfl, .keep rfl⟩, ⟨_, rfl, .keep rfl⟩, trivial⟩ ⟨⟨_, rfl, objRow _⟩, ⟨_, rfl, objRow _⟩, trivial⟩)
  · clear h
    intro s101 g102 h
    refine awp_seq ?_
    refine awp_rs ?_
    refine ro rfl rfl (st_mv rfl) ?_
    refine ro rfl rfl (st_mv rfl) ?_
    refine ro rfl rfl (st_lenD rfl un22) ?_
    refine ro rfl rfl (st_bin (v := dB (decide (((a0.length : Nat) : Int) < ((a0.length : Nat) : Int)))) rfl rfl rfl) ?_
    refine rw_nilk ?_
    refine awp_ifF rfl dge ?_
    refine awp_exit ?_
    refine ex_out ?_
    refine ex_out ?_
    refine ex_in ?_
    refine nx_then ?_
    refine awp_rs ?_
    refine ro rfl rfl (st_mv rfl) ?_
    refine ro rfl rfl (st_mv rfl) ?_
    refine ro rfl rfl (st_as rfl) ?_
    refine ro rfl rfl (st_as rfl) ?_
    refine rw_nilk ?_
    refine awp_ret ?_
    injection h with h
    subst h
    exact ret_out (v := .tup [.slice 1002 g102.1 0 s101.1.length, .slice 1004 g102.2 0 s101.2.length]) (resV_many (resVs_tmp rfl (resVs_tmp rfl resVs_nil))) (frz_tup ⟨(frzT rfl rfl co3 rfl), (frzT rfl rfl co4 rfl), trivial⟩)

theorem ok_skolemref04_Satisfied {a0 : (List (List Int))} {a1 : (List Int)} {r : Bool} (h : F_skolemref04_Satisfied a0 a1 = some r) : Fn Try.prog 69 [dL 1 (eL 1 (eI .i64)) a0, dL 1 (eI .i64) a1] (dB r) := by
  unfold F_skolemref04_Satisfied at h
  refine Fn.of_body (N := 37) (rs := [.tmp 4]) Try.func69 (c := _) rfl rfl rfl (by kernel_rfl) (Nat.le_of_ble_eq_true rfl) (fun _B => ?_)
  refine awp_rs ?_
  refine ro rfl rfl (st_as rfl) ?_
  refine rw_nilk ?_
  refine awp_seq ?_
  refine awp_rs ?_
  refine ro rfl rfl (st_as rfl) ?_
  refine rw_nilk ?_
  refine awp_block ?_
  refine awp_len (t := 0) rfl (fun hl104 => ?_)
  rw [List.length_map] at hl104
  refine awp_range (fun (j104 : Nat) (s101 : Unit) (g102 : Unit) => [(0, dL 1 (eL 1 (eI .i64)) a0), (1, dL 1 (eI .i64) a1), (5, dI .i64 ((j104 : Nat) : Int))]) (fun (s101 : Unit) (g102 : Unit) => []) () (fun _ _ _ h => h) h (gh_frz rfl rfl ⟨⟨_, rfl, .keep rfl⟩, ⟨_, rfl, .keep rfl⟩, ⟨_, rfl, .keep rfl⟩, trivial⟩ trivial) ?_ ?_
  · clear h
    intro j104 x105 s101 g102 k103 hj104 hx104 h ih103
    refine awp_seq ?_
    refine awp_rs ?_
    refine ro rfl rfl (st_mv rfl) ?_
    refine ro rfl rfl (st_mv rfl) ?_
    refine ro rfl rfl (st_lenD rfl un23) ?_
    refine ro rfl rfl (st_bin (v := dB (decide (((j104 : Nat) : Int) < ((a0.length : Nat) : Int)))) rfl rfl rfl) ?_
    refine rw_nilk ?_
    refine awp_ifT rfl (dlt hj104) ?_
    refine awp_skip ?_
    refine nx_then ?_
    refine awp_seq ?_
    refine awp_block ?_
    refine awp_rs ?_
    refine ro rfl rfl (st_as rfl) ?_
    refine rw_nilk ?_
    refine awp_seq ?_
    refine awp_rs ?_
    refine ro rfl rfl (st_as rfl) ?_
    refine rw_nilk ?_
    refine awp_block ?_
    refine awp_while (fun (s140 : (Bool × Int)) (g141 : Unit) => [(0, dL 1 (eL 1 (eI .i64)) a0), (1, dL 1 (eI .i64) a1), (5, dI .i64 ((j104 : Nat) : Int)), (6, dB s140.1), (7, dI .i64 s140.2)]) (fun (s140 : (Bool × Int)) (g141 : Unit) => []) () (fun _ _ _ h => h) h (gh_frz rfl rfl ⟨⟨_, rfl, .keep rfl⟩, ⟨_, rfl, .keep rfl⟩, ⟨_, rfl, .keep rfl⟩, ⟨_, rfl, .keep rfl⟩, ⟨_, rfl, .keep rfl⟩, trivial⟩ trivial) ?_
    clear h
    intro s140 g141 k142 h ih142
    refine awp_seq ?_
    refine awp_rs ?_
    refine ro rfl rfl (st_mv rfl) ?_
    refine ro rfl rfl (st_mv rfl) ?_
    refine ro rfl rfl (st_mv rfl) ?_
    refine ro rfl rfl (st_ixDn sl23 rfl rfl hx104) ?_
    refine ro rfl rfl (st_ldD (v := dL 1 (eI .i64) x105) ta34 rfl rfl) ?_
    refine ro rfl rfl (st_lenD rfl un34) ?_
    refine ro rfl rfl (st_bin (v := dB (decide (s140.2 < ((x105.length : Nat) : Int)))) rfl rfl rfl) ?_
    refine rw_nilk ?_
    refine awp_ite (b := (decide (s140.2 < ((x105.length : Nat) : Int)))) rfl (fun p163 => ?_) (fun p163 => ?_)
    · replace h := ite_T p163 h
      refine awp_skip ?_
      refine nx_then ?_
      refine awp_jn (fun (s167 : Bool) (g168 : Unit) => [(0, dL 1 (eL 1 (eI .i64)) a0), (1, dL 1 (eI .i64) a1), (5, dI .i64 ((j104 : Nat) : Int)), (6, dB s167), (7, dI .i64 s140.2)]) (fun (s167 : Bool) (g168 : Unit) => []) h ?_ ?_
      · clear h
        intro s167 g168 h
        refine awp_rw ?_
        refine ro rfl rfl (st_mv rfl) ?_
        refine ro rfl rfl (st_bin (v := dI .i64 (IntKind.wrap .i64 (s140.2 + (1 : Int)))) rfl rfl rfl) ?_
        refine ro rfl rfl (st_as rfl) ?_
        refine rw_nil ?_
        refine nx_then ?_
        refine awp_gh ?_ (ih142 (s167, (IntKind.wrap .i64 (s140.2 + (1 : Int)))) () h)
        exact (gh_frz rfl rfl ⟨⟨_, rfl, .keep rfl⟩, ⟨_, rfl, .keep rfl⟩, ⟨_, rfl, .keep rfl⟩, ⟨_, rfl, .keep rfl⟩, ⟨_, rfl, .keep rfl⟩, trivial⟩ trivial)
      · clear h
        intro k169 h J169
        refine awp_block ?_
        refine awp_rw ?_
        refine ro rfl rfl (st_mv rfl) ?_
        refine ro rfl rfl (st_mv rfl) ?_
        refine bool_split s140.1 (fun p170 => ?_) (fun p170 => ?_)
        · replace h := ite_T p170 h
          rw [p170]
          refine rz rfl rfl ?_
          refine rz rfl rfl ?_
          refine rz rfl rfl ?_
          refine rz rfl rfl ?_
          refine rz rfl rfl ?_
          refine rz rfl rfl ?_
          refine rz rfl rfl ?_
          refine rz rfl rfl ?_
          refine rz rfl rfl ?_
          refine ro rfl rfl (st_pickT rfl rfl) ?_
          refine ro rfl rfl (st_as rfl) ?_
          refine rw_nil ?_
          refine nx_block ?_
          refine nx_then ?_
          exact J169 true () _ _ h (gh_frz rfl rfl ⟨⟨_, rfl, .keep rfl⟩, ⟨_, rfl, .keep rfl⟩, ⟨_, rfl, .keep rfl⟩, ⟨_, rfl, .keep rfl⟩, ⟨_, rfl, .keep rfl⟩, trivial⟩ trivial)
        · replace h := ite_F p170 h
          rw [p170]
          refine ro rfl rfl (st_mv rfl) ?_
          refine ro rfl rfl (st_mv rfl) ?_
          refine ro rfl rfl (st_mv rfl) ?_
          refine ro rfl rfl (st_ixDn sl23 rfl rfl hx104) ?_
          refine ro rfl rfl (st_ldD (v := dL 1 (eI .i64) x105) ta34 rfl rfl) ?_
          refine ro rfl rfl (st_mv rfl) ?_
          obtain ⟨x171, h0171, hx171, h⟩ := getI_some h
          refine ro rfl rfl (st_ixD sl34 rfl rfl h0171 hx171) ?_
          refine ro rfl rfl (st_ldD (v := dI .i64 x171) ta3 rfl rfl) ?_
          obtain ⟨y172, hy172, h⟩ := bind_some_elim h
          refine rf rfl rfl (ok_skolemref03_Has hy172) rfl rfl ?_
          refine ro rfl rfl (st_pickF rfl rfl) ?_
          refine ro rfl rfl (st_as rfl) ?_
          refine rw_nil ?_
          refine nx_block ?_
          refine nx_then ?_
          exact J169 y172 () _ _ h (gh_frz rfl rfl ⟨⟨_, rfl, .keep rfl⟩, ⟨_, rfl, .keep rfl⟩, ⟨_, rfl, .keep rfl⟩, ⟨_, rfl, .keep rfl⟩, ⟨_, rfl, .keep rfl⟩, trivial⟩ trivial)
    · replace h := ite_F p163 h
      refine awp_exit ?_
      refine ex_out ?_
      refine ex_out ?_
      refine ex_in ?_
      refine nx_then ?_
      refine awp_rs ?_
      refine ro rfl rfl (st_mv rfl) ?_
      refine ro rfl rfl (st_un (v := dB (!s140.1)) rfl rfl) ?_
      refine rw_nilk ?_
      refine awp_ite (b := (!s140.1)) rfl (fun p173 => ?_) (fun p173 => ?_)
      · replace h := ite_T p173 h
        refine awp_rs ?_
        refine ro rfl rfl (st_as rfl) ?_
        refine rw_nilk ?_
        refine awp_ret ?_
        refine rt_block ?_
        refine rt_then ?_
        refine rt_then ?_
        refine rt_block ?_
        refine rt_then ?_
        injection h with h
        subst h
        exact ret_out (v := dB false) (resV_one (resVs_tmp rfl resVs_nil)) (.keep rfl)
      · replace h := ite_F p173 h
        refine awp_skip ?_
        refine nx_block ?_
        refine nx_then ?_
        refine awp_rw ?_
        refine ro rfl rfl (st_mv rfl) ?_
        refine ro rfl rfl (st_inc rfl rfl hj104 hl104) ?_
        refine ro rfl rfl (st_as rfl) ?_
        refine rw_nil ?_
        refine nx_then ?_
        refine awp_gh ?_ (ih103 () () h)
        exact (gh_frz rfl rfl ⟨⟨_, rfl, .keep rfl⟩, ⟨_, rfl, .keep rfl⟩, ⟨_, rfl, .keep rfl⟩, trivial⟩ trivial)
  · clear h
    intro s101 g102 h
    refine awp_seq ?_
    refine awp_rs ?_
    refine ro rfl rfl (st_mv rfl) ?_
    refine ro rfl rfl (st_mv rfl) ?_
    refine ro rfl rfl (st_lenD rfl un23) ?_
    refine ro rfl rfl (st_bin (v := dB (decide (((a0.length : Nat) : Int) < ((a0.length : Nat) : Int)))) rfl rfl rfl) ?_
    refine rw_nilk ?_
    refine awp_ifF rfl dge ?_
    refine awp_exit ?_
    refine ex_out ?_
    refine ex_out ?_
    refine ex_in ?_
    refine nx_then ?_
    refine awp_rs ?_
    refine ro rfl rfl (st_as rfl) ?_
    refine rw_nilk ?_
    refine awp_ret ?_
    injection h with h
    subst h
    exact ret_out (v := dB true) (resV_one (resVs_tmp rfl resVs_nil)) (.keep rfl)

theorem ok_skolemref04_Left : ∀ (n : Nat) {a0 : S_api_Qbf} {a1 : (List Int)} {r : Bool} (h : F_skolemref04_Left n a0 a1 = some r), Fn Try.prog 35 [.agg [dL 2 e_S_api_Block a0.Prefix, dL 1 (eL 1 (eI .i64)) a0.Clauses], dL 1 (eI .i64) a1] (dB r)
  | 0, _, _, _, h => by simp [F_skolemref04_Left] at h
  | n + 1, a0, a1, r, h => by
    have ih : ∀ {a0 : S_api_Qbf} {a1 : (List Int)} {r : Bool} (h : F_skolemref04_Left n a0 a1 = some r), Fn Try.prog 35 [.agg [dL 2 e_S_api_Block a0.Prefix, dL 1 (eL 1 (eI .i64)) a0.Clauses], dL 1 (eI .i64) a1] (dB r) := ok_skolemref04_Left n
    simp only [F_skolemref04_Left] at h
    refine Fn.of_body (N := 55) (rs := [.tmp 4]) Try.func35 (c := _) rfl rfl rfl (by kernel_rfl) (Nat.le_of_ble_eq_true rfl) (fun _B => ?_)
    refine awp_rs ?_
    refine rn (r := 1001) rfl rfl (st_box rfl rfl rfl co25 rfl rfl) rfl ?_
    refine ro rfl rfl (st_as rfl) ?_
    refine rw_nilk ?_
    refine awp_rs ?_
    refine ro rfl rfl (st_faP fo25_0 rfl) ?_
    refine ro rfl rfl (st_ldP (v := dL 2 e_S_api_Block a0.Prefix) ta22 rfl rfl rfl rfl) ?_
    obtain ⟨y101, hy101, h⟩ := bind_some_elim h
    refine rf rfl rfl (ok_skolemref04_order hy101) rfl rfl ?_
    refine ro rfl rfl (st_mv rfl) ?_
    refine ro rfl rfl (st_ext rfl rfl) ?_
    refine ro rfl rfl (st_ext rfl rfl) ?_
    refine ro rfl rfl (st_as rfl) ?_
    refine ro rfl rfl (st_as rfl) ?_
    refine rw_nilk ?_
    refine awp_rs ?_
    refine ro rfl rfl (st_mv rfl) ?_
    refine ro rfl rfl (st_lenD rfl un34) ?_
    refine ro rfl rfl (st_as rfl) ?_
    refine rw_nilk ?_
    refine awp_seq ?_
    refine awp_rs ?_
    refine ro rfl rfl (st_mv rfl) ?_
    refine ro rfl rfl (st_mv rfl) ?_
    refine ro rfl rfl (st_lenD rfl un34) ?_
    refine ro rfl rfl (st_bin (v := dB (((a1.length : Nat) : Int) == ((y101.1.length : Nat) : Int))) rfl rfl rfl) ?_
    refine rw_nilk ?_
    refine awp_ite (b := (((a1.length : Nat) : Int) == ((y101.1.length : Nat) : Int))) rfl (fun p102 => ?_) (fun p102 => ?_)
    · replace h := ite_T p102 h
      refine awp_rs ?_
      refine ro rfl rfl (st_faP fo25_1 rfl) ?_
      refine ro rfl rfl (st_ldP (v := dL 1 (eL 1 (eI .i64)) a0.Clauses) ta23 rfl rfl rfl rfl) ?_
      refine ro rfl rfl (st_mv rfl) ?_
      obtain ⟨y103, hy103, h⟩ := bind_some_elim h
      refine rf rfl rfl (ok_skolemref04_Satisfied hy103) rfl rfl ?_
      refine ro rfl rfl (st_as rfl) ?_
      refine rw_nilk ?_
      refine awp_ret ?_
      refine rt_then ?_
      injection h with h
      subst h
      exact ret_out (v := dB y103) (resV_one (resVs_tmp rfl resVs_nil)) (.keep rfl)
    · replace h := ite_F p102 h
      refine awp_skip ?_
      refine nx_then ?_
      refine awp_rds hmix ?_
      refine do_ rfl rfl (st_ldP (v := .agg [dL 2 e_S_api_Block a0.Prefix, dL 1 (eL 1 (eI .i64)) a0.Clauses]) ta25 rfl rfl rfl rfl) rfl rfl rfl ?_
      refine dn (r := 1002) rfl rfl (st_bsl (els := []) sl34 zc3 rfl rfl rfl rfl rfl) rfl rfl rfl rfl ?_
      refine do_ rfl rfl (st_mv rfl) rfl rfl rfl ?_
      obtain ⟨c104, h⟩ := capN_some h
      refine dn (r := 0) (L' := [(1001, .row 0 25 [[dL 2 e_S_api_Block a0.Prefix, dL 1 (eL 1 (eI .i64)) a0.Clauses]]), (1002, rw' 3 3 (eI .i64) (([] : List Int) ++ a1))]) rfl rfl (st_appR (f := (eI .i64)) (xs := ([] : List Int)) (ys := a1) sl34 zc3 rfl rfl rfl rfl rfl news_dat c104) rfl rfl rfl rfl ?_
      refine do_ rfl rfl (st_mv rfl) rfl rfl rfl ?_
      refine do_ rfl rfl (st_mv rfl) rfl rfl rfl ?_
      obtain ⟨x105, h0105, hx105, h⟩ := getI_some h
      refine do_ rfl rfl (st_ixD sl34 rfl rfl h0105 hx105) rfl rfl rfl ?_
      refine do_ rfl rfl (st_ldD (v := dI .i64 x105) ta3 rfl rfl) rfl rfl rfl ?_
      refine do_ rfl rfl (st_un (v := dI .i64 (IntKind.wrap .i64 (0 - x105))) rfl rfl) rfl rfl rfl ?_
      refine dn (r := 1003) rfl rfl (st_bsl (els := [[dI .i64 (IntKind.wrap .i64 (0 - x105))]]) sl34 zc3 rfl rfl rfl rfl rfl) rfl rfl rfl rfl ?_
      obtain ⟨c106, h⟩ := capN_some h
      refine dn (r := 0) (L' := [(1001, .row 0 25 [[dL 2 e_S_api_Block a0.Prefix, dL 1 (eL 1 (eI .i64)) a0.Clauses]]), (1002, rw' 5 3 (eI .i64) ((([] : List Int) ++ a1) ++ [(IntKind.wrap .i64 (0 - x105))])), (1003, .row 1 3 [[dI .i64 (IntKind.wrap .i64 (0 - x105))]])]) rfl rfl (st_appR (f := (eI .i64)) (xs := (([] : List Int) ++ a1)) (ys := [(IntKind.wrap .i64 (0 - x105))]) sl34 zc3 rfl rfl rfl rfl rfl (news_one (a := (IntKind.wrap .i64 (0 - x105))) rfl rfl) c106) rfl rfl rfl rfl ?_
      obtain ⟨y107, hy107, h⟩ := bind_some_elim h
      refine dcall (v := dB y107) (L0 := [(1002, rw' 5 3 (eI .i64) ((([] : List Int) ++ a1) ++ [(IntKind.wrap .i64 (0 - x105))]))]) (L1 := [(1002, rw' 5 3 (eI .i64) ((([] : List Int) ++ a1) ++ [(IntKind.wrap .i64 (0 - x105))]))]) (L' := [(1001, .row 0 25 [[dL 2 e_S_api_Block a0.Prefix, dL 1 (eL 1 (eI .i64)) a0.Clauses]]), (1002, rw' 5 3 (eI .i64) ((([] : List Int) ++ a1) ++ [(IntKind.wrap .i64 (0 - x105))])), (1003, .row 1 3 [[dI .i64 (IntKind.wrap .i64 (0 - x105))]])]) rfl rfl rfl rfl (EvR.toEv (evR_lend (ih hy107) ⟨.keep rfl, frzT rfl rfl co3 rfl, trivial⟩ rfl)) ⟨rfl, trivial⟩ rfl ⟨closT, trivial⟩ rfl rfl ?_
      refine do_ rfl rfl (st_as rfl) rfl rfl rfl ?_
      refine rd_nil (by kernel_rfl) ?_
      refine awp_seq ?_
      refine awp_rs ?_
      refine ro rfl rfl (st_mv rfl) ?_
      refine ro rfl rfl (st_mv rfl) ?_
      refine ro rfl rfl (st_mv rfl) ?_
      obtain ⟨x108, h0108, hx108, h⟩ := getI_some h
      refine ro rfl rfl (st_ixD sl54 rfl rfl h0108 hx108) ?_
      refine ro rfl rfl (st_ldD (v := dB x108) ta4 rfl rfl) ?_
      refine ro rfl rfl (st_binB (v := dB (y107 == x108)) rfl rfl un4 rfl) ?_
      refine rw_nilk ?_
      refine awp_ite (b := (y107 == x108)) rfl (fun p109 => ?_) (fun p109 => ?_)
      · replace h := ite_T p109 h
        refine awp_rs ?_
        refine ro rfl rfl (st_mv rfl) ?_
        refine ro rfl rfl (st_as rfl) ?_
        refine rw_nilk ?_
        refine awp_ret ?_
        refine rt_then ?_
        injection h with h
        subst h
        exact ret_out (v := dB y107) (resV_one (resVs_tmp rfl resVs_nil)) (.keep rfl)
      · replace h := ite_F p109 h
        refine awp_skip ?_
        refine nx_then ?_
        refine awp_rds hmix ?_
        refine do_ rfl rfl (st_ldP (v := .agg [dL 2 e_S_api_Block a0.Prefix, dL 1 (eL 1 (eI .i64)) a0.Clauses]) ta25 rfl rfl rfl rfl) rfl rfl rfl ?_
        refine dn (r := 1004) rfl rfl (st_bsl (els := []) sl34 zc3 rfl rfl rfl rfl rfl) rfl rfl rfl rfl ?_
        refine do_ rfl rfl (st_mv rfl) rfl rfl rfl ?_
        obtain ⟨c110, h⟩ := capN_some h
        refine dn (r := 0) (L' := [(1001, .row 0 25 [[dL 2 e_S_api_Block a0.Prefix, dL 1 (eL 1 (eI .i64)) a0.Clauses]]), (1002, rw' 5 3 (eI .i64) ((([] : List Int) ++ a1) ++ [(IntKind.wrap .i64 (0 - x105))])), (1003, .row 1 3 [[dI .i64 (IntKind.wrap .i64 (0 - x105))]]), (1004, rw' 3 3 (eI .i64) (([] : List Int) ++ a1))]) rfl rfl (st_appR (f := (eI .i64)) (xs := ([] : List Int)) (ys := a1) sl34 zc3 rfl rfl rfl rfl rfl news_dat c110) rfl rfl rfl rfl ?_
        refine do_ rfl rfl (st_mv rfl) rfl rfl rfl ?_
        refine do_ rfl rfl (st_mv rfl) rfl rfl rfl ?_
        obtain ⟨x111, h0111, hx111, h⟩ := getI_some h
        refine do_ rfl rfl (st_ixD sl34 rfl rfl h0111 hx111) rfl rfl rfl ?_
        refine do_ rfl rfl (st_ldD (v := dI .i64 x111) ta3 rfl rfl) rfl rfl rfl ?_
        refine dn (r := 1005) rfl rfl (st_bsl (els := [[dI .i64 x111]]) sl34 zc3 rfl rfl rfl rfl rfl) rfl rfl rfl rfl ?_
        obtain ⟨c112, h⟩ := capN_some h
        refine dn (r := 0) (L' := [(1001, .row 0 25 [[dL 2 e_S_api_Block a0.Prefix, dL 1 (eL 1 (eI .i64)) a0.Clauses]]), (1002, rw' 5 3 (eI .i64) ((([] : List Int) ++ a1) ++ [(IntKind.wrap .i64 (0 - x105))])), (1003, .row 1 3 [[dI .i64 (IntKind.wrap .i64 (0 - x105))]]), (1004, rw' 5 3 (eI .i64) ((([] : List Int) ++ a1) ++ [x111])), (1005, .row 1 3 [[dI .i64 x111]])]) rfl rfl (st_appR (f := (eI .i64)) (xs := (([] : List Int) ++ a1)) (ys := [x111]) sl34 zc3 rfl rfl rfl rfl rfl (news_one (a := x111) rfl rfl) c112) rfl rfl rfl rfl ?_
        obtain ⟨y113, hy113, h⟩ := bind_some_elim h
        refine dcall (v := dB y113) (L0 := [(1004, rw' 5 3 (eI .i64) ((([] : List Int) ++ a1) ++ [x111]))]) (L1 := [(1004, rw' 5 3 (eI .i64) ((([] : List Int) ++ a1) ++ [x111]))]) (L' := [(1001, .row 0 25 [[dL 2 e_S_api_Block a0.Prefix, dL 1 (eL 1 (eI .i64)) a0.Clauses]]), (1002, rw' 5 3 (eI .i64) ((([] : List Int) ++ a1) ++ [(IntKind.wrap .i64 (0 - x105))])), (1003, .row 1 3 [[dI .i64 (IntKind.wrap .i64 (0 - x105))]]), (1004, rw' 5 3 (eI .i64) ((([] : List Int) ++ a1) ++ [x111])), (1005, .row 1 3 [[dI .i64 x111]])]) rfl rfl rfl rfl (EvR.toEv (evR_lend (ih hy113) ⟨.keep rfl, frzT rfl rfl co3 rfl, trivial⟩ rfl)) ⟨rfl, trivial⟩ rfl ⟨closT, trivial⟩ rfl rfl ?_
        refine do_ rfl rfl (st_as rfl) rfl rfl rfl ?_
        refine rd_nil (by kernel_rfl) ?_
        refine awp_ret ?_
        injection h with h
        subst h
        exact ret_out (v := dB y113) (resV_one (resVs_tmp rfl resVs_nil)) (.keep rfl)

theorem ok_skolemref04_Qbf {a0 : S_api_Qbf} {r : (Int × Int)} (h : F_skolemref04_Qbf a0 = some r) : Fn Try.prog 12 [.agg [dL 2 e_S_api_Block a0.Prefix, dL 1 (eL 1 (eI .i64)) a0.Clauses]] (.tup [dI .u8 r.1, dI .i64 r.2]) := by
  unfold F_skolemref04_Qbf at h
  refine Fn.of_body (N := 20) (rs := [.tmp 2, .tmp 3]) Try.func12 (c := _) rfl rfl rfl (by kernel_rfl) (Nat.le_of_ble_eq_true rfl) (fun _B => ?_)
  refine awp_rs ?_
  refine rn (r := 1001) rfl rfl (st_box rfl rfl rfl co25 rfl rfl) rfl ?_
  refine ro rfl rfl (st_as rfl) ?_
  refine ro rfl rfl (st_as rfl) ?_
  refine rw_nilk ?_
  refine awp_seq ?_
  refine awp_rs ?_
  refine ro rfl rfl (st_ldP (v := .agg [dL 2 e_S_api_Block a0.Prefix, dL 1 (eL 1 (eI .i64)) a0.Clauses]) ta25 rfl rfl rfl rfl) ?_
  obtain ⟨y101, hy101, h⟩ := bind_some_elim h
  refine rf rfl rfl (ok_skolemref03_MayQbf hy101) rfl rfl ?_
  refine ro rfl rfl (st_un (v := dB (!y101)) rfl rfl) ?_
  refine rw_nilk ?_
  refine awp_ite (b := (!y101)) rfl (fun p102 => ?_) (fun p102 => ?_)
  · replace h := ite_T p102 h
    refine awp_rs ?_
    refine ro rfl rfl (st_as rfl) ?_
    refine ro rfl rfl (st_as rfl) ?_
    refine rw_nilk ?_
    refine awp_ret ?_
    refine rt_then ?_
    injection h with h
    subst h
    exact ret_out (v := .tup [dI .u8 (0 : Int), dI .i64 (2 : Int)]) (resV_many (resVs_tmp rfl (resVs_tmp rfl resVs_nil))) (.keep rfl)
  · replace h := ite_F p102 h
    refine awp_skip ?_
    refine nx_then ?_
    refine awp_rs ?_
    refine ro rfl rfl (st_faP fo25_0 rfl) ?_
    refine ro rfl rfl (st_ldP (v := dL 2 e_S_api_Block a0.Prefix) ta22 rfl rfl rfl rfl) ?_
    obtain ⟨y103, hy103, h⟩ := bind_some_elim h
    refine rf rfl rfl (ok_skolemref04_order hy103) rfl rfl ?_
    refine ro rfl rfl (st_mv rfl) ?_
    refine ro rfl rfl (st_ext rfl rfl) ?_
    refine ro rfl rfl (st_ext rfl rfl) ?_
    refine ro rfl rfl (st_as rfl) ?_
    refine ro rfl rfl (st_as rfl) ?_
    refine rw_nilk ?_
    refine awp_seq ?_
    refine awp_rs ?_
    refine ro rfl rfl (st_mv rfl) ?_
    refine ro rfl rfl (st_lenD rfl un34) ?_
    refine ro rfl rfl (st_bin (v := dB (decide (((y103.1.length : Nat) : Int) > (16 : Int)))) rfl rfl rfl) ?_
    refine rw_nilk ?_
    refine awp_ite (b := (decide (((y103.1.length : Nat) : Int) > (16 : Int)))) rfl (fun p104 => ?_) (fun p104 => ?_)
    · replace h := ite_T p104 h
      refine awp_rs ?_
      refine ro rfl rfl (st_as rfl) ?_
      refine ro rfl rfl (st_as rfl) ?_
      refine rw_nilk ?_
      refine awp_ret ?_
      refine rt_then ?_
      injection h with h
      subst h
      exact ret_out (v := .tup [dI .u8 (0 : Int), dI .i64 (3 : Int)]) (resV_many (resVs_tmp rfl (resVs_tmp rfl resVs_nil))) (.keep rfl)
    · replace h := ite_F p104 h
      refine awp_skip ?_
      refine nx_then ?_
      refine awp_seq ?_
      refine awp_rs ?_
      refine ro rfl rfl (st_ldP (v := .agg [dL 2 e_S_api_Block a0.Prefix, dL 1 (eL 1 (eI .i64)) a0.Clauses]) ta25 rfl rfl rfl rfl) ?_
      obtain ⟨y105, hy105, h⟩ := bind_some_elim h
      refine rfz rfl rfl (ok_skolemref04_Left 1000000 hy105) rfl ⟨.keep _, .nil _, trivial⟩ rfl ?_
      refine rw_nilk ?_
      refine awp_ite (b := y105) rfl (fun p106 => ?_) (fun p106 => ?_)
      · replace h := ite_T p106 h
        refine awp_rs ?_
        refine ro rfl rfl (st_as rfl) ?_
        refine ro rfl rfl (st_as rfl) ?_
        refine rw_nilk ?_
        refine awp_ret ?_
        refine rt_then ?_
        injection h with h
        subst h
        exact ret_out (v := .tup [dI .u8 (1 : Int), dI .i64 (0 : Int)]) (resV_many (resVs_tmp rfl (resVs_tmp rfl resVs_nil))) (.keep rfl)
      · replace h := ite_F p106 h
        refine awp_skip ?_
        refine nx_then ?_
        refine awp_rs ?_
        refine ro rfl rfl (st_as rfl) ?_
        refine ro rfl rfl (st_as rfl) ?_
        refine rw_nilk ?_
        refine awp_ret ?_
        injection h with h
        subst h
        exact ret_out (v := .tup [dI .u8 (2 : Int), dI .i64 (0 : Int)]) (resV_many (resVs_tmp rfl (resVs_tmp rfl resVs_nil))) (.keep rfl)

theorem ok_skolemlaw04_TruthQbf {a0 : S_api_Qbf} {r : Bool} (h : F_skolemlaw04_TruthQbf a0 = some r) : Fn Try.prog 3 [.agg [dL 2 e_S_api_Block a0.Prefix, dL 1 (eL 1 (eI .i64)) a0.Clauses]] (dB r) := by
  unfold F_skolemlaw04_TruthQbf at h
  refine Fn.of_body (N := 31) (rs := [.tmp 2]) Try.func3 (c := _) rfl rfl rfl (by kernel_rfl) (Nat.le_of_ble_eq_true rfl) (fun _B => ?_)
  refine awp_rs ?_
  refine rn (r := 1001) rfl rfl (st_box rfl rfl rfl co25 rfl rfl) rfl ?_
  refine ro rfl rfl (st_as rfl) ?_
  refine rw_nilk ?_
  refine awp_seq ?_
  refine awp_rs ?_
  refine ro rfl rfl (st_ldP (v := .agg [dL 2 e_S_api_Block a0.Prefix, dL 1 (eL 1 (eI .i64)) a0.Clauses]) ta25 rfl rfl rfl rfl) ?_
  obtain ⟨y101, hy101, h⟩ := bind_some_elim h
  refine rf rfl rfl (ok_skolemlaw04_great hy101) rfl rfl ?_
  refine rw_nilk ?_
  refine awp_ite (b := y101) rfl (fun p102 => ?_) (fun p102 => ?_)
  · replace h := ite_T p102 h
    refine awp_rs ?_
    obtain ⟨y103, hy103, h⟩ := bind_some_elim h
    refine rf rfl rfl (ok_skolemlaw04_head hy103) rfl rfl ?_
    refine ro rfl rfl (st_as rfl) ?_
    refine rw_nilk ?_
    refine awp_ret ?_
    refine rt_then ?_
    injection h with h
    subst h
    exact ret_out (v := dB y103) (resV_one (resVs_tmp rfl resVs_nil)) (.keep rfl)
  · replace h := ite_F p102 h
    refine awp_skip ?_
    refine nx_then ?_
    refine awp_rs ?_
    refine ro rfl rfl (st_ldP (v := .agg [dL 2 e_S_api_Block a0.Prefix, dL 1 (eL 1 (eI .i64)) a0.Clauses]) ta25 rfl rfl rfl rfl) ?_
    obtain ⟨y104, hy104, h⟩ := bind_some_elim h
    refine rf rfl rfl (ok_truth_Qbf hy104) rfl rfl ?_
    refine ro rfl rfl (st_mv rfl) ?_
    refine ro rfl rfl (st_ext rfl rfl) ?_
    refine ro rfl rfl (st_ext rfl rfl) ?_
    refine ro rfl rfl (st_as rfl) ?_
    refine ro rfl rfl (st_as rfl) ?_
    refine rw_nilk ?_
    refine awp_rs ?_
    refine ro rfl rfl (st_ldP (v := .agg [dL 2 e_S_api_Block a0.Prefix, dL 1 (eL 1 (eI .i64)) a0.Clauses]) ta25 rfl rfl rfl rfl) ?_
    obtain ⟨y105, hy105, h⟩ := bind_some_elim h
    refine rf rfl rfl (ok_skolemref04_Qbf hy105) rfl rfl ?_
    refine ro rfl rfl (st_mv rfl) ?_
    refine ro rfl rfl (st_ext rfl rfl) ?_
    refine ro rfl rfl (st_ext rfl rfl) ?_
    refine ro rfl rfl (st_as rfl) ?_
    refine ro rfl rfl (st_as rfl) ?_
    refine rw_nilk ?_
    refine awp_rs ?_
    refine ro rfl rfl (st_mv rfl) ?_
    refine ro rfl rfl (st_mv rfl) ?_
    refine ro rfl rfl (st_bin (v := dB (y104.1 == y105.1)) rfl rfl rfl) ?_
    refine ro rfl rfl (st_mv rfl) ?_
    refine bool_split (y104.1 == y105.1) (fun p109 => ?_) (fun p109 => ?_)
    · replace h := ite_T p109 h
      rw [p109]
      refine ro rfl rfl (st_mv rfl) ?_
      refine ro rfl rfl (st_mv rfl) ?_
      refine ro rfl rfl (st_bin (v := dB (y104.2 == y105.2)) rfl rfl rfl) ?_
      refine ro rfl rfl (st_pickT rfl rfl) ?_
      refine ro rfl rfl (st_mv rfl) ?_
      refine bool_split (y104.2 == y105.2) (fun p110 => ?_) (fun p110 => ?_)
      · replace h := ite_T p110 h
        rw [p110]
        obtain ⟨y111, hy111, h⟩ := bind_some_elim h
        refine rf rfl rfl (ok_skolemlaw04_head hy111) rfl rfl ?_
        refine ro rfl rfl (st_pickT rfl rfl) ?_
        refine ro rfl rfl (st_as rfl) ?_
        refine rw_nilk ?_
        refine awp_ret ?_
        injection h with h
        subst h
        exact ret_out (v := dB y111) (resV_one (resVs_tmp rfl resVs_nil)) (.keep rfl)
      · replace h := ite_F p110 h
        rw [p110]
        refine rz rfl rfl ?_
        refine ro rfl rfl (st_pickF rfl rfl) ?_
        refine ro rfl rfl (st_as rfl) ?_
        refine rw_nilk ?_
        refine awp_ret ?_
        injection h with h
        subst h
        exact ret_out (v := dB false) (resV_one (resVs_tmp rfl resVs_nil)) (.keep rfl)
    · replace h := ite_F p109 h
      rw [p109]
      refine rz rfl rfl ?_
      refine rz rfl rfl ?_
      refine rz rfl rfl ?_
      refine ro rfl rfl (st_pickF rfl rfl) ?_
      refine ro rfl rfl (st_mv rfl) ?_
      refine rz rfl rfl ?_
      refine ro rfl rfl (st_pickF rfl rfl) ?_
      refine ro rfl rfl (st_as rfl) ?_
      refine rw_nilk ?_
      refine awp_ret ?_
      injection h with h
      subst h
      exact ret_out (v := dB false) (resV_one (resVs_tmp rfl resVs_nil)) (.keep rfl)
end Go.Sk.X
