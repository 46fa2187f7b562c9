/- The program computes these plain functions (law ProofLifts, part 2). It has no conditions. -/
import Derived.Test.YtehfobeocanbfaaXProofLiftsP1
set_option linter.unusedVariables false
set_option linter.unusedSimpArgs false
set_option maxRecDepth 100000
set_option maxHeartbeats 4000000
namespace Go.Sk.X
open Go Go.Sk Go.Proofs
theorem ok_skolemref10_Lift {a0 : (List (List Int))} {a1 : (List Int)} {a2 : S_api_Proof} {r : (S_api_Proof × Int)} (h : F_skolemref10_Lift a0 a1 a2 = some r) : Fn Try.prog 32 [dL 1 (eL 1 (eI .i64)) a0, dL 1 (eI .i64) a1, .agg [dB a2.Cubes, dL 5 e_S_api_Line a2.Lines]] (.tup [.agg [dB r.1.Cubes, dL 5 e_S_api_Line r.1.Lines], dI .i64 r.2]) := by
  unfold F_skolemref10_Lift at h
  refine Fn.of_body (N := 90) (rs := [.cell 6 25, .tmp 7]) Try.func32 (c := _) rfl rfl rfl (by kernel_rfl) (Nat.le_of_ble_eq_true rfl) (fun _B => ?_)
  refine awp_rs ?_
  refine rn (r := 1001) rfl rfl (st_box rfl rfl rfl co25 rfl rfl) rfl ?_
  refine rn (r := 1002) rfl rfl (st_alloc zc25 rfl rfl) rfl ?_
  refine ro rfl rfl (st_as rfl) ?_
  refine rw_nilk ?_
  refine awp_rs ?_
  refine ro rfl rfl (st_mv rfl) ?_
  refine ro rfl rfl (st_mv rfl) ?_
  obtain ⟨y101, hy101, h⟩ := bind_some_elim h
  refine rf rfl rfl (ok_skolemref10_Under hy101) rfl rfl ?_
  refine ro rfl rfl (st_mv rfl) ?_
  refine ro rfl rfl (st_ext rfl rfl) ?_
  refine ro rfl rfl (st_ext rfl rfl) ?_
  refine ro rfl rfl (st_ext rfl rfl) ?_
  refine ro rfl rfl (st_as rfl) ?_
  refine ro rfl rfl (st_as rfl) ?_
  refine ro rfl rfl (st_as rfl) ?_
  refine rw_nilk ?_
  refine awp_seq ?_
  refine awp_rs ?_
  refine ro rfl rfl (st_mv rfl) ?_
  refine ro rfl rfl (st_bin (v := dB (y101.2.2 != (0 : Int))) rfl rfl rfl) ?_
  refine rw_nilk ?_
  refine awp_ite (b := (y101.2.2 != (0 : Int))) rfl (fun p102 => ?_) (fun p102 => ?_)
  · replace h := ite_T p102 h
    refine awp_rs ?_
    refine ro rfl rfl (st_build (vs := [dB false, .nilS]) bl25 rfl rfl) ?_
    refine ro rfl rfl (st_mv rfl) ?_
    refine rx (L' := [(1001, .row 0 25 [[dB a2.Cubes, dL 5 e_S_api_Line a2.Lines]]), (1002, .row 0 25 [[dB false, .nilS]])]) rfl rfl (st_stP ta25 rfl rfl rfl rfl rfl rfl rfl rfl) rfl ?_
    refine ro rfl rfl (st_as rfl) ?_
    refine rw_nilk ?_
    refine awp_ret ?_
    refine rt_then ?_
    injection h with h
    subst h
    exact ret_out (v := .tup [.agg [dB false, .nilS], dI .i64 y101.2.2]) (resV_many (resVs_cell (v := .agg [dB false, .nilS]) ta25 rfl rfl rfl rfl (resVs_tmp rfl resVs_nil))) (frz_tup ⟨(frz_agg ⟨(.keep rfl), (.nilS _), trivial⟩), (.keep rfl), trivial⟩)
  · replace h := ite_F p102 h
    refine awp_skip ?_
    refine nx_then ?_
    refine awp_rs ?_
    refine ro rfl rfl (st_mv rfl) ?_
    refine ro rfl rfl (st_ldP (v := .agg [dB a2.Cubes, dL 5 e_S_api_Line a2.Lines]) ta25 rfl rfl rfl rfl) ?_
    obtain ⟨y103, hy103, h⟩ := bind_some_elim h
    refine rf rfl rfl (ok_skolemref10_Check hy103) rfl rfl ?_
    refine ro rfl rfl (st_mv rfl) ?_
    refine ro rfl rfl (st_ext rfl rfl) ?_
    refine ro rfl rfl (st_ext rfl rfl) ?_
    refine ro rfl rfl (st_ext rfl rfl) ?_
    refine ro rfl rfl (st_as rfl) ?_
    refine rw_nilk ?_
    refine awp_seq ?_
    refine awp_rs ?_
    refine ro rfl rfl (st_mv rfl) ?_
    refine ro rfl rfl (st_bin (v := dB (y103.2.2 != (0 : Int))) rfl rfl rfl) ?_
    refine rw_nilk ?_
    refine awp_ite (b := (y103.2.2 != (0 : Int))) rfl (fun p104 => ?_) (fun p104 => ?_)
    · replace h := ite_T p104 h
      refine awp_rs ?_
      refine ro rfl rfl (st_build (vs := [dB false, .nilS]) bl25 rfl rfl) ?_
      refine rx (L' := [(1001, .row 0 25 [[dB a2.Cubes, dL 5 e_S_api_Line a2.Lines]]), (1002, .row 0 25 [[dB false, .nilS]])]) rfl rfl (st_stP ta25 rfl rfl rfl rfl rfl rfl rfl rfl) rfl ?_
      refine ro rfl rfl (st_as rfl) ?_
      refine rw_nilk ?_
      refine awp_ret ?_
      refine rt_then ?_
      injection h with h
      subst h
      exact ret_out (v := .tup [.agg [dB false, .nilS], dI .i64 (100 : Int)]) (resV_many (resVs_cell (v := .agg [dB false, .nilS]) ta25 rfl rfl rfl rfl (resVs_tmp rfl resVs_nil))) (frz_tup ⟨(frz_agg ⟨(.keep rfl), (.nilS _), trivial⟩), (.keep rfl), trivial⟩)
    · replace h := ite_F p104 h
      refine awp_skip ?_
      refine nx_then ?_
      refine awp_rs ?_
      refine rn (r := 1003) rfl rfl (st_alloc zc25 rfl rfl) rfl ?_
      refine rw_nilk ?_
      refine awp_seq ?_
      refine awp_rs ?_
      refine ro rfl rfl (st_as rfl) ?_
      refine rw_nilk ?_
      refine awp_block ?_
      refine awp_lenA (t := 2) (i := 1) rfl rfl (fun hl108 => ?_)
      rw [List.length_map] at hl108
      refine awp_range (fun (j108 : Nat) (s105 : (List S_api_Line)) (g106 : Nat) => [(0, dL 1 (eL 1 (eI .i64)) a0), (5, .ptr 1001 0 0 0), (6, .ptr 1002 0 0 0), (9, dL 1 (eI .i64) y101.2.1), (11, .ptr 1003 0 0 0), (12, dI .i64 ((j108 : Nat) : Int))]) (fun (s105 : (List S_api_Line)) (g106 : Nat) => [(1001, .row 0 25 [[dB a2.Cubes, dL 5 e_S_api_Line a2.Lines]]), (1002, .row 0 25 [[dB false, .nilS]]), (1003, .row 0 25 [[dB false, .slice 1006 g106 0 s105.length]]), (1006, rw' g106 58 e_S_api_Line s105)]) 0 (fun _ _ _ h => h) h (Gh.trans (gh_nil (r := 1006) (E' := [(0, dL 1 (eL 1 (eI .i64)) a0), (5, .ptr 1001 0 0 0), (6, .ptr 1002 0 0 0), (9, dL 1 (eI .i64) y101.2.1), (11, .ptr 1003 0 0 0), (12, dI .i64 (0 : Int))]) (L' := [(1001, .row 0 25 [[dB a2.Cubes, dL 5 e_S_api_Line a2.Lines]]), (1002, .row 0 25 [[dB false, .nilS]]), (1003, .row 0 25 [[dB false, .slice 1006 0 0 (([] : List S_api_Line).length)]])]) rfl co58 rfl rfl ⟨⟨_, rfl, .keep _⟩, ⟨_, rfl, .keep _⟩, ⟨_, rfl, .keep _⟩, ⟨_, rfl, .keep _⟩, ⟨_, rfl, .keep _⟩, ⟨_, rfl, .keep _⟩, trivial⟩ ⟨⟨_, rfl, .keep _⟩, ⟨_, rfl, .keep _⟩, ⟨_, rfl, nilOne ⟨.keep _, .nil, trivial⟩⟩, trivial⟩) (gh_frz rfl rfl ⟨⟨_, rfl, .keep rfl⟩, ⟨_, rfl, .keep rfl⟩, ⟨_, rfl, .keep rfl⟩, ⟨_, rfl, .keep rfl⟩, ⟨_, rfl, .keep rfl⟩, ⟨_, rfl, .keep rfl⟩, trivial⟩ ⟨⟨_, rfl, objOne ⟨⟨rfl, .keep rfl⟩, ⟨rfl, .keep rfl⟩, trivial⟩⟩, ⟨_, rfl, objOne ⟨⟨rfl, .keep rfl⟩, ⟨rfl, .keep rfl⟩, trivial⟩⟩, ⟨_, rfl, objOne ⟨⟨rfl, .keep rfl⟩, ⟨rfl, .keep rfl⟩, trivial⟩⟩, ⟨_, rfl, objRow (List.map e_S_api_Line ([] : List S_api_Line))⟩, trivial⟩)) ?_ ?_
      · clear h
        intro j108 x109 s105 g106 k107 hj108 hx108 h ih107
        refine awp_seq ?_
        refine awp_rs ?_
        refine ro rfl rfl (st_mv rfl) ?_
        refine ro rfl rfl (st_faP fo25_1 rfl) ?_
        refine ro rfl rfl (st_ldP (v := dL 5 e_S_api_Line a2.Lines) ta23 rfl rfl rfl rfl) ?_
        refine ro rfl rfl (st_lenD rfl un23) ?_
        refine ro rfl rfl (st_bin (v := dB (decide (((j108 : Nat) : Int) < ((a2.Lines.length : Nat) : Int)))) rfl rfl rfl) ?_
        refine rw_nilk ?_
        refine awp_ifT rfl (dlt hj108) ?_
        refine awp_skip ?_
        refine nx_then ?_
        refine awp_seq ?_
        refine awp_block ?_
        refine awp_rs ?_
        refine ro rfl rfl (st_faP fo25_1 rfl) ?_
        refine ro rfl rfl (st_ldP (v := dL 5 e_S_api_Line a2.Lines) ta23 rfl rfl rfl rfl) ?_
        refine ro rfl rfl (st_mv rfl) ?_
        refine ro rfl rfl (st_ixDn sl23 rfl rfl hx108) ?_
        refine ro rfl rfl (st_ldD (v := .agg [dI .u8 x109.Rule, dI .i64 x109.A, dI .i64 x109.B, dI .i64 x109.Piv, dL 1 (eI .i64) x109.Lits]) ta58 rfl rfl) ?_
        refine rn (r := 1007) rfl rfl (st_alloc zc58 rfl rfl) rfl ?_
        refine rx (L' := [(1001, .row 0 25 [[dB a2.Cubes, dL 5 e_S_api_Line a2.Lines]]), (1002, .row 0 25 [[dB false, .nilS]]), (1003, .row 0 25 [[dB false, .slice 1006 g106 0 s105.length]]), (1006, rw' g106 58 e_S_api_Line s105), (1007, .row 0 58 [[dI .u8 x109.Rule, dI .i64 x109.A, dI .i64 x109.B, dI .i64 x109.Piv, dL 1 (eI .i64) x109.Lits]])]) rfl rfl (st_stP ta58 rfl rfl rfl rfl rfl rfl rfl rfl) rfl ?_
        refine rw_nilk ?_
        refine awp_jn (fun (s210 : (Int × (List Int))) (g211 : Unit) => [(0, dL 1 (eL 1 (eI .i64)) a0), (5, .ptr 1001 0 0 0), (6, .ptr 1002 0 0 0), (9, dL 1 (eI .i64) y101.2.1), (11, .ptr 1003 0 0 0), (12, dI .i64 ((j108 : Nat) : Int)), (13, .ptr 1007 0 0 0)]) (fun (s210 : (Int × (List Int))) (g211 : Unit) => [(1001, .row 0 25 [[dB a2.Cubes, dL 5 e_S_api_Line a2.Lines]]), (1002, .row 0 25 [[dB false, .nilS]]), (1003, .row 0 25 [[dB false, .slice 1006 g106 0 s105.length]]), (1006, rw' g106 58 e_S_api_Line s105), (1007, .row 0 58 [[dI .u8 x109.Rule, dI .i64 s210.1, dI .i64 x109.B, dI .i64 x109.Piv, dL 1 (eI .i64) s210.2]])]) h ?_ ?_
        · clear h
          intro s210 g211 h
          refine awp_rw ?_
          refine ro rfl rfl (st_faP fo25_1 rfl) ?_
          refine ro rfl rfl (st_ldP (v := .slice 1006 g106 0 s105.length) ta23 rfl rfl rfl rfl) ?_
          refine ro rfl rfl (st_ldP (v := .agg [dI .u8 x109.Rule, dI .i64 s210.1, dI .i64 x109.B, dI .i64 x109.Piv, dL 1 (eI .i64) s210.2]) ta58 rfl rfl rfl rfl) ?_
          refine rn (r := 1008) rfl rfl (st_bsl (els := [[dI .u8 x109.Rule, dI .i64 s210.1, dI .i64 x109.B, dI .i64 x109.Piv, dL 1 (eI .i64) s210.2]]) sl23 zc58 rfl rfl rfl rfl rfl) rfl ?_
          obtain ⟨c213, h⟩ := capN_some h
          refine rn (r := 0) (L' := [(1001, .row 0 25 [[dB a2.Cubes, dL 5 e_S_api_Line a2.Lines]]), (1002, .row 0 25 [[dB false, .nilS]]), (1003, .row 0 25 [[dB false, .slice 1006 g106 0 s105.length]]), (1006, rw' (g106 + 2) 58 e_S_api_Line (s105 ++ [(S_api_Line.mk x109.Rule s210.1 x109.B x109.Piv s210.2)])), (1007, .row 0 58 [[dI .u8 x109.Rule, dI .i64 s210.1, dI .i64 x109.B, dI .i64 x109.Piv, dL 1 (eI .i64) s210.2]]), (1008, .row 1 58 [[dI .u8 x109.Rule, dI .i64 s210.1, dI .i64 x109.B, dI .i64 x109.Piv, dL 1 (eI .i64) s210.2]])]) rfl rfl (st_appR (f := e_S_api_Line) (xs := s105) (ys := [(S_api_Line.mk x109.Rule s210.1 x109.B x109.Piv s210.2)]) sl23 zc58 rfl rfl rfl rfl rfl (news_one (a := (S_api_Line.mk x109.Rule s210.1 x109.B x109.Piv s210.2)) rfl rfl) c213) rfl ?_
          refine ro rfl rfl (st_faP fo25_1 rfl) ?_
          refine rx (L' := [(1001, .row 0 25 [[dB a2.Cubes, dL 5 e_S_api_Line a2.Lines]]), (1002, .row 0 25 [[dB false, .nilS]]), (1003, .row 0 25 [[dB false, .slice 1006 (g106 + 2) 0 ((s105 ++ [(S_api_Line.mk x109.Rule s210.1 x109.B x109.Piv s210.2)]).length)]]), (1006, rw' (g106 + 2) 58 e_S_api_Line (s105 ++ [(S_api_Line.mk x109.Rule s210.1 x109.B x109.Piv s210.2)])), (1007, .row 0 58 [[dI .u8 x109.Rule, dI .i64 s210.1, dI .i64 x109.B, dI .i64 x109.Piv, dL 1 (eI .i64) s210.2]]), (1008, .row 1 58 [[dI .u8 x109.Rule, dI .i64 s210.1, dI .i64 x109.B, dI .i64 x109.Piv, dL 1 (eI .i64) s210.2]])]) rfl rfl (st_stP ta23 rfl rfl rfl rfl rfl rfl rfl rfl) rfl ?_
          refine rw_nil ?_
          refine nx_block ?_
          refine nx_then ?_
          refine awp_rw ?_
          refine ro rfl rfl (st_mv rfl) ?_
          refine ro rfl rfl (st_inc rfl rfl hj108 hl108) ?_
          refine ro rfl rfl (st_as rfl) ?_
          refine rw_nil ?_
          refine nx_then ?_
          refine awp_gh ?_ (ih107 (s105 ++ [(S_api_Line.mk x109.Rule s210.1 x109.B x109.Piv s210.2)]) (g106 + 2) h)
          exact (gh_frz rfl rfl ⟨⟨_, rfl, .keep rfl⟩, ⟨_, rfl, .keep rfl⟩, ⟨_, rfl, .keep rfl⟩, ⟨_, rfl, .keep rfl⟩, ⟨_, rfl, .keep rfl⟩, ⟨_, rfl, .keep rfl⟩, trivial⟩ ⟨⟨_, rfl, objOne ⟨⟨rfl, .keep rfl⟩, ⟨rfl, .keep rfl⟩, trivial⟩⟩, ⟨_, rfl, objOne ⟨⟨rfl, .keep rfl⟩, ⟨rfl, .keep rfl⟩, trivial⟩⟩, ⟨_, rfl, objOne ⟨⟨rfl, .keep rfl⟩, ⟨rfl, .keep rfl⟩, trivial⟩⟩, ⟨_, rfl, objRow _⟩, trivial⟩)
        · clear h
          intro k212 h J212
          refine awp_rs ?_
          refine ro rfl rfl (st_faP fo58_0 rfl) ?_
          refine ro rfl rfl (st_ldP (v := dI .u8 x109.Rule) ta56 rfl rfl rfl rfl) ?_
          refine ro rfl rfl (st_bin (v := dB (x109.Rule == (1 : Int))) rfl rfl rfl) ?_
          refine rw_nilk ?_
          refine awp_ite (b := (x109.Rule == (1 : Int))) rfl (fun p214 => ?_) (fun p214 => ?_)
          · replace h := ite_T p214 h
            refine awp_rs ?_
            refine ro rfl rfl (st_mv rfl) ?_
            refine ro rfl rfl (st_faP fo58_1 rfl) ?_
            refine ro rfl rfl (st_ldP (v := dI .i64 x109.A) ta3 rfl rfl rfl rfl) ?_
            obtain ⟨x215, h0215, hx215, h⟩ := getI_some h
            refine ro rfl rfl (st_ixD sl28 rfl rfl h0215 hx215) ?_
            refine ro rfl rfl (st_ldD (v := dI .i64 x215) ta3 rfl rfl) ?_
            refine ro rfl rfl (st_faP fo58_1 rfl) ?_
            refine rx (L' := [(1001, .row 0 25 [[dB a2.Cubes, dL 5 e_S_api_Line a2.Lines]]), (1002, .row 0 25 [[dB false, .nilS]]), (1003, .row 0 25 [[dB false, .slice 1006 g106 0 s105.length]]), (1006, rw' g106 58 e_S_api_Line s105), (1007, .row 0 58 [[dI .u8 x109.Rule, dI .i64 x215, dI .i64 x109.B, dI .i64 x109.Piv, dL 1 (eI .i64) x109.Lits]])]) rfl rfl (st_stP ta3 rfl rfl rfl rfl rfl rfl rfl rfl) rfl ?_
            refine rw_nilk ?_
            refine awp_rw ?_
            refine ro rfl rfl (st_mv rfl) ?_
            refine ro rfl rfl (st_faP fo58_1 rfl) ?_
            refine ro rfl rfl (st_ldP (v := dI .i64 x215) ta3 rfl rfl rfl rfl) ?_
            obtain ⟨x216, h0216, hx216, h⟩ := getI_some h
            refine ro rfl rfl (st_ixD sl22 rfl rfl h0216 hx216) ?_
            refine ro rfl rfl (st_ldD (v := dL 1 (eI .i64) x216) ta28 rfl rfl) ?_
            refine ro rfl rfl (st_faP fo58_4 rfl) ?_
            refine rx (L' := [(1001, .row 0 25 [[dB a2.Cubes, dL 5 e_S_api_Line a2.Lines]]), (1002, .row 0 25 [[dB false, .nilS]]), (1003, .row 0 25 [[dB false, .slice 1006 g106 0 s105.length]]), (1006, rw' g106 58 e_S_api_Line s105), (1007, .row 0 58 [[dI .u8 x109.Rule, dI .i64 x215, dI .i64 x109.B, dI .i64 x109.Piv, dL 1 (eI .i64) x216]])]) rfl rfl (st_stP ta28 rfl rfl rfl rfl rfl rfl rfl rfl) rfl ?_
            refine rw_nil ?_
            refine nx_then ?_
            exact J212 (x215, x216) () _ _ h (gh_frz rfl rfl ⟨⟨_, rfl, .keep rfl⟩, ⟨_, rfl, .keep rfl⟩, ⟨_, rfl, .keep rfl⟩, ⟨_, rfl, .keep rfl⟩, ⟨_, rfl, .keep rfl⟩, ⟨_, rfl, .keep rfl⟩, ⟨_, rfl, .keep rfl⟩, trivial⟩ ⟨⟨_, rfl, objOne ⟨⟨rfl, .keep rfl⟩, ⟨rfl, .keep rfl⟩, trivial⟩⟩, ⟨_, rfl, objOne ⟨⟨rfl, .keep rfl⟩, ⟨rfl, .keep rfl⟩, trivial⟩⟩, ⟨_, rfl, objOne ⟨⟨rfl, .keep rfl⟩, ⟨rfl, .keep rfl⟩, trivial⟩⟩, ⟨_, rfl, objRow _⟩, ⟨_, rfl, objOne ⟨⟨rfl, .keep rfl⟩, ⟨rfl, .keep rfl⟩, ⟨rfl, .keep rfl⟩, ⟨rfl, .keep rfl⟩, ⟨rfl, .keep rfl⟩, trivial⟩⟩, trivial⟩)
          · replace h := ite_F p214 h
            refine awp_rd hmix ?_
            refine do_ rfl rfl (st_faP fo25_1 rfl) rfl rfl rfl ?_
            refine do_ rfl rfl (st_ldP (v := .slice 1006 g106 0 s105.length) ta23 rfl rfl rfl rfl) rfl rfl rfl ?_
            refine do_ rfl rfl (st_faP fo58_1 rfl) rfl rfl rfl ?_
            refine do_ rfl rfl (st_ldP (v := dI .i64 x109.A) ta3 rfl rfl rfl rfl) rfl rfl rfl ?_
            obtain ⟨x217, h0217, hx217, h⟩ := getI_some h
            refine do_ rfl rfl (st_ixRi sl23 rfl rfl rfl h0217 hx217 rfl) rfl rfl rfl ?_
            refine do_ rfl rfl (st_faP fo58_4 rfl) rfl rfl rfl ?_
            refine do_ rfl rfl (st_ldP (v := dL 1 (eI .i64) x217.Lits) ta28 rfl rfl (rowOf_map_get hx217) rfl) rfl rfl rfl ?_
            refine do_ rfl rfl (st_faP fo25_1 rfl) rfl rfl rfl ?_
            refine do_ rfl rfl (st_ldP (v := .slice 1006 g106 0 s105.length) ta23 rfl rfl rfl rfl) rfl rfl rfl ?_
            refine do_ rfl rfl (st_faP fo58_2 rfl) rfl rfl rfl ?_
            refine do_ rfl rfl (st_ldP (v := dI .i64 x109.B) ta3 rfl rfl rfl rfl) rfl rfl rfl ?_
            obtain ⟨x218, h0218, hx218, h⟩ := getI_some h
            refine do_ rfl rfl (st_ixRi sl23 rfl rfl rfl h0218 hx218 rfl) rfl rfl rfl ?_
            refine do_ rfl rfl (st_faP fo58_4 rfl) rfl rfl rfl ?_
            refine do_ rfl rfl (st_ldP (v := dL 1 (eI .i64) x218.Lits) ta28 rfl rfl (rowOf_map_get hx218) rfl) rfl rfl rfl ?_
            refine do_ rfl rfl (st_faP fo58_3 rfl) rfl rfl rfl ?_
            refine do_ rfl rfl (st_ldP (v := dI .i64 x109.Piv) ta3 rfl rfl rfl rfl) rfl rfl rfl ?_
            obtain ⟨y219, hy219, h⟩ := bind_some_elim h
            refine df rfl rfl (ok_skolemref09_Resolvent hy219) rfl rfl ?_
            refine do_ rfl rfl (st_mv rfl) rfl rfl rfl ?_
            refine do_ rfl rfl (st_ext rfl rfl) rfl rfl rfl ?_
            refine do_ rfl rfl (st_ext rfl rfl) rfl rfl rfl ?_
            refine do_ rfl rfl (st_faP fo58_4 rfl) rfl rfl rfl ?_
            refine dx (L' := [(1001, .row 0 25 [[dB a2.Cubes, dL 5 e_S_api_Line a2.Lines]]), (1002, .row 0 25 [[dB false, .nilS]]), (1003, .row 0 25 [[dB false, .slice 1006 g106 0 s105.length]]), (1006, rw' g106 58 e_S_api_Line s105), (1007, .row 0 58 [[dI .u8 x109.Rule, dI .i64 x109.A, dI .i64 x109.B, dI .i64 x109.Piv, dL 1 (eI .i64) y219.1]])]) rfl rfl (st_stP ta28 rfl rfl rfl rfl rfl rfl rfl rfl) rfl rfl rfl rfl ?_
            refine rd_nil (by kernel_rfl) ?_
            refine nx_then ?_
            exact J212 (x109.A, y219.1) () _ _ h (gh_frz rfl rfl ⟨⟨_, rfl, .keep rfl⟩, ⟨_, rfl, .keep rfl⟩, ⟨_, rfl, .keep rfl⟩, ⟨_, rfl, .keep rfl⟩, ⟨_, rfl, .keep rfl⟩, ⟨_, rfl, .keep rfl⟩, ⟨_, rfl, .keep rfl⟩, trivial⟩ ⟨⟨_, rfl, objOne ⟨⟨rfl, .keep rfl⟩, ⟨rfl, .keep rfl⟩, trivial⟩⟩, ⟨_, rfl, objOne ⟨⟨rfl, .keep rfl⟩, ⟨rfl, .keep rfl⟩, trivial⟩⟩, ⟨_, rfl, objOne ⟨⟨rfl, .keep rfl⟩, ⟨rfl, .keep rfl⟩, trivial⟩⟩, ⟨_, rfl, objRow _⟩, ⟨_, rfl, objOne ⟨⟨rfl, .keep rfl⟩, ⟨rfl, .keep rfl⟩, ⟨rfl, .keep rfl⟩, ⟨rfl, .keep rfl⟩, ⟨rfl, .keep rfl⟩, trivial⟩⟩, trivial⟩)
      · clear h
        intro s105 g106 h
        refine awp_seq ?_
        refine awp_rs ?_
        refine ro rfl rfl (st_mv rfl) ?_
        refine ro rfl rfl (st_faP fo25_1 rfl) ?_
        refine ro rfl rfl (st_ldP (v := dL 5 e_S_api_Line a2.Lines) ta23 rfl rfl rfl rfl) ?_
        refine ro rfl rfl (st_lenD rfl un23) ?_
        refine ro rfl rfl (st_bin (v := dB (decide (((a2.Lines.length : Nat) : Int) < ((a2.Lines.length : Nat) : Int)))) rfl rfl rfl) ?_
        refine rw_nilk ?_
        refine awp_ifF rfl dge ?_
        refine awp_exit ?_
        refine ex_out ?_
        refine ex_out ?_
        refine ex_in ?_
        refine nx_then ?_
        refine awp_rs ?_
        refine ro rfl rfl (st_ldP (v := .agg [dB false, .slice 1006 g106 0 s105.length]) ta25 rfl rfl rfl rfl) ?_
        refine rx (L' := [(1001, .row 0 25 [[dB a2.Cubes, dL 5 e_S_api_Line a2.Lines]]), (1002, .row 0 25 [[dB false, .slice 1006 g106 0 s105.length]]), (1003, .row 0 25 [[dB false, .slice 1006 g106 0 s105.length]]), (1006, rw' g106 58 e_S_api_Line s105)]) rfl rfl (st_stP ta25 rfl rfl rfl rfl rfl rfl rfl rfl) rfl ?_
        refine ro rfl rfl (st_as rfl) ?_
        refine rw_nilk ?_
        refine awp_ret ?_
        injection h with h
        subst h
        exact ret_out (v := .tup [.agg [dB false, .slice 1006 g106 0 s105.length], dI .i64 (0 : Int)]) (resV_many (resVs_cell (v := .agg [dB false, .slice 1006 g106 0 s105.length]) ta25 rfl rfl rfl rfl (resVs_tmp rfl resVs_nil))) (frz_tup ⟨(frz_agg ⟨(.keep rfl), (frzT rfl rfl co58 rfl), trivial⟩), (.keep rfl), trivial⟩)

theorem ok_skolemlaw10_ProofLifts {a0 : (List (List Int))} {a1 : (List Int)} {a2 : S_api_Proof} {r : Bool} (h : F_skolemlaw10_ProofLifts a0 a1 a2 = some r) : Fn Try.prog 7 [dL 1 (eL 1 (eI .i64)) a0, dL 1 (eI .i64) a1, .agg [dB a2.Cubes, dL 5 e_S_api_Line a2.Lines]] (dB r) := by
  unfold F_skolemlaw10_ProofLifts at h
  refine Fn.of_body (N := 45) (rs := [.tmp 6]) Try.func7 (c := _) rfl rfl rfl (by kernel_rfl) (Nat.le_of_ble_eq_true rfl) (fun _B => ?_)
  refine awp_rs ?_
  refine rn (r := 1001) rfl rfl (st_box rfl rfl rfl co25 rfl rfl) rfl ?_
  refine ro rfl rfl (st_as rfl) ?_
  refine rw_nilk ?_
  refine awp_seq ?_
  refine awp_jn (fun (s112 : Bool) (g113 : Unit) => [(0, dL 1 (eL 1 (eI .i64)) a0), (1, dL 1 (eI .i64) a1), (5, .ptr 1001 0 0 0), (18, dB s112)]) (fun (s112 : Bool) (g113 : Unit) => [(1001, .row 0 25 [[dB a2.Cubes, dL 5 e_S_api_Line a2.Lines]])]) h ?_ ?_
  · clear h
    intro s112 g113 h
    refine awp_ite (b := s112) rfl (fun p115 => ?_) (fun p115 => ?_)
    · replace h := ite_T p115 h
      refine awp_rs ?_
      obtain ⟨y116, hy116, h⟩ := bind_some_elim h
      refine rf rfl rfl (ok_skolemlaw10_head hy116) rfl rfl ?_
      refine ro rfl rfl (st_as rfl) ?_
      refine rw_nilk ?_
      refine awp_ret ?_
      refine rt_then ?_
      injection h with h
      subst h
      exact ret_out (v := dB y116) (resV_one (resVs_tmp rfl resVs_nil)) (.keep rfl)
    · replace h := ite_F p115 h
      refine awp_skip ?_
      refine nx_then ?_
      refine awp_rs ?_
      refine ro rfl rfl (st_mv rfl) ?_
      refine ro rfl rfl (st_mv rfl) ?_
      refine ro rfl rfl (st_ldP (v := .agg [dB a2.Cubes, dL 5 e_S_api_Line a2.Lines]) ta25 rfl rfl rfl rfl) ?_
      obtain ⟨y117, hy117, h⟩ := bind_some_elim h
      refine rf rfl rfl (ok_proof_Lift hy117) rfl rfl ?_
      refine ro rfl rfl (st_mv rfl) ?_
      refine ro rfl rfl (st_ext rfl rfl) ?_
      refine ro rfl rfl (st_ext rfl rfl) ?_
      refine rn (r := 1002) rfl rfl (st_alloc zc25 rfl rfl) rfl ?_
      refine rx (L' := [(1001, .row 0 25 [[dB a2.Cubes, dL 5 e_S_api_Line a2.Lines]]), (1002, .row 0 25 [[dB y117.1.Cubes, dL 5 e_S_api_Line y117.1.Lines]])]) rfl rfl (st_stP ta25 rfl rfl rfl rfl rfl rfl rfl rfl) rfl ?_
      refine ro rfl rfl (st_as rfl) ?_
      refine rw_nilk ?_
      refine awp_rs ?_
      refine ro rfl rfl (st_mv rfl) ?_
      refine ro rfl rfl (st_mv rfl) ?_
      refine ro rfl rfl (st_ldP (v := .agg [dB a2.Cubes, dL 5 e_S_api_Line a2.Lines]) ta25 rfl rfl rfl rfl) ?_
      obtain ⟨y118, hy118, h⟩ := bind_some_elim h
      refine rf rfl rfl (ok_skolemref10_Lift hy118) rfl rfl ?_
      refine ro rfl rfl (st_mv rfl) ?_
      refine ro rfl rfl (st_ext rfl rfl) ?_
      refine ro rfl rfl (st_ext rfl rfl) ?_
      refine rn (r := 1003) rfl rfl (st_alloc zc25 rfl rfl) rfl ?_
      refine rx (L' := [(1001, .row 0 25 [[dB a2.Cubes, dL 5 e_S_api_Line a2.Lines]]), (1002, .row 0 25 [[dB y117.1.Cubes, dL 5 e_S_api_Line y117.1.Lines]]), (1003, .row 0 25 [[dB y118.1.Cubes, dL 5 e_S_api_Line y118.1.Lines]])]) rfl rfl (st_stP ta25 rfl rfl rfl rfl rfl rfl rfl rfl) rfl ?_
      refine ro rfl rfl (st_as rfl) ?_
      refine rw_nilk ?_
      refine awp_rs ?_
      refine ro rfl rfl (st_ldP (v := .agg [dB y117.1.Cubes, dL 5 e_S_api_Line y117.1.Lines]) ta25 rfl rfl rfl rfl) ?_
      refine ro rfl rfl (st_ldP (v := .agg [dB y118.1.Cubes, dL 5 e_S_api_Line y118.1.Lines]) ta25 rfl rfl rfl rfl) ?_
      obtain ⟨y123, hy123, h⟩ := bind_some_elim h
      refine rf rfl rfl (ok_skolemref09_SameProof hy123) rfl rfl ?_
      refine ro rfl rfl (st_mv rfl) ?_
      refine bool_split y123 (fun p124 => ?_) (fun p124 => ?_)
      · replace h := ite_T p124 h
        rw [p124]
        refine ro rfl rfl (st_mv rfl) ?_
        refine ro rfl rfl (st_mv rfl) ?_
        refine ro rfl rfl (st_bin (v := dB (y117.2 == y118.2)) rfl rfl rfl) ?_
        refine ro rfl rfl (st_pickT rfl rfl) ?_
        refine ro rfl rfl (st_mv rfl) ?_
        refine bool_split (y117.2 == y118.2) (fun p125 => ?_) (fun p125 => ?_)
        · replace h := ite_T p125 h
          rw [p125]
          obtain ⟨y126, hy126, h⟩ := bind_some_elim h
          refine rf rfl rfl (ok_skolemlaw10_head hy126) rfl rfl ?_
          refine ro rfl rfl (st_pickT rfl rfl) ?_
          refine ro rfl rfl (st_as rfl) ?_
          refine rw_nilk ?_
          refine awp_ret ?_
          injection h with h
          subst h
          exact ret_out (v := dB y126) (resV_one (resVs_tmp rfl resVs_nil)) (.keep rfl)
        · replace h := ite_F p125 h
          rw [p125]
          refine rz rfl rfl ?_
          refine ro rfl rfl (st_pickF rfl rfl) ?_
          refine ro rfl rfl (st_as rfl) ?_
          refine rw_nilk ?_
          refine awp_ret ?_
          injection h with h
          subst h
          exact ret_out (v := dB false) (resV_one (resVs_tmp rfl resVs_nil)) (.keep rfl)
      · replace h := ite_F p124 h
        rw [p124]
        refine rz rfl rfl ?_
        refine rz rfl rfl ?_
        refine rz rfl rfl ?_
        refine ro rfl rfl (st_pickF rfl rfl) ?_
        refine ro rfl rfl (st_mv rfl) ?_
        refine rz rfl rfl ?_
        refine ro rfl rfl (st_pickF rfl rfl) ?_
        refine ro rfl rfl (st_as rfl) ?_
        refine rw_nilk ?_
        refine awp_ret ?_
        injection h with h
        subst h
        exact ret_out (v := dB false) (resV_one (resVs_tmp rfl resVs_nil)) (.keep rfl)
  · clear h
    intro k114 h J114
    refine awp_rw ?_
    refine ro rfl rfl (st_mv rfl) ?_
    refine ro rfl rfl (st_ldP (v := .agg [dB a2.Cubes, dL 5 e_S_api_Line a2.Lines]) ta25 rfl rfl rfl rfl) ?_
    obtain ⟨y127, hy127, h⟩ := bind_some_elim h
    refine rf rfl rfl (ok_skolemlaw10_large hy127) rfl rfl ?_
    refine ro rfl rfl (st_mv rfl) ?_
    refine bool_split y127 (fun p128 => ?_) (fun p128 => ?_)
    · replace h := ite_T p128 h
      rw [p128]
      refine rz rfl rfl ?_
      refine rz rfl rfl ?_
      refine rz rfl rfl ?_
      refine ro rfl rfl (st_pickT rfl rfl) ?_
      refine rw_nil ?_
      refine nx_then ?_
      exact J114 true () _ _ h (gh_frz rfl rfl ⟨⟨_, rfl, .keep rfl⟩, ⟨_, rfl, .keep rfl⟩, ⟨_, rfl, .keep rfl⟩, ⟨_, rfl, .keep rfl⟩, trivial⟩ ⟨⟨_, rfl, objOne ⟨⟨rfl, .keep rfl⟩, ⟨rfl, .keep rfl⟩, trivial⟩⟩, trivial⟩)
    · replace h := ite_F p128 h
      rw [p128]
      refine ro rfl rfl (st_mv rfl) ?_
      refine ro rfl rfl (st_lenD rfl un28) ?_
      refine ro rfl rfl (st_bin (v := dB (decide (((a1.length : Nat) : Int) > (100 : Int)))) rfl rfl rfl) ?_
      refine ro rfl rfl (st_pickF rfl rfl) ?_
      refine rw_nil ?_
      refine nx_then ?_
      exact J114 (decide (((a1.length : Nat) : Int) > (100 : Int))) () _ _ h (gh_frz rfl rfl ⟨⟨_, rfl, .keep rfl⟩, ⟨_, rfl, .keep rfl⟩, ⟨_, rfl, .keep rfl⟩, ⟨_, rfl, .keep rfl⟩, trivial⟩ ⟨⟨_, rfl, objOne ⟨⟨rfl, .keep rfl⟩, ⟨rfl, .keep rfl⟩, trivial⟩⟩, trivial⟩)
end Go.Sk.X
