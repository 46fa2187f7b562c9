/- The program computes these plain functions (law ProofBytes, part 2). It has no conditions. -/
import Derived.Test.YtehfobeocanbfaaXProofBytesP1
set_option linter.unusedVariables false
set_option linter.unusedSimpArgs false
set_option maxRecDepth 100000
set_option maxHeartbeats 4000000
namespace Go.Sk.X
open Go Go.Sk Go.Proofs
theorem ok_skolemref10_Get {a0 : (List Int)} {r : (S_api_Proof × Int)} (h : F_skolemref10_Get a0 = some r) : Fn Try.prog 41 [dL 1 (eI .u8) a0] (.tup [.agg [dB r.1.Cubes, dL 5 e_S_api_Line r.1.Lines], dI .i64 r.2]) := by
  unfold F_skolemref10_Get at h
  refine Fn.of_body (N := 132) (rs := [.cell 2 25, .tmp 3]) Try.func41 (c := _) rfl rfl rfl (by kernel_rfl) (Nat.le_of_ble_eq_true rfl) (fun _B => ?_)
  refine awp_rs ?_
  refine rn (r := 1001) rfl rfl (st_alloc zc25 rfl rfl) rfl ?_
  refine ro rfl rfl (st_as rfl) ?_
  refine rw_nilk ?_
  refine awp_rs ?_
  refine ro rfl rfl (st_mv rfl) ?_
  refine ro rfl rfl (st_build (vs := [dL 1 (eI .u8) a0, dB false]) bl107 rfl rfl) ?_
  refine rn (r := 1002) rfl rfl (st_box rfl rfl rfl co107 rfl rfl) rfl ?_
  refine ro rfl rfl (st_as rfl) ?_
  refine rw_nilk ?_
  refine awp_seq ?_
  refine awp_jn (fun (s129 : (Bool × (List Int) × Bool)) (g130 : Unit) => [(2, .ptr 1001 0 0 0), (4, .ptr 1002 0 0 0), (27, dB s129.1)]) (fun (s129 : (Bool × (List Int) × Bool)) (g130 : Unit) => [(1001, .row 0 25 [[dB false, .nilS]]), (1002, .row 0 107 [[dL 1 (eI .u8) s129.2.1, dB s129.2.2]])]) h ?_ ?_
  · clear h
    intro s129 g130 h
    refine awp_ite (b := s129.1) rfl (fun p132 => ?_) (fun p132 => ?_)
    · replace h := ite_T p132 h
      refine awp_rs ?_
      refine ro rfl rfl (st_build (vs := [dB false, .nilS]) bl25 rfl rfl) ?_
      refine rx (L' := [(1001, .row 0 25 [[dB false, .nilS]]), (1002, .row 0 107 [[dL 1 (eI .u8) s129.2.1, dB s129.2.2]])]) rfl rfl (st_stP ta25 rfl rfl rfl rfl rfl rfl rfl rfl) rfl ?_
      refine ro rfl rfl (st_as rfl) ?_
      refine rw_nilk ?_
      refine awp_ret ?_
      refine rt_then ?_
      injection h with h
      subst h
      exact ret_out (v := .tup [.agg [dB false, .nilS], dI .i64 (5 : Int)]) (resV_many (resVs_cell (v := .agg [dB false, .nilS]) ta25 rfl rfl rfl rfl (resVs_tmp rfl resVs_nil))) (frz_tup ⟨(frz_agg ⟨(.keep rfl), (.nilS _), trivial⟩), (.keep rfl), trivial⟩)
    · replace h := ite_F p132 h
      refine awp_skip ?_
      refine nx_then ?_
      refine awp_rs ?_
      refine ro rfl rfl (st_mv rfl) ?_
      obtain ⟨y133, hy133, h⟩ := bind_some_elim h
      refine rcall (v := dI .u8 y133.1) (L0 := [(1002, .row 0 107 [[dL 1 (eI .u8) s129.2.1, dB s129.2.2]])]) (L1 := [(1002, .row 0 107 [[dL 1 (eI .u8) y133.2.B, dB y133.2.Bad]])]) (L' := [(1001, .row 0 25 [[dB false, .nilS]]), (1002, .row 0 107 [[dL 1 (eI .u8) y133.2.B, dB y133.2.Bad]])]) rfl rfl rfl rfl (om_skolemref10_reader_one hy133) ⟨rfl, trivial⟩ rfl ⟨rfl, trivial⟩ rfl rfl ?_
      refine ro rfl rfl (st_as rfl) ?_
      refine rw_nilk ?_
      refine awp_rs ?_
      refine ro rfl rfl (st_mv rfl) ?_
      obtain ⟨y135, hy135, h⟩ := bind_some_elim h
      refine rcall (v := dI .i64 y135.1) (L0 := [(1002, .row 0 107 [[dL 1 (eI .u8) y133.2.B, dB y133.2.Bad]])]) (L1 := [(1002, .row 0 107 [[dL 1 (eI .u8) y135.2.B, dB y135.2.Bad]])]) (L' := [(1001, .row 0 25 [[dB false, .nilS]]), (1002, .row 0 107 [[dL 1 (eI .u8) y135.2.B, dB y135.2.Bad]])]) rfl rfl rfl rfl (om_skolemref10_reader_number hy135) ⟨rfl, trivial⟩ rfl ⟨rfl, trivial⟩ rfl rfl ?_
      refine ro rfl rfl (st_as rfl) ?_
      refine rw_nilk ?_
      refine awp_seq ?_
      refine awp_jn (fun (s150 : (Bool × Bool)) (g151 : Unit) => [(2, .ptr 1001 0 0 0), (4, .ptr 1002 0 0 0), (5, dI .u8 y133.1), (6, dI .i64 y135.1), (48, dB s150.1)]) (fun (s150 : (Bool × Bool)) (g151 : Unit) => [(1001, .row 0 25 [[dB false, .nilS]]), (1002, .row 0 107 [[dL 1 (eI .u8) y135.2.B, dB s150.2]])]) h ?_ ?_
      · clear h
        intro s150 g151 h
        refine awp_ite (b := s150.1) rfl (fun p153 => ?_) (fun p153 => ?_)
        · replace h := ite_T p153 h
          refine awp_rs ?_
          refine ro rfl rfl (st_build (vs := [dB false, .nilS]) bl25 rfl rfl) ?_
          refine rx (L' := [(1001, .row 0 25 [[dB false, .nilS]]), (1002, .row 0 107 [[dL 1 (eI .u8) y135.2.B, dB s150.2]])]) rfl rfl (st_stP ta25 rfl rfl rfl rfl rfl rfl rfl rfl) rfl ?_
          refine ro rfl rfl (st_as rfl) ?_
          refine rw_nilk ?_
          refine awp_ret ?_
          refine rt_then ?_
          injection h with h
          subst h
          exact ret_out (v := .tup [.agg [dB false, .nilS], dI .i64 (5 : Int)]) (resV_many (resVs_cell (v := .agg [dB false, .nilS]) ta25 rfl rfl rfl rfl (resVs_tmp rfl resVs_nil))) (frz_tup ⟨(frz_agg ⟨(.keep rfl), (.nilS _), trivial⟩), (.keep rfl), trivial⟩)
        · replace h := ite_F p153 h
          refine awp_skip ?_
          refine nx_then ?_
          refine awp_rs ?_
          refine ro rfl rfl (st_mv rfl) ?_
          refine ro rfl rfl (st_bin (v := dB (y133.1 == (1 : Int))) rfl rfl rfl) ?_
          refine ro rfl rfl (st_build (vs := [dB (y133.1 == (1 : Int)), .nilS]) bl25 rfl rfl) ?_
          refine rn (r := 1003) rfl rfl (st_alloc zc25 rfl rfl) rfl ?_
          refine rx (L' := [(1001, .row 0 25 [[dB false, .nilS]]), (1002, .row 0 107 [[dL 1 (eI .u8) y135.2.B, dB s150.2]]), (1003, .row 0 25 [[dB (y133.1 == (1 : Int)), .nilS]])]) rfl rfl (st_stP ta25 rfl rfl rfl rfl rfl rfl rfl rfl) rfl ?_
          refine rw_nilk ?_
          refine awp_jn (fun (s1479 : ((List Int) × Bool × (List S_api_Line))) (g1480 : Nat) => [(2, .ptr 1001 0 0 0), (4, .ptr 1002 0 0 0), (7, .ptr 1003 0 0 0)]) (fun (s1479 : ((List Int) × Bool × (List S_api_Line))) (g1480 : Nat) => [(1001, .row 0 25 [[dB false, .nilS]]), (1002, .row 0 107 [[dL 1 (eI .u8) s1479.1, dB s1479.2.1]]), (1003, .row 0 25 [[dB (y133.1 == (1 : Int)), .slice 1009 g1480 0 s1479.2.2.length]]), (1009, rw' g1480 58 e_S_api_Line s1479.2.2)]) h ?_ ?_
          · clear h
            intro s1479 g1480 h
            refine awp_seq ?_
            refine awp_jn (fun (s1489 : Bool) (g1490 : Unit) => [(2, .ptr 1001 0 0 0), (7, .ptr 1003 0 0 0), (129, dB s1489)]) (fun (s1489 : Bool) (g1490 : Unit) => [(1001, .row 0 25 [[dB false, .nilS]]), (1003, .row 0 25 [[dB (y133.1 == (1 : Int)), .slice 1009 g1480 0 s1479.2.2.length]]), (1009, rw' g1480 58 e_S_api_Line s1479.2.2)]) h ?_ ?_
            · clear h
              intro s1489 g1490 h
              refine awp_ite (b := s1489) rfl (fun p1492 => ?_) (fun p1492 => ?_)
              · replace h := ite_T p1492 h
                refine awp_rs ?_
                refine ro rfl rfl (st_build (vs := [dB false, .nilS]) bl25 rfl rfl) ?_
                refine rx (L' := [(1001, .row 0 25 [[dB false, .nilS]]), (1003, .row 0 25 [[dB (y133.1 == (1 : Int)), .slice 1009 g1480 0 s1479.2.2.length]]), (1009, rw' g1480 58 e_S_api_Line s1479.2.2)]) rfl rfl (st_stP ta25 rfl rfl rfl rfl rfl rfl rfl rfl) rfl ?_
                refine ro rfl rfl (st_as rfl) ?_
                refine rw_nilk ?_
                refine awp_ret ?_
                refine rt_then ?_
                injection h with h
                subst h
                exact ret_out (v := .tup [.agg [dB false, .nilS], dI .i64 (5 : Int)]) (resV_many (resVs_cell (v := .agg [dB false, .nilS]) ta25 rfl rfl rfl rfl (resVs_tmp rfl resVs_nil))) (frz_tup ⟨(frz_agg ⟨(.keep rfl), (.nilS _), trivial⟩), (.keep rfl), trivial⟩)
              · replace h := ite_F p1492 h
                refine awp_skip ?_
                refine nx_then ?_
                refine awp_rs ?_
                refine ro rfl rfl (st_ldP (v := .agg [dB (y133.1 == (1 : Int)), .slice 1009 g1480 0 s1479.2.2.length]) ta25 rfl rfl rfl rfl) ?_
                refine rx (L' := [(1001, .row 0 25 [[dB (y133.1 == (1 : Int)), .slice 1009 g1480 0 s1479.2.2.length]]), (1003, .row 0 25 [[dB (y133.1 == (1 : Int)), .slice 1009 g1480 0 s1479.2.2.length]]), (1009, rw' g1480 58 e_S_api_Line s1479.2.2)]) rfl rfl (st_stP ta25 rfl rfl rfl rfl rfl rfl rfl rfl) rfl ?_
                refine ro rfl rfl (st_as rfl) ?_
                refine rw_nilk ?_
                refine awp_ret ?_
                injection h with h
                subst h
                exact ret_out (v := .tup [.agg [dB (y133.1 == (1 : Int)), .slice 1009 g1480 0 s1479.2.2.length], dI .i64 (0 : Int)]) (resV_many (resVs_cell (v := .agg [dB (y133.1 == (1 : Int)), .slice 1009 g1480 0 s1479.2.2.length]) ta25 rfl rfl rfl rfl (resVs_tmp rfl resVs_nil))) (frz_tup ⟨(frz_agg ⟨(.keep rfl), (frzT rfl rfl co58 rfl), trivial⟩), (.keep rfl), trivial⟩)
            · clear h
              intro k1491 h J1491
              refine awp_rw ?_
              refine ro rfl rfl (st_mv rfl) ?_
              refine ro rfl rfl (st_nilP rfl) ?_
              refine ro rfl rfl (st_faP fo107_1 rfl) ?_
              refine ro rfl rfl (st_ldP (v := dB s1479.2.1) ta4 rfl rfl rfl rfl) ?_
              refine ro rfl rfl (st_mv rfl) ?_
              refine bool_split s1479.2.1 (fun p1493 => ?_) (fun p1493 => ?_)
              · replace h := ite_T p1493 h
                rw [p1493]
                refine rz rfl rfl ?_
                refine rz rfl rfl ?_
                refine rz rfl rfl ?_
                refine rz rfl rfl ?_
                refine rz rfl rfl ?_
                refine rz rfl rfl ?_
                refine ro rfl rfl (st_pickT rfl rfl) ?_
                refine rw_nil ?_
                refine nx_then ?_
                exact J1491 true () _ _ h (gh_frz rfl rfl ⟨⟨_, rfl, .keep rfl⟩, ⟨_, rfl, .keep rfl⟩, ⟨_, rfl, .keep rfl⟩, trivial⟩ ⟨⟨_, rfl, objOne ⟨⟨rfl, .keep rfl⟩, ⟨rfl, .keep rfl⟩, trivial⟩⟩, ⟨_, rfl, objOne ⟨⟨rfl, .keep rfl⟩, ⟨rfl, .keep rfl⟩, trivial⟩⟩, ⟨_, rfl, objRow _⟩, trivial⟩)
              · replace h := ite_F p1493 h
                rw [p1493]
                refine ro rfl rfl (st_mv rfl) ?_
                refine ro rfl rfl (st_nilP rfl) ?_
                refine ro rfl rfl (st_faP fo107_0 rfl) ?_
                refine ro rfl rfl (st_ldP (v := dL 1 (eI .u8) s1479.1) ta67 rfl rfl rfl rfl) ?_
                refine ro rfl rfl (st_lenD rfl un67) ?_
                refine ro rfl rfl (st_bin (v := dB (decide (((s1479.1.length : Nat) : Int) > (0 : Int)))) rfl rfl rfl) ?_
                refine ro rfl rfl (st_pickF rfl rfl) ?_
                refine rw_nil ?_
                refine nx_then ?_
                exact J1491 (decide (((s1479.1.length : Nat) : Int) > (0 : Int))) () _ _ h (gh_frz rfl rfl ⟨⟨_, rfl, .keep rfl⟩, ⟨_, rfl, .keep rfl⟩, ⟨_, rfl, .keep rfl⟩, trivial⟩ ⟨⟨_, rfl, objOne ⟨⟨rfl, .keep rfl⟩, ⟨rfl, .keep rfl⟩, trivial⟩⟩, ⟨_, rfl, objOne ⟨⟨rfl, .keep rfl⟩, ⟨rfl, .keep rfl⟩, trivial⟩⟩, ⟨_, rfl, objRow _⟩, trivial⟩)
          · clear h
            intro k1481 h J1481
            refine awp_rs ?_
            refine ro rfl rfl (st_as rfl) ?_
            refine rw_nilk ?_
            refine awp_block ?_
            refine awp_while (fun (s1494 : (Int × (List Int) × Bool × (List S_api_Line))) (g1495 : Nat) => [(2, .ptr 1001 0 0 0), (4, .ptr 1002 0 0 0), (6, dI .i64 y135.1), (7, .ptr 1003 0 0 0), (8, dI .i64 s1494.1)]) (fun (s1494 : (Int × (List Int) × Bool × (List S_api_Line))) (g1495 : Nat) => [(1001, .row 0 25 [[dB false, .nilS]]), (1002, .row 0 107 [[dL 1 (eI .u8) s1494.2.1, dB s1494.2.2.1]]), (1003, .row 0 25 [[dB (y133.1 == (1 : Int)), .slice 1009 g1495 0 s1494.2.2.2.length]]), (1009, rw' g1495 58 e_S_api_Line s1494.2.2.2)]) 0 (fun _ _ _ h => h) h (Gh.trans (gh_nil (r := 1009) (E' := [(2, .ptr 1001 0 0 0), (4, .ptr 1002 0 0 0), (6, dI .i64 y135.1), (7, .ptr 1003 0 0 0), (8, dI .i64 (0 : Int))]) (L' := [(1001, .row 0 25 [[dB false, .nilS]]), (1002, .row 0 107 [[dL 1 (eI .u8) y135.2.B, dB s150.2]]), (1003, .row 0 25 [[dB (y133.1 == (1 : Int)), .slice 1009 0 0 (([] : List S_api_Line).length)]])]) rfl co58 rfl rfl ⟨⟨_, rfl, .keep _⟩, ⟨_, rfl, .keep _⟩, ⟨_, rfl, .keep _⟩, ⟨_, rfl, .keep _⟩, ⟨_, rfl, .keep _⟩, trivial⟩ ⟨⟨_, rfl, .keep _⟩, ⟨_, rfl, .keep _⟩, ⟨_, rfl, nilOne ⟨.keep _, .nil, trivial⟩⟩, trivial⟩) (gh_frz rfl rfl ⟨⟨_, rfl, .keep rfl⟩, ⟨_, rfl, .keep rfl⟩, ⟨_, rfl, .keep rfl⟩, ⟨_, rfl, .keep rfl⟩, ⟨_, rfl, .keep rfl⟩, trivial⟩ ⟨⟨_, rfl, objOne ⟨⟨rfl, .keep rfl⟩, ⟨rfl, .keep rfl⟩, trivial⟩⟩, ⟨_, rfl, objOne ⟨⟨rfl, .keep rfl⟩, ⟨rfl, .keep rfl⟩, trivial⟩⟩, ⟨_, rfl, objOne ⟨⟨rfl, .keep rfl⟩, ⟨rfl, .keep rfl⟩, trivial⟩⟩, ⟨_, rfl, objRow (List.map e_S_api_Line ([] : List S_api_Line))⟩, trivial⟩)) ?_
            clear h
            intro s1494 g1495 k1496 h ih1496
            refine awp_seq ?_
            refine awp_jn (fun (s2496 : Bool) (g2497 : Unit) => [(2, .ptr 1001 0 0 0), (4, .ptr 1002 0 0 0), (6, dI .i64 y135.1), (7, .ptr 1003 0 0 0), (8, dI .i64 s1494.1), (62, dB s2496)]) (fun (s2496 : Bool) (g2497 : Unit) => [(1001, .row 0 25 [[dB false, .nilS]]), (1002, .row 0 107 [[dL 1 (eI .u8) s1494.2.1, dB s1494.2.2.1]]), (1003, .row 0 25 [[dB (y133.1 == (1 : Int)), .slice 1009 g1495 0 s1494.2.2.2.length]]), (1009, rw' g1495 58 e_S_api_Line s1494.2.2.2)]) h ?_ ?_
            · clear h
              intro s2496 g2497 h
              refine awp_ite (b := s2496) rfl (fun p2499 => ?_) (fun p2499 => ?_)
              · replace h := ite_T p2499 h
                refine awp_skip ?_
                refine nx_then ?_
                refine awp_seq ?_
                refine awp_block ?_
                refine awp_rs ?_
                refine ro rfl rfl (st_mv rfl) ?_
                obtain ⟨y2659, hy2659, h⟩ := bind_some_elim h
                refine rcall (v := dI .u8 y2659.1) (L0 := [(1002, .row 0 107 [[dL 1 (eI .u8) s1494.2.1, dB s1494.2.2.1]])]) (L1 := [(1002, .row 0 107 [[dL 1 (eI .u8) y2659.2.B, dB y2659.2.Bad]])]) (L' := [(1001, .row 0 25 [[dB false, .nilS]]), (1002, .row 0 107 [[dL 1 (eI .u8) y2659.2.B, dB y2659.2.Bad]]), (1003, .row 0 25 [[dB (y133.1 == (1 : Int)), .slice 1009 g1495 0 s1494.2.2.2.length]]), (1009, rw' g1495 58 e_S_api_Line s1494.2.2.2)]) rfl rfl rfl rfl (om_skolemref10_reader_one hy2659) ⟨rfl, trivial⟩ rfl ⟨rfl, trivial⟩ rfl rfl ?_
                refine ro rfl rfl (st_build (vs := [dI .u8 y2659.1, dI .i64 (0 : Int), dI .i64 (0 : Int), dI .i64 (0 : Int), .nilS]) bl58 rfl rfl) ?_
                refine rn (r := 1010) rfl rfl (st_alloc zc58 rfl rfl) rfl ?_
                refine rx (L' := [(1001, .row 0 25 [[dB false, .nilS]]), (1002, .row 0 107 [[dL 1 (eI .u8) y2659.2.B, dB y2659.2.Bad]]), (1003, .row 0 25 [[dB (y133.1 == (1 : Int)), .slice 1009 g1495 0 s1494.2.2.2.length]]), (1009, rw' g1495 58 e_S_api_Line s1494.2.2.2), (1010, .row 0 58 [[dI .u8 y2659.1, dI .i64 (0 : Int), dI .i64 (0 : Int), dI .i64 (0 : Int), .nilS]])]) rfl rfl (st_stP ta58 rfl rfl rfl rfl rfl rfl rfl rfl) rfl ?_
                refine rw_nilk ?_
                refine awp_rs ?_
                refine ro rfl rfl (st_mv rfl) ?_
                obtain ⟨y2661, hy2661, h⟩ := bind_some_elim h
                refine rcall (v := dI .i64 y2661.1) (L0 := [(1002, .row 0 107 [[dL 1 (eI .u8) y2659.2.B, dB y2659.2.Bad]])]) (L1 := [(1002, .row 0 107 [[dL 1 (eI .u8) y2661.2.B, dB y2661.2.Bad]])]) (L' := [(1001, .row 0 25 [[dB false, .nilS]]), (1002, .row 0 107 [[dL 1 (eI .u8) y2661.2.B, dB y2661.2.Bad]]), (1003, .row 0 25 [[dB (y133.1 == (1 : Int)), .slice 1009 g1495 0 s1494.2.2.2.length]]), (1009, rw' g1495 58 e_S_api_Line s1494.2.2.2), (1010, .row 0 58 [[dI .u8 y2659.1, dI .i64 (0 : Int), dI .i64 (0 : Int), dI .i64 (0 : Int), .nilS]])]) rfl rfl rfl rfl (om_skolemref10_reader_number hy2661) ⟨rfl, trivial⟩ rfl ⟨rfl, trivial⟩ rfl rfl ?_
                refine ro rfl rfl (st_faP fo58_1 rfl) ?_
                refine rx (L' := [(1001, .row 0 25 [[dB false, .nilS]]), (1002, .row 0 107 [[dL 1 (eI .u8) y2661.2.B, dB y2661.2.Bad]]), (1003, .row 0 25 [[dB (y133.1 == (1 : Int)), .slice 1009 g1495 0 s1494.2.2.2.length]]), (1009, rw' g1495 58 e_S_api_Line s1494.2.2.2), (1010, .row 0 58 [[dI .u8 y2659.1, dI .i64 y2661.1, dI .i64 (0 : Int), dI .i64 (0 : Int), .nilS]])]) rfl rfl (st_stP ta3 rfl rfl rfl rfl rfl rfl rfl rfl) rfl ?_
                refine rw_nilk ?_
                refine awp_rs ?_
                refine ro rfl rfl (st_mv rfl) ?_
                obtain ⟨y2663, hy2663, h⟩ := bind_some_elim h
                refine rcall (v := dI .i64 y2663.1) (L0 := [(1002, .row 0 107 [[dL 1 (eI .u8) y2661.2.B, dB y2661.2.Bad]])]) (L1 := [(1002, .row 0 107 [[dL 1 (eI .u8) y2663.2.B, dB y2663.2.Bad]])]) (L' := [(1001, .row 0 25 [[dB false, .nilS]]), (1002, .row 0 107 [[dL 1 (eI .u8) y2663.2.B, dB y2663.2.Bad]]), (1003, .row 0 25 [[dB (y133.1 == (1 : Int)), .slice 1009 g1495 0 s1494.2.2.2.length]]), (1009, rw' g1495 58 e_S_api_Line s1494.2.2.2), (1010, .row 0 58 [[dI .u8 y2659.1, dI .i64 y2661.1, dI .i64 (0 : Int), dI .i64 (0 : Int), .nilS]])]) rfl rfl rfl rfl (om_skolemref10_reader_number hy2663) ⟨rfl, trivial⟩ rfl ⟨rfl, trivial⟩ rfl rfl ?_
                refine ro rfl rfl (st_faP fo58_2 rfl) ?_
                refine rx (L' := [(1001, .row 0 25 [[dB false, .nilS]]), (1002, .row 0 107 [[dL 1 (eI .u8) y2663.2.B, dB y2663.2.Bad]]), (1003, .row 0 25 [[dB (y133.1 == (1 : Int)), .slice 1009 g1495 0 s1494.2.2.2.length]]), (1009, rw' g1495 58 e_S_api_Line s1494.2.2.2), (1010, .row 0 58 [[dI .u8 y2659.1, dI .i64 y2661.1, dI .i64 y2663.1, dI .i64 (0 : Int), .nilS]])]) rfl rfl (st_stP ta3 rfl rfl rfl rfl rfl rfl rfl rfl) rfl ?_
                refine rw_nilk ?_
                refine awp_rs ?_
                refine ro rfl rfl (st_mv rfl) ?_
                obtain ⟨y2665, hy2665, h⟩ := bind_some_elim h
                refine rcall (v := dI .i64 y2665.1) (L0 := [(1002, .row 0 107 [[dL 1 (eI .u8) y2663.2.B, dB y2663.2.Bad]])]) (L1 := [(1002, .row 0 107 [[dL 1 (eI .u8) y2665.2.B, dB y2665.2.Bad]])]) (L' := [(1001, .row 0 25 [[dB false, .nilS]]), (1002, .row 0 107 [[dL 1 (eI .u8) y2665.2.B, dB y2665.2.Bad]]), (1003, .row 0 25 [[dB (y133.1 == (1 : Int)), .slice 1009 g1495 0 s1494.2.2.2.length]]), (1009, rw' g1495 58 e_S_api_Line s1494.2.2.2), (1010, .row 0 58 [[dI .u8 y2659.1, dI .i64 y2661.1, dI .i64 y2663.1, dI .i64 (0 : Int), .nilS]])]) rfl rfl rfl rfl (om_skolemref10_reader_number hy2665) ⟨rfl, trivial⟩ rfl ⟨rfl, trivial⟩ rfl rfl ?_
                refine ro rfl rfl (st_faP fo58_3 rfl) ?_
                refine rx (L' := [(1001, .row 0 25 [[dB false, .nilS]]), (1002, .row 0 107 [[dL 1 (eI .u8) y2665.2.B, dB y2665.2.Bad]]), (1003, .row 0 25 [[dB (y133.1 == (1 : Int)), .slice 1009 g1495 0 s1494.2.2.2.length]]), (1009, rw' g1495 58 e_S_api_Line s1494.2.2.2), (1010, .row 0 58 [[dI .u8 y2659.1, dI .i64 y2661.1, dI .i64 y2663.1, dI .i64 y2665.1, .nilS]])]) rfl rfl (st_stP ta3 rfl rfl rfl rfl rfl rfl rfl rfl) rfl ?_
                refine rw_nilk ?_
                refine awp_rs ?_
                refine ro rfl rfl (st_mv rfl) ?_
                obtain ⟨y2667, hy2667, h⟩ := bind_some_elim h
                refine rcall (v := dI .i64 y2667.1) (L0 := [(1002, .row 0 107 [[dL 1 (eI .u8) y2665.2.B, dB y2665.2.Bad]])]) (L1 := [(1002, .row 0 107 [[dL 1 (eI .u8) y2667.2.B, dB y2667.2.Bad]])]) (L' := [(1001, .row 0 25 [[dB false, .nilS]]), (1002, .row 0 107 [[dL 1 (eI .u8) y2667.2.B, dB y2667.2.Bad]]), (1003, .row 0 25 [[dB (y133.1 == (1 : Int)), .slice 1009 g1495 0 s1494.2.2.2.length]]), (1009, rw' g1495 58 e_S_api_Line s1494.2.2.2), (1010, .row 0 58 [[dI .u8 y2659.1, dI .i64 y2661.1, dI .i64 y2663.1, dI .i64 y2665.1, .nilS]])]) rfl rfl rfl rfl (om_skolemref10_reader_number hy2667) ⟨rfl, trivial⟩ rfl ⟨rfl, trivial⟩ rfl rfl ?_
                refine ro rfl rfl (st_as rfl) ?_
                refine rw_nilk ?_
                refine awp_jn (fun (s2675 : Bool) (g2676 : Unit) => [(2, .ptr 1001 0 0 0), (4, .ptr 1002 0 0 0), (6, dI .i64 y135.1), (7, .ptr 1003 0 0 0), (8, dI .i64 s1494.1), (9, .ptr 1010 0 0 0), (10, dI .i64 y2667.1)]) (fun (s2675 : Bool) (g2676 : Unit) => [(1001, .row 0 25 [[dB false, .nilS]]), (1002, .row 0 107 [[dL 1 (eI .u8) y2667.2.B, dB s2675]]), (1003, .row 0 25 [[dB (y133.1 == (1 : Int)), .slice 1009 g1495 0 s1494.2.2.2.length]]), (1009, rw' g1495 58 e_S_api_Line s1494.2.2.2), (1010, .row 0 58 [[dI .u8 y2659.1, dI .i64 y2661.1, dI .i64 y2663.1, dI .i64 y2665.1, .nilS]])]) h ?_ ?_
                · clear h
                  intro s2675 g2676 h
                  refine awp_jn (fun (s2743 : ((List Int) × Bool × (List Int))) (g2744 : Nat) => [(2, .ptr 1001 0 0 0), (4, .ptr 1002 0 0 0), (6, dI .i64 y135.1), (7, .ptr 1003 0 0 0), (8, dI .i64 s1494.1), (9, .ptr 1010 0 0 0)]) (fun (s2743 : ((List Int) × Bool × (List Int))) (g2744 : Nat) => [(1001, .row 0 25 [[dB false, .nilS]]), (1002, .row 0 107 [[dL 1 (eI .u8) s2743.1, dB s2743.2.1]]), (1003, .row 0 25 [[dB (y133.1 == (1 : Int)), .slice 1009 g1495 0 s1494.2.2.2.length]]), (1009, rw' g1495 58 e_S_api_Line s1494.2.2.2), (1010, .row 0 58 [[dI .u8 y2659.1, dI .i64 y2661.1, dI .i64 y2663.1, dI .i64 y2665.1, .slice 1012 g2744 0 s2743.2.2.length]]), (1012, rw' g2744 3 (eI .i64) s2743.2.2)]) h ?_ ?_
                  · clear h
                    intro s2743 g2744 h
                    refine awp_rw ?_
                    refine ro rfl rfl (st_faP fo25_1 rfl) ?_
                    refine ro rfl rfl (st_ldP (v := .slice 1009 g1495 0 s1494.2.2.2.length) ta23 rfl rfl rfl rfl) ?_
                    refine ro rfl rfl (st_ldP (v := .agg [dI .u8 y2659.1, dI .i64 y2661.1, dI .i64 y2663.1, dI .i64 y2665.1, .slice 1012 g2744 0 s2743.2.2.length]) ta58 rfl rfl rfl rfl) ?_
                    refine rn (r := 1014) rfl rfl (st_bsl (els := [[dI .u8 y2659.1, dI .i64 y2661.1, dI .i64 y2663.1, dI .i64 y2665.1, .slice 1012 g2744 0 s2743.2.2.length]]) sl23 zc58 rfl rfl rfl rfl rfl) rfl ?_
                    refine RW.gh (gh_frz (E' := [(2, .ptr 1001 0 0 0), (4, .ptr 1002 0 0 0), (6, dI .i64 y135.1), (7, .ptr 1003 0 0 0), (8, dI .i64 s1494.1), (113, .slice 1009 g1495 0 s1494.2.2.2.length), (115, .slice 1014 1 0 1)]) (L' := [(1001, .row 0 25 [[dB false, .nilS]]), (1002, .row 0 107 [[dL 1 (eI .u8) s2743.1, dB s2743.2.1]]), (1003, .row 0 25 [[dB (y133.1 == (1 : Int)), .slice 1009 g1495 0 s1494.2.2.2.length]]), (1009, rw' g1495 58 e_S_api_Line s1494.2.2.2), (1010, .row 0 58 [[dI .u8 y2659.1, dI .i64 y2661.1, dI .i64 y2663.1, dI .i64 y2665.1, dL 1 (eI .i64) s2743.2.2]]), (1014, .row 1 58 [[dI .u8 y2659.1, dI .i64 y2661.1, dI .i64 y2663.1, dI .i64 y2665.1, dL 1 (eI .i64) s2743.2.2]])]) rfl rfl ⟨⟨_, rfl, .keep rfl⟩, ⟨_, rfl, .keep rfl⟩, ⟨_, rfl, .keep rfl⟩, ⟨_, rfl, .keep rfl⟩, ⟨_, rfl, .keep rfl⟩, ⟨_, rfl, .keep rfl⟩, ⟨_, rfl, .keep rfl⟩, trivial⟩ ⟨⟨_, rfl, objOne ⟨⟨rfl, .keep rfl⟩, ⟨rfl, .keep rfl⟩, trivial⟩⟩, ⟨_, rfl, objOne ⟨⟨rfl, .keep rfl⟩, ⟨rfl, .keep rfl⟩, trivial⟩⟩, ⟨_, rfl, objOne ⟨⟨rfl, .keep rfl⟩, ⟨rfl, .keep rfl⟩, trivial⟩⟩, ⟨_, rfl, objRow _⟩, ⟨_, rfl, objOne ⟨⟨rfl, .keep rfl⟩, ⟨rfl, .keep rfl⟩, ⟨rfl, .keep rfl⟩, ⟨rfl, .keep rfl⟩, ⟨rfl, frzT rfl rfl co3 rfl⟩, trivial⟩⟩, ⟨_, rfl, objOne ⟨⟨rfl, .keep rfl⟩, ⟨rfl, .keep rfl⟩, ⟨rfl, .keep rfl⟩, ⟨rfl, .keep rfl⟩, ⟨rfl, frzT rfl rfl co3 rfl⟩, trivial⟩⟩, trivial⟩) ?_
                    obtain ⟨c2746, h⟩ := capN_some h
                    refine rn (r := 0) (L' := [(1001, .row 0 25 [[dB false, .nilS]]), (1002, .row 0 107 [[dL 1 (eI .u8) s2743.1, dB s2743.2.1]]), (1003, .row 0 25 [[dB (y133.1 == (1 : Int)), .slice 1009 g1495 0 s1494.2.2.2.length]]), (1009, rw' (g1495 + 2) 58 e_S_api_Line (s1494.2.2.2 ++ [(S_api_Line.mk y2659.1 y2661.1 y2663.1 y2665.1 s2743.2.2)])), (1010, .row 0 58 [[dI .u8 y2659.1, dI .i64 y2661.1, dI .i64 y2663.1, dI .i64 y2665.1, dL 1 (eI .i64) s2743.2.2]]), (1014, .row 1 58 [[dI .u8 y2659.1, dI .i64 y2661.1, dI .i64 y2663.1, dI .i64 y2665.1, dL 1 (eI .i64) s2743.2.2]])]) rfl rfl (st_appR (f := e_S_api_Line) (xs := s1494.2.2.2) (ys := [(S_api_Line.mk y2659.1 y2661.1 y2663.1 y2665.1 s2743.2.2)]) sl23 zc58 rfl rfl rfl rfl rfl (news_one (a := (S_api_Line.mk y2659.1 y2661.1 y2663.1 y2665.1 s2743.2.2)) rfl rfl) c2746) rfl ?_
                    refine ro rfl rfl (st_faP fo25_1 rfl) ?_
                    refine rx (L' := [(1001, .row 0 25 [[dB false, .nilS]]), (1002, .row 0 107 [[dL 1 (eI .u8) s2743.1, dB s2743.2.1]]), (1003, .row 0 25 [[dB (y133.1 == (1 : Int)), .slice 1009 (g1495 + 2) 0 ((s1494.2.2.2 ++ [(S_api_Line.mk y2659.1 y2661.1 y2663.1 y2665.1 s2743.2.2)]).length)]]), (1009, rw' (g1495 + 2) 58 e_S_api_Line (s1494.2.2.2 ++ [(S_api_Line.mk y2659.1 y2661.1 y2663.1 y2665.1 s2743.2.2)])), (1010, .row 0 58 [[dI .u8 y2659.1, dI .i64 y2661.1, dI .i64 y2663.1, dI .i64 y2665.1, dL 1 (eI .i64) s2743.2.2]]), (1014, .row 1 58 [[dI .u8 y2659.1, dI .i64 y2661.1, dI .i64 y2663.1, dI .i64 y2665.1, dL 1 (eI .i64) s2743.2.2]])]) rfl rfl (st_stP ta23 rfl rfl rfl rfl rfl rfl rfl rfl) rfl ?_
                    refine rw_nil ?_
                    refine nx_block ?_
                    refine nx_then ?_
                    refine awp_rw ?_
                    refine ro rfl rfl (st_mv rfl) ?_
                    refine ro rfl rfl (st_bin (v := dI .i64 (IntKind.wrap .i64 (s1494.1 + (1 : Int)))) rfl rfl rfl) ?_
                    refine ro rfl rfl (st_as rfl) ?_
                    refine rw_nil ?_
                    refine nx_then ?_
                    refine awp_gh ?_ (ih1496 ((IntKind.wrap .i64 (s1494.1 + (1 : Int))), s2743.1, s2743.2.1, (s1494.2.2.2 ++ [(S_api_Line.mk y2659.1 y2661.1 y2663.1 y2665.1 s2743.2.2)])) (g1495 + 2) h)
                    exact (gh_frz rfl rfl ⟨⟨_, rfl, .keep rfl⟩, ⟨_, rfl, .keep rfl⟩, ⟨_, rfl, .keep rfl⟩, ⟨_, rfl, .keep rfl⟩, ⟨_, rfl, .keep rfl⟩, trivial⟩ ⟨⟨_, rfl, objOne ⟨⟨rfl, .keep rfl⟩, ⟨rfl, .keep rfl⟩, trivial⟩⟩, ⟨_, rfl, objOne ⟨⟨rfl, .keep rfl⟩, ⟨rfl, .keep rfl⟩, trivial⟩⟩, ⟨_, rfl, objOne ⟨⟨rfl, .keep rfl⟩, ⟨rfl, .keep rfl⟩, trivial⟩⟩, ⟨_, rfl, objRow _⟩, trivial⟩)
                  · clear h
                    intro k2745 h J2745
                    refine awp_rs ?_
                    refine ro rfl rfl (st_as rfl) ?_
                    refine rw_nilk ?_
                    refine awp_block ?_
                    refine awp_while (fun (s2747 : (Int × (List Int) × Bool × (List Int))) (g2748 : Nat) => [(2, .ptr 1001 0 0 0), (4, .ptr 1002 0 0 0), (6, dI .i64 y135.1), (7, .ptr 1003 0 0 0), (8, dI .i64 s1494.1), (9, .ptr 1010 0 0 0), (10, dI .i64 y2667.1), (11, dI .i64 s2747.1)]) (fun (s2747 : (Int × (List Int) × Bool × (List Int))) (g2748 : Nat) => [(1001, .row 0 25 [[dB false, .nilS]]), (1002, .row 0 107 [[dL 1 (eI .u8) s2747.2.1, dB s2747.2.2.1]]), (1003, .row 0 25 [[dB (y133.1 == (1 : Int)), .slice 1009 g1495 0 s1494.2.2.2.length]]), (1009, rw' g1495 58 e_S_api_Line s1494.2.2.2), (1010, .row 0 58 [[dI .u8 y2659.1, dI .i64 y2661.1, dI .i64 y2663.1, dI .i64 y2665.1, .slice 1012 g2748 0 s2747.2.2.2.length]]), (1012, rw' g2748 3 (eI .i64) s2747.2.2.2)]) 0 (fun _ _ _ h => h) h (Gh.trans (gh_nil (r := 1012) (E' := [(2, .ptr 1001 0 0 0), (4, .ptr 1002 0 0 0), (6, dI .i64 y135.1), (7, .ptr 1003 0 0 0), (8, dI .i64 s1494.1), (9, .ptr 1010 0 0 0), (10, dI .i64 y2667.1), (11, dI .i64 (0 : Int))]) (L' := [(1001, .row 0 25 [[dB false, .nilS]]), (1002, .row 0 107 [[dL 1 (eI .u8) y2667.2.B, dB s2675]]), (1003, .row 0 25 [[dB (y133.1 == (1 : Int)), .slice 1009 g1495 0 s1494.2.2.2.length]]), (1009, rw' g1495 58 e_S_api_Line s1494.2.2.2), (1010, .row 0 58 [[dI .u8 y2659.1, dI .i64 y2661.1, dI .i64 y2663.1, dI .i64 y2665.1, .slice 1012 0 0 (([] : List Int).length)]])]) rfl co3 rfl rfl ⟨⟨_, rfl, .keep _⟩, ⟨_, rfl, .keep _⟩, ⟨_, rfl, .keep _⟩, ⟨_, rfl, .keep _⟩, ⟨_, rfl, .keep _⟩, ⟨_, rfl, .keep _⟩, ⟨_, rfl, .keep _⟩, ⟨_, rfl, .keep _⟩, trivial⟩ ⟨⟨_, rfl, .keep _⟩, ⟨_, rfl, .keep _⟩, ⟨_, rfl, .keep _⟩, ⟨_, rfl, .keep _⟩, ⟨_, rfl, nilOne ⟨.keep _, .keep _, .keep _, .keep _, .nil, trivial⟩⟩, trivial⟩) (gh_frz rfl rfl ⟨⟨_, rfl, .keep rfl⟩, ⟨_, rfl, .keep rfl⟩, ⟨_, rfl, .keep rfl⟩, ⟨_, rfl, .keep rfl⟩, ⟨_, rfl, .keep rfl⟩, ⟨_, rfl, .keep rfl⟩, ⟨_, rfl, .keep rfl⟩, ⟨_, rfl, .keep rfl⟩, trivial⟩ ⟨⟨_, rfl, objOne ⟨⟨rfl, .keep rfl⟩, ⟨rfl, .keep rfl⟩, trivial⟩⟩, ⟨_, rfl, objOne ⟨⟨rfl, .keep rfl⟩, ⟨rfl, .keep rfl⟩, trivial⟩⟩, ⟨_, rfl, objOne ⟨⟨rfl, .keep rfl⟩, ⟨rfl, .keep rfl⟩, trivial⟩⟩, ⟨_, rfl, objRow _⟩, ⟨_, rfl, objOne ⟨⟨rfl, .keep rfl⟩, ⟨rfl, .keep rfl⟩, ⟨rfl, .keep rfl⟩, ⟨rfl, .keep rfl⟩, ⟨rfl, .keep rfl⟩, trivial⟩⟩, ⟨_, rfl, objRow (List.map (eI .i64) ([] : List Int))⟩, trivial⟩)) ?_
                    clear h
                    intro s2747 g2748 k2749 h ih2749
                    refine awp_seq ?_
                    refine awp_jn (fun (s2804 : Bool) (g2805 : Unit) => [(2, .ptr 1001 0 0 0), (4, .ptr 1002 0 0 0), (6, dI .i64 y135.1), (7, .ptr 1003 0 0 0), (8, dI .i64 s1494.1), (9, .ptr 1010 0 0 0), (10, dI .i64 y2667.1), (11, dI .i64 s2747.1), (102, dB s2804)]) (fun (s2804 : Bool) (g2805 : Unit) => [(1001, .row 0 25 [[dB false, .nilS]]), (1002, .row 0 107 [[dL 1 (eI .u8) s2747.2.1, dB s2747.2.2.1]]), (1003, .row 0 25 [[dB (y133.1 == (1 : Int)), .slice 1009 g1495 0 s1494.2.2.2.length]]), (1009, rw' g1495 58 e_S_api_Line s1494.2.2.2), (1010, .row 0 58 [[dI .u8 y2659.1, dI .i64 y2661.1, dI .i64 y2663.1, dI .i64 y2665.1, .slice 1012 g2748 0 s2747.2.2.2.length]]), (1012, rw' g2748 3 (eI .i64) s2747.2.2.2)]) h ?_ ?_
                    · clear h
                      intro s2804 g2805 h
                      refine awp_ite (b := s2804) rfl (fun p2807 => ?_) (fun p2807 => ?_)
                      · replace h := ite_T p2807 h
                        refine awp_skip ?_
                        refine nx_then ?_
                        refine awp_seq ?_
                        refine awp_block ?_
                        refine awp_rd hmix ?_
                        refine do_ rfl rfl (st_faP fo58_4 rfl) rfl rfl rfl ?_
                        refine do_ rfl rfl (st_ldP (v := .slice 1012 g2748 0 s2747.2.2.2.length) ta28 rfl rfl rfl rfl) rfl rfl rfl ?_
                        refine do_ rfl rfl (st_mv rfl) rfl rfl rfl ?_
                        obtain ⟨y2808, hy2808, h⟩ := bind_some_elim h
                        refine dcall (v := dI .i64 y2808.1) (L0 := [(1002, .row 0 107 [[dL 1 (eI .u8) s2747.2.1, dB s2747.2.2.1]])]) (L1 := [(1002, .row 0 107 [[dL 1 (eI .u8) y2808.2.B, dB y2808.2.Bad]])]) (L' := [(1001, .row 0 25 [[dB false, .nilS]]), (1002, .row 0 107 [[dL 1 (eI .u8) y2808.2.B, dB y2808.2.Bad]]), (1003, .row 0 25 [[dB (y133.1 == (1 : Int)), .slice 1009 g1495 0 s1494.2.2.2.length]]), (1009, rw' g1495 58 e_S_api_Line s1494.2.2.2), (1010, .row 0 58 [[dI .u8 y2659.1, dI .i64 y2661.1, dI .i64 y2663.1, dI .i64 y2665.1, .slice 1012 g2748 0 s2747.2.2.2.length]]), (1012, rw' g2748 3 (eI .i64) s2747.2.2.2)]) rfl rfl rfl rfl (om_skolemref10_reader_number hy2808) ⟨rfl, trivial⟩ rfl ⟨rfl, trivial⟩ rfl rfl ?_
                        refine dn (r := 1013) rfl rfl (st_bsl (els := [[dI .i64 y2808.1]]) sl28 zc3 rfl rfl rfl rfl rfl) rfl rfl rfl rfl ?_
                        obtain ⟨c2810, h⟩ := capN_some h
                        refine dn (r := 0) (L' := [(1001, .row 0 25 [[dB false, .nilS]]), (1002, .row 0 107 [[dL 1 (eI .u8) y2808.2.B, dB y2808.2.Bad]]), (1003, .row 0 25 [[dB (y133.1 == (1 : Int)), .slice 1009 g1495 0 s1494.2.2.2.length]]), (1009, rw' g1495 58 e_S_api_Line s1494.2.2.2), (1010, .row 0 58 [[dI .u8 y2659.1, dI .i64 y2661.1, dI .i64 y2663.1, dI .i64 y2665.1, .slice 1012 g2748 0 s2747.2.2.2.length]]), (1012, rw' (g2748 + 2) 3 (eI .i64) (s2747.2.2.2 ++ [y2808.1])), (1013, .row 1 3 [[dI .i64 y2808.1]])]) rfl rfl (st_appR (f := (eI .i64)) (xs := s2747.2.2.2) (ys := [y2808.1]) sl28 zc3 rfl rfl rfl rfl rfl (news_one (a := y2808.1) rfl rfl) c2810) rfl rfl rfl rfl ?_
                        refine do_ rfl rfl (st_faP fo58_4 rfl) rfl rfl rfl ?_
                        refine dx (L' := [(1001, .row 0 25 [[dB false, .nilS]]), (1002, .row 0 107 [[dL 1 (eI .u8) y2808.2.B, dB y2808.2.Bad]]), (1003, .row 0 25 [[dB (y133.1 == (1 : Int)), .slice 1009 g1495 0 s1494.2.2.2.length]]), (1009, rw' g1495 58 e_S_api_Line s1494.2.2.2), (1010, .row 0 58 [[dI .u8 y2659.1, dI .i64 y2661.1, dI .i64 y2663.1, dI .i64 y2665.1, .slice 1012 (g2748 + 2) 0 ((s2747.2.2.2 ++ [y2808.1]).length)]]), (1012, rw' (g2748 + 2) 3 (eI .i64) (s2747.2.2.2 ++ [y2808.1])), (1013, .row 1 3 [[dI .i64 y2808.1]])]) rfl rfl (st_stP ta28 rfl rfl rfl rfl rfl rfl rfl rfl) rfl rfl rfl rfl ?_
                        refine rd_nil (by kernel_rfl) ?_
                        refine nx_block ?_
                        refine nx_then ?_
                        refine awp_rw ?_
                        refine ro rfl rfl (st_mv rfl) ?_
                        refine ro rfl rfl (st_bin (v := dI .i64 (IntKind.wrap .i64 (s2747.1 + (1 : Int)))) rfl rfl rfl) ?_
                        refine ro rfl rfl (st_as rfl) ?_
                        refine rw_nil ?_
                        refine nx_then ?_
                        refine awp_gh ?_ (ih2749 ((IntKind.wrap .i64 (s2747.1 + (1 : Int))), y2808.2.B, y2808.2.Bad, (s2747.2.2.2 ++ [y2808.1])) (g2748 + 2) h)
                        exact (gh_frz rfl rfl ⟨⟨_, rfl, .keep rfl⟩, ⟨_, rfl, .keep rfl⟩, ⟨_, rfl, .keep rfl⟩, ⟨_, rfl, .keep rfl⟩, ⟨_, rfl, .keep rfl⟩, ⟨_, rfl, .keep rfl⟩, ⟨_, rfl, .keep rfl⟩, ⟨_, rfl, .keep rfl⟩, trivial⟩ ⟨⟨_, rfl, objOne ⟨⟨rfl, .keep rfl⟩, ⟨rfl, .keep rfl⟩, trivial⟩⟩, ⟨_, rfl, objOne ⟨⟨rfl, .keep rfl⟩, ⟨rfl, .keep rfl⟩, trivial⟩⟩, ⟨_, rfl, objOne ⟨⟨rfl, .keep rfl⟩, ⟨rfl, .keep rfl⟩, trivial⟩⟩, ⟨_, rfl, objRow _⟩, ⟨_, rfl, objOne ⟨⟨rfl, .keep rfl⟩, ⟨rfl, .keep rfl⟩, ⟨rfl, .keep rfl⟩, ⟨rfl, .keep rfl⟩, ⟨rfl, .keep rfl⟩, trivial⟩⟩, ⟨_, rfl, objRow _⟩, trivial⟩)
                      · replace h := ite_F p2807 h
                        refine awp_exit ?_
                        refine ex_out ?_
                        refine ex_out ?_
                        refine ex_in ?_
                        refine nx_then ?_
                        exact J2745 (s2747.2.1, s2747.2.2.1, s2747.2.2.2) g2748 _ _ h (gh_frz rfl rfl ⟨⟨_, rfl, .keep rfl⟩, ⟨_, rfl, .keep rfl⟩, ⟨_, rfl, .keep rfl⟩, ⟨_, rfl, .keep rfl⟩, ⟨_, rfl, .keep rfl⟩, ⟨_, rfl, .keep rfl⟩, trivial⟩ ⟨⟨_, rfl, objOne ⟨⟨rfl, .keep rfl⟩, ⟨rfl, .keep rfl⟩, trivial⟩⟩, ⟨_, rfl, objOne ⟨⟨rfl, .keep rfl⟩, ⟨rfl, .keep rfl⟩, trivial⟩⟩, ⟨_, rfl, objOne ⟨⟨rfl, .keep rfl⟩, ⟨rfl, .keep rfl⟩, trivial⟩⟩, ⟨_, rfl, objRow _⟩, ⟨_, rfl, objOne ⟨⟨rfl, .keep rfl⟩, ⟨rfl, .keep rfl⟩, ⟨rfl, .keep rfl⟩, ⟨rfl, .keep rfl⟩, ⟨rfl, .keep rfl⟩, trivial⟩⟩, ⟨_, rfl, objRow _⟩, trivial⟩)
                    · clear h
                      intro k2806 h J2806
                      refine awp_rw ?_
                      refine ro rfl rfl (st_mv rfl) ?_
                      refine ro rfl rfl (st_mv rfl) ?_
                      refine ro rfl rfl (st_bin (v := dB (decide (s2747.1 < y2667.1))) rfl rfl rfl) ?_
                      refine ro rfl rfl (st_mv rfl) ?_
                      refine bool_split (decide (s2747.1 < y2667.1)) (fun p2811 => ?_) (fun p2811 => ?_)
                      · replace h := ite_T p2811 h
                        rw [p2811]
                        refine ro rfl rfl (st_mv rfl) ?_
                        refine ro rfl rfl (st_nilP rfl) ?_
                        refine ro rfl rfl (st_faP fo107_1 rfl) ?_
                        refine ro rfl rfl (st_ldP (v := dB s2747.2.2.1) ta4 rfl rfl rfl rfl) ?_
                        refine ro rfl rfl (st_un (v := dB (!s2747.2.2.1)) rfl rfl) ?_
                        refine ro rfl rfl (st_pickT rfl rfl) ?_
                        refine rw_nil ?_
                        refine nx_then ?_
                        exact J2806 (!s2747.2.2.1) () _ _ h (gh_frz rfl rfl ⟨⟨_, rfl, .keep rfl⟩, ⟨_, rfl, .keep rfl⟩, ⟨_, rfl, .keep rfl⟩, ⟨_, rfl, .keep rfl⟩, ⟨_, rfl, .keep rfl⟩, ⟨_, rfl, .keep rfl⟩, ⟨_, rfl, .keep rfl⟩, ⟨_, rfl, .keep rfl⟩, ⟨_, rfl, .keep rfl⟩, trivial⟩ ⟨⟨_, rfl, objOne ⟨⟨rfl, .keep rfl⟩, ⟨rfl, .keep rfl⟩, trivial⟩⟩, ⟨_, rfl, objOne ⟨⟨rfl, .keep rfl⟩, ⟨rfl, .keep rfl⟩, trivial⟩⟩, ⟨_, rfl, objOne ⟨⟨rfl, .keep rfl⟩, ⟨rfl, .keep rfl⟩, trivial⟩⟩, ⟨_, rfl, objRow _⟩, ⟨_, rfl, objOne ⟨⟨rfl, .keep rfl⟩, ⟨rfl, .keep rfl⟩, ⟨rfl, .keep rfl⟩, ⟨rfl, .keep rfl⟩, ⟨rfl, .keep rfl⟩, trivial⟩⟩, ⟨_, rfl, objRow _⟩, trivial⟩)
                      · replace h := ite_F p2811 h
                        rw [p2811]
                        refine rz rfl rfl ?_
                        refine rz rfl rfl ?_
                        refine rz rfl rfl ?_
                        refine rz rfl rfl ?_
                        refine rz rfl rfl ?_
                        refine ro rfl rfl (st_pickF rfl rfl) ?_
                        refine rw_nil ?_
                        refine nx_then ?_
                        exact J2806 false () _ _ h (gh_frz rfl rfl ⟨⟨_, rfl, .keep rfl⟩, ⟨_, rfl, .keep rfl⟩, ⟨_, rfl, .keep rfl⟩, ⟨_, rfl, .keep rfl⟩, ⟨_, rfl, .keep rfl⟩, ⟨_, rfl, .keep rfl⟩, ⟨_, rfl, .keep rfl⟩, ⟨_, rfl, .keep rfl⟩, ⟨_, rfl, .keep rfl⟩, trivial⟩ ⟨⟨_, rfl, objOne ⟨⟨rfl, .keep rfl⟩, ⟨rfl, .keep rfl⟩, trivial⟩⟩, ⟨_, rfl, objOne ⟨⟨rfl, .keep rfl⟩, ⟨rfl, .keep rfl⟩, trivial⟩⟩, ⟨_, rfl, objOne ⟨⟨rfl, .keep rfl⟩, ⟨rfl, .keep rfl⟩, trivial⟩⟩, ⟨_, rfl, objRow _⟩, ⟨_, rfl, objOne ⟨⟨rfl, .keep rfl⟩, ⟨rfl, .keep rfl⟩, ⟨rfl, .keep rfl⟩, ⟨rfl, .keep rfl⟩, ⟨rfl, .keep rfl⟩, trivial⟩⟩, ⟨_, rfl, objRow _⟩, trivial⟩)
                · clear h
                  intro k2677 h J2677
                  refine awp_jn (fun (s2813 : Bool) (g2814 : Unit) => [(2, .ptr 1001 0 0 0), (4, .ptr 1002 0 0 0), (6, dI .i64 y135.1), (7, .ptr 1003 0 0 0), (8, dI .i64 s1494.1), (9, .ptr 1010 0 0 0), (10, dI .i64 y2667.1), (89, dB s2813)]) (fun (s2813 : Bool) (g2814 : Unit) => [(1001, .row 0 25 [[dB false, .nilS]]), (1002, .row 0 107 [[dL 1 (eI .u8) y2667.2.B, dB y2667.2.Bad]]), (1003, .row 0 25 [[dB (y133.1 == (1 : Int)), .slice 1009 g1495 0 s1494.2.2.2.length]]), (1009, rw' g1495 58 e_S_api_Line s1494.2.2.2), (1010, .row 0 58 [[dI .u8 y2659.1, dI .i64 y2661.1, dI .i64 y2663.1, dI .i64 y2665.1, .nilS]])]) h ?_ ?_
                  · clear h
                    intro s2813 g2814 h
                    refine awp_ite (b := s2813) rfl (fun p2816 => ?_) (fun p2816 => ?_)
                    · replace h := ite_T p2816 h
                      refine awp_rw ?_
                      refine ro rfl rfl (st_mv rfl) ?_
                      refine ro rfl rfl (st_nilP rfl) ?_
                      refine ro rfl rfl (st_faP fo107_1 rfl) ?_
                      refine rx (L' := [(1001, .row 0 25 [[dB false, .nilS]]), (1002, .row 0 107 [[dL 1 (eI .u8) y2667.2.B, dB true]]), (1003, .row 0 25 [[dB (y133.1 == (1 : Int)), .slice 1009 g1495 0 s1494.2.2.2.length]]), (1009, rw' g1495 58 e_S_api_Line s1494.2.2.2), (1010, .row 0 58 [[dI .u8 y2659.1, dI .i64 y2661.1, dI .i64 y2663.1, dI .i64 y2665.1, .nilS]])]) rfl rfl (st_stP ta4 rfl rfl rfl rfl rfl rfl rfl rfl) rfl ?_
                      refine rw_nil ?_
                      refine nx_then ?_
                      exact J2677 true () _ _ h (gh_frz rfl rfl ⟨⟨_, rfl, .keep rfl⟩, ⟨_, rfl, .keep rfl⟩, ⟨_, rfl, .keep rfl⟩, ⟨_, rfl, .keep rfl⟩, ⟨_, rfl, .keep rfl⟩, ⟨_, rfl, .keep rfl⟩, ⟨_, rfl, .keep rfl⟩, trivial⟩ ⟨⟨_, rfl, objOne ⟨⟨rfl, .keep rfl⟩, ⟨rfl, .keep rfl⟩, trivial⟩⟩, ⟨_, rfl, objOne ⟨⟨rfl, .keep rfl⟩, ⟨rfl, .keep rfl⟩, trivial⟩⟩, ⟨_, rfl, objOne ⟨⟨rfl, .keep rfl⟩, ⟨rfl, .keep rfl⟩, trivial⟩⟩, ⟨_, rfl, objRow _⟩, ⟨_, rfl, objOne ⟨⟨rfl, .keep rfl⟩, ⟨rfl, .keep rfl⟩, ⟨rfl, .keep rfl⟩, ⟨rfl, .keep rfl⟩, ⟨rfl, .keep rfl⟩, trivial⟩⟩, trivial⟩)
                    · replace h := ite_F p2816 h
                      refine awp_skip ?_
                      refine nx_then ?_
                      exact J2677 y2667.2.Bad () _ _ h (gh_frz rfl rfl ⟨⟨_, rfl, .keep rfl⟩, ⟨_, rfl, .keep rfl⟩, ⟨_, rfl, .keep rfl⟩, ⟨_, rfl, .keep rfl⟩, ⟨_, rfl, .keep rfl⟩, ⟨_, rfl, .keep rfl⟩, ⟨_, rfl, .keep rfl⟩, trivial⟩ ⟨⟨_, rfl, objOne ⟨⟨rfl, .keep rfl⟩, ⟨rfl, .keep rfl⟩, trivial⟩⟩, ⟨_, rfl, objOne ⟨⟨rfl, .keep rfl⟩, ⟨rfl, .keep rfl⟩, trivial⟩⟩, ⟨_, rfl, objOne ⟨⟨rfl, .keep rfl⟩, ⟨rfl, .keep rfl⟩, trivial⟩⟩, ⟨_, rfl, objRow _⟩, ⟨_, rfl, objOne ⟨⟨rfl, .keep rfl⟩, ⟨rfl, .keep rfl⟩, ⟨rfl, .keep rfl⟩, ⟨rfl, .keep rfl⟩, ⟨rfl, .keep rfl⟩, trivial⟩⟩, trivial⟩)
                  · clear h
                    intro k2815 h J2815
                    refine awp_rw ?_
                    refine ro rfl rfl (st_mv rfl) ?_
                    refine ro rfl rfl (st_bin (v := dB (decide (y2667.1 < (0 : Int)))) rfl rfl rfl) ?_
                    refine ro rfl rfl (st_mv rfl) ?_
                    refine bool_split (decide (y2667.1 < (0 : Int))) (fun p2817 => ?_) (fun p2817 => ?_)
                    · replace h := ite_T p2817 h
                      rw [p2817]
                      refine rz rfl rfl ?_
                      refine rz rfl rfl ?_
                      refine rz rfl rfl ?_
                      refine rz rfl rfl ?_
                      refine rz rfl rfl ?_
                      refine rz rfl rfl ?_
                      refine rz rfl rfl ?_
                      refine ro rfl rfl (st_pickT rfl rfl) ?_
                      refine rw_nil ?_
                      refine nx_then ?_
                      exact J2815 true () _ _ h (gh_frz rfl rfl ⟨⟨_, rfl, .keep rfl⟩, ⟨_, rfl, .keep rfl⟩, ⟨_, rfl, .keep rfl⟩, ⟨_, rfl, .keep rfl⟩, ⟨_, rfl, .keep rfl⟩, ⟨_, rfl, .keep rfl⟩, ⟨_, rfl, .keep rfl⟩, ⟨_, rfl, .keep rfl⟩, trivial⟩ ⟨⟨_, rfl, objOne ⟨⟨rfl, .keep rfl⟩, ⟨rfl, .keep rfl⟩, trivial⟩⟩, ⟨_, rfl, objOne ⟨⟨rfl, .keep rfl⟩, ⟨rfl, .keep rfl⟩, trivial⟩⟩, ⟨_, rfl, objOne ⟨⟨rfl, .keep rfl⟩, ⟨rfl, .keep rfl⟩, trivial⟩⟩, ⟨_, rfl, objRow _⟩, ⟨_, rfl, objOne ⟨⟨rfl, .keep rfl⟩, ⟨rfl, .keep rfl⟩, ⟨rfl, .keep rfl⟩, ⟨rfl, .keep rfl⟩, ⟨rfl, .keep rfl⟩, trivial⟩⟩, trivial⟩)
                    · replace h := ite_F p2817 h
                      rw [p2817]
                      refine ro rfl rfl (st_mv rfl) ?_
                      refine ro rfl rfl (st_mv rfl) ?_
                      refine ro rfl rfl (st_nilP rfl) ?_
                      refine ro rfl rfl (st_faP fo107_0 rfl) ?_
                      refine ro rfl rfl (st_ldP (v := dL 1 (eI .u8) y2667.2.B) ta67 rfl rfl rfl rfl) ?_
                      refine ro rfl rfl (st_lenD rfl un67) ?_
                      refine ro rfl rfl (st_bin (v := dB (decide (y2667.1 > ((y2667.2.B.length : Nat) : Int)))) rfl rfl rfl) ?_
                      refine ro rfl rfl (st_pickF rfl rfl) ?_
                      refine rw_nil ?_
                      refine nx_then ?_
                      exact J2815 (decide (y2667.1 > ((y2667.2.B.length : Nat) : Int))) () _ _ h (gh_frz rfl rfl ⟨⟨_, rfl, .keep rfl⟩, ⟨_, rfl, .keep rfl⟩, ⟨_, rfl, .keep rfl⟩, ⟨_, rfl, .keep rfl⟩, ⟨_, rfl, .keep rfl⟩, ⟨_, rfl, .keep rfl⟩, ⟨_, rfl, .keep rfl⟩, ⟨_, rfl, .keep rfl⟩, trivial⟩ ⟨⟨_, rfl, objOne ⟨⟨rfl, .keep rfl⟩, ⟨rfl, .keep rfl⟩, trivial⟩⟩, ⟨_, rfl, objOne ⟨⟨rfl, .keep rfl⟩, ⟨rfl, .keep rfl⟩, trivial⟩⟩, ⟨_, rfl, objOne ⟨⟨rfl, .keep rfl⟩, ⟨rfl, .keep rfl⟩, trivial⟩⟩, ⟨_, rfl, objRow _⟩, ⟨_, rfl, objOne ⟨⟨rfl, .keep rfl⟩, ⟨rfl, .keep rfl⟩, ⟨rfl, .keep rfl⟩, ⟨rfl, .keep rfl⟩, ⟨rfl, .keep rfl⟩, trivial⟩⟩, trivial⟩)
              · replace h := ite_F p2499 h
                refine awp_exit ?_
                refine ex_out ?_
                refine ex_out ?_
                refine ex_in ?_
                refine nx_then ?_
                exact J1481 (s1494.2.1, s1494.2.2.1, s1494.2.2.2) g1495 _ _ h (gh_frz rfl rfl ⟨⟨_, rfl, .keep rfl⟩, ⟨_, rfl, .keep rfl⟩, ⟨_, rfl, .keep rfl⟩, trivial⟩ ⟨⟨_, rfl, objOne ⟨⟨rfl, .keep rfl⟩, ⟨rfl, .keep rfl⟩, trivial⟩⟩, ⟨_, rfl, objOne ⟨⟨rfl, .keep rfl⟩, ⟨rfl, .keep rfl⟩, trivial⟩⟩, ⟨_, rfl, objOne ⟨⟨rfl, .keep rfl⟩, ⟨rfl, .keep rfl⟩, trivial⟩⟩, ⟨_, rfl, objRow _⟩, trivial⟩)
            · clear h
              intro k2498 h J2498
              refine awp_rw ?_
              refine ro rfl rfl (st_mv rfl) ?_
              refine ro rfl rfl (st_mv rfl) ?_
              refine ro rfl rfl (st_bin (v := dB (decide (s1494.1 < y135.1))) rfl rfl rfl) ?_
              refine ro rfl rfl (st_mv rfl) ?_
              refine bool_split (decide (s1494.1 < y135.1)) (fun p2818 => ?_) (fun p2818 => ?_)
              · replace h := ite_T p2818 h
                rw [p2818]
                refine ro rfl rfl (st_mv rfl) ?_
                refine ro rfl rfl (st_nilP rfl) ?_
                refine ro rfl rfl (st_faP fo107_1 rfl) ?_
                refine ro rfl rfl (st_ldP (v := dB s1494.2.2.1) ta4 rfl rfl rfl rfl) ?_
                refine ro rfl rfl (st_un (v := dB (!s1494.2.2.1)) rfl rfl) ?_
                refine ro rfl rfl (st_pickT rfl rfl) ?_
                refine rw_nil ?_
                refine nx_then ?_
                exact J2498 (!s1494.2.2.1) () _ _ h (gh_frz rfl rfl ⟨⟨_, rfl, .keep rfl⟩, ⟨_, rfl, .keep rfl⟩, ⟨_, rfl, .keep rfl⟩, ⟨_, rfl, .keep rfl⟩, ⟨_, rfl, .keep rfl⟩, ⟨_, rfl, .keep rfl⟩, trivial⟩ ⟨⟨_, rfl, objOne ⟨⟨rfl, .keep rfl⟩, ⟨rfl, .keep rfl⟩, trivial⟩⟩, ⟨_, rfl, objOne ⟨⟨rfl, .keep rfl⟩, ⟨rfl, .keep rfl⟩, trivial⟩⟩, ⟨_, rfl, objOne ⟨⟨rfl, .keep rfl⟩, ⟨rfl, .keep rfl⟩, trivial⟩⟩, ⟨_, rfl, objRow _⟩, trivial⟩)
              · replace h := ite_F p2818 h
                rw [p2818]
                refine rz rfl rfl ?_
                refine rz rfl rfl ?_
                refine rz rfl rfl ?_
                refine rz rfl rfl ?_
                refine rz rfl rfl ?_
                refine ro rfl rfl (st_pickF rfl rfl) ?_
                refine rw_nil ?_
                refine nx_then ?_
                exact J2498 false () _ _ h (gh_frz rfl rfl ⟨⟨_, rfl, .keep rfl⟩, ⟨_, rfl, .keep rfl⟩, ⟨_, rfl, .keep rfl⟩, ⟨_, rfl, .keep rfl⟩, ⟨_, rfl, .keep rfl⟩, ⟨_, rfl, .keep rfl⟩, trivial⟩ ⟨⟨_, rfl, objOne ⟨⟨rfl, .keep rfl⟩, ⟨rfl, .keep rfl⟩, trivial⟩⟩, ⟨_, rfl, objOne ⟨⟨rfl, .keep rfl⟩, ⟨rfl, .keep rfl⟩, trivial⟩⟩, ⟨_, rfl, objOne ⟨⟨rfl, .keep rfl⟩, ⟨rfl, .keep rfl⟩, trivial⟩⟩, ⟨_, rfl, objRow _⟩, trivial⟩)
      · clear h
        intro k152 h J152
        refine awp_rw ?_
        refine ro rfl rfl (st_mv rfl) ?_
        refine ro rfl rfl (st_nilP rfl) ?_
        refine ro rfl rfl (st_faP fo107_1 rfl) ?_
        refine ro rfl rfl (st_ldP (v := dB y135.2.Bad) ta4 rfl rfl rfl rfl) ?_
        refine ro rfl rfl (st_mv rfl) ?_
        refine bool_split y135.2.Bad (fun p2819 => ?_) (fun p2819 => ?_)
        · replace h := ite_T p2819 h
          rw [p2819]
          refine rz rfl rfl ?_
          refine rz rfl rfl ?_
          refine ro rfl rfl (st_pickT rfl rfl) ?_
          refine ro rfl rfl (st_mv rfl) ?_
          refine rz rfl rfl ?_
          refine rz rfl rfl ?_
          refine ro rfl rfl (st_pickT rfl rfl) ?_
          refine ro rfl rfl (st_mv rfl) ?_
          refine rz rfl rfl ?_
          refine rz rfl rfl ?_
          refine ro rfl rfl (st_pickT rfl rfl) ?_
          refine rw_nil ?_
          refine nx_then ?_
          exact J152 (true, true) () _ _ h (gh_frz rfl rfl ⟨⟨_, rfl, .keep rfl⟩, ⟨_, rfl, .keep rfl⟩, ⟨_, rfl, .keep rfl⟩, ⟨_, rfl, .keep rfl⟩, ⟨_, rfl, .keep rfl⟩, trivial⟩ ⟨⟨_, rfl, objOne ⟨⟨rfl, .keep rfl⟩, ⟨rfl, .keep rfl⟩, trivial⟩⟩, ⟨_, rfl, objOne ⟨⟨rfl, .keep rfl⟩, ⟨rfl, .keep rfl⟩, trivial⟩⟩, trivial⟩)
        · replace h := ite_F p2819 h
          rw [p2819]
          refine ro rfl rfl (st_mv rfl) ?_
          refine ro rfl rfl (st_bin (v := dB (decide (y133.1 > (1 : Int)))) rfl rfl rfl) ?_
          refine ro rfl rfl (st_pickF rfl rfl) ?_
          refine ro rfl rfl (st_mv rfl) ?_
          refine bool_split (decide (y133.1 > (1 : Int))) (fun p2820 => ?_) (fun p2820 => ?_)
          · replace h := ite_T p2820 h
            rw [p2820]
            refine rz rfl rfl ?_
            refine rz rfl rfl ?_
            refine ro rfl rfl (st_pickT rfl rfl) ?_
            refine ro rfl rfl (st_mv rfl) ?_
            refine rz rfl rfl ?_
            refine rz rfl rfl ?_
            refine ro rfl rfl (st_pickT rfl rfl) ?_
            refine rw_nil ?_
            refine nx_then ?_
            exact J152 (true, false) () _ _ h (gh_frz rfl rfl ⟨⟨_, rfl, .keep rfl⟩, ⟨_, rfl, .keep rfl⟩, ⟨_, rfl, .keep rfl⟩, ⟨_, rfl, .keep rfl⟩, ⟨_, rfl, .keep rfl⟩, trivial⟩ ⟨⟨_, rfl, objOne ⟨⟨rfl, .keep rfl⟩, ⟨rfl, .keep rfl⟩, trivial⟩⟩, ⟨_, rfl, objOne ⟨⟨rfl, .keep rfl⟩, ⟨rfl, .keep rfl⟩, trivial⟩⟩, trivial⟩)
          · replace h := ite_F p2820 h
            rw [p2820]
            refine ro rfl rfl (st_mv rfl) ?_
            refine ro rfl rfl (st_bin (v := dB (decide (y135.1 < (0 : Int)))) rfl rfl rfl) ?_
            refine ro rfl rfl (st_pickF rfl rfl) ?_
            refine ro rfl rfl (st_mv rfl) ?_
            refine bool_split (decide (y135.1 < (0 : Int))) (fun p2821 => ?_) (fun p2821 => ?_)
            · replace h := ite_T p2821 h
              rw [p2821]
              refine rz rfl rfl ?_
              refine rz rfl rfl ?_
              refine ro rfl rfl (st_pickT rfl rfl) ?_
              refine rw_nil ?_
              refine nx_then ?_
              exact J152 (true, false) () _ _ h (gh_frz rfl rfl ⟨⟨_, rfl, .keep rfl⟩, ⟨_, rfl, .keep rfl⟩, ⟨_, rfl, .keep rfl⟩, ⟨_, rfl, .keep rfl⟩, ⟨_, rfl, .keep rfl⟩, trivial⟩ ⟨⟨_, rfl, objOne ⟨⟨rfl, .keep rfl⟩, ⟨rfl, .keep rfl⟩, trivial⟩⟩, ⟨_, rfl, objOne ⟨⟨rfl, .keep rfl⟩, ⟨rfl, .keep rfl⟩, trivial⟩⟩, trivial⟩)
            · replace h := ite_F p2821 h
              rw [p2821]
              refine ro rfl rfl (st_mv rfl) ?_
              refine ro rfl rfl (st_bin (v := dB (decide (y135.1 > (1000000 : Int)))) rfl rfl rfl) ?_
              refine ro rfl rfl (st_pickF rfl rfl) ?_
              refine rw_nil ?_
              refine nx_then ?_
              exact J152 ((decide (y135.1 > (1000000 : Int))), false) () _ _ h (gh_frz rfl rfl ⟨⟨_, rfl, .keep rfl⟩, ⟨_, rfl, .keep rfl⟩, ⟨_, rfl, .keep rfl⟩, ⟨_, rfl, .keep rfl⟩, ⟨_, rfl, .keep rfl⟩, trivial⟩ ⟨⟨_, rfl, objOne ⟨⟨rfl, .keep rfl⟩, ⟨rfl, .keep rfl⟩, trivial⟩⟩, ⟨_, rfl, objOne ⟨⟨rfl, .keep rfl⟩, ⟨rfl, .keep rfl⟩, trivial⟩⟩, trivial⟩)
  · clear h
    intro k131 h J131
    refine awp_rw ?_
    refine ro rfl rfl (st_mv rfl) ?_
    obtain ⟨y2822, hy2822, h⟩ := bind_some_elim h
    refine rcall (v := dI .u8 y2822.1) (L0 := [(1002, .row 0 107 [[dL 1 (eI .u8) a0, dB false]])]) (L1 := [(1002, .row 0 107 [[dL 1 (eI .u8) y2822.2.B, dB y2822.2.Bad]])]) (L' := [(1001, .row 0 25 [[dB false, .nilS]]), (1002, .row 0 107 [[dL 1 (eI .u8) y2822.2.B, dB y2822.2.Bad]])]) rfl rfl rfl rfl (om_skolemref10_reader_one hy2822) ⟨rfl, trivial⟩ rfl ⟨rfl, trivial⟩ rfl rfl ?_
    refine ro rfl rfl (st_bin (v := dB (y2822.1 != (82 : Int))) rfl rfl rfl) ?_
    refine ro rfl rfl (st_mv rfl) ?_
    refine bool_split (y2822.1 != (82 : Int)) (fun p2824 => ?_) (fun p2824 => ?_)
    · replace h := ite_T p2824 h
      rw [p2824]
      refine rz rfl rfl ?_
      refine rz rfl rfl ?_
      refine rz rfl rfl ?_
      refine ro rfl rfl (st_pickT rfl rfl) ?_
      refine ro rfl rfl (st_mv rfl) ?_
      refine rz rfl rfl ?_
      refine rz rfl rfl ?_
      refine rz rfl rfl ?_
      refine ro rfl rfl (st_pickT rfl rfl) ?_
      refine rw_nil ?_
      refine nx_then ?_
      exact J131 (true, y2822.2.B, y2822.2.Bad) () _ _ h (gh_frz rfl rfl ⟨⟨_, rfl, .keep rfl⟩, ⟨_, rfl, .keep rfl⟩, ⟨_, rfl, .keep rfl⟩, trivial⟩ ⟨⟨_, rfl, objOne ⟨⟨rfl, .keep rfl⟩, ⟨rfl, .keep rfl⟩, trivial⟩⟩, ⟨_, rfl, objOne ⟨⟨rfl, .keep rfl⟩, ⟨rfl, .keep rfl⟩, trivial⟩⟩, trivial⟩)
    · replace h := ite_F p2824 h
      rw [p2824]
      refine ro rfl rfl (st_mv rfl) ?_
      obtain ⟨y2825, hy2825, h⟩ := bind_some_elim h
      refine rcall (v := dI .u8 y2825.1) (L0 := [(1002, .row 0 107 [[dL 1 (eI .u8) y2822.2.B, dB y2822.2.Bad]])]) (L1 := [(1002, .row 0 107 [[dL 1 (eI .u8) y2825.2.B, dB y2825.2.Bad]])]) (L' := [(1001, .row 0 25 [[dB false, .nilS]]), (1002, .row 0 107 [[dL 1 (eI .u8) y2825.2.B, dB y2825.2.Bad]])]) rfl rfl rfl rfl (om_skolemref10_reader_one hy2825) ⟨rfl, trivial⟩ rfl ⟨rfl, trivial⟩ rfl rfl ?_
      refine ro rfl rfl (st_bin (v := dB (y2825.1 != (80 : Int))) rfl rfl rfl) ?_
      refine ro rfl rfl (st_pickF rfl rfl) ?_
      refine ro rfl rfl (st_mv rfl) ?_
      refine bool_split (y2825.1 != (80 : Int)) (fun p2827 => ?_) (fun p2827 => ?_)
      · replace h := ite_T p2827 h
        rw [p2827]
        refine rz rfl rfl ?_
        refine rz rfl rfl ?_
        refine rz rfl rfl ?_
        refine ro rfl rfl (st_pickT rfl rfl) ?_
        refine rw_nil ?_
        refine nx_then ?_
        exact J131 (true, y2825.2.B, y2825.2.Bad) () _ _ h (gh_frz rfl rfl ⟨⟨_, rfl, .keep rfl⟩, ⟨_, rfl, .keep rfl⟩, ⟨_, rfl, .keep rfl⟩, trivial⟩ ⟨⟨_, rfl, objOne ⟨⟨rfl, .keep rfl⟩, ⟨rfl, .keep rfl⟩, trivial⟩⟩, ⟨_, rfl, objOne ⟨⟨rfl, .keep rfl⟩, ⟨rfl, .keep rfl⟩, trivial⟩⟩, trivial⟩)
      · replace h := ite_F p2827 h
        rw [p2827]
        refine ro rfl rfl (st_mv rfl) ?_
        obtain ⟨y2828, hy2828, h⟩ := bind_some_elim h
        refine rcall (v := dI .u8 y2828.1) (L0 := [(1002, .row 0 107 [[dL 1 (eI .u8) y2825.2.B, dB y2825.2.Bad]])]) (L1 := [(1002, .row 0 107 [[dL 1 (eI .u8) y2828.2.B, dB y2828.2.Bad]])]) (L' := [(1001, .row 0 25 [[dB false, .nilS]]), (1002, .row 0 107 [[dL 1 (eI .u8) y2828.2.B, dB y2828.2.Bad]])]) rfl rfl rfl rfl (om_skolemref10_reader_one hy2828) ⟨rfl, trivial⟩ rfl ⟨rfl, trivial⟩ rfl rfl ?_
        refine ro rfl rfl (st_bin (v := dB (y2828.1 != (1 : Int))) rfl rfl rfl) ?_
        refine ro rfl rfl (st_pickF rfl rfl) ?_
        refine rw_nil ?_
        refine nx_then ?_
        exact J131 ((y2828.1 != (1 : Int)), y2828.2.B, y2828.2.Bad) () _ _ h (gh_frz rfl rfl ⟨⟨_, rfl, .keep rfl⟩, ⟨_, rfl, .keep rfl⟩, ⟨_, rfl, .keep rfl⟩, trivial⟩ ⟨⟨_, rfl, objOne ⟨⟨rfl, .keep rfl⟩, ⟨rfl, .keep rfl⟩, trivial⟩⟩, ⟨_, rfl, objOne ⟨⟨rfl, .keep rfl⟩, ⟨rfl, .keep rfl⟩, trivial⟩⟩, trivial⟩)

theorem ok_skolemlaw10_ProofBytes {a0 : S_api_Proof} {a1 : (List Int)} {r : Bool} (h : F_skolemlaw10_ProofBytes a0 a1 = some r) : Fn Try.prog 10 [.agg [dB a0.Cubes, dL 5 e_S_api_Line a0.Lines], dL 1 (eI .u8) a1] (dB r) := by
  unfold F_skolemlaw10_ProofBytes at h
  refine Fn.of_body (N := 64) (rs := [.tmp 4]) Try.func10 (c := _) rfl rfl rfl (by kernel_rfl) (Nat.le_of_ble_eq_true rfl) (fun _B => ?_)
  refine awp_rs ?_
  refine rn (r := 1001) rfl rfl (st_box rfl rfl rfl co25 rfl rfl) rfl ?_
  refine ro rfl rfl (st_as rfl) ?_
  refine rw_nilk ?_
  refine awp_seq ?_
  refine awp_jn (fun (s112 : Bool) (g113 : Unit) => [(1, dL 1 (eI .u8) a1), (2, .ptr 1001 0 0 0), (19, dB s112)]) (fun (s112 : Bool) (g113 : Unit) => [(1001, .row 0 25 [[dB a0.Cubes, dL 5 e_S_api_Line a0.Lines]])]) h ?_ ?_
  · clear h
    intro s112 g113 h
    refine awp_ite (b := s112) rfl (fun p115 => ?_) (fun p115 => ?_)
    · replace h := ite_T p115 h
      refine awp_rs ?_
      obtain ⟨y116, hy116, h⟩ := bind_some_elim h
      refine rf rfl rfl (ok_skolemlaw10_head hy116) rfl rfl ?_
      refine ro rfl rfl (st_as rfl) ?_
      refine rw_nilk ?_
      refine awp_ret ?_
      refine rt_then ?_
      injection h with h
      subst h
      exact ret_out (v := dB y116) (resV_one (resVs_tmp rfl resVs_nil)) (.keep rfl)
    · replace h := ite_F p115 h
      refine awp_skip ?_
      refine nx_then ?_
      refine awp_rs ?_
      refine ro rfl rfl (st_ldP (v := .agg [dB a0.Cubes, dL 5 e_S_api_Line a0.Lines]) ta25 rfl rfl rfl rfl) ?_
      obtain ⟨y117, hy117, h⟩ := bind_some_elim h
      refine rf rfl rfl (ok_proof_Put hy117) rfl rfl ?_
      refine ro rfl rfl (st_mv rfl) ?_
      refine ro rfl rfl (st_ext rfl rfl) ?_
      refine ro rfl rfl (st_ext rfl rfl) ?_
      refine ro rfl rfl (st_as rfl) ?_
      refine ro rfl rfl (st_as rfl) ?_
      refine rw_nilk ?_
      refine awp_rs ?_
      refine ro rfl rfl (st_ldP (v := .agg [dB a0.Cubes, dL 5 e_S_api_Line a0.Lines]) ta25 rfl rfl rfl rfl) ?_
      obtain ⟨y118, hy118, h⟩ := bind_some_elim h
      refine rf rfl rfl (ok_skolemref10_Put hy118) rfl rfl ?_
      refine ro rfl rfl (st_mv rfl) ?_
      refine ro rfl rfl (st_ext rfl rfl) ?_
      refine ro rfl rfl (st_ext rfl rfl) ?_
      refine ro rfl rfl (st_as rfl) ?_
      refine ro rfl rfl (st_as rfl) ?_
      refine rw_nilk ?_
      refine awp_rs ?_
      refine ro rfl rfl (st_mv rfl) ?_
      obtain ⟨y119, hy119, h⟩ := bind_some_elim h
      refine rf rfl rfl (ok_proof_Get hy119) rfl rfl ?_
      refine ro rfl rfl (st_mv rfl) ?_
      refine ro rfl rfl (st_ext rfl rfl) ?_
      refine ro rfl rfl (st_ext rfl rfl) ?_
      refine rn (r := 1002) rfl rfl (st_alloc zc25 rfl rfl) rfl ?_
      refine rx (L' := [(1001, .row 0 25 [[dB a0.Cubes, dL 5 e_S_api_Line a0.Lines]]), (1002, .row 0 25 [[dB y119.1.Cubes, dL 5 e_S_api_Line y119.1.Lines]])]) rfl rfl (st_stP ta25 rfl rfl rfl rfl rfl rfl rfl rfl) rfl ?_
      refine ro rfl rfl (st_as rfl) ?_
      refine rw_nilk ?_
      refine awp_rs ?_
      refine ro rfl rfl (st_mv rfl) ?_
      obtain ⟨y120, hy120, h⟩ := bind_some_elim h
      refine rf rfl rfl (ok_skolemref10_Get hy120) rfl rfl ?_
      refine ro rfl rfl (st_mv rfl) ?_
      refine ro rfl rfl (st_ext rfl rfl) ?_
      refine ro rfl rfl (st_ext rfl rfl) ?_
      refine rn (r := 1003) rfl rfl (st_alloc zc25 rfl rfl) rfl ?_
      refine rx (L' := [(1001, .row 0 25 [[dB a0.Cubes, dL 5 e_S_api_Line a0.Lines]]), (1002, .row 0 25 [[dB y119.1.Cubes, dL 5 e_S_api_Line y119.1.Lines]]), (1003, .row 0 25 [[dB y120.1.Cubes, dL 5 e_S_api_Line y120.1.Lines]])]) rfl rfl (st_stP ta25 rfl rfl rfl rfl rfl rfl rfl rfl) rfl ?_
      refine ro rfl rfl (st_as rfl) ?_
      refine rw_nilk ?_
      refine awp_rs ?_
      refine ro rfl rfl (st_mv rfl) ?_
      refine ro rfl rfl (st_strD un67 un9 un5 co5 rfl) ?_
      refine ro rfl rfl (st_mv rfl) ?_
      refine ro rfl rfl (st_strD un67 un9 un5 co5 rfl) ?_
      refine ro rfl rfl (st_binS (v := dB ((strNs y117.1).toList == (strNs y118.1).toList)) rfl rfl rfl) ?_
      refine ro rfl rfl (st_mv rfl) ?_
      refine bool_split ((strNs y117.1).toList == (strNs y118.1).toList) (fun p127 => ?_) (fun p127 => ?_)
      · replace h := ite_T p127 h
        rw [p127]
        refine ro rfl rfl (st_mv rfl) ?_
        refine ro rfl rfl (st_mv rfl) ?_
        refine ro rfl rfl (st_bin (v := dB (y117.2 == y118.2)) rfl rfl rfl) ?_
        refine ro rfl rfl (st_pickT rfl rfl) ?_
        refine ro rfl rfl (st_mv rfl) ?_
        refine bool_split (y117.2 == y118.2) (fun p128 => ?_) (fun p128 => ?_)
        · replace h := ite_T p128 h
          rw [p128]
          refine ro rfl rfl (st_ldP (v := .agg [dB y119.1.Cubes, dL 5 e_S_api_Line y119.1.Lines]) ta25 rfl rfl rfl rfl) ?_
          refine ro rfl rfl (st_ldP (v := .agg [dB y120.1.Cubes, dL 5 e_S_api_Line y120.1.Lines]) ta25 rfl rfl rfl rfl) ?_
          obtain ⟨y129, hy129, h⟩ := bind_some_elim h
          refine rf rfl rfl (ok_skolemref09_SameProof hy129) rfl rfl ?_
          refine ro rfl rfl (st_pickT rfl rfl) ?_
          refine ro rfl rfl (st_mv rfl) ?_
          refine bool_split y129 (fun p130 => ?_) (fun p130 => ?_)
          · replace h := ite_T p130 h
            rw [p130]
            refine ro rfl rfl (st_mv rfl) ?_
            refine ro rfl rfl (st_mv rfl) ?_
            refine ro rfl rfl (st_bin (v := dB (y119.2 == y120.2)) rfl rfl rfl) ?_
            refine ro rfl rfl (st_pickT rfl rfl) ?_
            refine ro rfl rfl (st_mv rfl) ?_
            refine bool_split (y119.2 == y120.2) (fun p131 => ?_) (fun p131 => ?_)
            · replace h := ite_T p131 h
              rw [p131]
              obtain ⟨y132, hy132, h⟩ := bind_some_elim h
              refine rf rfl rfl (ok_skolemlaw10_head hy132) rfl rfl ?_
              refine ro rfl rfl (st_pickT rfl rfl) ?_
              refine ro rfl rfl (st_as rfl) ?_
              refine rw_nilk ?_
              refine awp_ret ?_
              injection h with h
              subst h
              exact ret_out (v := dB y132) (resV_one (resVs_tmp rfl resVs_nil)) (.keep rfl)
            · replace h := ite_F p131 h
              rw [p131]
              refine rz rfl rfl ?_
              refine ro rfl rfl (st_pickF rfl rfl) ?_
              refine ro rfl rfl (st_as rfl) ?_
              refine rw_nilk ?_
              refine awp_ret ?_
              injection h with h
              subst h
              exact ret_out (v := dB false) (resV_one (resVs_tmp rfl resVs_nil)) (.keep rfl)
          · replace h := ite_F p130 h
            rw [p130]
            refine rz rfl rfl ?_
            refine rz rfl rfl ?_
            refine rz rfl rfl ?_
            refine ro rfl rfl (st_pickF rfl rfl) ?_
            refine ro rfl rfl (st_mv rfl) ?_
            refine rz rfl rfl ?_
            refine ro rfl rfl (st_pickF rfl rfl) ?_
            refine ro rfl rfl (st_as rfl) ?_
            refine rw_nilk ?_
            refine awp_ret ?_
            injection h with h
            subst h
            exact ret_out (v := dB false) (resV_one (resVs_tmp rfl resVs_nil)) (.keep rfl)
        · replace h := ite_F p128 h
          rw [p128]
          refine rz rfl rfl ?_
          refine rz rfl rfl ?_
          refine rz rfl rfl ?_
          refine ro rfl rfl (st_pickF rfl rfl) ?_
          refine ro rfl rfl (st_mv rfl) ?_
          refine rz rfl rfl ?_
          refine rz rfl rfl ?_
          refine rz rfl rfl ?_
          refine ro rfl rfl (st_pickF rfl rfl) ?_
          refine ro rfl rfl (st_mv rfl) ?_
          refine rz rfl rfl ?_
          refine ro rfl rfl (st_pickF rfl rfl) ?_
          refine ro rfl rfl (st_as rfl) ?_
          refine rw_nilk ?_
          refine awp_ret ?_
          injection h with h
          subst h
          exact ret_out (v := dB false) (resV_one (resVs_tmp rfl resVs_nil)) (.keep rfl)
      · replace h := ite_F p127 h
        rw [p127]
        refine rz rfl rfl ?_
        refine rz rfl rfl ?_
        refine rz rfl rfl ?_
        refine ro rfl rfl (st_pickF rfl rfl) ?_
        refine ro rfl rfl (st_mv rfl) ?_
        refine rz rfl rfl ?_
        refine rz rfl rfl ?_
        refine rz rfl rfl ?_
        refine ro rfl rfl (st_pickF rfl rfl) ?_
        refine ro rfl rfl (st_mv rfl) ?_
        refine rz rfl rfl ?_
        refine rz rfl rfl ?_
        refine rz rfl rfl ?_
        refine ro rfl rfl (st_pickF rfl rfl) ?_
        refine ro rfl rfl (st_mv rfl) ?_
        refine rz rfl rfl ?_
        refine ro rfl rfl (st_pickF rfl rfl) ?_
        refine ro rfl rfl (st_as rfl) ?_
        refine rw_nilk ?_
        refine awp_ret ?_
        injection h with h
        subst h
        exact ret_out (v := dB false) (resV_one (resVs_tmp rfl resVs_nil)) (.keep rfl)
  · clear h
    intro k114 h J114
    refine awp_rw ?_
    refine ro rfl rfl (st_ldP (v := .agg [dB a0.Cubes, dL 5 e_S_api_Line a0.Lines]) ta25 rfl rfl rfl rfl) ?_
    obtain ⟨y133, hy133, h⟩ := bind_some_elim h
    refine rfz rfl rfl (ok_skolemlaw10_large hy133) rfl ⟨.nil _, .keep _, trivial⟩ rfl ?_
    refine ro rfl rfl (st_mv rfl) ?_
    refine bool_split y133 (fun p134 => ?_) (fun p134 => ?_)
    · replace h := ite_T p134 h
      rw [p134]
      refine rz rfl rfl ?_
      refine rz rfl rfl ?_
      refine rz rfl rfl ?_
      refine ro rfl rfl (st_pickT rfl rfl) ?_
      refine rw_nil ?_
      refine nx_then ?_
      exact J114 true () _ _ h (gh_frz rfl rfl ⟨⟨_, rfl, .keep rfl⟩, ⟨_, rfl, .keep rfl⟩, ⟨_, rfl, .keep rfl⟩, trivial⟩ ⟨⟨_, rfl, objOne ⟨⟨rfl, .keep rfl⟩, ⟨rfl, .keep rfl⟩, trivial⟩⟩, trivial⟩)
    · replace h := ite_F p134 h
      rw [p134]
      refine ro rfl rfl (st_mv rfl) ?_
      refine ro rfl rfl (st_lenD rfl un67) ?_
      refine ro rfl rfl (st_bin (v := dB (decide (((a1.length : Nat) : Int) > (5000 : Int)))) rfl rfl rfl) ?_
      refine ro rfl rfl (st_pickF rfl rfl) ?_
      refine rw_nil ?_
      refine nx_then ?_
      exact J114 (decide (((a1.length : Nat) : Int) > (5000 : Int))) () _ _ h (gh_frz rfl rfl ⟨⟨_, rfl, .keep rfl⟩, ⟨_, rfl, .keep rfl⟩, ⟨_, rfl, .keep rfl⟩, trivial⟩ ⟨⟨_, rfl, objOne ⟨⟨rfl, .keep rfl⟩, ⟨rfl, .keep rfl⟩, trivial⟩⟩, trivial⟩)
end Go.Sk.X
