/- The program computes these plain functions (law CleanDecides, part 3). It has no conditions. -/
import Derived.Test.YtokbhdfaccahbaaGreatDoorXCleanDecidesP2
set_option linter.unusedVariables false
set_option linter.unusedSimpArgs false
set_option maxRecDepth 100000
set_option maxHeartbeats 4000000
namespace Go.Sk.X
open Go Go.Sk Go.Proofs
theorem ok_prefix_rises {a0 : (List Int)} {r : Bool} (h : F_prefix_rises a0 = some r) : Fn Tryz.prog 52 [dL 1 (eI .i64) a0] (dB r) := by
  unfold F_prefix_rises at h
  refine Fn.of_body (N := 32) (rs := [.tmp 2]) Tryz.func52 (c := _) rfl rfl rfl (by kernel_rfl) (Nat.le_of_ble_eq_true rfl) (fun _B => ?_)
  refine awp_rs ?_
  refine ro rfl rfl (st_as rfl) ?_
  refine rw_nilk ?_
  refine awp_seq ?_
  refine awp_rs ?_
  refine ro rfl rfl (st_mv rfl) ?_
  refine ro rfl rfl (st_lenD rfl un22) ?_
  refine ro rfl rfl (st_mv rfl) ?_
  refine rw_nilk ?_
  refine awp_block ?_
  refine awp_len (t := 0) rfl (fun hl104 => ?_)
  rw [List.length_map] at hl104
  refine awp_range (fun (j104 : Nat) (s101 : Unit) (g102 : Unit) => [(0, dL 1 (eI .i64) a0), (5, dL 1 (eI .i64) a0), (6, dI .i64 ((a0.length : Nat) : Int)), (7, dI .i64 ((j104 : Nat) : Int))]) (fun (s101 : Unit) (g102 : Unit) => []) () (fun _ _ _ h => h) h (gh_frz rfl rfl ⟨⟨_, rfl, .keep rfl⟩, ⟨_, rfl, .keep rfl⟩, ⟨_, rfl, .keep rfl⟩, ⟨_, rfl, .keep rfl⟩, trivial⟩ trivial) ?_ ?_
  · clear h
    intro j104 x105 s101 g102 k103 hj104 hx104 h ih103
    refine awp_rs ?_
    refine ro rfl rfl (st_bin (v := dB (decide (((j104 : Nat) : Int) < ((a0.length : Nat) : Int)))) rfl rfl rfl) ?_
    refine rw_nilk ?_
    refine awp_seq ?_
    refine awp_ifT rfl (dlt hj104) ?_
    refine awp_skip ?_
    refine nx_then ?_
    refine awp_seq ?_
    refine awp_block ?_
    refine awp_rs ?_
    refine ro rfl rfl (st_mv rfl) ?_
    refine ro rfl rfl (st_ixDn sl22 rfl rfl hx104) ?_
    refine ro rfl rfl (st_ldD (v := dI .i64 x105) ta3 rfl rfl) ?_
    refine ro rfl rfl (st_as rfl) ?_
    refine ro rfl rfl (st_as rfl) ?_
    refine rw_nilk ?_
    refine awp_jn (fun (s146 : Bool) (g147 : Unit) => [(0, dL 1 (eI .i64) a0), (5, dL 1 (eI .i64) a0), (6, dI .i64 ((a0.length : Nat) : Int)), (7, dI .i64 ((j104 : Nat) : Int)), (30, dB s146)]) (fun (s146 : Bool) (g147 : Unit) => []) h ?_ ?_
    · clear h
      intro s146 g147 h
      refine awp_ite (b := s146) rfl (fun p149 => ?_) (fun p149 => ?_)
      · replace h := ite_T p149 h
        refine awp_rs ?_
        refine ro rfl rfl (st_as rfl) ?_
        refine rw_nilk ?_
        refine awp_ret ?_
        refine rt_block ?_
        refine rt_then ?_
        refine rt_then ?_
        refine rt_block ?_
        refine rt_then ?_
        injection h with h
        subst h
        exact ret_out (v := dB false) (resV_one (resVs_tmp rfl resVs_nil)) (.keep rfl)
      · replace h := ite_F p149 h
        refine awp_skip ?_
        refine nx_block ?_
        refine nx_then ?_
        refine awp_rw ?_
        refine ro rfl rfl (st_inc rfl rfl hj104 hl104) ?_
        refine ro rfl rfl (st_mv rfl) ?_
        refine rw_nil ?_
        refine nx_then ?_
        refine awp_gh ?_ (ih103 () () h)
        exact (gh_frz rfl rfl ⟨⟨_, rfl, .keep rfl⟩, ⟨_, rfl, .keep rfl⟩, ⟨_, rfl, .keep rfl⟩, ⟨_, rfl, .keep rfl⟩, trivial⟩ trivial)
    · clear h
      intro k148 h J148
      refine awp_rw ?_
      refine ro rfl rfl (st_mv rfl) ?_
      refine ro rfl rfl (st_bin (v := dB (decide (x105 < (1 : Int)))) rfl rfl rfl) ?_
      refine ro rfl rfl (st_mv rfl) ?_
      refine bool_split (decide (x105 < (1 : Int))) (fun p150 => ?_) (fun p150 => ?_)
      · replace h := ite_T p150 h
        rw [p150]
        refine rz rfl rfl ?_
        refine rz rfl rfl ?_
        refine ro rfl rfl (st_pickT rfl rfl) ?_
        refine ro rfl rfl (st_mv rfl) ?_
        refine rz rfl rfl ?_
        refine rz rfl rfl ?_
        refine rz rfl rfl ?_
        refine rz rfl rfl ?_
        refine rz rfl rfl ?_
        refine rz rfl rfl ?_
        refine rz rfl rfl ?_
        refine rz rfl rfl ?_
        refine rz rfl rfl ?_
        refine rz rfl rfl ?_
        refine rz rfl rfl ?_
        refine ro rfl rfl (st_pickT rfl rfl) ?_
        refine rw_nil ?_
        refine nx_then ?_
        exact J148 true () _ _ h (gh_frz rfl rfl ⟨⟨_, rfl, .keep rfl⟩, ⟨_, rfl, .keep rfl⟩, ⟨_, rfl, .keep rfl⟩, ⟨_, rfl, .keep rfl⟩, ⟨_, rfl, .keep rfl⟩, trivial⟩ trivial)
      · replace h := ite_F p150 h
        rw [p150]
        refine ro rfl rfl (st_mv rfl) ?_
        refine ro rfl rfl (st_bin (v := dB (decide (x105 > (65536 : Int)))) rfl rfl rfl) ?_
        refine ro rfl rfl (st_pickF rfl rfl) ?_
        refine ro rfl rfl (st_mv rfl) ?_
        refine bool_split (decide (x105 > (65536 : Int))) (fun p151 => ?_) (fun p151 => ?_)
        · replace h := ite_T p151 h
          rw [p151]
          refine rz rfl rfl ?_
          refine rz rfl rfl ?_
          refine rz rfl rfl ?_
          refine rz rfl rfl ?_
          refine rz rfl rfl ?_
          refine rz rfl rfl ?_
          refine rz rfl rfl ?_
          refine rz rfl rfl ?_
          refine rz rfl rfl ?_
          refine rz rfl rfl ?_
          refine rz rfl rfl ?_
          refine ro rfl rfl (st_pickT rfl rfl) ?_
          refine rw_nil ?_
          refine nx_then ?_
          exact J148 true () _ _ h (gh_frz rfl rfl ⟨⟨_, rfl, .keep rfl⟩, ⟨_, rfl, .keep rfl⟩, ⟨_, rfl, .keep rfl⟩, ⟨_, rfl, .keep rfl⟩, ⟨_, rfl, .keep rfl⟩, trivial⟩ trivial)
        · replace h := ite_F p151 h
          rw [p151]
          refine ro rfl rfl (st_mv rfl) ?_
          refine ro rfl rfl (st_bin (v := dB (decide (((j104 : Nat) : Int) > (0 : Int)))) rfl rfl rfl) ?_
          refine ro rfl rfl (st_mv rfl) ?_
          refine bool_split (decide (((j104 : Nat) : Int) > (0 : Int))) (fun p152 => ?_) (fun p152 => ?_)
          · replace h := ite_T p152 h
            rw [p152]
            refine ro rfl rfl (st_mv rfl) ?_
            refine ro rfl rfl (st_mv rfl) ?_
            refine ro rfl rfl (st_bin (v := dI .i64 (IntKind.wrap .i64 (((j104 : Nat) : Int) - (1 : Int)))) rfl rfl rfl) ?_
            obtain ⟨x153, h0153, hx153, h⟩ := getI_some h
            refine ro rfl rfl (st_ixD sl22 rfl rfl h0153 hx153) ?_
            refine ro rfl rfl (st_ldD (v := dI .i64 x153) ta3 rfl rfl) ?_
            refine ro rfl rfl (st_mv rfl) ?_
            refine ro rfl rfl (st_bin (v := dB (decide (x153 ≥ x105))) rfl rfl rfl) ?_
            refine ro rfl rfl (st_pickT rfl rfl) ?_
            refine ro rfl rfl (st_pickF rfl rfl) ?_
            refine rw_nil ?_
            refine nx_then ?_
            exact J148 (decide (x153 ≥ x105)) () _ _ h (gh_frz rfl rfl ⟨⟨_, rfl, .keep rfl⟩, ⟨_, rfl, .keep rfl⟩, ⟨_, rfl, .keep rfl⟩, ⟨_, rfl, .keep rfl⟩, ⟨_, rfl, .keep rfl⟩, trivial⟩ trivial)
          · replace h := ite_F p152 h
            rw [p152]
            refine rz rfl rfl ?_
            refine rz rfl rfl ?_
            refine rz rfl rfl ?_
            refine rz rfl rfl ?_
            refine rz rfl rfl ?_
            refine rz rfl rfl ?_
            refine rz rfl rfl ?_
            refine ro rfl rfl (st_pickF rfl rfl) ?_
            refine ro rfl rfl (st_pickF rfl rfl) ?_
            refine rw_nil ?_
            refine nx_then ?_
            exact J148 false () _ _ h (gh_frz rfl rfl ⟨⟨_, rfl, .keep rfl⟩, ⟨_, rfl, .keep rfl⟩, ⟨_, rfl, .keep rfl⟩, ⟨_, rfl, .keep rfl⟩, ⟨_, rfl, .keep rfl⟩, trivial⟩ trivial)
  · clear h
    intro s101 g102 h
    refine awp_rs ?_
    refine ro rfl rfl (st_bin (v := dB (decide (((a0.length : Nat) : Int) < ((a0.length : Nat) : Int)))) rfl rfl rfl) ?_
    refine rw_nilk ?_
    refine awp_seq ?_
    refine awp_ifF rfl dge ?_
    refine awp_exit ?_
    refine ex_out ?_
    refine ex_out ?_
    refine ex_in ?_
    refine nx_then ?_
    refine awp_rs ?_
    refine ro rfl rfl (st_as rfl) ?_
    refine rw_nilk ?_
    refine awp_ret ?_
    injection h with h
    subst h
    exact ret_out (v := dB true) (resV_one (resVs_tmp rfl resVs_nil)) (.keep rfl)

theorem ok_prefix_abs {a0 : Int} {r : Int} (h : F_prefix_abs a0 = some r) : Fn Tryz.prog 90 [dI .i64 a0] (dI .i64 r) := by
  unfold F_prefix_abs at h
  refine Fn.of_body (N := 7) (rs := [.tmp 2]) Tryz.func90 (c := _) rfl rfl rfl (by kernel_rfl) (Nat.le_of_ble_eq_true rfl) (fun _B => ?_)
  refine awp_rs ?_
  refine ro rfl rfl (st_as rfl) ?_
  refine rw_nilk ?_
  refine awp_rs ?_
  refine ro rfl rfl (st_mv rfl) ?_
  refine ro rfl rfl (st_mv rfl) ?_
  refine ro rfl rfl (st_un (v := dI .i64 (IntKind.wrap .i64 (0 - a0))) rfl rfl) ?_
  refine ro rfl rfl (st_max rfl rfl) ?_
  refine ro rfl rfl (st_as rfl) ?_
  refine rw_nilk ?_
  refine awp_ret ?_
  injection h with h
  subst h
  exact ret_out (v := dI .i64 (imx a0 (IntKind.wrap .i64 (0 - a0)))) (resV_one (resVs_tmp rfl resVs_nil)) (.keep rfl)

theorem ok_prefix_MayDqbf {a0 : S_api_Dqbf} {r : Bool} (h : F_prefix_MayDqbf a0 = some r) : Fn Tryz.prog 20 [.agg [dL 1 (eI .i64) a0.Univ, dL 2 e_S_api_Dep a0.Exist, dL 1 (eL 1 (eI .i64)) a0.Clauses]] (dB r) := by
  unfold F_prefix_MayDqbf at h
  refine Fn.of_body (N := 87) (rs := [.tmp 2]) Tryz.func20 (c := _) rfl rfl rfl (by kernel_rfl) (Nat.le_of_ble_eq_true rfl) (fun _B => ?_)
  refine awp_rs ?_
  refine rn (r := 1001) rfl rfl (st_box rfl rfl rfl co26 rfl rfl) rfl ?_
  refine ro rfl rfl (st_as rfl) ?_
  refine rw_nilk ?_
  refine awp_rs ?_
  refine rn (r := 1002) (L' := [(1001, .row 0 26 [[dL 1 (eI .i64) a0.Univ, dL 2 e_S_api_Dep a0.Exist, dL 1 (eL 1 (eI .i64)) a0.Clauses]]), (1002, mapO .i64 (fun (b : Bool) => dB b) ([] : List (Int × Bool)))]) rfl rfl (st_mkM rfl) rfl ?_
  refine rn (r := 1003) (L' := [(1001, .row 0 26 [[dL 1 (eI .i64) a0.Univ, dL 2 e_S_api_Dep a0.Exist, dL 1 (eL 1 (eI .i64)) a0.Clauses]]), (1002, mapO .i64 (fun (b : Bool) => dB b) ([] : List (Int × Bool))), (1003, mapO .i64 (fun (b : Bool) => dB b) ([] : List (Int × Bool)))]) rfl rfl (st_mkM rfl) rfl ?_
  refine rn (r := 1004) rfl rfl (st_alloc zc75 rfl rfl) rfl ?_
  refine rx (L' := [(1001, .row 0 26 [[dL 1 (eI .i64) a0.Univ, dL 2 e_S_api_Dep a0.Exist, dL 1 (eL 1 (eI .i64)) a0.Clauses]]), (1002, mapO .i64 (fun (b : Bool) => dB b) ([] : List (Int × Bool))), (1003, mapO .i64 (fun (b : Bool) => dB b) ([] : List (Int × Bool))), (1004, .row 0 75 [[.map 1002]])]) rfl rfl (st_stP ta75 rfl rfl rfl rfl rfl rfl rfl rfl) rfl ?_
  refine ro rfl rfl (st_as rfl) ?_
  refine rw_nilk ?_
  refine awp_seq ?_
  refine awp_rs ?_
  refine ro rfl rfl (st_faP fo26_0 rfl) ?_
  refine ro rfl rfl (st_ldP (v := dL 1 (eI .i64) a0.Univ) ta22 rfl rfl rfl rfl) ?_
  refine ro rfl rfl (st_lenD rfl un22) ?_
  refine ro rfl rfl (st_mv rfl) ?_
  refine rw_nilk ?_
  refine awp_block ?_
  refine awp_len (t := 15) rfl (fun hl104 => ?_)
  rw [List.length_map] at hl104
  refine awp_range (fun (j104 : Nat) (s101 : ((List (Int × Bool)) × (List (Int × Bool)))) (g102 : Unit) => [(1, .ptr 1001 0 0 0), (3, .ptr 1004 0 0 0), (4, .map 1003), (15, dL 1 (eI .i64) a0.Univ), (16, dI .i64 ((a0.Univ.length : Nat) : Int)), (17, dI .i64 ((j104 : Nat) : Int))]) (fun (s101 : ((List (Int × Bool)) × (List (Int × Bool)))) (g102 : Unit) => [(1001, .row 0 26 [[dL 1 (eI .i64) a0.Univ, dL 2 e_S_api_Dep a0.Exist, dL 1 (eL 1 (eI .i64)) a0.Clauses]]), (1002, mapO .i64 (fun (b : Bool) => dB b) s101.1), (1003, mapO .i64 (fun (b : Bool) => dB b) s101.2), (1004, .row 0 75 [[.map 1002]])]) () (fun _ _ _ h => h) h (gh_frz rfl rfl ⟨⟨_, rfl, .keep rfl⟩, ⟨_, rfl, .keep rfl⟩, ⟨_, rfl, .keep rfl⟩, ⟨_, rfl, .keep rfl⟩, ⟨_, rfl, .keep rfl⟩, ⟨_, rfl, .keep rfl⟩, trivial⟩ ⟨⟨_, rfl, objOne ⟨⟨rfl, .keep rfl⟩, ⟨rfl, .keep rfl⟩, ⟨rfl, .keep rfl⟩, trivial⟩⟩, ⟨_, rfl, objMap (fun _ => rfl) _⟩, ⟨_, rfl, objMap (fun _ => rfl) _⟩, ⟨_, rfl, objOne ⟨⟨rfl, .keep rfl⟩, trivial⟩⟩, trivial⟩) ?_ ?_
  · clear h
    intro j104 x105 s101 g102 k103 hj104 hx104 h ih103
    refine awp_rs ?_
    refine ro rfl rfl (st_bin (v := dB (decide (((j104 : Nat) : Int) < ((a0.Univ.length : Nat) : Int)))) rfl rfl rfl) ?_
    refine rw_nilk ?_
    refine awp_seq ?_
    refine awp_ifT rfl (dlt hj104) ?_
    refine awp_skip ?_
    refine nx_then ?_
    refine awp_seq ?_
    refine awp_block ?_
    refine awp_rs ?_
    refine ro rfl rfl (st_ixDn sl22 rfl rfl hx104) ?_
    refine ro rfl rfl (st_ldD (v := dI .i64 x105) ta3 rfl rfl) ?_
    refine ro rfl rfl (st_as rfl) ?_
    refine rw_nilk ?_
    refine awp_rw ?_
    refine ro rfl rfl (st_ldP (v := .map 1002) ta75 rfl rfl rfl rfl) ?_
    refine ro rfl rfl (st_mv rfl) ?_
    refine ro rfl rfl (st_mv rfl) ?_
    refine ro rfl rfl (st_mv rfl) ?_
    refine rx (L' := [(1001, .row 0 26 [[dL 1 (eI .i64) a0.Univ, dL 2 e_S_api_Dep a0.Exist, dL 1 (eL 1 (eI .i64)) a0.Clauses]]), (1002, mapO .i64 (fun (b : Bool) => dB b) (mset s101.1 x105 true)), (1003, mapO .i64 (fun (b : Bool) => dB b) s101.2), (1004, .row 0 75 [[.map 1002]])]) rfl rfl (st_mapUp (vf := (fun (b : Bool) => dB b)) (b := true) (xs := s101.1) un75 un3 rfl rfl rfl rfl) rfl ?_
    refine rx (L' := [(1001, .row 0 26 [[dL 1 (eI .i64) a0.Univ, dL 2 e_S_api_Dep a0.Exist, dL 1 (eL 1 (eI .i64)) a0.Clauses]]), (1002, mapO .i64 (fun (b : Bool) => dB b) (mset s101.1 x105 true)), (1003, mapO .i64 (fun (b : Bool) => dB b) (mset s101.2 x105 true)), (1004, .row 0 75 [[.map 1002]])]) rfl rfl (st_mapUp (vf := (fun (b : Bool) => dB b)) (b := true) (xs := s101.2) un75 un3 rfl rfl rfl rfl) rfl ?_
    refine rw_nil ?_
    refine nx_block ?_
    refine nx_then ?_
    refine awp_rw ?_
    refine ro rfl rfl (st_inc rfl rfl hj104 hl104) ?_
    refine ro rfl rfl (st_mv rfl) ?_
    refine rw_nil ?_
    refine nx_then ?_
    refine awp_gh ?_ (ih103 ((mset s101.1 x105 true), (mset s101.2 x105 true)) () h)
    exact (gh_frz rfl rfl ⟨⟨_, rfl, .keep rfl⟩, ⟨_, rfl, .keep rfl⟩, ⟨_, rfl, .keep rfl⟩, ⟨_, rfl, .keep rfl⟩, ⟨_, rfl, .keep rfl⟩, ⟨_, rfl, .keep rfl⟩, trivial⟩ ⟨⟨_, rfl, objOne ⟨⟨rfl, .keep rfl⟩, ⟨rfl, .keep rfl⟩, ⟨rfl, .keep rfl⟩, trivial⟩⟩, ⟨_, rfl, objMap (fun _ => rfl) _⟩, ⟨_, rfl, objMap (fun _ => rfl) _⟩, ⟨_, rfl, objOne ⟨⟨rfl, .keep rfl⟩, trivial⟩⟩, trivial⟩)
  · clear h
    intro s101 g102 h
    refine awp_rs ?_
    refine ro rfl rfl (st_bin (v := dB (decide (((a0.Univ.length : Nat) : Int) < ((a0.Univ.length : Nat) : Int)))) rfl rfl rfl) ?_
    refine rw_nilk ?_
    refine awp_seq ?_
    refine awp_ifF rfl dge ?_
    refine awp_exit ?_
    refine ex_out ?_
    refine ex_out ?_
    refine ex_in ?_
    refine nx_then ?_
    refine awp_rs ?_
    refine ro rfl rfl (st_as rfl) ?_
    refine rw_nilk ?_
    refine awp_seq ?_
    refine awp_rs ?_
    refine ro rfl rfl (st_faP fo26_1 rfl) ?_
    refine ro rfl rfl (st_ldP (v := dL 2 e_S_api_Dep a0.Exist) ta23 rfl rfl rfl rfl) ?_
    refine ro rfl rfl (st_lenD rfl un23) ?_
    refine ro rfl rfl (st_mv rfl) ?_
    refine rw_nilk ?_
    refine awp_block ?_
    refine awp_len (t := 27) rfl (fun hl109 => ?_)
    rw [List.length_map] at hl109
    refine awp_range (fun (j109 : Nat) (s106 : (List Int)) (g107 : Nat) => [(1, .ptr 1001 0 0 0), (3, .ptr 1004 0 0 0), (4, .map 1003), (7, .slice 1007 g107 0 s106.length), (27, dL 2 e_S_api_Dep a0.Exist), (28, dI .i64 ((a0.Exist.length : Nat) : Int)), (29, dI .i64 ((j109 : Nat) : Int))]) (fun (s106 : (List Int)) (g107 : Nat) => [(1001, .row 0 26 [[dL 1 (eI .i64) a0.Univ, dL 2 e_S_api_Dep a0.Exist, dL 1 (eL 1 (eI .i64)) a0.Clauses]]), (1002, mapO .i64 (fun (b : Bool) => dB b) s101.1), (1003, mapO .i64 (fun (b : Bool) => dB b) s101.2), (1004, .row 0 75 [[.map 1002]]), (1007, rw' g107 3 (eI .i64) s106)]) 0 (fun _ _ _ h => h) h (Gh.trans (gh_nil (r := 1007) (E' := [(1, .ptr 1001 0 0 0), (3, .ptr 1004 0 0 0), (4, .map 1003), (7, .slice 1007 0 0 (([] : List Int).length)), (27, dL 2 e_S_api_Dep a0.Exist), (28, dI .i64 ((a0.Exist.length : Nat) : Int)), (29, dI .i64 (0 : Int))]) (L' := [(1001, .row 0 26 [[dL 1 (eI .i64) a0.Univ, dL 2 e_S_api_Dep a0.Exist, dL 1 (eL 1 (eI .i64)) a0.Clauses]]), (1002, mapO .i64 (fun (b : Bool) => dB b) s101.1), (1003, mapO .i64 (fun (b : Bool) => dB b) s101.2), (1004, .row 0 75 [[.map 1002]])]) rfl co3 rfl rfl ⟨⟨_, rfl, .keep _⟩, ⟨_, rfl, .keep _⟩, ⟨_, rfl, .keep _⟩, ⟨_, rfl, .nil⟩, ⟨_, rfl, .keep _⟩, ⟨_, rfl, .keep _⟩, ⟨_, rfl, .keep _⟩, trivial⟩ ⟨⟨_, rfl, .keep _⟩, ⟨_, rfl, .keep _⟩, ⟨_, rfl, .keep _⟩, ⟨_, rfl, .keep _⟩, trivial⟩) (gh_frz rfl rfl ⟨⟨_, rfl, .keep rfl⟩, ⟨_, rfl, .keep rfl⟩, ⟨_, rfl, .keep rfl⟩, ⟨_, rfl, .keep rfl⟩, ⟨_, rfl, .keep rfl⟩, ⟨_, rfl, .keep rfl⟩, ⟨_, rfl, .keep rfl⟩, trivial⟩ ⟨⟨_, rfl, objOne ⟨⟨rfl, .keep rfl⟩, ⟨rfl, .keep rfl⟩, ⟨rfl, .keep rfl⟩, trivial⟩⟩, ⟨_, rfl, objMap (fun _ => rfl) _⟩, ⟨_, rfl, objMap (fun _ => rfl) _⟩, ⟨_, rfl, objOne ⟨⟨rfl, .keep rfl⟩, trivial⟩⟩, ⟨_, rfl, objRow (List.map (eI .i64) ([] : List Int))⟩, trivial⟩)) ?_ ?_
    · clear h
      intro j109 x110 s106 g107 k108 hj109 hx109 h ih108
      refine awp_rs ?_
      refine ro rfl rfl (st_bin (v := dB (decide (((j109 : Nat) : Int) < ((a0.Exist.length : Nat) : Int)))) rfl rfl rfl) ?_
      refine rw_nilk ?_
      refine awp_seq ?_
      refine awp_ifT rfl (dlt hj109) ?_
      refine awp_skip ?_
      refine nx_then ?_
      refine awp_seq ?_
      refine awp_block ?_
      refine awp_rs ?_
      refine ro rfl rfl (st_ixDn sl23 rfl rfl hx109) ?_
      refine ro rfl rfl (st_ldD (v := .agg [dI .i64 x110.Var, dL 1 (eI .i64) x110.On]) ta44 rfl rfl) ?_
      refine rn (r := 1008) rfl rfl (st_alloc zc44 rfl rfl) rfl ?_
      refine rx (L' := [(1001, .row 0 26 [[dL 1 (eI .i64) a0.Univ, dL 2 e_S_api_Dep a0.Exist, dL 1 (eL 1 (eI .i64)) a0.Clauses]]), (1002, mapO .i64 (fun (b : Bool) => dB b) s101.1), (1003, mapO .i64 (fun (b : Bool) => dB b) s101.2), (1004, .row 0 75 [[.map 1002]]), (1007, rw' g107 3 (eI .i64) s106), (1008, .row 0 44 [[dI .i64 x110.Var, dL 1 (eI .i64) x110.On]])]) rfl rfl (st_stP ta44 rfl rfl rfl rfl rfl rfl rfl rfl) rfl ?_
      refine rw_nilk ?_
      refine awp_seq ?_
      refine awp_jn (fun (s1573 : Bool) (g1574 : Unit) => [(1, .ptr 1001 0 0 0), (3, .ptr 1004 0 0 0), (4, .map 1003), (7, .slice 1007 g107 0 s106.length), (9, .ptr 1008 0 0 0), (27, dL 2 e_S_api_Dep a0.Exist), (28, dI .i64 ((a0.Exist.length : Nat) : Int)), (29, dI .i64 ((j109 : Nat) : Int)), (48, dB s1573)]) (fun (s1573 : Bool) (g1574 : Unit) => [(1001, .row 0 26 [[dL 1 (eI .i64) a0.Univ, dL 2 e_S_api_Dep a0.Exist, dL 1 (eL 1 (eI .i64)) a0.Clauses]]), (1002, mapO .i64 (fun (b : Bool) => dB b) s101.1), (1003, mapO .i64 (fun (b : Bool) => dB b) s101.2), (1004, .row 0 75 [[.map 1002]]), (1007, rw' g107 3 (eI .i64) s106), (1008, .row 0 44 [[dI .i64 x110.Var, dL 1 (eI .i64) x110.On]])]) h ?_ ?_
      · clear h
        intro s1573 g1574 h
        refine awp_ite (b := s1573) rfl (fun p1576 => ?_) (fun p1576 => ?_)
        · replace h := ite_T p1576 h
          refine awp_rs ?_
          refine ro rfl rfl (st_as rfl) ?_
          refine rw_nilk ?_
          refine awp_ret ?_
          refine rt_then ?_
          refine rt_block ?_
          refine rt_then ?_
          refine rt_then ?_
          refine rt_block ?_
          refine rt_then ?_
          injection h with h
          subst h
          exact ret_out (v := dB false) (resV_one (resVs_tmp rfl resVs_nil)) (.keep rfl)
        · replace h := ite_F p1576 h
          refine awp_skip ?_
          refine nx_then ?_
          refine awp_rw ?_
          refine ro rfl rfl (st_mv rfl) ?_
          refine ro rfl rfl (st_faP fo44_0 rfl) ?_
          refine ro rfl rfl (st_ldP (v := dI .i64 x110.Var) ta3 rfl rfl rfl rfl) ?_
          refine rn (r := 1009) rfl rfl (st_bsl (els := [[dI .i64 x110.Var]]) sl22 zc3 rfl rfl rfl rfl rfl) rfl ?_
          obtain ⟨c1577, h⟩ := capN_some h
          refine rn (r := 0) (L' := [(1001, .row 0 26 [[dL 1 (eI .i64) a0.Univ, dL 2 e_S_api_Dep a0.Exist, dL 1 (eL 1 (eI .i64)) a0.Clauses]]), (1002, mapO .i64 (fun (b : Bool) => dB b) s101.1), (1003, mapO .i64 (fun (b : Bool) => dB b) s101.2), (1004, .row 0 75 [[.map 1002]]), (1007, rw' (g107 + 2) 3 (eI .i64) (s106 ++ [x110.Var])), (1008, .row 0 44 [[dI .i64 x110.Var, dL 1 (eI .i64) x110.On]]), (1009, .row 1 3 [[dI .i64 x110.Var]])]) rfl rfl (st_appR (f := (eI .i64)) (xs := s106) (ys := [x110.Var]) sl22 zc3 rfl rfl rfl rfl rfl (news_one (a := x110.Var) rfl rfl) c1577) rfl ?_
          refine ro rfl rfl (st_as rfl) ?_
          refine rw_nil ?_
          refine nx_block ?_
          refine nx_then ?_
          refine awp_rw ?_
          refine ro rfl rfl (st_inc rfl rfl hj109 hl109) ?_
          refine ro rfl rfl (st_mv rfl) ?_
          refine rw_nil ?_
          refine nx_then ?_
          refine awp_gh ?_ (ih108 (s106 ++ [x110.Var]) (g107 + 2) h)
          exact (gh_frz rfl rfl ⟨⟨_, rfl, .keep rfl⟩, ⟨_, rfl, .keep rfl⟩, ⟨_, rfl, .keep rfl⟩, ⟨_, rfl, .keep rfl⟩, ⟨_, rfl, .keep rfl⟩, ⟨_, rfl, .keep rfl⟩, ⟨_, rfl, .keep rfl⟩, trivial⟩ ⟨⟨_, rfl, objOne ⟨⟨rfl, .keep rfl⟩, ⟨rfl, .keep rfl⟩, ⟨rfl, .keep rfl⟩, trivial⟩⟩, ⟨_, rfl, objMap (fun _ => rfl) _⟩, ⟨_, rfl, objMap (fun _ => rfl) _⟩, ⟨_, rfl, objOne ⟨⟨rfl, .keep rfl⟩, trivial⟩⟩, ⟨_, rfl, objRow _⟩, trivial⟩)
      · clear h
        intro k1575 h J1575
        refine awp_rw ?_
        refine ro rfl rfl (st_mv rfl) ?_
        refine ro rfl rfl (st_faP fo44_0 rfl) ?_
        refine ro rfl rfl (st_ldP (v := dI .i64 x110.Var) ta3 rfl rfl rfl rfl) ?_
        refine ro rfl rfl (st_look (vf := (fun (b : Bool) => dB b)) (z := false) (xs := s101.2) un75 un3 za4 rfl rfl rfl) ?_
        refine ro rfl rfl (st_mv rfl) ?_
        refine bool_split ((mget s101.2 x110.Var).getD false) (fun p1578 => ?_) (fun p1578 => ?_)
        · replace h := ite_T p1578 h
          rw [p1578]
          refine rz rfl rfl ?_
          refine rz rfl rfl ?_
          refine rz rfl rfl ?_
          refine rz rfl rfl ?_
          refine ro rfl rfl (st_pickT rfl rfl) ?_
          refine ro rfl rfl (st_mv rfl) ?_
          refine rz rfl rfl ?_
          refine rz rfl rfl ?_
          refine rz rfl rfl ?_
          refine rz rfl rfl ?_
          refine ro rfl rfl (st_pickT rfl rfl) ?_
          refine rw_nil ?_
          refine nx_then ?_
          exact J1575 true () _ _ h (gh_frz rfl rfl ⟨⟨_, rfl, .keep rfl⟩, ⟨_, rfl, .keep rfl⟩, ⟨_, rfl, .keep rfl⟩, ⟨_, rfl, .keep rfl⟩, ⟨_, rfl, .keep rfl⟩, ⟨_, rfl, .keep rfl⟩, ⟨_, rfl, .keep rfl⟩, ⟨_, rfl, .keep rfl⟩, ⟨_, rfl, .keep rfl⟩, trivial⟩ ⟨⟨_, rfl, objOne ⟨⟨rfl, .keep rfl⟩, ⟨rfl, .keep rfl⟩, ⟨rfl, .keep rfl⟩, trivial⟩⟩, ⟨_, rfl, objMap (fun _ => rfl) _⟩, ⟨_, rfl, objMap (fun _ => rfl) _⟩, ⟨_, rfl, objOne ⟨⟨rfl, .keep rfl⟩, trivial⟩⟩, ⟨_, rfl, objRow _⟩, ⟨_, rfl, objOne ⟨⟨rfl, .keep rfl⟩, ⟨rfl, .keep rfl⟩, trivial⟩⟩, trivial⟩)
        · replace h := ite_F p1578 h
          rw [p1578]
          refine ro rfl rfl (st_faP fo44_1 rfl) ?_
          refine ro rfl rfl (st_ldP (v := dL 1 (eI .i64) x110.On) ta22 rfl rfl rfl rfl) ?_
          obtain ⟨y1579, hy1579, h⟩ := bind_some_elim h
          refine rf rfl rfl (ok_prefix_rises hy1579) rfl rfl ?_
          refine ro rfl rfl (st_un (v := dB (!y1579)) rfl rfl) ?_
          refine ro rfl rfl (st_pickF rfl rfl) ?_
          refine ro rfl rfl (st_mv rfl) ?_
          refine bool_split (!y1579) (fun p1580 => ?_) (fun p1580 => ?_)
          · replace h := ite_T p1580 h
            rw [p1580]
            refine rz rfl rfl ?_
            refine rz rfl rfl ?_
            refine rz rfl rfl ?_
            refine rz rfl rfl ?_
            refine ro rfl rfl (st_pickT rfl rfl) ?_
            refine rw_nil ?_
            refine nx_then ?_
            exact J1575 true () _ _ h (gh_frz rfl rfl ⟨⟨_, rfl, .keep rfl⟩, ⟨_, rfl, .keep rfl⟩, ⟨_, rfl, .keep rfl⟩, ⟨_, rfl, .keep rfl⟩, ⟨_, rfl, .keep rfl⟩, ⟨_, rfl, .keep rfl⟩, ⟨_, rfl, .keep rfl⟩, ⟨_, rfl, .keep rfl⟩, ⟨_, rfl, .keep rfl⟩, trivial⟩ ⟨⟨_, rfl, objOne ⟨⟨rfl, .keep rfl⟩, ⟨rfl, .keep rfl⟩, ⟨rfl, .keep rfl⟩, trivial⟩⟩, ⟨_, rfl, objMap (fun _ => rfl) _⟩, ⟨_, rfl, objMap (fun _ => rfl) _⟩, ⟨_, rfl, objOne ⟨⟨rfl, .keep rfl⟩, trivial⟩⟩, ⟨_, rfl, objRow _⟩, ⟨_, rfl, objOne ⟨⟨rfl, .keep rfl⟩, ⟨rfl, .keep rfl⟩, trivial⟩⟩, trivial⟩)
          · replace h := ite_F p1580 h
            rw [p1580]
            refine ro rfl rfl (st_faP fo44_1 rfl) ?_
            refine ro rfl rfl (st_ldP (v := dL 1 (eI .i64) x110.On) ta22 rfl rfl rfl rfl) ?_
            refine ro rfl rfl (st_fn rfl rfl) ?_
            refine ri (N := 9) (rs := [.tmp 4]) rfl rfl rfl rfl Tryz.func40 rfl rfl rfl (by kernel_rfl) rfl (fun _B => ?_)
            refine awp_rs ?_
            refine ro rfl rfl (st_as rfl) ?_
            refine rw_nilk ?_
            refine awp_rs ?_
            refine ro rfl rfl (st_mv rfl) ?_
            refine ro rfl rfl (st_mv rfl) ?_
            refine rw_jn (fun (s1611 : Int) (g1612 : Unit) => [(7, dI .i64 s1611)]) (fun (s1611 : Int) (g1612 : Unit) => [(1001, .row 0 26 [[dL 1 (eI .i64) a0.Univ, dL 2 e_S_api_Dep a0.Exist, dL 1 (eL 1 (eI .i64)) a0.Clauses]]), (1002, mapO .i64 (fun (b : Bool) => dB b) s101.1), (1003, mapO .i64 (fun (b : Bool) => dB b) s101.2), (1004, .row 0 75 [[.map 1002]]), (1007, rw' g107 3 (eI .i64) s106), (1008, .row 0 44 [[dI .i64 x110.Var, dL 1 (eI .i64) x110.On]])]) h ?_ ?_
            · clear h
              intro s1611 g1612 h
              refine ro rfl rfl (st_bin (v := dB (decide (s1611 ≥ (0 : Int)))) rfl rfl rfl) ?_
              refine ro rfl rfl (st_as rfl) ?_
              refine rw_nilk ?_
              refine awp_ret ?_
              refine ret_in (v := dB (decide (s1611 ≥ (0 : Int)))) (resV_one (resVs_tmp rfl resVs_nil)) ?_
              show RW _ _ _ _ _ _ _
              refine ro rfl rfl (st_pickF rfl rfl) ?_
              refine rw_nil ?_
              refine nx_then ?_
              exact J1575 (decide (s1611 ≥ (0 : Int))) () _ _ h (gh_frz rfl rfl ⟨⟨_, rfl, .keep rfl⟩, ⟨_, rfl, .keep rfl⟩, ⟨_, rfl, .keep rfl⟩, ⟨_, rfl, .keep rfl⟩, ⟨_, rfl, .keep rfl⟩, ⟨_, rfl, .keep rfl⟩, ⟨_, rfl, .keep rfl⟩, ⟨_, rfl, .keep rfl⟩, ⟨_, rfl, .keep rfl⟩, trivial⟩ ⟨⟨_, rfl, objOne ⟨⟨rfl, .keep rfl⟩, ⟨rfl, .keep rfl⟩, ⟨rfl, .keep rfl⟩, trivial⟩⟩, ⟨_, rfl, objMap (fun _ => rfl) _⟩, ⟨_, rfl, objMap (fun _ => rfl) _⟩, ⟨_, rfl, objOne ⟨⟨rfl, .keep rfl⟩, trivial⟩⟩, ⟨_, rfl, objRow _⟩, ⟨_, rfl, objOne ⟨⟨rfl, .keep rfl⟩, ⟨rfl, .keep rfl⟩, trivial⟩⟩, trivial⟩)
            · clear h
              intro k1613 h J1613
              refine ri (N := 19) (rs := [.tmp 4]) rfl rfl rfl rfl Tryz.func83 rfl rfl rfl (by kernel_rfl) rfl (fun _B => ?_)
              refine awp_rs ?_
              refine ro rfl rfl (st_as rfl) ?_
              refine rw_nilk ?_
              refine awp_seq ?_
              refine awp_rs ?_
              refine ro rfl rfl (st_mv rfl) ?_
              refine ro rfl rfl (st_lenD rfl un22) ?_
              refine ro rfl rfl (st_mv rfl) ?_
              refine rw_nilk ?_
              refine awp_block ?_
              refine awp_len (t := 0) rfl (fun hl1617 => ?_)
              rw [List.length_map] at hl1617
              refine awp_range (fun (j1617 : Nat) (s1614 : Unit) (g1615 : Unit) => [(0, dL 1 (eI .i64) x110.On), (1, .fn 53 [] [.ptr 1004 0 0 0]), (7, dI .i64 ((x110.On.length : Nat) : Int)), (8, dI .i64 ((j1617 : Nat) : Int))]) (fun (s1614 : Unit) (g1615 : Unit) => [(1001, .row 0 26 [[dL 1 (eI .i64) a0.Univ, dL 2 e_S_api_Dep a0.Exist, dL 1 (eL 1 (eI .i64)) a0.Clauses]]), (1002, mapO .i64 (fun (b : Bool) => dB b) s101.1), (1003, mapO .i64 (fun (b : Bool) => dB b) s101.2), (1004, .row 0 75 [[.map 1002]]), (1007, rw' g107 3 (eI .i64) s106), (1008, .row 0 44 [[dI .i64 x110.Var, dL 1 (eI .i64) x110.On]])]) () (fun _ _ _ h => h) h (gh_frz rfl rfl ⟨⟨_, rfl, .keep rfl⟩, ⟨_, rfl, .keep rfl⟩, ⟨_, rfl, .keep rfl⟩, ⟨_, rfl, .keep rfl⟩, trivial⟩ ⟨⟨_, rfl, objOne ⟨⟨rfl, .keep rfl⟩, ⟨rfl, .keep rfl⟩, ⟨rfl, .keep rfl⟩, trivial⟩⟩, ⟨_, rfl, objMap (fun _ => rfl) _⟩, ⟨_, rfl, objMap (fun _ => rfl) _⟩, ⟨_, rfl, objOne ⟨⟨rfl, .keep rfl⟩, trivial⟩⟩, ⟨_, rfl, objRow _⟩, ⟨_, rfl, objOne ⟨⟨rfl, .keep rfl⟩, ⟨rfl, .keep rfl⟩, trivial⟩⟩, trivial⟩) ?_ ?_
              · clear h
                intro j1617 x1618 s1614 g1615 k1616 hj1617 hx1617 h ih1616
                refine awp_rs ?_
                refine ro rfl rfl (st_bin (v := dB (decide (((j1617 : Nat) : Int) < ((x110.On.length : Nat) : Int)))) rfl rfl rfl) ?_
                refine rw_nilk ?_
                refine awp_seq ?_
                refine awp_ifT rfl (dlt hj1617) ?_
                refine awp_skip ?_
                refine nx_then ?_
                refine awp_seq ?_
                refine awp_block ?_
                refine awp_rs ?_
                refine ro rfl rfl (st_mv rfl) ?_
                refine ro rfl rfl (st_as rfl) ?_
                refine rw_nilk ?_
                refine awp_rs ?_
                refine ro rfl rfl (st_mv rfl) ?_
                refine ro rfl rfl (st_mv rfl) ?_
                refine ro rfl rfl (st_mv rfl) ?_
                refine ro rfl rfl (st_ixDn sl22 rfl rfl hx1617) ?_
                refine ro rfl rfl (st_ldD (v := dI .i64 x1618) ta3 rfl rfl) ?_
                refine ri (N := 8) (rs := [.tmp 3]) rfl rfl rfl rfl Tryz.func53 rfl rfl rfl (by kernel_rfl) rfl (fun _B => ?_)
                refine awp_rs ?_
                refine ro rfl rfl (st_as rfl) ?_
                refine rw_nilk ?_
                refine awp_rs ?_
                refine ro rfl rfl (st_ldP (v := .map 1002) ta75 rfl rfl rfl rfl) ?_
                refine ro rfl rfl (st_mv rfl) ?_
                refine ro rfl rfl (st_look (vf := (fun (b : Bool) => dB b)) (z := false) (xs := s101.1) un75 un3 za4 rfl rfl rfl) ?_
                refine ro rfl rfl (st_un (v := dB (!((mget s101.1 x1618).getD false))) rfl rfl) ?_
                refine ro rfl rfl (st_as rfl) ?_
                refine rw_nilk ?_
                refine awp_ret ?_
                refine ret_in (v := dB (!((mget s101.1 x1618).getD false))) (resV_one (resVs_tmp rfl resVs_nil)) ?_
                show RW _ _ _ _ _ _ _
                refine rw_nilk ?_
                refine awp_ite (b := (!((mget s101.1 x1618).getD false))) rfl (fun p1622 => ?_) (fun p1622 => ?_)
                · replace h := ite_T p1622 h
                  refine awp_rs ?_
                  refine ro rfl rfl (st_mv rfl) ?_
                  refine ro rfl rfl (st_as rfl) ?_
                  refine rw_nilk ?_
                  refine awp_ret ?_
                  refine rt_block ?_
                  refine rt_then ?_
                  refine rt_then ?_
                  refine rt_block ?_
                  refine rt_then ?_
                  refine ret_in (v := dI .i64 ((j1617 : Nat) : Int)) (resV_one (resVs_tmp rfl resVs_nil)) ?_
                  exact J1613 ((j1617 : Nat) : Int) () _ _ h (gh_frz rfl rfl ⟨⟨_, rfl, .keep rfl⟩, trivial⟩ ⟨⟨_, rfl, objOne ⟨⟨rfl, .keep rfl⟩, ⟨rfl, .keep rfl⟩, ⟨rfl, .keep rfl⟩, trivial⟩⟩, ⟨_, rfl, objMap (fun _ => rfl) _⟩, ⟨_, rfl, objMap (fun _ => rfl) _⟩, ⟨_, rfl, objOne ⟨⟨rfl, .keep rfl⟩, trivial⟩⟩, ⟨_, rfl, objRow _⟩, ⟨_, rfl, objOne ⟨⟨rfl, .keep rfl⟩, ⟨rfl, .keep rfl⟩, trivial⟩⟩, trivial⟩)
                · replace h := ite_F p1622 h
                  refine awp_skip ?_
                  refine nx_block ?_
                  refine nx_then ?_
                  refine awp_rw ?_
                  refine ro rfl rfl (st_inc rfl rfl hj1617 hl1617) ?_
                  refine ro rfl rfl (st_mv rfl) ?_
                  refine rw_nil ?_
                  refine nx_then ?_
                  refine awp_gh ?_ (ih1616 () () h)
                  exact (gh_frz rfl rfl ⟨⟨_, rfl, .keep rfl⟩, ⟨_, rfl, .keep rfl⟩, ⟨_, rfl, .keep rfl⟩, ⟨_, rfl, .keep rfl⟩, trivial⟩ ⟨⟨_, rfl, objOne ⟨⟨rfl, .keep rfl⟩, ⟨rfl, .keep rfl⟩, ⟨rfl, .keep rfl⟩, trivial⟩⟩, ⟨_, rfl, objMap (fun _ => rfl) _⟩, ⟨_, rfl, objMap (fun _ => rfl) _⟩, ⟨_, rfl, objOne ⟨⟨rfl, .keep rfl⟩, trivial⟩⟩, ⟨_, rfl, objRow _⟩, ⟨_, rfl, objOne ⟨⟨rfl, .keep rfl⟩, ⟨rfl, .keep rfl⟩, trivial⟩⟩, trivial⟩)
              · clear h
                intro s1614 g1615 h
                refine awp_rs ?_
                refine ro rfl rfl (st_bin (v := dB (decide (((x110.On.length : Nat) : Int) < ((x110.On.length : Nat) : Int)))) rfl rfl rfl) ?_
                refine rw_nilk ?_
                refine awp_seq ?_
                refine awp_ifF rfl dge ?_
                refine awp_exit ?_
                refine ex_out ?_
                refine ex_out ?_
                refine ex_in ?_
                refine nx_then ?_
                refine awp_rs ?_
                refine ro rfl rfl (st_as rfl) ?_
                refine rw_nilk ?_
                refine awp_ret ?_
                refine ret_in (v := dI .i64 (-1 : Int)) (resV_one (resVs_tmp rfl resVs_nil)) ?_
                exact J1613 (-1 : Int) () _ _ h (gh_frz rfl rfl ⟨⟨_, rfl, .keep rfl⟩, trivial⟩ ⟨⟨_, rfl, objOne ⟨⟨rfl, .keep rfl⟩, ⟨rfl, .keep rfl⟩, ⟨rfl, .keep rfl⟩, trivial⟩⟩, ⟨_, rfl, objMap (fun _ => rfl) _⟩, ⟨_, rfl, objMap (fun _ => rfl) _⟩, ⟨_, rfl, objOne ⟨⟨rfl, .keep rfl⟩, trivial⟩⟩, ⟨_, rfl, objRow _⟩, ⟨_, rfl, objOne ⟨⟨rfl, .keep rfl⟩, ⟨rfl, .keep rfl⟩, trivial⟩⟩, trivial⟩)
    · clear h
      intro s106 g107 h
      refine awp_rs ?_
      refine ro rfl rfl (st_bin (v := dB (decide (((a0.Exist.length : Nat) : Int) < ((a0.Exist.length : Nat) : Int)))) rfl rfl rfl) ?_
      refine rw_nilk ?_
      refine awp_seq ?_
      refine awp_ifF rfl dge ?_
      refine awp_exit ?_
      refine ex_out ?_
      refine ex_out ?_
      refine ex_in ?_
      refine nx_then ?_
      refine awp_seq ?_
      refine awp_rs ?_
      refine ro rfl rfl (st_mv rfl) ?_
      refine ro rfl rfl (st_lenR rfl un22 rfl) ?_
      refine ro rfl rfl (st_mv rfl) ?_
      refine rw_nilk ?_
      refine awp_block ?_
      refine awp_lenT (r := 1007) rfl (fun hl1626 => ?_)
      refine awp_range (fun (j1626 : Nat) (s1623 : (List (Int × Bool))) (g1624 : Unit) => [(1, .ptr 1001 0 0 0), (4, .map 1003), (7, .slice 1007 g107 0 s106.length), (55, .slice 1007 g107 0 s106.length), (56, dI .i64 ((s106.length : Nat) : Int)), (57, dI .i64 ((j1626 : Nat) : Int))]) (fun (s1623 : (List (Int × Bool))) (g1624 : Unit) => [(1001, .row 0 26 [[dL 1 (eI .i64) a0.Univ, dL 2 e_S_api_Dep a0.Exist, dL 1 (eL 1 (eI .i64)) a0.Clauses]]), (1003, mapO .i64 (fun (b : Bool) => dB b) s1623), (1007, rw' g107 3 (eI .i64) s106)]) () (fun _ _ _ h => h) h (gh_frz rfl rfl ⟨⟨_, rfl, .keep rfl⟩, ⟨_, rfl, .keep rfl⟩, ⟨_, rfl, .keep rfl⟩, ⟨_, rfl, .keep rfl⟩, ⟨_, rfl, .keep rfl⟩, ⟨_, rfl, .keep rfl⟩, trivial⟩ ⟨⟨_, rfl, objOne ⟨⟨rfl, .keep rfl⟩, ⟨rfl, .keep rfl⟩, ⟨rfl, .keep rfl⟩, trivial⟩⟩, ⟨_, rfl, objMap (fun _ => rfl) _⟩, ⟨_, rfl, objRow _⟩, trivial⟩) ?_ ?_
      · clear h
        intro j1626 x1627 s1623 g1624 k1625 hj1626 hx1626 h ih1625
        refine awp_rs ?_
        refine ro rfl rfl (st_bin (v := dB (decide (((j1626 : Nat) : Int) < ((s106.length : Nat) : Int)))) rfl rfl rfl) ?_
        refine rw_nilk ?_
        refine awp_seq ?_
        refine awp_ifT rfl (dlt hj1626) ?_
        refine awp_skip ?_
        refine nx_then ?_
        refine awp_seq ?_
        refine awp_block ?_
        refine awp_rs ?_
        refine ro rfl rfl (st_ixRn sl22 rfl rfl rfl hx1626 rfl) ?_
        refine ro rfl rfl (st_ldP (v := dI .i64 x1627) ta3 rfl rfl (rowOf_map_get hx1626) rfl) ?_
        refine ro rfl rfl (st_as rfl) ?_
        refine rw_nilk ?_
        refine awp_rw ?_
        refine ro rfl rfl (st_mv rfl) ?_
        refine ro rfl rfl (st_mv rfl) ?_
        refine rx (L' := [(1001, .row 0 26 [[dL 1 (eI .i64) a0.Univ, dL 2 e_S_api_Dep a0.Exist, dL 1 (eL 1 (eI .i64)) a0.Clauses]]), (1003, mapO .i64 (fun (b : Bool) => dB b) (mset s1623 x1627 true)), (1007, rw' g107 3 (eI .i64) s106)]) rfl rfl (st_mapUp (vf := (fun (b : Bool) => dB b)) (b := true) (xs := s1623) un75 un3 rfl rfl rfl rfl) rfl ?_
        refine rw_nil ?_
        refine nx_block ?_
        refine nx_then ?_
        refine awp_rw ?_
        refine ro rfl rfl (st_inc rfl rfl hj1626 hl1626) ?_
        refine ro rfl rfl (st_mv rfl) ?_
        refine rw_nil ?_
        refine nx_then ?_
        refine awp_gh ?_ (ih1625 (mset s1623 x1627 true) () h)
        exact (gh_frz rfl rfl ⟨⟨_, rfl, .keep rfl⟩, ⟨_, rfl, .keep rfl⟩, ⟨_, rfl, .keep rfl⟩, ⟨_, rfl, .keep rfl⟩, ⟨_, rfl, .keep rfl⟩, ⟨_, rfl, .keep rfl⟩, trivial⟩ ⟨⟨_, rfl, objOne ⟨⟨rfl, .keep rfl⟩, ⟨rfl, .keep rfl⟩, ⟨rfl, .keep rfl⟩, trivial⟩⟩, ⟨_, rfl, objMap (fun _ => rfl) _⟩, ⟨_, rfl, objRow _⟩, trivial⟩)
      · clear h
        intro s1623 g1624 h
        refine awp_rs ?_
        refine ro rfl rfl (st_bin (v := dB (decide (((s106.length : Nat) : Int) < ((s106.length : Nat) : Int)))) rfl rfl rfl) ?_
        refine rw_nilk ?_
        refine awp_seq ?_
        refine awp_ifF rfl dge ?_
        refine awp_exit ?_
        refine ex_out ?_
        refine ex_out ?_
        refine ex_in ?_
        refine nx_then ?_
        refine awp_rds hmix ?_
        refine do_ rfl rfl (st_faP fo26_0 rfl) rfl rfl rfl ?_
        refine do_ rfl rfl (st_ldP (v := dL 1 (eI .i64) a0.Univ) ta22 rfl rfl rfl rfl) rfl rfl rfl ?_
        obtain ⟨y2865, hy2865, h⟩ := bind_some_elim h
        refine df rfl rfl (ok_prefix_rises hy2865) rfl rfl ?_
        refine do_ rfl rfl (st_mv rfl) rfl rfl rfl ?_
        refine bool_split y2865 (fun p2866 => ?_) (fun p2866 => ?_)
        · replace h := ite_T p2866 h
          rw [p2866]
          refine do_ rfl rfl (st_mv rfl) rfl rfl rfl ?_
          obtain ⟨y2867, hy2867, h⟩ := bind_some_elim h
          refine dcall (v := dB y2867) (L0 := [(1007, rw' g107 3 (eI .i64) s106)]) (L1 := [(1007, rw' g107 3 (eI .i64) s106)]) (L' := [(1001, .row 0 26 [[dL 1 (eI .i64) a0.Univ, dL 2 e_S_api_Dep a0.Exist, dL 1 (eL 1 (eI .i64)) a0.Clauses]]), (1003, mapO .i64 (fun (b : Bool) => dB b) s1623), (1007, rw' g107 3 (eI .i64) s106)]) rfl rfl rfl rfl (EvR.toEv (evR_lend (ok_prefix_rises hy2867) ⟨frzT rfl rfl co3 rfl, trivial⟩ rfl)) ⟨rfl, trivial⟩ rfl ⟨closT, trivial⟩ rfl rfl ?_
          refine do_ rfl rfl (st_pickT rfl rfl) rfl rfl rfl ?_
          refine do_ rfl rfl (st_mv rfl) rfl rfl rfl ?_
          refine bool_split y2867 (fun p2868 => ?_) (fun p2868 => ?_)
          · replace h := ite_T p2868 h
            rw [p2868]
            refine do_ rfl rfl (st_faP fo26_0 rfl) rfl rfl rfl ?_
            refine do_ rfl rfl (st_ldP (v := dL 1 (eI .i64) a0.Univ) ta22 rfl rfl rfl rfl) rfl rfl rfl ?_
            refine do_ rfl rfl (st_lenD rfl un22) rfl rfl rfl ?_
            refine do_ rfl rfl (st_mv rfl) rfl rfl rfl ?_
            refine do_ rfl rfl (st_lenR rfl un22 rfl) rfl rfl rfl ?_
            refine do_ rfl rfl (st_bin (v := dI .i64 (IntKind.wrap .i64 (((a0.Univ.length : Nat) : Int) + ((s106.length : Nat) : Int)))) rfl rfl rfl) rfl rfl rfl ?_
            refine do_ rfl rfl (st_bin (v := dB (decide ((IntKind.wrap .i64 (((a0.Univ.length : Nat) : Int) + ((s106.length : Nat) : Int))) ≤ (1024 : Int)))) rfl rfl rfl) rfl rfl rfl ?_
            refine do_ rfl rfl (st_pickT rfl rfl) rfl rfl rfl ?_
            refine do_ rfl rfl (st_mv rfl) rfl rfl rfl ?_
            refine bool_split (decide ((IntKind.wrap .i64 (((a0.Univ.length : Nat) : Int) + ((s106.length : Nat) : Int))) ≤ (1024 : Int))) (fun p2869 => ?_) (fun p2869 => ?_)
            · replace h := ite_T p2869 h
              rw [p2869]
              refine do_ rfl rfl (st_faP fo26_2 rfl) rfl rfl rfl ?_
              refine do_ rfl rfl (st_ldP (v := dL 1 (eL 1 (eI .i64)) a0.Clauses) ta24 rfl rfl rfl rfl) rfl rfl rfl ?_
              refine do_ rfl rfl (st_mv rfl) rfl rfl rfl ?_
              obtain ⟨y2870, hy2870, h⟩ := bind_some_elim h
              refine dcall (v := .fn 91 [] [.ptr 1010 0 0 0]) (L0 := [(1003, mapO .i64 (fun (b : Bool) => dB b) s1623)]) (L1 := [(1010, .row 0 75 [[.map 1003]]), (1003, mapO .i64 (fun (b : Bool) => dB b) s1623)]) (L' := [(1001, .row 0 26 [[dL 1 (eI .i64) a0.Univ, dL 2 e_S_api_Dep a0.Exist, dL 1 (eL 1 (eI .i64)) a0.Clauses]]), (1003, mapO .i64 (fun (b : Bool) => dB b) s1623), (1007, rw' g107 3 (eI .i64) s106), (1010, .row 0 75 [[.map 1003]])]) rfl rfl rfl rfl ?_ ⟨rfl, trivial⟩ rfl ⟨closM (fun _ => rfl), trivial⟩ rfl rfl ?_
              · replace h := hy2870
                refine Ev.of_bodyX (N := 4) (rs := [.tmp 2]) Tryz.func55 (c := _) rfl rfl rfl (by kernel_rfl) rfl (Nat.le_of_ble_eq_true rfl) (fun _B => ?_)
                refine awp_rs ?_
                refine rn (r := 1010) rfl rfl (st_box rfl rfl rfl co75 rfl rfl) rfl ?_
                refine ro rfl rfl (st_as rfl) ?_
                refine rw_nilk ?_
                refine awp_rs ?_
                refine ro rfl rfl (st_fn rfl rfl) ?_
                refine ro rfl rfl (st_as rfl) ?_
                refine rw_nilk ?_
                refine awp_ret ?_
                injection h with h
                subst h
                exact retX (v := .fn 91 [] [.ptr 1010 0 0 0]) (resV_one (resVs_tmp rfl resVs_nil)) (.keep rfl) ⟨⟨_, rfl, objOne ⟨⟨rfl, .keep rfl⟩, trivial⟩⟩, ⟨_, rfl, objMap (fun _ => rfl) _⟩, trivial⟩
              · obtain ⟨y3486, hy3486, h⟩ := bind_some_elim h
                refine dcall (v := dB y3486) (L0 := [(1003, mapO .i64 (fun (b : Bool) => dB b) s1623), (1010, .row 0 75 [[.map 1003]])]) (L1 := [(1010, .row 0 75 [[.map 1003]]), (1003, mapO .i64 (fun (b : Bool) => dB b) s1623)]) (L' := [(1001, .row 0 26 [[dL 1 (eI .i64) a0.Univ, dL 2 e_S_api_Dep a0.Exist, dL 1 (eL 1 (eI .i64)) a0.Clauses]]), (1003, mapO .i64 (fun (b : Bool) => dB b) s1623), (1007, rw' g107 3 (eI .i64) s106), (1010, .row 0 75 [[.map 1003]])]) rfl rfl rfl rfl ?_ ⟨rfl, rfl, trivial⟩ rfl ⟨closM (fun _ => rfl), rfl, trivial⟩ rfl rfl ?_
                · replace h := hy3486
                  refine Ev.of_bodyX (N := 59) (rs := [.tmp 4]) Tryz.func54 (c := _) rfl rfl rfl (by kernel_rfl) rfl (Nat.le_of_ble_eq_true rfl) (fun _B => ?_)
                  refine awp_rs ?_
                  refine ro rfl rfl (st_as rfl) ?_
                  refine rw_nilk ?_
                  refine awp_seq ?_
                  refine awp_rs ?_
                  refine ro rfl rfl (st_mv rfl) ?_
                  refine ro rfl rfl (st_lenD rfl un24) ?_
                  refine ro rfl rfl (st_bin (v := dB (decide (((a0.Clauses.length : Nat) : Int) > (20000 : Int)))) rfl rfl rfl) ?_
                  refine rw_nilk ?_
                  refine awp_ite (b := (decide (((a0.Clauses.length : Nat) : Int) > (20000 : Int)))) rfl (fun p3487 => ?_) (fun p3487 => ?_)
                  · replace h := ite_T p3487 h
                    refine awp_rs ?_
                    refine ro rfl rfl (st_as rfl) ?_
                    refine rw_nilk ?_
                    refine awp_ret ?_
                    refine rt_then ?_
                    injection h with h
                    subst h
                    exact retX (v := dB false) (resV_one (resVs_tmp rfl resVs_nil)) (.keep rfl) ⟨⟨_, rfl, objOne ⟨⟨rfl, .keep rfl⟩, trivial⟩⟩, ⟨_, rfl, objMap (fun _ => rfl) _⟩, trivial⟩
                  · replace h := ite_F p3487 h
                    refine awp_skip ?_
                    refine nx_then ?_
                    refine awp_rs ?_
                    refine ro rfl rfl (st_as rfl) ?_
                    refine rw_nilk ?_
                    refine awp_seq ?_
                    refine awp_rs ?_
                    refine ro rfl rfl (st_mv rfl) ?_
                    refine ro rfl rfl (st_lenD rfl un24) ?_
                    refine ro rfl rfl (st_mv rfl) ?_
                    refine rw_nilk ?_
                    refine awp_block ?_
                    refine awp_len (t := 0) rfl (fun hl3491 => ?_)
                    rw [List.length_map] at hl3491
                    refine awp_range (fun (j3491 : Nat) (s3488 : Int) (g3489 : Unit) => [(1, .fn 91 [] [.ptr 1010 0 0 0]), (5, dI .i64 s3488), (14, dL 1 (eL 1 (eI .i64)) a0.Clauses), (15, dI .i64 ((a0.Clauses.length : Nat) : Int)), (16, dI .i64 ((j3491 : Nat) : Int))]) (fun (s3488 : Int) (g3489 : Unit) => [(1003, mapO .i64 (fun (b : Bool) => dB b) s1623), (1010, .row 0 75 [[.map 1003]])]) () (fun _ _ _ h => h) h (gh_frz rfl rfl ⟨⟨_, rfl, .keep rfl⟩, ⟨_, rfl, .keep rfl⟩, ⟨_, rfl, .keep rfl⟩, ⟨_, rfl, .keep rfl⟩, ⟨_, rfl, .keep rfl⟩, trivial⟩ ⟨⟨_, rfl, objMap (fun _ => rfl) _⟩, ⟨_, rfl, objOne ⟨⟨rfl, .keep rfl⟩, trivial⟩⟩, trivial⟩) ?_ ?_
                    · clear h
                      intro j3491 x3492 s3488 g3489 k3490 hj3491 hx3491 h ih3490
                      refine awp_rs ?_
                      refine ro rfl rfl (st_bin (v := dB (decide (((j3491 : Nat) : Int) < ((a0.Clauses.length : Nat) : Int)))) rfl rfl rfl) ?_
                      refine rw_nilk ?_
                      refine awp_seq ?_
                      refine awp_ifT rfl (dlt hj3491) ?_
                      refine awp_skip ?_
                      refine nx_then ?_
                      refine awp_seq ?_
                      refine awp_block ?_
                      refine awp_rs ?_
                      refine ro rfl rfl (st_ixDn sl24 rfl rfl hx3491) ?_
                      refine ro rfl rfl (st_ldD (v := dL 1 (eI .i64) x3492) ta22 rfl rfl) ?_
                      refine ro rfl rfl (st_as rfl) ?_
                      refine rw_nilk ?_
                      refine awp_rs ?_
                      refine ro rfl rfl (st_as rfl) ?_
                      refine rw_nilk ?_
                      refine awp_seq ?_
                      refine awp_rs ?_
                      refine ro rfl rfl (st_mv rfl) ?_
                      refine ro rfl rfl (st_lenD rfl un22) ?_
                      refine ro rfl rfl (st_mv rfl) ?_
                      refine rw_nilk ?_
                      refine awp_block ?_
                      refine awp_len (t := 7) rfl (fun hl3902 => ?_)
                      rw [List.length_map] at hl3902
                      refine awp_range (fun (j3902 : Nat) (s3899 : Int) (g3900 : Unit) => [(1, .fn 91 [] [.ptr 1010 0 0 0]), (5, dI .i64 s3488), (7, dL 1 (eI .i64) x3492), (8, dI .i64 s3899), (14, dL 1 (eL 1 (eI .i64)) a0.Clauses), (15, dI .i64 ((a0.Clauses.length : Nat) : Int)), (16, dI .i64 ((j3491 : Nat) : Int)), (20, dL 1 (eI .i64) x3492), (21, dI .i64 ((x3492.length : Nat) : Int)), (22, dI .i64 ((j3902 : Nat) : Int))]) (fun (s3899 : Int) (g3900 : Unit) => [(1003, mapO .i64 (fun (b : Bool) => dB b) s1623), (1010, .row 0 75 [[.map 1003]])]) () (fun _ _ _ h => h) h (gh_frz rfl rfl ⟨⟨_, rfl, .keep rfl⟩, ⟨_, rfl, .keep rfl⟩, ⟨_, rfl, .keep rfl⟩, ⟨_, rfl, .keep rfl⟩, ⟨_, rfl, .keep rfl⟩, ⟨_, rfl, .keep rfl⟩, ⟨_, rfl, .keep rfl⟩, ⟨_, rfl, .keep rfl⟩, ⟨_, rfl, .keep rfl⟩, ⟨_, rfl, .keep rfl⟩, trivial⟩ ⟨⟨_, rfl, objMap (fun _ => rfl) _⟩, ⟨_, rfl, objOne ⟨⟨rfl, .keep rfl⟩, trivial⟩⟩, trivial⟩) ?_ ?_
                      · clear h
                        intro j3902 x3903 s3899 g3900 k3901 hj3902 hx3902 h ih3901
                        refine awp_rs ?_
                        refine ro rfl rfl (st_bin (v := dB (decide (((j3902 : Nat) : Int) < ((x3492.length : Nat) : Int)))) rfl rfl rfl) ?_
                        refine rw_nilk ?_
                        refine awp_seq ?_
                        refine awp_ifT rfl (dlt hj3902) ?_
                        refine awp_skip ?_
                        refine nx_then ?_
                        refine awp_seq ?_
                        refine awp_block ?_
                        refine awp_rs ?_
                        refine ro rfl rfl (st_ixDn sl22 rfl rfl hx3902) ?_
                        refine ro rfl rfl (st_ldD (v := dI .i64 x3903) ta3 rfl rfl) ?_
                        refine ro rfl rfl (st_as rfl) ?_
                        refine rw_nilk ?_
                        refine awp_seq ?_
                        refine awp_jn (fun (s4091 : Bool) (g4092 : Unit) => [(1, .fn 91 [] [.ptr 1010 0 0 0]), (5, dI .i64 s3488), (7, dL 1 (eI .i64) x3492), (10, dI .i64 x3903), (14, dL 1 (eL 1 (eI .i64)) a0.Clauses), (15, dI .i64 ((a0.Clauses.length : Nat) : Int)), (16, dI .i64 ((j3491 : Nat) : Int)), (20, dL 1 (eI .i64) x3492), (21, dI .i64 ((x3492.length : Nat) : Int)), (22, dI .i64 ((j3902 : Nat) : Int)), (48, dB s4091)]) (fun (s4091 : Bool) (g4092 : Unit) => [(1003, mapO .i64 (fun (b : Bool) => dB b) s1623), (1010, .row 0 75 [[.map 1003]])]) h ?_ ?_
                        · clear h
                          intro s4091 g4092 h
                          refine awp_ite (b := s4091) rfl (fun p4094 => ?_) (fun p4094 => ?_)
                          · replace h := ite_T p4094 h
                            refine awp_rs ?_
                            refine ro rfl rfl (st_as rfl) ?_
                            refine rw_nilk ?_
                            refine awp_ret ?_
                            refine rt_then ?_
                            refine rt_block ?_
                            refine rt_then ?_
                            refine rt_then ?_
                            refine rt_block ?_
                            refine rt_then ?_
                            refine rt_block ?_
                            refine rt_then ?_
                            refine rt_then ?_
                            refine rt_block ?_
                            refine rt_then ?_
                            injection h with h
                            subst h
                            exact retX (v := dB false) (resV_one (resVs_tmp rfl resVs_nil)) (.keep rfl) ⟨⟨_, rfl, objOne ⟨⟨rfl, .keep rfl⟩, trivial⟩⟩, ⟨_, rfl, objMap (fun _ => rfl) _⟩, trivial⟩
                          · replace h := ite_F p4094 h
                            refine awp_skip ?_
                            refine nx_then ?_
                            refine awp_rw ?_
                            refine ro rfl rfl (st_mv rfl) ?_
                            obtain ⟨y4095, hy4095, h⟩ := bind_some_elim h
                            refine rf rfl rfl (ok_prefix_abs hy4095) rfl rfl ?_
                            refine ro rfl rfl (st_as rfl) ?_
                            refine rw_nil ?_
                            refine nx_block ?_
                            refine nx_then ?_
                            refine awp_rw ?_
                            refine ro rfl rfl (st_inc rfl rfl hj3902 hl3902) ?_
                            refine ro rfl rfl (st_mv rfl) ?_
                            refine rw_nil ?_
                            refine nx_then ?_
                            refine awp_gh ?_ (ih3901 y4095 () h)
                            exact (gh_frz rfl rfl ⟨⟨_, rfl, .keep rfl⟩, ⟨_, rfl, .keep rfl⟩, ⟨_, rfl, .keep rfl⟩, ⟨_, rfl, .keep rfl⟩, ⟨_, rfl, .keep rfl⟩, ⟨_, rfl, .keep rfl⟩, ⟨_, rfl, .keep rfl⟩, ⟨_, rfl, .keep rfl⟩, ⟨_, rfl, .keep rfl⟩, ⟨_, rfl, .keep rfl⟩, trivial⟩ ⟨⟨_, rfl, objMap (fun _ => rfl) _⟩, ⟨_, rfl, objOne ⟨⟨rfl, .keep rfl⟩, trivial⟩⟩, trivial⟩)
                        · clear h
                          intro k4093 h J4093
                          refine awp_rw ?_
                          refine ro rfl rfl (st_mv rfl) ?_
                          refine ro rfl rfl (st_bin (v := dB (x3903 == (0 : Int))) rfl rfl rfl) ?_
                          refine ro rfl rfl (st_mv rfl) ?_
                          refine bool_split (x3903 == (0 : Int)) (fun p4096 => ?_) (fun p4096 => ?_)
                          · replace h := ite_T p4096 h
                            rw [p4096]
                            refine rz rfl rfl ?_
                            refine rz rfl rfl ?_
                            refine ro rfl rfl (st_pickT rfl rfl) ?_
                            refine ro rfl rfl (st_mv rfl) ?_
                            refine rz rfl rfl ?_
                            refine rz rfl rfl ?_
                            refine ro rfl rfl (st_pickT rfl rfl) ?_
                            refine ro rfl rfl (st_mv rfl) ?_
                            refine rz rfl rfl ?_
                            refine rz rfl rfl ?_
                            refine rz rfl rfl ?_
                            refine rz rfl rfl ?_
                            refine ro rfl rfl (st_pickT rfl rfl) ?_
                            refine ro rfl rfl (st_mv rfl) ?_
                            refine rz rfl rfl ?_
                            refine rz rfl rfl ?_
                            refine rz rfl rfl ?_
                            refine rz rfl rfl ?_
                            refine rz rfl rfl ?_
                            refine ro rfl rfl (st_pickT rfl rfl) ?_
                            refine rw_nil ?_
                            refine nx_then ?_
                            exact J4093 true () _ _ h (gh_frz rfl rfl ⟨⟨_, rfl, .keep rfl⟩, ⟨_, rfl, .keep rfl⟩, ⟨_, rfl, .keep rfl⟩, ⟨_, rfl, .keep rfl⟩, ⟨_, rfl, .keep rfl⟩, ⟨_, rfl, .keep rfl⟩, ⟨_, rfl, .keep rfl⟩, ⟨_, rfl, .keep rfl⟩, ⟨_, rfl, .keep rfl⟩, ⟨_, rfl, .keep rfl⟩, ⟨_, rfl, .keep rfl⟩, trivial⟩ ⟨⟨_, rfl, objMap (fun _ => rfl) _⟩, ⟨_, rfl, objOne ⟨⟨rfl, .keep rfl⟩, trivial⟩⟩, trivial⟩)
                          · replace h := ite_F p4096 h
                            rw [p4096]
                            refine ro rfl rfl (st_mv rfl) ?_
                            refine ro rfl rfl (st_bin (v := dB (decide (x3903 < (-65536 : Int)))) rfl rfl rfl) ?_
                            refine ro rfl rfl (st_pickF rfl rfl) ?_
                            refine ro rfl rfl (st_mv rfl) ?_
                            refine bool_split (decide (x3903 < (-65536 : Int))) (fun p4097 => ?_) (fun p4097 => ?_)
                            · replace h := ite_T p4097 h
                              rw [p4097]
                              refine rz rfl rfl ?_
                              refine rz rfl rfl ?_
                              refine ro rfl rfl (st_pickT rfl rfl) ?_
                              refine ro rfl rfl (st_mv rfl) ?_
                              refine rz rfl rfl ?_
                              refine rz rfl rfl ?_
                              refine rz rfl rfl ?_
                              refine rz rfl rfl ?_
                              refine ro rfl rfl (st_pickT rfl rfl) ?_
                              refine ro rfl rfl (st_mv rfl) ?_
                              refine rz rfl rfl ?_
                              refine rz rfl rfl ?_
                              refine rz rfl rfl ?_
                              refine rz rfl rfl ?_
                              refine rz rfl rfl ?_
                              refine ro rfl rfl (st_pickT rfl rfl) ?_
                              refine rw_nil ?_
                              refine nx_then ?_
                              exact J4093 true () _ _ h (gh_frz rfl rfl ⟨⟨_, rfl, .keep rfl⟩, ⟨_, rfl, .keep rfl⟩, ⟨_, rfl, .keep rfl⟩, ⟨_, rfl, .keep rfl⟩, ⟨_, rfl, .keep rfl⟩, ⟨_, rfl, .keep rfl⟩, ⟨_, rfl, .keep rfl⟩, ⟨_, rfl, .keep rfl⟩, ⟨_, rfl, .keep rfl⟩, ⟨_, rfl, .keep rfl⟩, ⟨_, rfl, .keep rfl⟩, trivial⟩ ⟨⟨_, rfl, objMap (fun _ => rfl) _⟩, ⟨_, rfl, objOne ⟨⟨rfl, .keep rfl⟩, trivial⟩⟩, trivial⟩)
                            · replace h := ite_F p4097 h
                              rw [p4097]
                              refine ro rfl rfl (st_mv rfl) ?_
                              refine ro rfl rfl (st_bin (v := dB (decide (x3903 > (65536 : Int)))) rfl rfl rfl) ?_
                              refine ro rfl rfl (st_pickF rfl rfl) ?_
                              refine ro rfl rfl (st_mv rfl) ?_
                              refine bool_split (decide (x3903 > (65536 : Int))) (fun p4098 => ?_) (fun p4098 => ?_)
                              · replace h := ite_T p4098 h
                                rw [p4098]
                                refine rz rfl rfl ?_
                                refine rz rfl rfl ?_
                                refine rz rfl rfl ?_
                                refine rz rfl rfl ?_
                                refine ro rfl rfl (st_pickT rfl rfl) ?_
                                refine ro rfl rfl (st_mv rfl) ?_
                                refine rz rfl rfl ?_
                                refine rz rfl rfl ?_
                                refine rz rfl rfl ?_
                                refine rz rfl rfl ?_
                                refine rz rfl rfl ?_
                                refine ro rfl rfl (st_pickT rfl rfl) ?_
                                refine rw_nil ?_
                                refine nx_then ?_
                                exact J4093 true () _ _ h (gh_frz rfl rfl ⟨⟨_, rfl, .keep rfl⟩, ⟨_, rfl, .keep rfl⟩, ⟨_, rfl, .keep rfl⟩, ⟨_, rfl, .keep rfl⟩, ⟨_, rfl, .keep rfl⟩, ⟨_, rfl, .keep rfl⟩, ⟨_, rfl, .keep rfl⟩, ⟨_, rfl, .keep rfl⟩, ⟨_, rfl, .keep rfl⟩, ⟨_, rfl, .keep rfl⟩, ⟨_, rfl, .keep rfl⟩, trivial⟩ ⟨⟨_, rfl, objMap (fun _ => rfl) _⟩, ⟨_, rfl, objOne ⟨⟨rfl, .keep rfl⟩, trivial⟩⟩, trivial⟩)
                              · replace h := ite_F p4098 h
                                rw [p4098]
                                refine ro rfl rfl (st_mv rfl) ?_
                                obtain ⟨y4099, hy4099, h⟩ := bind_some_elim h
                                refine rf rfl rfl (ok_prefix_abs hy4099) rfl rfl ?_
                                refine ro rfl rfl (st_mv rfl) ?_
                                refine ro rfl rfl (st_bin (v := dB (decide (y4099 ≤ s3899))) rfl rfl rfl) ?_
                                refine ro rfl rfl (st_pickF rfl rfl) ?_
                                refine ro rfl rfl (st_mv rfl) ?_
                                refine bool_split (decide (y4099 ≤ s3899)) (fun p4100 => ?_) (fun p4100 => ?_)
                                · replace h := ite_T p4100 h
                                  rw [p4100]
                                  refine rz rfl rfl ?_
                                  refine rz rfl rfl ?_
                                  refine rz rfl rfl ?_
                                  refine rz rfl rfl ?_
                                  refine rz rfl rfl ?_
                                  refine ro rfl rfl (st_pickT rfl rfl) ?_
                                  refine rw_nil ?_
                                  refine nx_then ?_
                                  exact J4093 true () _ _ h (gh_frz rfl rfl ⟨⟨_, rfl, .keep rfl⟩, ⟨_, rfl, .keep rfl⟩, ⟨_, rfl, .keep rfl⟩, ⟨_, rfl, .keep rfl⟩, ⟨_, rfl, .keep rfl⟩, ⟨_, rfl, .keep rfl⟩, ⟨_, rfl, .keep rfl⟩, ⟨_, rfl, .keep rfl⟩, ⟨_, rfl, .keep rfl⟩, ⟨_, rfl, .keep rfl⟩, ⟨_, rfl, .keep rfl⟩, trivial⟩ ⟨⟨_, rfl, objMap (fun _ => rfl) _⟩, ⟨_, rfl, objOne ⟨⟨rfl, .keep rfl⟩, trivial⟩⟩, trivial⟩)
                                · replace h := ite_F p4100 h
                                  rw [p4100]
                                  refine ro rfl rfl (st_mv rfl) ?_
                                  refine ro rfl rfl (st_mv rfl) ?_
                                  obtain ⟨y4101, hy4101, h⟩ := bind_some_elim h
                                  refine rf rfl rfl (ok_prefix_abs hy4101) rfl rfl ?_
                                  refine ri (N := 13) (rs := [.tmp 3]) rfl rfl rfl rfl Tryz.func91 rfl rfl rfl (by kernel_rfl) rfl (fun _B => ?_)
                                  refine awp_rs ?_
                                  refine ro rfl rfl (st_as rfl) ?_
                                  refine rw_nilk ?_
                                  refine awp_rs ?_
                                  refine ro rfl rfl (st_ldP (v := .map 1003) ta75 rfl rfl rfl rfl) ?_
                                  refine ro rfl rfl (st_mv rfl) ?_
                                  refine ro rfl rfl (st_lookOk (vf := (fun (b : Bool) => dB b)) (z := false) (xs := s1623) un75 un3 za4 rfl rfl rfl) ?_
                                  refine ro rfl rfl (st_mv rfl) ?_
                                  refine ro rfl rfl (st_ext rfl rfl) ?_
                                  refine ro rfl rfl (st_ext rfl rfl) ?_
                                  refine ro rfl rfl (st_as rfl) ?_
                                  refine ro rfl rfl (st_as rfl) ?_
                                  refine rw_nilk ?_
                                  refine awp_rs ?_
                                  refine ro rfl rfl (st_mv rfl) ?_
                                  refine ro rfl rfl (st_as rfl) ?_
                                  refine rw_nilk ?_
                                  refine awp_ret ?_
                                  refine ret_in (v := dB ((mget s1623 y4101).isSome)) (resV_one (resVs_tmp rfl resVs_nil)) ?_
                                  show RW _ _ _ _ _ _ _
                                  refine ro rfl rfl (st_un (v := dB (!(mget s1623 y4101).isSome)) rfl rfl) ?_
                                  refine ro rfl rfl (st_pickF rfl rfl) ?_
                                  refine rw_nil ?_
                                  refine nx_then ?_
                                  exact J4093 (!(mget s1623 y4101).isSome) () _ _ h (gh_frz rfl rfl ⟨⟨_, rfl, .keep rfl⟩, ⟨_, rfl, .keep rfl⟩, ⟨_, rfl, .keep rfl⟩, ⟨_, rfl, .keep rfl⟩, ⟨_, rfl, .keep rfl⟩, ⟨_, rfl, .keep rfl⟩, ⟨_, rfl, .keep rfl⟩, ⟨_, rfl, .keep rfl⟩, ⟨_, rfl, .keep rfl⟩, ⟨_, rfl, .keep rfl⟩, ⟨_, rfl, .keep rfl⟩, trivial⟩ ⟨⟨_, rfl, objMap (fun _ => rfl) _⟩, ⟨_, rfl, objOne ⟨⟨rfl, .keep rfl⟩, trivial⟩⟩, trivial⟩)
                      · clear h
                        intro s3899 g3900 h
                        refine awp_rs ?_
                        refine ro rfl rfl (st_bin (v := dB (decide (((x3492.length : Nat) : Int) < ((x3492.length : Nat) : Int)))) rfl rfl rfl) ?_
                        refine rw_nilk ?_
                        refine awp_seq ?_
                        refine awp_ifF rfl dge ?_
                        refine awp_exit ?_
                        refine ex_out ?_
                        refine ex_out ?_
                        refine ex_in ?_
                        refine nx_then ?_
                        refine awp_rw ?_
                        refine ro rfl rfl (st_mv rfl) ?_
                        refine ro rfl rfl (st_mv rfl) ?_
                        refine ro rfl rfl (st_lenD rfl un22) ?_
                        refine ro rfl rfl (st_bin (v := dI .i64 (IntKind.wrap .i64 (s3488 + ((x3492.length : Nat) : Int)))) rfl rfl rfl) ?_
                        refine ro rfl rfl (st_as rfl) ?_
                        refine rw_nil ?_
                        refine nx_block ?_
                        refine nx_then ?_
                        refine awp_rw ?_
                        refine ro rfl rfl (st_inc rfl rfl hj3491 hl3491) ?_
                        refine ro rfl rfl (st_mv rfl) ?_
                        refine rw_nil ?_
                        refine nx_then ?_
                        refine awp_gh ?_ (ih3490 (IntKind.wrap .i64 (s3488 + ((x3492.length : Nat) : Int))) () h)
                        exact (gh_frz rfl rfl ⟨⟨_, rfl, .keep rfl⟩, ⟨_, rfl, .keep rfl⟩, ⟨_, rfl, .keep rfl⟩, ⟨_, rfl, .keep rfl⟩, ⟨_, rfl, .keep rfl⟩, trivial⟩ ⟨⟨_, rfl, objMap (fun _ => rfl) _⟩, ⟨_, rfl, objOne ⟨⟨rfl, .keep rfl⟩, trivial⟩⟩, trivial⟩)
                    · clear h
                      intro s3488 g3489 h
                      refine awp_rs ?_
                      refine ro rfl rfl (st_bin (v := dB (decide (((a0.Clauses.length : Nat) : Int) < ((a0.Clauses.length : Nat) : Int)))) rfl rfl rfl) ?_
                      refine rw_nilk ?_
                      refine awp_seq ?_
                      refine awp_ifF rfl dge ?_
                      refine awp_exit ?_
                      refine ex_out ?_
                      refine ex_out ?_
                      refine ex_in ?_
                      refine nx_then ?_
                      refine awp_rs ?_
                      refine ro rfl rfl (st_mv rfl) ?_
                      refine ro rfl rfl (st_bin (v := dB (decide (s3488 ≤ (200000 : Int)))) rfl rfl rfl) ?_
                      refine ro rfl rfl (st_as rfl) ?_
                      refine rw_nilk ?_
                      refine awp_ret ?_
                      injection h with h
                      subst h
                      exact retX (v := dB (decide (s3488 ≤ (200000 : Int)))) (resV_one (resVs_tmp rfl resVs_nil)) (.keep rfl) ⟨⟨_, rfl, objOne ⟨⟨rfl, .keep rfl⟩, trivial⟩⟩, ⟨_, rfl, objMap (fun _ => rfl) _⟩, trivial⟩
                · refine do_ rfl rfl (st_pickT rfl rfl) rfl rfl rfl ?_
                  refine do_ rfl rfl (st_as rfl) rfl rfl rfl ?_
                  refine rd_nil (by kernel_rfl) ?_
                  refine awp_ret ?_
                  injection h with h
                  subst h
                  exact ret_out (v := dB y3486) (resV_one (resVs_tmp rfl resVs_nil)) (.keep rfl)
            · replace h := ite_F p2869 h
              rw [p2869]
              refine dz rfl rfl ?_
              refine dz rfl rfl ?_
              refine dz rfl rfl ?_
              refine dz rfl rfl ?_
              refine dz rfl rfl ?_
              refine do_ rfl rfl (st_pickF rfl rfl) rfl rfl rfl ?_
              refine do_ rfl rfl (st_as rfl) rfl rfl rfl ?_
              refine rd_nil (by kernel_rfl) ?_
              refine awp_ret ?_
              injection h with h
              subst h
              exact ret_out (v := dB false) (resV_one (resVs_tmp rfl resVs_nil)) (.keep rfl)
          · replace h := ite_F p2868 h
            rw [p2868]
            refine dz rfl rfl ?_
            refine dz rfl rfl ?_
            refine dz rfl rfl ?_
            refine dz rfl rfl ?_
            refine dz rfl rfl ?_
            refine dz rfl rfl ?_
            refine dz rfl rfl ?_
            refine do_ rfl rfl (st_pickF rfl rfl) rfl rfl rfl ?_
            refine do_ rfl rfl (st_mv rfl) rfl rfl rfl ?_
            refine dz rfl rfl ?_
            refine dz rfl rfl ?_
            refine dz rfl rfl ?_
            refine dz rfl rfl ?_
            refine dz rfl rfl ?_
            refine do_ rfl rfl (st_pickF rfl rfl) rfl rfl rfl ?_
            refine do_ rfl rfl (st_as rfl) rfl rfl rfl ?_
            refine rd_nil (by kernel_rfl) ?_
            refine awp_ret ?_
            injection h with h
            subst h
            exact ret_out (v := dB false) (resV_one (resVs_tmp rfl resVs_nil)) (.keep rfl)
        · replace h := ite_F p2866 h
          rw [p2866]
          refine dz rfl rfl ?_
          refine dz rfl rfl ?_
          refine do_ rfl rfl (st_pickF rfl rfl) rfl rfl rfl ?_
          refine do_ rfl rfl (st_mv rfl) rfl rfl rfl ?_
          refine dz rfl rfl ?_
          refine dz rfl rfl ?_
          refine dz rfl rfl ?_
          refine dz rfl rfl ?_
          refine dz rfl rfl ?_
          refine dz rfl rfl ?_
          refine dz rfl rfl ?_
          refine do_ rfl rfl (st_pickF rfl rfl) rfl rfl rfl ?_
          refine do_ rfl rfl (st_mv rfl) rfl rfl rfl ?_
          refine dz rfl rfl ?_
          refine dz rfl rfl ?_
          refine dz rfl rfl ?_
          refine dz rfl rfl ?_
          refine dz rfl rfl ?_
          refine do_ rfl rfl (st_pickF rfl rfl) rfl rfl rfl ?_
          refine do_ rfl rfl (st_as rfl) rfl rfl rfl ?_
          refine rd_nil (by kernel_rfl) ?_
          refine awp_ret ?_
          injection h with h
          subst h
          exact ret_out (v := dB false) (resV_one (resVs_tmp rfl resVs_nil)) (.keep rfl)

theorem ok_lits_size {a0 : Int} {r : Int} (h : F_lits_size a0 = some r) : Fn Tryz.prog 84 [dI .i64 a0] (dI .u64 r) := by
  unfold F_lits_size at h
  refine Fn.of_body (N := 10) (rs := [.tmp 2]) Tryz.func84 (c := _) rfl rfl rfl (by kernel_rfl) (Nat.le_of_ble_eq_true rfl) (fun _B => ?_)
  refine awp_rs ?_
  refine ro rfl rfl (st_as rfl) ?_
  refine rw_nilk ?_
  refine awp_seq ?_
  refine awp_rs ?_
  refine ro rfl rfl (st_mv rfl) ?_
  refine ro rfl rfl (st_bin (v := dB (decide (a0 < (0 : Int)))) rfl rfl rfl) ?_
  refine rw_nilk ?_
  refine awp_ite (b := (decide (a0 < (0 : Int)))) rfl (fun p101 => ?_) (fun p101 => ?_)
  · replace h := ite_T p101 h
    refine awp_rs ?_
    refine ro rfl rfl (st_mv rfl) ?_
    refine ro rfl rfl (st_conv rfl un3 un91) ?_
    refine ro rfl rfl (st_un (v := dI .u64 (IntKind.wrap .u64 (0 - (IntKind.wrap .u64 a0)))) rfl rfl) ?_
    refine ro rfl rfl (st_as rfl) ?_
    refine rw_nilk ?_
    refine awp_ret ?_
    refine rt_then ?_
    injection h with h
    subst h
    exact ret_out (v := dI .u64 (IntKind.wrap .u64 (0 - (IntKind.wrap .u64 a0)))) (resV_one (resVs_tmp rfl resVs_nil)) (.keep rfl)
  · replace h := ite_F p101 h
    refine awp_skip ?_
    refine nx_then ?_
    refine awp_rs ?_
    refine ro rfl rfl (st_mv rfl) ?_
    refine ro rfl rfl (st_conv rfl un3 un91) ?_
    refine ro rfl rfl (st_as rfl) ?_
    refine rw_nilk ?_
    refine awp_ret ?_
    injection h with h
    subst h
    exact ret_out (v := dI .u64 (IntKind.wrap .u64 a0)) (resV_one (resVs_tmp rfl resVs_nil)) (.keep rfl)

theorem ok_lits_Var {a0 : Int} {r : Int} (h : F_lits_Var a0 = some r) : Fn Tryz.prog 43 [dI .i64 a0] (dI .i64 r) := by
  unfold F_lits_Var at h
  refine Fn.of_body (N := 10) (rs := [.tmp 2]) Tryz.func43 (c := _) rfl rfl rfl (by kernel_rfl) (Nat.le_of_ble_eq_true rfl) (fun _B => ?_)
  refine awp_rs ?_
  refine ro rfl rfl (st_as rfl) ?_
  refine rw_nilk ?_
  refine awp_seq ?_
  refine awp_rs ?_
  refine ro rfl rfl (st_mv rfl) ?_
  obtain ⟨y101, hy101, h⟩ := bind_some_elim h
  refine rf rfl rfl (ok_lits_size hy101) rfl rfl ?_
  refine ro rfl rfl (st_as rfl) ?_
  refine rw_nilk ?_
  refine awp_rs ?_
  refine ro rfl rfl (st_mv rfl) ?_
  refine ro rfl rfl (st_bin (v := dB (decide (y101 ≤ (65536 : Int)))) rfl rfl rfl) ?_
  refine rw_nilk ?_
  refine awp_ite (b := (decide (y101 ≤ (65536 : Int)))) rfl (fun p102 => ?_) (fun p102 => ?_)
  · replace h := ite_T p102 h
    refine awp_rs ?_
    refine ro rfl rfl (st_mv rfl) ?_
    refine ro rfl rfl (st_conv rfl un91 un3) ?_
    refine ro rfl rfl (st_as rfl) ?_
    refine rw_nilk ?_
    refine awp_ret ?_
    refine rt_then ?_
    injection h with h
    subst h
    exact ret_out (v := dI .i64 (IntKind.wrap .i64 y101)) (resV_one (resVs_tmp rfl resVs_nil)) (.keep rfl)
  · replace h := ite_F p102 h
    refine awp_skip ?_
    refine nx_then ?_
    refine awp_rs ?_
    refine ro rfl rfl (st_as rfl) ?_
    refine rw_nilk ?_
    refine awp_ret ?_
    injection h with h
    subst h
    exact ret_out (v := dI .i64 (0 : Int)) (resV_one (resVs_tmp rfl resVs_nil)) (.keep rfl)

theorem ok_clean_Decided {a0 : S_api_Dqbf} {r : Int} (h : F_clean_Decided a0 = some r) : Fn Tryz.prog 13 [.agg [dL 1 (eI .i64) a0.Univ, dL 2 e_S_api_Dep a0.Exist, dL 1 (eL 1 (eI .i64)) a0.Clauses]] (dI .u8 r) := by
  unfold F_clean_Decided at h
  refine Fn.of_body (N := 21) (rs := [.tmp 2]) Tryz.func13 (c := _) rfl rfl rfl (by kernel_rfl) (Nat.le_of_ble_eq_true rfl) (fun _B => ?_)
  refine awp_rs ?_
  refine rn (r := 1001) rfl rfl (st_box rfl rfl rfl co26 rfl rfl) rfl ?_
  refine ro rfl rfl (st_as rfl) ?_
  refine rw_nilk ?_
  refine awp_seq ?_
  refine awp_rs ?_
  refine ro rfl rfl (st_ldP (v := .agg [dL 1 (eI .i64) a0.Univ, dL 2 e_S_api_Dep a0.Exist, dL 1 (eL 1 (eI .i64)) a0.Clauses]) ta26 rfl rfl rfl rfl) ?_
  obtain ⟨y101, hy101, h⟩ := bind_some_elim h
  refine rf rfl rfl (ok_prefix_MayDqbf hy101) rfl rfl ?_
  refine ro rfl rfl (st_un (v := dB (!y101)) rfl rfl) ?_
  refine rw_nilk ?_
  refine awp_ite (b := (!y101)) rfl (fun p102 => ?_) (fun p102 => ?_)
  · replace h := ite_T p102 h
    refine awp_rs ?_
    refine ro rfl rfl (st_as rfl) ?_
    refine rw_nilk ?_
    refine awp_ret ?_
    refine rt_then ?_
    injection h with h
    subst h
    exact ret_out (v := dI .u8 (0 : Int)) (resV_one (resVs_tmp rfl resVs_nil)) (.keep rfl)
  · replace h := ite_F p102 h
    refine awp_skip ?_
    refine nx_then ?_
    refine awp_rs ?_
    refine ro rfl rfl (st_ldP (v := .agg [dL 1 (eI .i64) a0.Univ, dL 2 e_S_api_Dep a0.Exist, dL 1 (eL 1 (eI .i64)) a0.Clauses]) ta26 rfl rfl rfl rfl) ?_
    refine ri (N := 70) (rs := [.tmp 2]) rfl rfl rfl rfl Tryz.func21 rfl rfl rfl (by kernel_rfl) rfl (fun _B => ?_)
    refine awp_rs ?_
    refine rn (r := 1002) rfl rfl (st_box rfl rfl rfl co26 rfl rfl) rfl ?_
    refine ro rfl rfl (st_as rfl) ?_
    refine rw_nilk ?_
    refine awp_rs ?_
    refine ro rfl rfl (st_ldP (v := .agg [dL 1 (eI .i64) a0.Univ, dL 2 e_S_api_Dep a0.Exist, dL 1 (eL 1 (eI .i64)) a0.Clauses]) ta26 rfl rfl rfl rfl) ?_
    refine rn (r := 1003) (L' := [(1001, .row 0 26 [[dL 1 (eI .i64) a0.Univ, dL 2 e_S_api_Dep a0.Exist, dL 1 (eL 1 (eI .i64)) a0.Clauses]]), (1002, .row 0 26 [[dL 1 (eI .i64) a0.Univ, dL 2 e_S_api_Dep a0.Exist, dL 1 (eL 1 (eI .i64)) a0.Clauses]]), (1003, mapO .i64 (fun (b : Bool) => dB b) ([] : List (Int × Bool)))]) rfl rfl (st_mkM rfl) rfl ?_
    refine rn (r := 1004) (L' := [(1001, .row 0 26 [[dL 1 (eI .i64) a0.Univ, dL 2 e_S_api_Dep a0.Exist, dL 1 (eL 1 (eI .i64)) a0.Clauses]]), (1002, .row 0 26 [[dL 1 (eI .i64) a0.Univ, dL 2 e_S_api_Dep a0.Exist, dL 1 (eL 1 (eI .i64)) a0.Clauses]]), (1003, mapO .i64 (fun (b : Bool) => dB b) ([] : List (Int × Bool))), (1004, mapO .i64 (fun (b : (List Int)) => dL 1 (eI .i64) b) ([] : List (Int × (List Int))))]) rfl rfl (st_mkM rfl) rfl ?_
    refine rn (r := 1005) (L' := [(1001, .row 0 26 [[dL 1 (eI .i64) a0.Univ, dL 2 e_S_api_Dep a0.Exist, dL 1 (eL 1 (eI .i64)) a0.Clauses]]), (1002, .row 0 26 [[dL 1 (eI .i64) a0.Univ, dL 2 e_S_api_Dep a0.Exist, dL 1 (eL 1 (eI .i64)) a0.Clauses]]), (1003, mapO .i64 (fun (b : Bool) => dB b) ([] : List (Int × Bool))), (1004, mapO .i64 (fun (b : (List Int)) => dL 1 (eI .i64) b) ([] : List (Int × (List Int)))), (1005, mapO .i64 (fun (b : Int) => dI .i64 b) ([] : List (Int × Int)))]) rfl rfl (st_mkM rfl) rfl ?_
    refine ro rfl rfl (st_build (vs := [dL 1 (eI .i64) a0.Univ, dL 2 e_S_api_Dep a0.Exist, dL 1 (eL 1 (eI .i64)) a0.Clauses, .map 1003, .map 1004, .map 1005]) bl81 rfl rfl) ?_
    refine rn (r := 1006) rfl rfl (st_box rfl rfl rfl co81 rfl rfl) rfl ?_
    refine ro rfl rfl (st_as rfl) ?_
    refine rw_nilk ?_
    refine awp_seq ?_
    refine awp_rs ?_
    refine ro rfl rfl (st_faP fo26_0 rfl) ?_
    refine ro rfl rfl (st_ldP (v := dL 1 (eI .i64) a0.Univ) ta22 rfl rfl rfl rfl) ?_
    refine ro rfl rfl (st_lenD rfl un22) ?_
    refine ro rfl rfl (st_mv rfl) ?_
    refine rw_nilk ?_
    refine awp_block ?_
    refine awp_len (t := 19) rfl (fun hl136 => ?_)
    rw [List.length_map] at hl136
    refine awp_range (fun (j136 : Nat) (s133 : (List (Int × Bool))) (g134 : Unit) => [(1, .ptr 1002 0 0 0), (3, .ptr 1006 0 0 0), (19, dL 1 (eI .i64) a0.Univ), (20, dI .i64 ((a0.Univ.length : Nat) : Int)), (21, dI .i64 ((j136 : Nat) : Int))]) (fun (s133 : (List (Int × Bool))) (g134 : Unit) => [(1001, .row 0 26 [[dL 1 (eI .i64) a0.Univ, dL 2 e_S_api_Dep a0.Exist, dL 1 (eL 1 (eI .i64)) a0.Clauses]]), (1002, .row 0 26 [[dL 1 (eI .i64) a0.Univ, dL 2 e_S_api_Dep a0.Exist, dL 1 (eL 1 (eI .i64)) a0.Clauses]]), (1003, mapO .i64 (fun (b : Bool) => dB b) s133), (1004, mapO .i64 (fun (b : (List Int)) => dL 1 (eI .i64) b) ([] : List (Int × (List Int)))), (1005, mapO .i64 (fun (b : Int) => dI .i64 b) ([] : List (Int × Int))), (1006, .row 0 81 [[dL 1 (eI .i64) a0.Univ, dL 2 e_S_api_Dep a0.Exist, dL 1 (eL 1 (eI .i64)) a0.Clauses, .map 1003, .map 1004, .map 1005]])]) () (fun _ _ _ h => h) h (gh_frz rfl rfl ⟨⟨_, rfl, .keep rfl⟩, ⟨_, rfl, .keep rfl⟩, ⟨_, rfl, .keep rfl⟩, ⟨_, rfl, .keep rfl⟩, ⟨_, rfl, .keep rfl⟩, trivial⟩ ⟨⟨_, rfl, objOne ⟨⟨rfl, .keep rfl⟩, ⟨rfl, .keep rfl⟩, ⟨rfl, .keep rfl⟩, trivial⟩⟩, ⟨_, rfl, objOne ⟨⟨rfl, .keep rfl⟩, ⟨rfl, .keep rfl⟩, ⟨rfl, .keep rfl⟩, trivial⟩⟩, ⟨_, rfl, objMap (fun _ => rfl) _⟩, ⟨_, rfl, objMap (fun _ => rfl) _⟩, ⟨_, rfl, objMap (fun _ => rfl) _⟩, ⟨_, rfl, objOne ⟨⟨rfl, .keep rfl⟩, ⟨rfl, .keep rfl⟩, ⟨rfl, .keep rfl⟩, ⟨rfl, .keep rfl⟩, ⟨rfl, .keep rfl⟩, ⟨rfl, .keep rfl⟩, trivial⟩⟩, trivial⟩) ?_ ?_
    · clear h
      intro j136 x137 s133 g134 k135 hj136 hx136 h ih135
      refine awp_rs ?_
      refine ro rfl rfl (st_bin (v := dB (decide (((j136 : Nat) : Int) < ((a0.Univ.length : Nat) : Int)))) rfl rfl rfl) ?_
      refine rw_nilk ?_
      refine awp_seq ?_
      refine awp_ifT rfl (dlt hj136) ?_
      refine awp_skip ?_
      refine nx_then ?_
      refine awp_seq ?_
      refine awp_block ?_
      refine awp_rs ?_
      refine ro rfl rfl (st_ixDn sl22 rfl rfl hx136) ?_
      refine ro rfl rfl (st_ldD (v := dI .i64 x137) ta3 rfl rfl) ?_
      refine ro rfl rfl (st_as rfl) ?_
      refine rw_nilk ?_
      refine awp_rw ?_
      refine ro rfl rfl (st_mv rfl) ?_
      refine ro rfl rfl (st_nilP rfl) ?_
      refine ro rfl rfl (st_faP fo81_1 rfl) ?_
      refine ro rfl rfl (st_ldP (v := .map 1003) ta75 rfl rfl rfl rfl) ?_
      refine ro rfl rfl (st_mv rfl) ?_
      refine rx (L' := [(1001, .row 0 26 [[dL 1 (eI .i64) a0.Univ, dL 2 e_S_api_Dep a0.Exist, dL 1 (eL 1 (eI .i64)) a0.Clauses]]), (1002, .row 0 26 [[dL 1 (eI .i64) a0.Univ, dL 2 e_S_api_Dep a0.Exist, dL 1 (eL 1 (eI .i64)) a0.Clauses]]), (1003, mapO .i64 (fun (b : Bool) => dB b) (mset s133 x137 true)), (1004, mapO .i64 (fun (b : (List Int)) => dL 1 (eI .i64) b) ([] : List (Int × (List Int)))), (1005, mapO .i64 (fun (b : Int) => dI .i64 b) ([] : List (Int × Int))), (1006, .row 0 81 [[dL 1 (eI .i64) a0.Univ, dL 2 e_S_api_Dep a0.Exist, dL 1 (eL 1 (eI .i64)) a0.Clauses, .map 1003, .map 1004, .map 1005]])]) rfl rfl (st_mapUp (vf := (fun (b : Bool) => dB b)) (b := true) (xs := s133) un75 un3 rfl rfl rfl rfl) rfl ?_
      refine rw_nil ?_
      refine nx_block ?_
      refine nx_then ?_
      refine awp_rw ?_
      refine ro rfl rfl (st_inc rfl rfl hj136 hl136) ?_
      refine ro rfl rfl (st_mv rfl) ?_
      refine rw_nil ?_
      refine nx_then ?_
      refine awp_gh ?_ (ih135 (mset s133 x137 true) () h)
      exact (gh_frz rfl rfl ⟨⟨_, rfl, .keep rfl⟩, ⟨_, rfl, .keep rfl⟩, ⟨_, rfl, .keep rfl⟩, ⟨_, rfl, .keep rfl⟩, ⟨_, rfl, .keep rfl⟩, trivial⟩ ⟨⟨_, rfl, objOne ⟨⟨rfl, .keep rfl⟩, ⟨rfl, .keep rfl⟩, ⟨rfl, .keep rfl⟩, trivial⟩⟩, ⟨_, rfl, objOne ⟨⟨rfl, .keep rfl⟩, ⟨rfl, .keep rfl⟩, ⟨rfl, .keep rfl⟩, trivial⟩⟩, ⟨_, rfl, objMap (fun _ => rfl) _⟩, ⟨_, rfl, objMap (fun _ => rfl) _⟩, ⟨_, rfl, objMap (fun _ => rfl) _⟩, ⟨_, rfl, objOne ⟨⟨rfl, .keep rfl⟩, ⟨rfl, .keep rfl⟩, ⟨rfl, .keep rfl⟩, ⟨rfl, .keep rfl⟩, ⟨rfl, .keep rfl⟩, ⟨rfl, .keep rfl⟩, trivial⟩⟩, trivial⟩)
    · clear h
      intro s133 g134 h
      refine awp_rs ?_
      refine ro rfl rfl (st_bin (v := dB (decide (((a0.Univ.length : Nat) : Int) < ((a0.Univ.length : Nat) : Int)))) rfl rfl rfl) ?_
      refine rw_nilk ?_
      refine awp_seq ?_
      refine awp_ifF rfl dge ?_
      refine awp_exit ?_
      refine ex_out ?_
      refine ex_out ?_
      refine ex_in ?_
      refine nx_then ?_
      refine awp_seq ?_
      refine awp_rs ?_
      refine ro rfl rfl (st_faP fo26_1 rfl) ?_
      refine ro rfl rfl (st_ldP (v := dL 2 e_S_api_Dep a0.Exist) ta23 rfl rfl rfl rfl) ?_
      refine ro rfl rfl (st_lenD rfl un23) ?_
      refine ro rfl rfl (st_mv rfl) ?_
      refine rw_nilk ?_
      refine awp_block ?_
      refine awp_len (t := 32) rfl (fun hl141 => ?_)
      rw [List.length_map] at hl141
      refine awp_range (fun (j141 : Nat) (s138 : (List (Int × (List Int)))) (g139 : Unit) => [(1, .ptr 1002 0 0 0), (3, .ptr 1006 0 0 0), (32, dL 2 e_S_api_Dep a0.Exist), (33, dI .i64 ((a0.Exist.length : Nat) : Int)), (34, dI .i64 ((j141 : Nat) : Int))]) (fun (s138 : (List (Int × (List Int)))) (g139 : Unit) => [(1001, .row 0 26 [[dL 1 (eI .i64) a0.Univ, dL 2 e_S_api_Dep a0.Exist, dL 1 (eL 1 (eI .i64)) a0.Clauses]]), (1002, .row 0 26 [[dL 1 (eI .i64) a0.Univ, dL 2 e_S_api_Dep a0.Exist, dL 1 (eL 1 (eI .i64)) a0.Clauses]]), (1003, mapO .i64 (fun (b : Bool) => dB b) s133), (1004, mapO .i64 (fun (b : (List Int)) => dL 1 (eI .i64) b) s138), (1005, mapO .i64 (fun (b : Int) => dI .i64 b) ([] : List (Int × Int))), (1006, .row 0 81 [[dL 1 (eI .i64) a0.Univ, dL 2 e_S_api_Dep a0.Exist, dL 1 (eL 1 (eI .i64)) a0.Clauses, .map 1003, .map 1004, .map 1005]])]) () (fun _ _ _ h => h) h (gh_frz rfl rfl ⟨⟨_, rfl, .keep rfl⟩, ⟨_, rfl, .keep rfl⟩, ⟨_, rfl, .keep rfl⟩, ⟨_, rfl, .keep rfl⟩, ⟨_, rfl, .keep rfl⟩, trivial⟩ ⟨⟨_, rfl, objOne ⟨⟨rfl, .keep rfl⟩, ⟨rfl, .keep rfl⟩, ⟨rfl, .keep rfl⟩, trivial⟩⟩, ⟨_, rfl, objOne ⟨⟨rfl, .keep rfl⟩, ⟨rfl, .keep rfl⟩, ⟨rfl, .keep rfl⟩, trivial⟩⟩, ⟨_, rfl, objMap (fun _ => rfl) _⟩, ⟨_, rfl, objMap (fun _ => rfl) _⟩, ⟨_, rfl, objMap (fun _ => rfl) _⟩, ⟨_, rfl, objOne ⟨⟨rfl, .keep rfl⟩, ⟨rfl, .keep rfl⟩, ⟨rfl, .keep rfl⟩, ⟨rfl, .keep rfl⟩, ⟨rfl, .keep rfl⟩, ⟨rfl, .keep rfl⟩, trivial⟩⟩, trivial⟩) ?_ ?_
      · clear h
        intro j141 x142 s138 g139 k140 hj141 hx141 h ih140
        refine awp_rs ?_
        refine ro rfl rfl (st_bin (v := dB (decide (((j141 : Nat) : Int) < ((a0.Exist.length : Nat) : Int)))) rfl rfl rfl) ?_
        refine rw_nilk ?_
        refine awp_seq ?_
        refine awp_ifT rfl (dlt hj141) ?_
        refine awp_skip ?_
        refine nx_then ?_
        refine awp_seq ?_
        refine awp_block ?_
        refine awp_rs ?_
        refine ro rfl rfl (st_ixDn sl23 rfl rfl hx141) ?_
        refine ro rfl rfl (st_ldD (v := .agg [dI .i64 x142.Var, dL 1 (eI .i64) x142.On]) ta44 rfl rfl) ?_
        refine rn (r := 1007) rfl rfl (st_alloc zc44 rfl rfl) rfl ?_
        refine rx (L' := [(1001, .row 0 26 [[dL 1 (eI .i64) a0.Univ, dL 2 e_S_api_Dep a0.Exist, dL 1 (eL 1 (eI .i64)) a0.Clauses]]), (1002, .row 0 26 [[dL 1 (eI .i64) a0.Univ, dL 2 e_S_api_Dep a0.Exist, dL 1 (eL 1 (eI .i64)) a0.Clauses]]), (1003, mapO .i64 (fun (b : Bool) => dB b) s133), (1004, mapO .i64 (fun (b : (List Int)) => dL 1 (eI .i64) b) s138), (1005, mapO .i64 (fun (b : Int) => dI .i64 b) ([] : List (Int × Int))), (1006, .row 0 81 [[dL 1 (eI .i64) a0.Univ, dL 2 e_S_api_Dep a0.Exist, dL 1 (eL 1 (eI .i64)) a0.Clauses, .map 1003, .map 1004, .map 1005]]), (1007, .row 0 44 [[dI .i64 x142.Var, dL 1 (eI .i64) x142.On]])]) rfl rfl (st_stP ta44 rfl rfl rfl rfl rfl rfl rfl rfl) rfl ?_
        refine rw_nilk ?_
        refine awp_rd hmix ?_
        refine do_ rfl rfl (st_mv rfl) rfl rfl rfl ?_
        refine do_ rfl rfl (st_nilP rfl) rfl rfl rfl ?_
        refine do_ rfl rfl (st_faP fo81_2 rfl) rfl rfl rfl ?_
        refine do_ rfl rfl (st_ldP (v := .map 1004) ta78 rfl rfl rfl rfl) rfl rfl rfl ?_
        refine do_ rfl rfl (st_faP fo44_0 rfl) rfl rfl rfl ?_
        refine do_ rfl rfl (st_ldP (v := dI .i64 x142.Var) ta3 rfl rfl rfl rfl) rfl rfl rfl ?_
        refine do_ rfl rfl (st_faP fo44_1 rfl) rfl rfl rfl ?_
        refine do_ rfl rfl (st_ldP (v := dL 1 (eI .i64) x142.On) ta22 rfl rfl rfl rfl) rfl rfl rfl ?_
        refine dx (L' := [(1001, .row 0 26 [[dL 1 (eI .i64) a0.Univ, dL 2 e_S_api_Dep a0.Exist, dL 1 (eL 1 (eI .i64)) a0.Clauses]]), (1002, .row 0 26 [[dL 1 (eI .i64) a0.Univ, dL 2 e_S_api_Dep a0.Exist, dL 1 (eL 1 (eI .i64)) a0.Clauses]]), (1003, mapO .i64 (fun (b : Bool) => dB b) s133), (1004, mapO .i64 (fun (b : (List Int)) => dL 1 (eI .i64) b) (mset s138 x142.Var x142.On)), (1005, mapO .i64 (fun (b : Int) => dI .i64 b) ([] : List (Int × Int))), (1006, .row 0 81 [[dL 1 (eI .i64) a0.Univ, dL 2 e_S_api_Dep a0.Exist, dL 1 (eL 1 (eI .i64)) a0.Clauses, .map 1003, .map 1004, .map 1005]]), (1007, .row 0 44 [[dI .i64 x142.Var, dL 1 (eI .i64) x142.On]])]) rfl rfl (st_mapUp (vf := (fun (b : (List Int)) => dL 1 (eI .i64) b)) (b := x142.On) (xs := s138) un78 un3 rfl rfl rfl rfl) rfl rfl rfl rfl ?_
        refine rd_nil (by kernel_rfl) ?_
        refine nx_block ?_
        refine nx_then ?_
        refine awp_rw ?_
        refine ro rfl rfl (st_inc rfl rfl hj141 hl141) ?_
        refine ro rfl rfl (st_mv rfl) ?_
        refine rw_nil ?_
        refine nx_then ?_
        refine awp_gh ?_ (ih140 (mset s138 x142.Var x142.On) () h)
        exact (gh_frz rfl rfl ⟨⟨_, rfl, .keep rfl⟩, ⟨_, rfl, .keep rfl⟩, ⟨_, rfl, .keep rfl⟩, ⟨_, rfl, .keep rfl⟩, ⟨_, rfl, .keep rfl⟩, trivial⟩ ⟨⟨_, rfl, objOne ⟨⟨rfl, .keep rfl⟩, ⟨rfl, .keep rfl⟩, ⟨rfl, .keep rfl⟩, trivial⟩⟩, ⟨_, rfl, objOne ⟨⟨rfl, .keep rfl⟩, ⟨rfl, .keep rfl⟩, ⟨rfl, .keep rfl⟩, trivial⟩⟩, ⟨_, rfl, objMap (fun _ => rfl) _⟩, ⟨_, rfl, objMap (fun _ => rfl) _⟩, ⟨_, rfl, objMap (fun _ => rfl) _⟩, ⟨_, rfl, objOne ⟨⟨rfl, .keep rfl⟩, ⟨rfl, .keep rfl⟩, ⟨rfl, .keep rfl⟩, ⟨rfl, .keep rfl⟩, ⟨rfl, .keep rfl⟩, ⟨rfl, .keep rfl⟩, trivial⟩⟩, trivial⟩)
      · clear h
        intro s138 g139 h
        refine awp_rs ?_
        refine ro rfl rfl (st_bin (v := dB (decide (((a0.Exist.length : Nat) : Int) < ((a0.Exist.length : Nat) : Int)))) rfl rfl rfl) ?_
        refine rw_nilk ?_
        refine awp_seq ?_
        refine awp_ifF rfl dge ?_
        refine awp_exit ?_
        refine ex_out ?_
        refine ex_out ?_
        refine ex_in ?_
        refine nx_then ?_
        refine awp_seq ?_
        refine awp_rs ?_
        refine ro rfl rfl (st_faP fo26_2 rfl) ?_
        refine ro rfl rfl (st_ldP (v := dL 1 (eL 1 (eI .i64)) a0.Clauses) ta24 rfl rfl rfl rfl) ?_
        refine ro rfl rfl (st_lenD rfl un24) ?_
        refine ro rfl rfl (st_mv rfl) ?_
        refine rw_nilk ?_
        refine awp_block ?_
        refine awp_len (t := 48) rfl (fun hl146 => ?_)
        rw [List.length_map] at hl146
        refine awp_range (fun (j146 : Nat) (s143 : (List (Int × Int))) (g144 : Unit) => [(3, .ptr 1006 0 0 0), (48, dL 1 (eL 1 (eI .i64)) a0.Clauses), (49, dI .i64 ((a0.Clauses.length : Nat) : Int)), (50, dI .i64 ((j146 : Nat) : Int))]) (fun (s143 : (List (Int × Int))) (g144 : Unit) => [(1001, .row 0 26 [[dL 1 (eI .i64) a0.Univ, dL 2 e_S_api_Dep a0.Exist, dL 1 (eL 1 (eI .i64)) a0.Clauses]]), (1003, mapO .i64 (fun (b : Bool) => dB b) s133), (1004, mapO .i64 (fun (b : (List Int)) => dL 1 (eI .i64) b) s138), (1005, mapO .i64 (fun (b : Int) => dI .i64 b) s143), (1006, .row 0 81 [[dL 1 (eI .i64) a0.Univ, dL 2 e_S_api_Dep a0.Exist, dL 1 (eL 1 (eI .i64)) a0.Clauses, .map 1003, .map 1004, .map 1005]])]) () (fun _ _ _ h => h) h (gh_frz rfl rfl ⟨⟨_, rfl, .keep rfl⟩, ⟨_, rfl, .keep rfl⟩, ⟨_, rfl, .keep rfl⟩, ⟨_, rfl, .keep rfl⟩, trivial⟩ ⟨⟨_, rfl, objOne ⟨⟨rfl, .keep rfl⟩, ⟨rfl, .keep rfl⟩, ⟨rfl, .keep rfl⟩, trivial⟩⟩, ⟨_, rfl, objMap (fun _ => rfl) _⟩, ⟨_, rfl, objMap (fun _ => rfl) _⟩, ⟨_, rfl, objMap (fun _ => rfl) _⟩, ⟨_, rfl, objOne ⟨⟨rfl, .keep rfl⟩, ⟨rfl, .keep rfl⟩, ⟨rfl, .keep rfl⟩, ⟨rfl, .keep rfl⟩, ⟨rfl, .keep rfl⟩, ⟨rfl, .keep rfl⟩, trivial⟩⟩, trivial⟩) ?_ ?_
        · clear h
          intro j146 x147 s143 g144 k145 hj146 hx146 h ih145
          refine awp_rs ?_
          refine ro rfl rfl (st_bin (v := dB (decide (((j146 : Nat) : Int) < ((a0.Clauses.length : Nat) : Int)))) rfl rfl rfl) ?_
          refine rw_nilk ?_
          refine awp_seq ?_
          refine awp_ifT rfl (dlt hj146) ?_
          refine awp_skip ?_
          refine nx_then ?_
          refine awp_seq ?_
          refine awp_block ?_
          refine awp_rs ?_
          refine ro rfl rfl (st_ixDn sl24 rfl rfl hx146) ?_
          refine ro rfl rfl (st_ldD (v := dL 1 (eI .i64) x147) ta22 rfl rfl) ?_
          refine ro rfl rfl (st_as rfl) ?_
          refine rw_nilk ?_
          refine awp_rs ?_
          refine ro rfl rfl (st_mv rfl) ?_
          refine ro rfl rfl (st_lenD rfl un22) ?_
          refine ro rfl rfl (st_mv rfl) ?_
          refine rw_nilk ?_
          refine awp_block ?_
          refine awp_len (t := 9) rfl (fun hl161 => ?_)
          rw [List.length_map] at hl161
          refine awp_range (fun (j161 : Nat) (s158 : (List (Int × Int))) (g159 : Unit) => [(3, .ptr 1006 0 0 0), (48, dL 1 (eL 1 (eI .i64)) a0.Clauses), (49, dI .i64 ((a0.Clauses.length : Nat) : Int)), (50, dI .i64 ((j146 : Nat) : Int)), (54, dL 1 (eI .i64) x147), (55, dI .i64 ((x147.length : Nat) : Int)), (56, dI .i64 ((j161 : Nat) : Int))]) (fun (s158 : (List (Int × Int))) (g159 : Unit) => [(1001, .row 0 26 [[dL 1 (eI .i64) a0.Univ, dL 2 e_S_api_Dep a0.Exist, dL 1 (eL 1 (eI .i64)) a0.Clauses]]), (1003, mapO .i64 (fun (b : Bool) => dB b) s133), (1004, mapO .i64 (fun (b : (List Int)) => dL 1 (eI .i64) b) s138), (1005, mapO .i64 (fun (b : Int) => dI .i64 b) s158), (1006, .row 0 81 [[dL 1 (eI .i64) a0.Univ, dL 2 e_S_api_Dep a0.Exist, dL 1 (eL 1 (eI .i64)) a0.Clauses, .map 1003, .map 1004, .map 1005]])]) () (fun _ _ _ h => h) h (gh_frz rfl rfl ⟨⟨_, rfl, .keep rfl⟩, ⟨_, rfl, .keep rfl⟩, ⟨_, rfl, .keep rfl⟩, ⟨_, rfl, .keep rfl⟩, ⟨_, rfl, .keep rfl⟩, ⟨_, rfl, .keep rfl⟩, ⟨_, rfl, .keep rfl⟩, trivial⟩ ⟨⟨_, rfl, objOne ⟨⟨rfl, .keep rfl⟩, ⟨rfl, .keep rfl⟩, ⟨rfl, .keep rfl⟩, trivial⟩⟩, ⟨_, rfl, objMap (fun _ => rfl) _⟩, ⟨_, rfl, objMap (fun _ => rfl) _⟩, ⟨_, rfl, objMap (fun _ => rfl) _⟩, ⟨_, rfl, objOne ⟨⟨rfl, .keep rfl⟩, ⟨rfl, .keep rfl⟩, ⟨rfl, .keep rfl⟩, ⟨rfl, .keep rfl⟩, ⟨rfl, .keep rfl⟩, ⟨rfl, .keep rfl⟩, trivial⟩⟩, trivial⟩) ?_ ?_
          · clear h
            intro j161 x162 s158 g159 k160 hj161 hx161 h ih160
            refine awp_rs ?_
            refine ro rfl rfl (st_bin (v := dB (decide (((j161 : Nat) : Int) < ((x147.length : Nat) : Int)))) rfl rfl rfl) ?_
            refine rw_nilk ?_
            refine awp_seq ?_
            refine awp_ifT rfl (dlt hj161) ?_
            refine awp_skip ?_
            refine nx_then ?_
            refine awp_seq ?_
            refine awp_block ?_
            refine awp_rs ?_
            refine ro rfl rfl (st_ixDn sl22 rfl rfl hx161) ?_
            refine ro rfl rfl (st_ldD (v := dI .i64 x162) ta3 rfl rfl) ?_
            refine ro rfl rfl (st_as rfl) ?_
            refine rw_nilk ?_
            refine awp_rw ?_
            refine ro rfl rfl (st_mv rfl) ?_
            refine ro rfl rfl (st_nilP rfl) ?_
            refine ro rfl rfl (st_faP fo81_3 rfl) ?_
            refine ro rfl rfl (st_ldP (v := .map 1005) ta79 rfl rfl rfl rfl) ?_
            refine ro rfl rfl (st_mv rfl) ?_
            refine ro rfl rfl (st_look (vf := (fun (b : Int) => dI .i64 b)) (z := (0 : Int)) (xs := s158) un79 un3 za3 rfl rfl rfl) ?_
            refine ro rfl rfl (st_bin (v := dI .i64 (IntKind.wrap .i64 (((mget s158 x162).getD (0 : Int)) + (1 : Int)))) rfl rfl rfl) ?_
            refine rx (L' := [(1001, .row 0 26 [[dL 1 (eI .i64) a0.Univ, dL 2 e_S_api_Dep a0.Exist, dL 1 (eL 1 (eI .i64)) a0.Clauses]]), (1003, mapO .i64 (fun (b : Bool) => dB b) s133), (1004, mapO .i64 (fun (b : (List Int)) => dL 1 (eI .i64) b) s138), (1005, mapO .i64 (fun (b : Int) => dI .i64 b) (mset s158 x162 (IntKind.wrap .i64 (((mget s158 x162).getD (0 : Int)) + (1 : Int))))), (1006, .row 0 81 [[dL 1 (eI .i64) a0.Univ, dL 2 e_S_api_Dep a0.Exist, dL 1 (eL 1 (eI .i64)) a0.Clauses, .map 1003, .map 1004, .map 1005]])]) rfl rfl (st_mapUp (vf := (fun (b : Int) => dI .i64 b)) (b := (IntKind.wrap .i64 (((mget s158 x162).getD (0 : Int)) + (1 : Int)))) (xs := s158) un79 un3 rfl rfl rfl rfl) rfl ?_
            refine rw_nil ?_
            refine nx_block ?_
            refine nx_then ?_
            refine awp_rw ?_
            refine ro rfl rfl (st_inc rfl rfl hj161 hl161) ?_
            refine ro rfl rfl (st_mv rfl) ?_
            refine rw_nil ?_
            refine nx_then ?_
            refine awp_gh ?_ (ih160 (mset s158 x162 (IntKind.wrap .i64 (((mget s158 x162).getD (0 : Int)) + (1 : Int)))) () h)
            exact (gh_frz rfl rfl ⟨⟨_, rfl, .keep rfl⟩, ⟨_, rfl, .keep rfl⟩, ⟨_, rfl, .keep rfl⟩, ⟨_, rfl, .keep rfl⟩, ⟨_, rfl, .keep rfl⟩, ⟨_, rfl, .keep rfl⟩, ⟨_, rfl, .keep rfl⟩, trivial⟩ ⟨⟨_, rfl, objOne ⟨⟨rfl, .keep rfl⟩, ⟨rfl, .keep rfl⟩, ⟨rfl, .keep rfl⟩, trivial⟩⟩, ⟨_, rfl, objMap (fun _ => rfl) _⟩, ⟨_, rfl, objMap (fun _ => rfl) _⟩, ⟨_, rfl, objMap (fun _ => rfl) _⟩, ⟨_, rfl, objOne ⟨⟨rfl, .keep rfl⟩, ⟨rfl, .keep rfl⟩, ⟨rfl, .keep rfl⟩, ⟨rfl, .keep rfl⟩, ⟨rfl, .keep rfl⟩, ⟨rfl, .keep rfl⟩, trivial⟩⟩, trivial⟩)
          · clear h
            intro s158 g159 h
            refine awp_rs ?_
            refine ro rfl rfl (st_bin (v := dB (decide (((x147.length : Nat) : Int) < ((x147.length : Nat) : Int)))) rfl rfl rfl) ?_
            refine rw_nilk ?_
            refine awp_seq ?_
            refine awp_ifF rfl dge ?_
            refine awp_exit ?_
            refine ex_out ?_
            refine ex_out ?_
            refine ex_in ?_
            refine nx_block ?_
            refine nx_then ?_
            refine awp_rw ?_
            refine ro rfl rfl (st_inc rfl rfl hj146 hl146) ?_
            refine ro rfl rfl (st_mv rfl) ?_
            refine rw_nil ?_
            refine nx_then ?_
            refine awp_gh ?_ (ih145 s158 () h)
            exact (gh_frz rfl rfl ⟨⟨_, rfl, .keep rfl⟩, ⟨_, rfl, .keep rfl⟩, ⟨_, rfl, .keep rfl⟩, ⟨_, rfl, .keep rfl⟩, trivial⟩ ⟨⟨_, rfl, objOne ⟨⟨rfl, .keep rfl⟩, ⟨rfl, .keep rfl⟩, ⟨rfl, .keep rfl⟩, trivial⟩⟩, ⟨_, rfl, objMap (fun _ => rfl) _⟩, ⟨_, rfl, objMap (fun _ => rfl) _⟩, ⟨_, rfl, objMap (fun _ => rfl) _⟩, ⟨_, rfl, objOne ⟨⟨rfl, .keep rfl⟩, ⟨rfl, .keep rfl⟩, ⟨rfl, .keep rfl⟩, ⟨rfl, .keep rfl⟩, ⟨rfl, .keep rfl⟩, ⟨rfl, .keep rfl⟩, trivial⟩⟩, trivial⟩)
        · clear h
          intro s143 g144 h
          refine awp_rs ?_
          refine ro rfl rfl (st_bin (v := dB (decide (((a0.Clauses.length : Nat) : Int) < ((a0.Clauses.length : Nat) : Int)))) rfl rfl rfl) ?_
          refine rw_nilk ?_
          refine awp_seq ?_
          refine awp_ifF rfl dge ?_
          refine awp_exit ?_
          refine ex_out ?_
          refine ex_out ?_
          refine ex_in ?_
          refine nx_then ?_
          refine awp_rs ?_
          refine ro rfl rfl (st_mv rfl) ?_
          refine ro rfl rfl (st_as rfl) ?_
          refine rw_nilk ?_
          refine awp_ret ?_
          refine ret_in (v := .ptr 1006 0 0 0) (resV_one (resVs_tmp rfl resVs_nil)) ?_
          show RW _ _ _ _ _ _ _
          refine rn (r := 1008) rfl rfl (st_alloc zc50 rfl rfl) rfl ?_
          refine rx (L' := [(1001, .row 0 26 [[dL 1 (eI .i64) a0.Univ, dL 2 e_S_api_Dep a0.Exist, dL 1 (eL 1 (eI .i64)) a0.Clauses]]), (1003, mapO .i64 (fun (b : Bool) => dB b) s133), (1004, mapO .i64 (fun (b : (List Int)) => dL 1 (eI .i64) b) s138), (1005, mapO .i64 (fun (b : Int) => dI .i64 b) s143), (1006, .row 0 81 [[dL 1 (eI .i64) a0.Univ, dL 2 e_S_api_Dep a0.Exist, dL 1 (eL 1 (eI .i64)) a0.Clauses, .map 1003, .map 1004, .map 1005]]), (1008, .row 0 50 [[.ptr 1006 0 0 0]])]) rfl rfl (st_stP ta50 rfl rfl rfl rfl rfl rfl rfl rfl) rfl ?_
          refine rw_nilk ?_
          refine awp_rs ?_
          refine ro rfl rfl (st_fn rfl rfl) ?_
          refine ro rfl rfl (st_as rfl) ?_
          refine rw_nilk ?_
          refine awp_seq ?_
          refine awp_block ?_
          refine awp_rs ?_
          refine ro rfl rfl (st_faP fo26_2 rfl) ?_
          refine ro rfl rfl (st_ldP (v := dL 1 (eL 1 (eI .i64)) a0.Clauses) ta24 rfl rfl rfl rfl) ?_
          refine ro rfl rfl (st_mv rfl) ?_
          refine ri (N := 9) (rs := [.tmp 4]) rfl rfl rfl rfl Tryz.func44 rfl rfl rfl (by kernel_rfl) rfl (fun _B => ?_)
          refine awp_rs ?_
          refine ro rfl rfl (st_as rfl) ?_
          refine rw_nilk ?_
          refine awp_rs ?_
          refine ro rfl rfl (st_mv rfl) ?_
          refine ro rfl rfl (st_mv rfl) ?_
          refine rw_jn (fun (s8353 : Int) (g8354 : Unit) => [(7, dI .i64 s8353)]) (fun (s8353 : Int) (g8354 : Unit) => [(1001, .row 0 26 [[dL 1 (eI .i64) a0.Univ, dL 2 e_S_api_Dep a0.Exist, dL 1 (eL 1 (eI .i64)) a0.Clauses]]), (1003, mapO .i64 (fun (b : Bool) => dB b) s133), (1004, mapO .i64 (fun (b : (List Int)) => dL 1 (eI .i64) b) s138), (1005, mapO .i64 (fun (b : Int) => dI .i64 b) s143), (1006, .row 0 81 [[dL 1 (eI .i64) a0.Univ, dL 2 e_S_api_Dep a0.Exist, dL 1 (eL 1 (eI .i64)) a0.Clauses, .map 1003, .map 1004, .map 1005]]), (1008, .row 0 50 [[.ptr 1006 0 0 0]])]) h ?_ ?_
          · clear h
            intro s8353 g8354 h
            refine ro rfl rfl (st_bin (v := dB (decide (s8353 ≥ (0 : Int)))) rfl rfl rfl) ?_
            refine ro rfl rfl (st_as rfl) ?_
            refine rw_nilk ?_
            refine awp_ret ?_
            refine ret_in (v := dB (decide (s8353 ≥ (0 : Int)))) (resV_one (resVs_tmp rfl resVs_nil)) ?_
            show RW _ _ _ _ _ _ _
            refine ro rfl rfl (st_as rfl) ?_
            refine rw_nilk ?_
            refine awp_ite (b := (decide (s8353 ≥ (0 : Int)))) rfl (fun p8356 => ?_) (fun p8356 => ?_)
            · replace h := ite_T p8356 h
              refine awp_rs ?_
              refine ro rfl rfl (st_as rfl) ?_
              refine rw_nilk ?_
              refine awp_ret ?_
              refine rt_block ?_
              refine rt_then ?_
              injection h with h
              subst h
              exact ret_out (v := dI .u8 (2 : Int)) (resV_one (resVs_tmp rfl resVs_nil)) (.keep rfl)
            · replace h := ite_F p8356 h
              refine awp_rs ?_
              refine ro rfl rfl (st_faP fo26_2 rfl) ?_
              refine ro rfl rfl (st_ldP (v := dL 1 (eL 1 (eI .i64)) a0.Clauses) ta24 rfl rfl rfl rfl) ?_
              refine ro rfl rfl (st_lenD rfl un24) ?_
              refine ro rfl rfl (st_bin (v := dB (((a0.Clauses.length : Nat) : Int) == (0 : Int))) rfl rfl rfl) ?_
              refine ro rfl rfl (st_as rfl) ?_
              refine rw_nilk ?_
              refine awp_ite (b := (((a0.Clauses.length : Nat) : Int) == (0 : Int))) rfl (fun p8357 => ?_) (fun p8357 => ?_)
              · replace h := ite_T p8357 h
                refine awp_rs ?_
                refine ro rfl rfl (st_as rfl) ?_
                refine rw_nilk ?_
                refine awp_ret ?_
                refine rt_block ?_
                refine rt_then ?_
                injection h with h
                subst h
                exact ret_out (v := dI .u8 (1 : Int)) (resV_one (resVs_tmp rfl resVs_nil)) (.keep rfl)
              · replace h := ite_F p8357 h
                refine awp_skip ?_
                refine nx_block ?_
                refine nx_then ?_
                refine awp_rs ?_
                refine ro rfl rfl (st_as rfl) ?_
                refine rw_nilk ?_
                refine awp_ret ?_
                injection h with h
                subst h
                exact ret_out (v := dI .u8 (0 : Int)) (resV_one (resVs_tmp rfl resVs_nil)) (.keep rfl)
          · clear h
            intro k8355 h J8355
            refine ri (N := 19) (rs := [.tmp 4]) rfl rfl rfl rfl Tryz.func85 rfl rfl rfl (by kernel_rfl) rfl (fun _B => ?_)
            refine awp_rs ?_
            refine ro rfl rfl (st_as rfl) ?_
            refine rw_nilk ?_
            refine awp_seq ?_
            refine awp_rs ?_
            refine ro rfl rfl (st_mv rfl) ?_
            refine ro rfl rfl (st_lenD rfl un24) ?_
            refine ro rfl rfl (st_mv rfl) ?_
            refine rw_nilk ?_
            refine awp_block ?_
            refine awp_len (t := 0) rfl (fun hl8361 => ?_)
            rw [List.length_map] at hl8361
            refine awp_range (fun (j8361 : Nat) (s8358 : Unit) (g8359 : Unit) => [(0, dL 1 (eL 1 (eI .i64)) a0.Clauses), (1, .fn 39 [] [.ptr 1008 0 0 0]), (7, dI .i64 ((a0.Clauses.length : Nat) : Int)), (8, dI .i64 ((j8361 : Nat) : Int))]) (fun (s8358 : Unit) (g8359 : Unit) => [(1001, .row 0 26 [[dL 1 (eI .i64) a0.Univ, dL 2 e_S_api_Dep a0.Exist, dL 1 (eL 1 (eI .i64)) a0.Clauses]]), (1003, mapO .i64 (fun (b : Bool) => dB b) s133), (1004, mapO .i64 (fun (b : (List Int)) => dL 1 (eI .i64) b) s138), (1005, mapO .i64 (fun (b : Int) => dI .i64 b) s143), (1006, .row 0 81 [[dL 1 (eI .i64) a0.Univ, dL 2 e_S_api_Dep a0.Exist, dL 1 (eL 1 (eI .i64)) a0.Clauses, .map 1003, .map 1004, .map 1005]]), (1008, .row 0 50 [[.ptr 1006 0 0 0]])]) () (fun _ _ _ h => h) h (gh_frz rfl rfl ⟨⟨_, rfl, .keep rfl⟩, ⟨_, rfl, .keep rfl⟩, ⟨_, rfl, .keep rfl⟩, ⟨_, rfl, .keep rfl⟩, trivial⟩ ⟨⟨_, rfl, objOne ⟨⟨rfl, .keep rfl⟩, ⟨rfl, .keep rfl⟩, ⟨rfl, .keep rfl⟩, trivial⟩⟩, ⟨_, rfl, objMap (fun _ => rfl) _⟩, ⟨_, rfl, objMap (fun _ => rfl) _⟩, ⟨_, rfl, objMap (fun _ => rfl) _⟩, ⟨_, rfl, objOne ⟨⟨rfl, .keep rfl⟩, ⟨rfl, .keep rfl⟩, ⟨rfl, .keep rfl⟩, ⟨rfl, .keep rfl⟩, ⟨rfl, .keep rfl⟩, ⟨rfl, .keep rfl⟩, trivial⟩⟩, ⟨_, rfl, objOne ⟨⟨rfl, .keep rfl⟩, trivial⟩⟩, trivial⟩) ?_ ?_
            · clear h
              intro j8361 x8362 s8358 g8359 k8360 hj8361 hx8361 h ih8360
              refine awp_rs ?_
              refine ro rfl rfl (st_bin (v := dB (decide (((j8361 : Nat) : Int) < ((a0.Clauses.length : Nat) : Int)))) rfl rfl rfl) ?_
              refine rw_nilk ?_
              refine awp_seq ?_
              refine awp_ifT rfl (dlt hj8361) ?_
              refine awp_skip ?_
              refine nx_then ?_
              refine awp_seq ?_
              refine awp_block ?_
              refine awp_rs ?_
              refine ro rfl rfl (st_mv rfl) ?_
              refine ro rfl rfl (st_as rfl) ?_
              refine rw_nilk ?_
              refine awp_rs ?_
              refine ro rfl rfl (st_mv rfl) ?_
              refine ro rfl rfl (st_mv rfl) ?_
              refine ro rfl rfl (st_mv rfl) ?_
              refine ro rfl rfl (st_ixDn sl24 rfl rfl hx8361) ?_
              refine ro rfl rfl (st_ldD (v := dL 1 (eI .i64) x8362) ta22 rfl rfl) ?_
              refine ri (N := 8) (rs := [.tmp 3]) rfl rfl rfl rfl Tryz.func39 rfl rfl rfl (by kernel_rfl) rfl (fun _B => ?_)
              refine awp_rs ?_
              refine ro rfl rfl (st_as rfl) ?_
              refine rw_nilk ?_
              refine awp_rs ?_
              refine ro rfl rfl (st_mv rfl) ?_
              refine ro rfl rfl (st_fn rfl rfl) ?_
              refine ri (N := 9) (rs := [.tmp 4]) rfl rfl rfl rfl Tryz.func40 rfl rfl rfl (by kernel_rfl) rfl (fun _B => ?_)
              refine awp_rs ?_
              refine ro rfl rfl (st_as rfl) ?_
              refine rw_nilk ?_
              refine awp_rs ?_
              refine ro rfl rfl (st_mv rfl) ?_
              refine ro rfl rfl (st_mv rfl) ?_
              refine rw_jn (fun (s11042 : Int) (g11043 : Unit) => [(7, dI .i64 s11042)]) (fun (s11042 : Int) (g11043 : Unit) => [(1001, .row 0 26 [[dL 1 (eI .i64) a0.Univ, dL 2 e_S_api_Dep a0.Exist, dL 1 (eL 1 (eI .i64)) a0.Clauses]]), (1003, mapO .i64 (fun (b : Bool) => dB b) s133), (1004, mapO .i64 (fun (b : (List Int)) => dL 1 (eI .i64) b) s138), (1005, mapO .i64 (fun (b : Int) => dI .i64 b) s143), (1006, .row 0 81 [[dL 1 (eI .i64) a0.Univ, dL 2 e_S_api_Dep a0.Exist, dL 1 (eL 1 (eI .i64)) a0.Clauses, .map 1003, .map 1004, .map 1005]]), (1008, .row 0 50 [[.ptr 1006 0 0 0]])]) h ?_ ?_
              · clear h
                intro s11042 g11043 h
                refine ro rfl rfl (st_bin (v := dB (decide (s11042 ≥ (0 : Int)))) rfl rfl rfl) ?_
                refine ro rfl rfl (st_as rfl) ?_
                refine rw_nilk ?_
                refine awp_ret ?_
                refine ret_in (v := dB (decide (s11042 ≥ (0 : Int)))) (resV_one (resVs_tmp rfl resVs_nil)) ?_
                show RW _ _ _ _ _ _ _
                refine ro rfl rfl (st_un (v := dB (!(decide (s11042 ≥ (0 : Int))))) rfl rfl) ?_
                refine ro rfl rfl (st_as rfl) ?_
                refine rw_nilk ?_
                refine awp_ret ?_
                refine ret_in (v := dB (!(decide (s11042 ≥ (0 : Int))))) (resV_one (resVs_tmp rfl resVs_nil)) ?_
                show RW _ _ _ _ _ _ _
                refine rw_nilk ?_
                refine awp_ite (b := (!(decide (s11042 ≥ (0 : Int))))) rfl (fun p11045 => ?_) (fun p11045 => ?_)
                · replace h := ite_T p11045 h
                  refine awp_rs ?_
                  refine ro rfl rfl (st_mv rfl) ?_
                  refine ro rfl rfl (st_as rfl) ?_
                  refine rw_nilk ?_
                  refine awp_ret ?_
                  refine rt_block ?_
                  refine rt_then ?_
                  refine rt_then ?_
                  refine rt_block ?_
                  refine rt_then ?_
                  refine ret_in (v := dI .i64 ((j8361 : Nat) : Int)) (resV_one (resVs_tmp rfl resVs_nil)) ?_
                  exact J8355 ((j8361 : Nat) : Int) () _ _ h (gh_frz rfl rfl ⟨⟨_, rfl, .keep rfl⟩, trivial⟩ ⟨⟨_, rfl, objOne ⟨⟨rfl, .keep rfl⟩, ⟨rfl, .keep rfl⟩, ⟨rfl, .keep rfl⟩, trivial⟩⟩, ⟨_, rfl, objMap (fun _ => rfl) _⟩, ⟨_, rfl, objMap (fun _ => rfl) _⟩, ⟨_, rfl, objMap (fun _ => rfl) _⟩, ⟨_, rfl, objOne ⟨⟨rfl, .keep rfl⟩, ⟨rfl, .keep rfl⟩, ⟨rfl, .keep rfl⟩, ⟨rfl, .keep rfl⟩, ⟨rfl, .keep rfl⟩, ⟨rfl, .keep rfl⟩, trivial⟩⟩, ⟨_, rfl, objOne ⟨⟨rfl, .keep rfl⟩, trivial⟩⟩, trivial⟩)
                · replace h := ite_F p11045 h
                  refine awp_skip ?_
                  refine nx_block ?_
                  refine nx_then ?_
                  refine awp_rw ?_
                  refine ro rfl rfl (st_inc rfl rfl hj8361 hl8361) ?_
                  refine ro rfl rfl (st_mv rfl) ?_
                  refine rw_nil ?_
                  refine nx_then ?_
                  refine awp_gh ?_ (ih8360 () () h)
                  exact (gh_frz rfl rfl ⟨⟨_, rfl, .keep rfl⟩, ⟨_, rfl, .keep rfl⟩, ⟨_, rfl, .keep rfl⟩, ⟨_, rfl, .keep rfl⟩, trivial⟩ ⟨⟨_, rfl, objOne ⟨⟨rfl, .keep rfl⟩, ⟨rfl, .keep rfl⟩, ⟨rfl, .keep rfl⟩, trivial⟩⟩, ⟨_, rfl, objMap (fun _ => rfl) _⟩, ⟨_, rfl, objMap (fun _ => rfl) _⟩, ⟨_, rfl, objMap (fun _ => rfl) _⟩, ⟨_, rfl, objOne ⟨⟨rfl, .keep rfl⟩, ⟨rfl, .keep rfl⟩, ⟨rfl, .keep rfl⟩, ⟨rfl, .keep rfl⟩, ⟨rfl, .keep rfl⟩, ⟨rfl, .keep rfl⟩, trivial⟩⟩, ⟨_, rfl, objOne ⟨⟨rfl, .keep rfl⟩, trivial⟩⟩, trivial⟩)
              · clear h
                intro k11044 h J11044
                refine ri (N := 19) (rs := [.tmp 4]) rfl rfl rfl rfl Tryz.func83 rfl rfl rfl (by kernel_rfl) rfl (fun _B => ?_)
                refine awp_rs ?_
                refine ro rfl rfl (st_as rfl) ?_
                refine rw_nilk ?_
                refine awp_seq ?_
                refine awp_rs ?_
                refine ro rfl rfl (st_mv rfl) ?_
                refine ro rfl rfl (st_lenD rfl un22) ?_
                refine ro rfl rfl (st_mv rfl) ?_
                refine rw_nilk ?_
                refine awp_block ?_
                refine awp_len (t := 0) rfl (fun hl11049 => ?_)
                rw [List.length_map] at hl11049
                refine awp_range (fun (j11049 : Nat) (s11046 : Unit) (g11047 : Unit) => [(0, dL 1 (eI .i64) x8362), (1, .fn 41 [] [.ptr 1008 0 0 0]), (7, dI .i64 ((x8362.length : Nat) : Int)), (8, dI .i64 ((j11049 : Nat) : Int))]) (fun (s11046 : Unit) (g11047 : Unit) => [(1001, .row 0 26 [[dL 1 (eI .i64) a0.Univ, dL 2 e_S_api_Dep a0.Exist, dL 1 (eL 1 (eI .i64)) a0.Clauses]]), (1003, mapO .i64 (fun (b : Bool) => dB b) s133), (1004, mapO .i64 (fun (b : (List Int)) => dL 1 (eI .i64) b) s138), (1005, mapO .i64 (fun (b : Int) => dI .i64 b) s143), (1006, .row 0 81 [[dL 1 (eI .i64) a0.Univ, dL 2 e_S_api_Dep a0.Exist, dL 1 (eL 1 (eI .i64)) a0.Clauses, .map 1003, .map 1004, .map 1005]]), (1008, .row 0 50 [[.ptr 1006 0 0 0]])]) () (fun _ _ _ h => h) h (gh_frz rfl rfl ⟨⟨_, rfl, .keep rfl⟩, ⟨_, rfl, .keep rfl⟩, ⟨_, rfl, .keep rfl⟩, ⟨_, rfl, .keep rfl⟩, trivial⟩ ⟨⟨_, rfl, objOne ⟨⟨rfl, .keep rfl⟩, ⟨rfl, .keep rfl⟩, ⟨rfl, .keep rfl⟩, trivial⟩⟩, ⟨_, rfl, objMap (fun _ => rfl) _⟩, ⟨_, rfl, objMap (fun _ => rfl) _⟩, ⟨_, rfl, objMap (fun _ => rfl) _⟩, ⟨_, rfl, objOne ⟨⟨rfl, .keep rfl⟩, ⟨rfl, .keep rfl⟩, ⟨rfl, .keep rfl⟩, ⟨rfl, .keep rfl⟩, ⟨rfl, .keep rfl⟩, ⟨rfl, .keep rfl⟩, trivial⟩⟩, ⟨_, rfl, objOne ⟨⟨rfl, .keep rfl⟩, trivial⟩⟩, trivial⟩) ?_ ?_
                · clear h
                  intro j11049 x11050 s11046 g11047 k11048 hj11049 hx11049 h ih11048
                  refine awp_rs ?_
                  refine ro rfl rfl (st_bin (v := dB (decide (((j11049 : Nat) : Int) < ((x8362.length : Nat) : Int)))) rfl rfl rfl) ?_
                  refine rw_nilk ?_
                  refine awp_seq ?_
                  refine awp_ifT rfl (dlt hj11049) ?_
                  refine awp_skip ?_
                  refine nx_then ?_
                  refine awp_seq ?_
                  refine awp_block ?_
                  refine awp_rs ?_
                  refine ro rfl rfl (st_mv rfl) ?_
                  refine ro rfl rfl (st_as rfl) ?_
                  refine rw_nilk ?_
                  refine awp_rs ?_
                  refine ro rfl rfl (st_mv rfl) ?_
                  refine ro rfl rfl (st_mv rfl) ?_
                  refine ro rfl rfl (st_mv rfl) ?_
                  refine ro rfl rfl (st_ixDn sl22 rfl rfl hx11049) ?_
                  refine ro rfl rfl (st_ldD (v := dI .i64 x11050) ta3 rfl rfl) ?_
                  refine ri (N := 8) (rs := [.tmp 3]) rfl rfl rfl rfl Tryz.func41 rfl rfl rfl (by kernel_rfl) rfl (fun _B => ?_)
                  refine awp_rs ?_
                  refine ro rfl rfl (st_as rfl) ?_
                  refine rw_nilk ?_
                  refine awp_rds hmix ?_
                  refine do_ rfl rfl (st_ldP (v := .ptr 1006 0 0 0) ta50 rfl rfl rfl rfl) rfl rfl rfl ?_
                  refine do_ rfl rfl (st_mv rfl) rfl rfl rfl ?_
                  obtain ⟨y11084, hy11084, h⟩ := bind_some_elim h
                  refine df rfl rfl (ok_lits_Var hy11084) rfl rfl ?_
                  obtain ⟨y11085, hy11085, h⟩ := bind_some_elim h
                  refine dcall (v := dB ((mget s138 y11084).isSome)) (L0 := [(1003, mapO .i64 (fun (b : Bool) => dB b) s133), (1004, mapO .i64 (fun (b : (List Int)) => dL 1 (eI .i64) b) s138), (1005, mapO .i64 (fun (b : Int) => dI .i64 b) s143), (1006, .row 0 81 [[dL 1 (eI .i64) a0.Univ, dL 2 e_S_api_Dep a0.Exist, dL 1 (eL 1 (eI .i64)) a0.Clauses, .map 1003, .map 1004, .map 1005]])]) (L1 := [(1006, .row 0 81 [[dL 1 (eI .i64) a0.Univ, dL 2 e_S_api_Dep a0.Exist, dL 1 (eL 1 (eI .i64)) a0.Clauses, .map 1003, .map 1004, .map 1005]]), (1005, mapO .i64 (fun (b : Int) => dI .i64 b) s143), (1004, mapO .i64 (fun (b : (List Int)) => dL 1 (eI .i64) b) s138), (1003, mapO .i64 (fun (b : Bool) => dB b) s133)]) (L' := [(1001, .row 0 26 [[dL 1 (eI .i64) a0.Univ, dL 2 e_S_api_Dep a0.Exist, dL 1 (eL 1 (eI .i64)) a0.Clauses]]), (1003, mapO .i64 (fun (b : Bool) => dB b) s133), (1004, mapO .i64 (fun (b : (List Int)) => dL 1 (eI .i64) b) s138), (1005, mapO .i64 (fun (b : Int) => dI .i64 b) s143), (1006, .row 0 81 [[dL 1 (eI .i64) a0.Univ, dL 2 e_S_api_Dep a0.Exist, dL 1 (eL 1 (eI .i64)) a0.Clauses, .map 1003, .map 1004, .map 1005]]), (1008, .row 0 50 [[.ptr 1006 0 0 0]])]) rfl rfl rfl rfl ?_ ⟨rfl, rfl, rfl, rfl, trivial⟩ rfl ⟨closM (fun _ => rfl), closM (fun _ => rfl), closM (fun _ => rfl), rfl, trivial⟩ rfl rfl ?_
                  · replace h := hy11085
                    refine Ev.of_bodyX (N := 17) (rs := [.tmp 4]) Tryz.func42 (c := _) rfl rfl rfl (by kernel_rfl) rfl (Nat.le_of_ble_eq_true rfl) (fun _B => ?_)
                    refine awp_rs ?_
                    refine ro rfl rfl (st_as rfl) ?_
                    refine rw_nilk ?_
                    refine awp_rs ?_
                    refine ro rfl rfl (st_mv rfl) ?_
                    refine ro rfl rfl (st_nilP rfl) ?_
                    refine ro rfl rfl (st_faP fo81_2 rfl) ?_
                    refine ro rfl rfl (st_ldP (v := .map 1004) ta78 rfl rfl rfl rfl) ?_
                    refine ro rfl rfl (st_mv rfl) ?_
                    refine ro rfl rfl (st_lookOkN (vf := (fun (b : (List Int)) => dL 1 (eI .i64) b)) (xs := s138) un78 un3 za22 rfl rfl rfl) ?_
                    refine ro rfl rfl (st_mv rfl) ?_
                    refine ro rfl rfl (st_ext rfl rfl) ?_
                    refine ro rfl rfl (st_ext rfl rfl) ?_
                    refine ro rfl rfl (st_as rfl) ?_
                    refine ro rfl rfl (st_as rfl) ?_
                    refine rw_nilk ?_
                    refine awp_rs ?_
                    refine ro rfl rfl (st_mv rfl) ?_
                    refine ro rfl rfl (st_as rfl) ?_
                    refine rw_nilk ?_
                    refine awp_ret ?_
                    injection h with h
                    subst h
                    exact retX (v := dB ((mget s138 y11084).isSome)) (resV_one (resVs_tmp rfl resVs_nil)) (.keep rfl) ⟨⟨_, rfl, objOne ⟨⟨rfl, .keep rfl⟩, ⟨rfl, .keep rfl⟩, ⟨rfl, .keep rfl⟩, ⟨rfl, .keep rfl⟩, ⟨rfl, .keep rfl⟩, ⟨rfl, .keep rfl⟩, trivial⟩⟩, ⟨_, rfl, objMap (fun _ => rfl) _⟩, ⟨_, rfl, objMap (fun _ => rfl) _⟩, ⟨_, rfl, objMap (fun _ => rfl) _⟩, trivial⟩
                  · refine do_ rfl rfl (st_as rfl) rfl rfl rfl ?_
                    refine rd_nil (by kernel_rfl) ?_
                    refine awp_ret ?_
                    refine ret_in (v := dB ((mget s138 y11084).isSome)) (resV_one (resVs_tmp rfl resVs_nil)) ?_
                    show RW _ _ _ _ _ _ _
                    refine rw_nilk ?_
                    refine awp_ite (b := (mget s138 y11084).isSome) rfl (fun p11086 => ?_) (fun p11086 => ?_)
                    · replace h := ite_T p11086 h
                      refine awp_rs ?_
                      refine ro rfl rfl (st_mv rfl) ?_
                      refine ro rfl rfl (st_as rfl) ?_
                      refine rw_nilk ?_
                      refine awp_ret ?_
                      refine rt_block ?_
                      refine rt_then ?_
                      refine rt_then ?_
                      refine rt_block ?_
                      refine rt_then ?_
                      refine ret_in (v := dI .i64 ((j11049 : Nat) : Int)) (resV_one (resVs_tmp rfl resVs_nil)) ?_
                      exact J11044 ((j11049 : Nat) : Int) () _ _ h (gh_frz rfl rfl ⟨⟨_, rfl, .keep rfl⟩, trivial⟩ ⟨⟨_, rfl, objOne ⟨⟨rfl, .keep rfl⟩, ⟨rfl, .keep rfl⟩, ⟨rfl, .keep rfl⟩, trivial⟩⟩, ⟨_, rfl, objMap (fun _ => rfl) _⟩, ⟨_, rfl, objMap (fun _ => rfl) _⟩, ⟨_, rfl, objMap (fun _ => rfl) _⟩, ⟨_, rfl, objOne ⟨⟨rfl, .keep rfl⟩, ⟨rfl, .keep rfl⟩, ⟨rfl, .keep rfl⟩, ⟨rfl, .keep rfl⟩, ⟨rfl, .keep rfl⟩, ⟨rfl, .keep rfl⟩, trivial⟩⟩, ⟨_, rfl, objOne ⟨⟨rfl, .keep rfl⟩, trivial⟩⟩, trivial⟩)
                    · replace h := ite_F p11086 h
                      refine awp_skip ?_
                      refine nx_block ?_
                      refine nx_then ?_
                      refine awp_rw ?_
                      refine ro rfl rfl (st_inc rfl rfl hj11049 hl11049) ?_
                      refine ro rfl rfl (st_mv rfl) ?_
                      refine rw_nil ?_
                      refine nx_then ?_
                      refine awp_gh ?_ (ih11048 () () h)
                      exact (gh_frz rfl rfl ⟨⟨_, rfl, .keep rfl⟩, ⟨_, rfl, .keep rfl⟩, ⟨_, rfl, .keep rfl⟩, ⟨_, rfl, .keep rfl⟩, trivial⟩ ⟨⟨_, rfl, objOne ⟨⟨rfl, .keep rfl⟩, ⟨rfl, .keep rfl⟩, ⟨rfl, .keep rfl⟩, trivial⟩⟩, ⟨_, rfl, objMap (fun _ => rfl) _⟩, ⟨_, rfl, objMap (fun _ => rfl) _⟩, ⟨_, rfl, objMap (fun _ => rfl) _⟩, ⟨_, rfl, objOne ⟨⟨rfl, .keep rfl⟩, ⟨rfl, .keep rfl⟩, ⟨rfl, .keep rfl⟩, ⟨rfl, .keep rfl⟩, ⟨rfl, .keep rfl⟩, ⟨rfl, .keep rfl⟩, trivial⟩⟩, ⟨_, rfl, objOne ⟨⟨rfl, .keep rfl⟩, trivial⟩⟩, trivial⟩)
                · clear h
                  intro s11046 g11047 h
                  refine awp_rs ?_
                  refine ro rfl rfl (st_bin (v := dB (decide (((x8362.length : Nat) : Int) < ((x8362.length : Nat) : Int)))) rfl rfl rfl) ?_
                  refine rw_nilk ?_
                  refine awp_seq ?_
                  refine awp_ifF rfl dge ?_
                  refine awp_exit ?_
                  refine ex_out ?_
                  refine ex_out ?_
                  refine ex_in ?_
                  refine nx_then ?_
                  refine awp_rs ?_
                  refine ro rfl rfl (st_as rfl) ?_
                  refine rw_nilk ?_
                  refine awp_ret ?_
                  refine ret_in (v := dI .i64 (-1 : Int)) (resV_one (resVs_tmp rfl resVs_nil)) ?_
                  exact J11044 (-1 : Int) () _ _ h (gh_frz rfl rfl ⟨⟨_, rfl, .keep rfl⟩, trivial⟩ ⟨⟨_, rfl, objOne ⟨⟨rfl, .keep rfl⟩, ⟨rfl, .keep rfl⟩, ⟨rfl, .keep rfl⟩, trivial⟩⟩, ⟨_, rfl, objMap (fun _ => rfl) _⟩, ⟨_, rfl, objMap (fun _ => rfl) _⟩, ⟨_, rfl, objMap (fun _ => rfl) _⟩, ⟨_, rfl, objOne ⟨⟨rfl, .keep rfl⟩, ⟨rfl, .keep rfl⟩, ⟨rfl, .keep rfl⟩, ⟨rfl, .keep rfl⟩, ⟨rfl, .keep rfl⟩, ⟨rfl, .keep rfl⟩, trivial⟩⟩, ⟨_, rfl, objOne ⟨⟨rfl, .keep rfl⟩, trivial⟩⟩, trivial⟩)
            · clear h
              intro s8358 g8359 h
              refine awp_rs ?_
              refine ro rfl rfl (st_bin (v := dB (decide (((a0.Clauses.length : Nat) : Int) < ((a0.Clauses.length : Nat) : Int)))) rfl rfl rfl) ?_
              refine rw_nilk ?_
              refine awp_seq ?_
              refine awp_ifF rfl dge ?_
              refine awp_exit ?_
              refine ex_out ?_
              refine ex_out ?_
              refine ex_in ?_
              refine nx_then ?_
              refine awp_rs ?_
              refine ro rfl rfl (st_as rfl) ?_
              refine rw_nilk ?_
              refine awp_ret ?_
              refine ret_in (v := dI .i64 (-1 : Int)) (resV_one (resVs_tmp rfl resVs_nil)) ?_
              exact J8355 (-1 : Int) () _ _ h (gh_frz rfl rfl ⟨⟨_, rfl, .keep rfl⟩, trivial⟩ ⟨⟨_, rfl, objOne ⟨⟨rfl, .keep rfl⟩, ⟨rfl, .keep rfl⟩, ⟨rfl, .keep rfl⟩, trivial⟩⟩, ⟨_, rfl, objMap (fun _ => rfl) _⟩, ⟨_, rfl, objMap (fun _ => rfl) _⟩, ⟨_, rfl, objMap (fun _ => rfl) _⟩, ⟨_, rfl, objOne ⟨⟨rfl, .keep rfl⟩, ⟨rfl, .keep rfl⟩, ⟨rfl, .keep rfl⟩, ⟨rfl, .keep rfl⟩, ⟨rfl, .keep rfl⟩, ⟨rfl, .keep rfl⟩, trivial⟩⟩, ⟨_, rfl, objOne ⟨⟨rfl, .keep rfl⟩, trivial⟩⟩, trivial⟩)

theorem ok_skolemref03_All {a0 : S_api_Dqbf} {r : (List Int)} (h : F_skolemref03_All a0 = some r) : Fn Tryz.prog 45 [.agg [dL 1 (eI .i64) a0.Univ, dL 2 e_S_api_Dep a0.Exist, dL 1 (eL 1 (eI .i64)) a0.Clauses]] (dL 1 (eI .i64) r) := by
  unfold F_skolemref03_All at h
  refine Fn.of_body (N := 26) (rs := [.tmp 2]) Tryz.func45 (c := _) rfl rfl rfl (by kernel_rfl) (Nat.le_of_ble_eq_true rfl) (fun _B => ?_)
  refine awp_rs ?_
  refine rn (r := 1001) rfl rfl (st_box rfl rfl rfl co26 rfl rfl) rfl ?_
  refine ro rfl rfl (st_as rfl) ?_
  refine rw_nilk ?_
  refine awp_rs ?_
  refine rn (r := 1002) rfl rfl (st_bsl (els := []) sl22 zc3 rfl rfl rfl rfl rfl) rfl ?_
  refine ro rfl rfl (st_faP fo26_0 rfl) ?_
  refine ro rfl rfl (st_ldP (v := dL 1 (eI .i64) a0.Univ) ta22 rfl rfl rfl rfl) ?_
  obtain ⟨c101, h⟩ := capN_some h
  refine rn (r := 0) (L' := [(1001, .row 0 26 [[dL 1 (eI .i64) a0.Univ, dL 2 e_S_api_Dep a0.Exist, dL 1 (eL 1 (eI .i64)) a0.Clauses]]), (1002, rw' 3 3 (eI .i64) (([] : List Int) ++ a0.Univ))]) rfl rfl (st_appR (f := (eI .i64)) (xs := ([] : List Int)) (ys := a0.Univ) sl22 zc3 rfl rfl rfl rfl rfl news_dat c101) rfl ?_
  refine ro rfl rfl (st_as rfl) ?_
  refine rw_nilk ?_
  refine awp_seq ?_
  refine awp_rs ?_
  refine ro rfl rfl (st_as rfl) ?_
  refine rw_nilk ?_
  refine awp_block ?_
  refine awp_lenA (t := 0) (i := 1) rfl rfl (fun hl105 => ?_)
  rw [List.length_map] at hl105
  refine awp_range (fun (j105 : Nat) (s102 : (List Int)) (g103 : Nat) => [(1, .ptr 1001 0 0 0), (3, .slice 1002 g103 0 s102.length), (4, dI .i64 ((j105 : Nat) : Int))]) (fun (s102 : (List Int)) (g103 : Nat) => [(1001, .row 0 26 [[dL 1 (eI .i64) a0.Univ, dL 2 e_S_api_Dep a0.Exist, dL 1 (eL 1 (eI .i64)) a0.Clauses]]), (1002, rw' g103 3 (eI .i64) s102)]) 3 (fun _ _ _ h => h) h (gh_frz rfl rfl ⟨⟨_, rfl, .keep rfl⟩, ⟨_, rfl, .keep rfl⟩, ⟨_, rfl, .keep rfl⟩, trivial⟩ ⟨⟨_, rfl, objOne ⟨⟨rfl, .keep rfl⟩, ⟨rfl, .keep rfl⟩, ⟨rfl, .keep rfl⟩, trivial⟩⟩, ⟨_, rfl, objRow _⟩, trivial⟩) ?_ ?_
  · clear h
    intro j105 x106 s102 g103 k104 hj105 hx105 h ih104
    refine awp_seq ?_
    refine awp_rs ?_
    refine ro rfl rfl (st_mv rfl) ?_
    refine ro rfl rfl (st_faP fo26_1 rfl) ?_
    refine ro rfl rfl (st_ldP (v := dL 2 e_S_api_Dep a0.Exist) ta23 rfl rfl rfl rfl) ?_
    refine ro rfl rfl (st_lenD rfl un23) ?_
    refine ro rfl rfl (st_bin (v := dB (decide (((j105 : Nat) : Int) < ((a0.Exist.length : Nat) : Int)))) rfl rfl rfl) ?_
    refine rw_nilk ?_
    refine awp_ifT rfl (dlt hj105) ?_
    refine awp_skip ?_
    refine nx_then ?_
    refine awp_seq ?_
    refine awp_block ?_
    refine awp_rw ?_
    refine ro rfl rfl (st_mv rfl) ?_
    refine ro rfl rfl (st_faP fo26_1 rfl) ?_
    refine ro rfl rfl (st_ldP (v := dL 2 e_S_api_Dep a0.Exist) ta23 rfl rfl rfl rfl) ?_
    refine ro rfl rfl (st_mv rfl) ?_
    refine ro rfl rfl (st_ixDn sl23 rfl rfl hx105) ?_
    refine ro rfl rfl (st_faD fo44_0 rfl) ?_
    refine ro rfl rfl (st_ldD (v := dI .i64 x106.Var) ta3 rfl rfl) ?_
    refine rn (r := 1003) rfl rfl (st_bsl (els := [[dI .i64 x106.Var]]) sl22 zc3 rfl rfl rfl rfl rfl) rfl ?_
    obtain ⟨c109, h⟩ := capN_some h
    refine rn (r := 0) (L' := [(1001, .row 0 26 [[dL 1 (eI .i64) a0.Univ, dL 2 e_S_api_Dep a0.Exist, dL 1 (eL 1 (eI .i64)) a0.Clauses]]), (1002, rw' (g103 + 2) 3 (eI .i64) (s102 ++ [x106.Var])), (1003, .row 1 3 [[dI .i64 x106.Var]])]) rfl rfl (st_appR (f := (eI .i64)) (xs := s102) (ys := [x106.Var]) sl22 zc3 rfl rfl rfl rfl rfl (news_one (a := x106.Var) rfl rfl) c109) rfl ?_
    refine ro rfl rfl (st_as rfl) ?_
    refine rw_nil ?_
    refine nx_block ?_
    refine nx_then ?_
    refine awp_rw ?_
    refine ro rfl rfl (st_mv rfl) ?_
    refine ro rfl rfl (st_inc rfl rfl hj105 hl105) ?_
    refine ro rfl rfl (st_as rfl) ?_
    refine rw_nil ?_
    refine nx_then ?_
    refine awp_gh ?_ (ih104 (s102 ++ [x106.Var]) (g103 + 2) h)
    exact (gh_frz rfl rfl ⟨⟨_, rfl, .keep rfl⟩, ⟨_, rfl, .keep rfl⟩, ⟨_, rfl, .keep rfl⟩, trivial⟩ ⟨⟨_, rfl, objOne ⟨⟨rfl, .keep rfl⟩, ⟨rfl, .keep rfl⟩, ⟨rfl, .keep rfl⟩, trivial⟩⟩, ⟨_, rfl, objRow _⟩, trivial⟩)
  · clear h
    intro s102 g103 h
    refine awp_seq ?_
    refine awp_rs ?_
    refine ro rfl rfl (st_mv rfl) ?_
    refine ro rfl rfl (st_faP fo26_1 rfl) ?_
    refine ro rfl rfl (st_ldP (v := dL 2 e_S_api_Dep a0.Exist) ta23 rfl rfl rfl rfl) ?_
    refine ro rfl rfl (st_lenD rfl un23) ?_
    refine ro rfl rfl (st_bin (v := dB (decide (((a0.Exist.length : Nat) : Int) < ((a0.Exist.length : Nat) : Int)))) rfl rfl rfl) ?_
    refine rw_nilk ?_
    refine awp_ifF rfl dge ?_
    refine awp_exit ?_
    refine ex_out ?_
    refine ex_out ?_
    refine ex_in ?_
    refine nx_then ?_
    refine awp_rs ?_
    refine ro rfl rfl (st_mv rfl) ?_
    refine ro rfl rfl (st_as rfl) ?_
    refine rw_nilk ?_
    refine awp_ret ?_
    injection h with h
    subst h
    exact ret_out (v := .slice 1002 g103 0 s102.length) (resV_one (resVs_tmp rfl resVs_nil)) (frzT rfl rfl co3 rfl)

theorem ok_skolemref03_Has {a0 : (List Int)} {a1 : Int} {r : Bool} (h : F_skolemref03_Has a0 a1 = some r) : Fn Tryz.prog 86 [dL 1 (eI .i64) a0, dI .i64 a1] (dB r) := by
  unfold F_skolemref03_Has at h
  refine Fn.of_body (N := 18) (rs := [.tmp 4]) Tryz.func86 (c := _) rfl rfl rfl (by kernel_rfl) (Nat.le_of_ble_eq_true rfl) (fun _B => ?_)
  refine awp_rs ?_
  refine ro rfl rfl (st_as rfl) ?_
  refine rw_nilk ?_
  refine awp_seq ?_
  refine awp_rs ?_
  refine ro rfl rfl (st_as rfl) ?_
  refine rw_nilk ?_
  refine awp_block ?_
  refine awp_len (t := 0) rfl (fun hl104 => ?_)
  rw [List.length_map] at hl104
  refine awp_range (fun (j104 : Nat) (s101 : Unit) (g102 : Unit) => [(0, dL 1 (eI .i64) a0), (1, dI .i64 a1), (5, dI .i64 ((j104 : Nat) : Int))]) (fun (s101 : Unit) (g102 : Unit) => []) () (fun _ _ _ h => h) h (gh_frz rfl rfl ⟨⟨_, rfl, .keep rfl⟩, ⟨_, rfl, .keep rfl⟩, ⟨_, rfl, .keep rfl⟩, trivial⟩ trivial) ?_ ?_
  · clear h
    intro j104 x105 s101 g102 k103 hj104 hx104 h ih103
    refine awp_seq ?_
    refine awp_rs ?_
    refine ro rfl rfl (st_mv rfl) ?_
    refine ro rfl rfl (st_mv rfl) ?_
    refine ro rfl rfl (st_lenD rfl un22) ?_
    refine ro rfl rfl (st_bin (v := dB (decide (((j104 : Nat) : Int) < ((a0.length : Nat) : Int)))) rfl rfl rfl) ?_
    refine rw_nilk ?_
    refine awp_ifT rfl (dlt hj104) ?_
    refine awp_skip ?_
    refine nx_then ?_
    refine awp_seq ?_
    refine awp_block ?_
    refine awp_rs ?_
    refine ro rfl rfl (st_mv rfl) ?_
    refine ro rfl rfl (st_mv rfl) ?_
    refine ro rfl rfl (st_ixDn sl22 rfl rfl hx104) ?_
    refine ro rfl rfl (st_ldD (v := dI .i64 x105) ta3 rfl rfl) ?_
    refine ro rfl rfl (st_mv rfl) ?_
    refine ro rfl rfl (st_bin (v := dB (x105 == a1)) rfl rfl rfl) ?_
    refine rw_nilk ?_
    refine awp_ite (b := (x105 == a1)) rfl (fun p107 => ?_) (fun p107 => ?_)
    · replace h := ite_T p107 h
      refine awp_rs ?_
      refine ro rfl rfl (st_as rfl) ?_
      refine rw_nilk ?_
      refine awp_ret ?_
      refine rt_block ?_
      refine rt_then ?_
      refine rt_then ?_
      refine rt_block ?_
      refine rt_then ?_
      injection h with h
      subst h
      exact ret_out (v := dB true) (resV_one (resVs_tmp rfl resVs_nil)) (.keep rfl)
    · replace h := ite_F p107 h
      refine awp_skip ?_
      refine nx_block ?_
      refine nx_then ?_
      refine awp_rw ?_
      refine ro rfl rfl (st_mv rfl) ?_
      refine ro rfl rfl (st_inc rfl rfl hj104 hl104) ?_
      refine ro rfl rfl (st_as rfl) ?_
      refine rw_nil ?_
      refine nx_then ?_
      refine awp_gh ?_ (ih103 () () h)
      exact (gh_frz rfl rfl ⟨⟨_, rfl, .keep rfl⟩, ⟨_, rfl, .keep rfl⟩, ⟨_, rfl, .keep rfl⟩, trivial⟩ trivial)
  · clear h
    intro s101 g102 h
    refine awp_seq ?_
    refine awp_rs ?_
    refine ro rfl rfl (st_mv rfl) ?_
    refine ro rfl rfl (st_mv rfl) ?_
    refine ro rfl rfl (st_lenD rfl un22) ?_
    refine ro rfl rfl (st_bin (v := dB (decide (((a0.length : Nat) : Int) < ((a0.length : Nat) : Int)))) rfl rfl rfl) ?_
    refine rw_nilk ?_
    refine awp_ifF rfl dge ?_
    refine awp_exit ?_
    refine ex_out ?_
    refine ex_out ?_
    refine ex_in ?_
    refine nx_then ?_
    refine awp_rs ?_
    refine ro rfl rfl (st_as rfl) ?_
    refine rw_nilk ?_
    refine awp_ret ?_
    injection h with h
    subst h
    exact ret_out (v := dB false) (resV_one (resVs_tmp rfl resVs_nil)) (.keep rfl)

theorem ok_skolemref03_single {a0 : (List Int)} {r : Bool} (h : F_skolemref03_single a0 = some r) : Fn Tryz.prog 46 [dL 1 (eI .i64) a0] (dB r) := by
  unfold F_skolemref03_single at h
  refine Fn.of_body (N := 32) (rs := [.tmp 2]) Tryz.func46 (c := _) rfl rfl rfl (by kernel_rfl) (Nat.le_of_ble_eq_true rfl) (fun _B => ?_)
  refine awp_rs ?_
  refine ro rfl rfl (st_as rfl) ?_
  refine rw_nilk ?_
  refine awp_seq ?_
  refine awp_rs ?_
  refine ro rfl rfl (st_as rfl) ?_
  refine rw_nilk ?_
  refine awp_block ?_
  refine awp_len (t := 0) rfl (fun hl104 => ?_)
  rw [List.length_map] at hl104
  refine awp_range (fun (j104 : Nat) (s101 : Unit) (g102 : Unit) => [(0, dL 1 (eI .i64) a0), (3, dI .i64 ((j104 : Nat) : Int))]) (fun (s101 : Unit) (g102 : Unit) => []) () (fun _ _ _ h => h) h (gh_frz rfl rfl ⟨⟨_, rfl, .keep rfl⟩, ⟨_, rfl, .keep rfl⟩, trivial⟩ trivial) ?_ ?_
  · clear h
    intro j104 x105 s101 g102 k103 hj104 hx104 h ih103
    refine awp_seq ?_
    refine awp_rs ?_
    refine ro rfl rfl (st_mv rfl) ?_
    refine ro rfl rfl (st_mv rfl) ?_
    refine ro rfl rfl (st_lenD rfl un22) ?_
    refine ro rfl rfl (st_bin (v := dB (decide (((j104 : Nat) : Int) < ((a0.length : Nat) : Int)))) rfl rfl rfl) ?_
    refine rw_nilk ?_
    refine awp_ifT rfl (dlt hj104) ?_
    refine awp_skip ?_
    refine nx_then ?_
    refine awp_seq ?_
    refine awp_block ?_
    refine awp_jn (fun (s146 : Bool) (g147 : Unit) => [(0, dL 1 (eI .i64) a0), (3, dI .i64 ((j104 : Nat) : Int)), (31, dB s146)]) (fun (s146 : Bool) (g147 : Unit) => []) h ?_ ?_
    · clear h
      intro s146 g147 h
      refine awp_ite (b := s146) rfl (fun p149 => ?_) (fun p149 => ?_)
      · replace h := ite_T p149 h
        refine awp_rs ?_
        refine ro rfl rfl (st_as rfl) ?_
        refine rw_nilk ?_
        refine awp_ret ?_
        refine rt_block ?_
        refine rt_then ?_
        refine rt_then ?_
        refine rt_block ?_
        refine rt_then ?_
        injection h with h
        subst h
        exact ret_out (v := dB false) (resV_one (resVs_tmp rfl resVs_nil)) (.keep rfl)
      · replace h := ite_F p149 h
        refine awp_skip ?_
        refine nx_block ?_
        refine nx_then ?_
        refine awp_rw ?_
        refine ro rfl rfl (st_mv rfl) ?_
        refine ro rfl rfl (st_inc rfl rfl hj104 hl104) ?_
        refine ro rfl rfl (st_as rfl) ?_
        refine rw_nil ?_
        refine nx_then ?_
        refine awp_gh ?_ (ih103 () () h)
        exact (gh_frz rfl rfl ⟨⟨_, rfl, .keep rfl⟩, ⟨_, rfl, .keep rfl⟩, trivial⟩ trivial)
    · clear h
      intro k148 h J148
      refine awp_rd hmix ?_
      refine do_ rfl rfl (st_mv rfl) rfl rfl rfl ?_
      refine do_ rfl rfl (st_mv rfl) rfl rfl rfl ?_
      refine do_ rfl rfl (st_ixDn sl22 rfl rfl hx104) rfl rfl rfl ?_
      refine do_ rfl rfl (st_ldD (v := dI .i64 x105) ta3 rfl rfl) rfl rfl rfl ?_
      refine do_ rfl rfl (st_bin (v := dB (decide (x105 < (1 : Int)))) rfl rfl rfl) rfl rfl rfl ?_
      refine do_ rfl rfl (st_mv rfl) rfl rfl rfl ?_
      refine bool_split (decide (x105 < (1 : Int))) (fun p150 => ?_) (fun p150 => ?_)
      · replace h := ite_T p150 h
        rw [p150]
        refine dz rfl rfl ?_
        refine dz rfl rfl ?_
        refine dz rfl rfl ?_
        refine dz rfl rfl ?_
        refine dz rfl rfl ?_
        refine do_ rfl rfl (st_pickT rfl rfl) rfl rfl rfl ?_
        refine do_ rfl rfl (st_mv rfl) rfl rfl rfl ?_
        refine dz rfl rfl ?_
        refine dz rfl rfl ?_
        refine dz rfl rfl ?_
        refine dz rfl rfl ?_
        refine dz rfl rfl ?_
        refine dz rfl rfl ?_
        refine dz rfl rfl ?_
        refine dz rfl rfl ?_
        refine do_ rfl rfl (st_pickT rfl rfl) rfl rfl rfl ?_
        refine rd_nil (by kernel_rfl) ?_
        refine nx_then ?_
        exact J148 true () _ _ h (gh_frz rfl rfl ⟨⟨_, rfl, .keep rfl⟩, ⟨_, rfl, .keep rfl⟩, ⟨_, rfl, .keep rfl⟩, trivial⟩ trivial)
      · replace h := ite_F p150 h
        rw [p150]
        refine do_ rfl rfl (st_mv rfl) rfl rfl rfl ?_
        refine do_ rfl rfl (st_mv rfl) rfl rfl rfl ?_
        refine do_ rfl rfl (st_ixDn sl22 rfl rfl hx104) rfl rfl rfl ?_
        refine do_ rfl rfl (st_ldD (v := dI .i64 x105) ta3 rfl rfl) rfl rfl rfl ?_
        refine do_ rfl rfl (st_bin (v := dB (decide (x105 > (65536 : Int)))) rfl rfl rfl) rfl rfl rfl ?_
        refine do_ rfl rfl (st_pickF rfl rfl) rfl rfl rfl ?_
        refine do_ rfl rfl (st_mv rfl) rfl rfl rfl ?_
        refine bool_split (decide (x105 > (65536 : Int))) (fun p151 => ?_) (fun p151 => ?_)
        · replace h := ite_T p151 h
          rw [p151]
          refine dz rfl rfl ?_
          refine dz rfl rfl ?_
          refine dz rfl rfl ?_
          refine dz rfl rfl ?_
          refine dz rfl rfl ?_
          refine dz rfl rfl ?_
          refine dz rfl rfl ?_
          refine dz rfl rfl ?_
          refine do_ rfl rfl (st_pickT rfl rfl) rfl rfl rfl ?_
          refine rd_nil (by kernel_rfl) ?_
          refine nx_then ?_
          exact J148 true () _ _ h (gh_frz rfl rfl ⟨⟨_, rfl, .keep rfl⟩, ⟨_, rfl, .keep rfl⟩, ⟨_, rfl, .keep rfl⟩, trivial⟩ trivial)
        · replace h := ite_F p151 h
          rw [p151]
          refine do_ rfl rfl (st_mv rfl) rfl rfl rfl ?_
          refine do_ rfl rfl (st_mv rfl) rfl rfl rfl ?_
          obtain ⟨c152, h⟩ := okI_some h
          refine do_ rfl rfl (st_slHi sl22 rfl rfl c152.1 c152.2) rfl rfl rfl ?_
          refine do_ rfl rfl (st_mv rfl) rfl rfl rfl ?_
          refine do_ rfl rfl (st_mv rfl) rfl rfl rfl ?_
          refine do_ rfl rfl (st_ixDn sl22 rfl rfl hx104) rfl rfl rfl ?_
          refine do_ rfl rfl (st_ldD (v := dI .i64 x105) ta3 rfl rfl) rfl rfl rfl ?_
          obtain ⟨y153, hy153, h⟩ := bind_some_elim h
          refine df rfl rfl (ok_skolemref03_Has hy153) rfl rfl ?_
          refine do_ rfl rfl (st_pickF rfl rfl) rfl rfl rfl ?_
          refine rd_nil (by kernel_rfl) ?_
          refine nx_then ?_
          exact J148 y153 () _ _ h (gh_frz rfl rfl ⟨⟨_, rfl, .keep rfl⟩, ⟨_, rfl, .keep rfl⟩, ⟨_, rfl, .keep rfl⟩, trivial⟩ trivial)
  · clear h
    intro s101 g102 h
    refine awp_seq ?_
    refine awp_rs ?_
    refine ro rfl rfl (st_mv rfl) ?_
    refine ro rfl rfl (st_mv rfl) ?_
    refine ro rfl rfl (st_lenD rfl un22) ?_
    refine ro rfl rfl (st_bin (v := dB (decide (((a0.length : Nat) : Int) < ((a0.length : Nat) : Int)))) rfl rfl rfl) ?_
    refine rw_nilk ?_
    refine awp_ifF rfl dge ?_
    refine awp_exit ?_
    refine ex_out ?_
    refine ex_out ?_
    refine ex_in ?_
    refine nx_then ?_
    refine awp_rs ?_
    refine ro rfl rfl (st_as rfl) ?_
    refine rw_nilk ?_
    refine awp_ret ?_
    injection h with h
    subst h
    exact ret_out (v := dB true) (resV_one (resVs_tmp rfl resVs_nil)) (.keep rfl)

theorem ok_skolemref03_Rises {a0 : (List Int)} {r : Bool} (h : F_skolemref03_Rises a0 = some r) : Fn Tryz.prog 47 [dL 1 (eI .i64) a0] (dB r) := by
  unfold F_skolemref03_Rises at h
  refine Fn.of_body (N := 38) (rs := [.tmp 2]) Tryz.func47 (c := _) rfl rfl rfl (by kernel_rfl) (Nat.le_of_ble_eq_true rfl) (fun _B => ?_)
  refine awp_rs ?_
  refine ro rfl rfl (st_as rfl) ?_
  refine rw_nilk ?_
  refine awp_seq ?_
  refine awp_rs ?_
  refine ro rfl rfl (st_as rfl) ?_
  refine rw_nilk ?_
  refine awp_block ?_
  refine awp_len (t := 0) rfl (fun hl104 => ?_)
  rw [List.length_map] at hl104
  refine awp_range (fun (j104 : Nat) (s101 : Unit) (g102 : Unit) => [(0, dL 1 (eI .i64) a0), (3, dI .i64 ((j104 : Nat) : Int))]) (fun (s101 : Unit) (g102 : Unit) => []) () (fun _ _ _ h => h) h (gh_frz rfl rfl ⟨⟨_, rfl, .keep rfl⟩, ⟨_, rfl, .keep rfl⟩, trivial⟩ trivial) ?_ ?_
  · clear h
    intro j104 x105 s101 g102 k103 hj104 hx104 h ih103
    refine awp_seq ?_
    refine awp_rs ?_
    refine ro rfl rfl (st_mv rfl) ?_
    refine ro rfl rfl (st_mv rfl) ?_
    refine ro rfl rfl (st_lenD rfl un22) ?_
    refine ro rfl rfl (st_bin (v := dB (decide (((j104 : Nat) : Int) < ((a0.length : Nat) : Int)))) rfl rfl rfl) ?_
    refine rw_nilk ?_
    refine awp_ifT rfl (dlt hj104) ?_
    refine awp_skip ?_
    refine nx_then ?_
    refine awp_seq ?_
    refine awp_block ?_
    refine awp_jn (fun (s146 : Bool) (g147 : Unit) => [(0, dL 1 (eI .i64) a0), (3, dI .i64 ((j104 : Nat) : Int)), (37, dB s146)]) (fun (s146 : Bool) (g147 : Unit) => []) h ?_ ?_
    · clear h
      intro s146 g147 h
      refine awp_ite (b := s146) rfl (fun p149 => ?_) (fun p149 => ?_)
      · replace h := ite_T p149 h
        refine awp_rs ?_
        refine ro rfl rfl (st_as rfl) ?_
        refine rw_nilk ?_
        refine awp_ret ?_
        refine rt_block ?_
        refine rt_then ?_
        refine rt_then ?_
        refine rt_block ?_
        refine rt_then ?_
        injection h with h
        subst h
        exact ret_out (v := dB false) (resV_one (resVs_tmp rfl resVs_nil)) (.keep rfl)
      · replace h := ite_F p149 h
        refine awp_skip ?_
        refine nx_block ?_
        refine nx_then ?_
        refine awp_rw ?_
        refine ro rfl rfl (st_mv rfl) ?_
        refine ro rfl rfl (st_inc rfl rfl hj104 hl104) ?_
        refine ro rfl rfl (st_as rfl) ?_
        refine rw_nil ?_
        refine nx_then ?_
        refine awp_gh ?_ (ih103 () () h)
        exact (gh_frz rfl rfl ⟨⟨_, rfl, .keep rfl⟩, ⟨_, rfl, .keep rfl⟩, trivial⟩ trivial)
    · clear h
      intro k148 h J148
      refine awp_rd hmix ?_
      refine do_ rfl rfl (st_mv rfl) rfl rfl rfl ?_
      refine do_ rfl rfl (st_mv rfl) rfl rfl rfl ?_
      refine do_ rfl rfl (st_ixDn sl22 rfl rfl hx104) rfl rfl rfl ?_
      refine do_ rfl rfl (st_ldD (v := dI .i64 x105) ta3 rfl rfl) rfl rfl rfl ?_
      refine do_ rfl rfl (st_bin (v := dB (decide (x105 < (1 : Int)))) rfl rfl rfl) rfl rfl rfl ?_
      refine do_ rfl rfl (st_mv rfl) rfl rfl rfl ?_
      refine bool_split (decide (x105 < (1 : Int))) (fun p150 => ?_) (fun p150 => ?_)
      · replace h := ite_T p150 h
        rw [p150]
        refine dz rfl rfl ?_
        refine dz rfl rfl ?_
        refine dz rfl rfl ?_
        refine dz rfl rfl ?_
        refine dz rfl rfl ?_
        refine do_ rfl rfl (st_pickT rfl rfl) rfl rfl rfl ?_
        refine do_ rfl rfl (st_mv rfl) rfl rfl rfl ?_
        refine dz rfl rfl ?_
        refine dz rfl rfl ?_
        refine dz rfl rfl ?_
        refine dz rfl rfl ?_
        refine dz rfl rfl ?_
        refine dz rfl rfl ?_
        refine dz rfl rfl ?_
        refine dz rfl rfl ?_
        refine dz rfl rfl ?_
        refine dz rfl rfl ?_
        refine dz rfl rfl ?_
        refine dz rfl rfl ?_
        refine dz rfl rfl ?_
        refine dz rfl rfl ?_
        refine do_ rfl rfl (st_pickT rfl rfl) rfl rfl rfl ?_
        refine rd_nil (by kernel_rfl) ?_
        refine nx_then ?_
        exact J148 true () _ _ h (gh_frz rfl rfl ⟨⟨_, rfl, .keep rfl⟩, ⟨_, rfl, .keep rfl⟩, ⟨_, rfl, .keep rfl⟩, trivial⟩ trivial)
      · replace h := ite_F p150 h
        rw [p150]
        refine do_ rfl rfl (st_mv rfl) rfl rfl rfl ?_
        refine do_ rfl rfl (st_mv rfl) rfl rfl rfl ?_
        refine do_ rfl rfl (st_ixDn sl22 rfl rfl hx104) rfl rfl rfl ?_
        refine do_ rfl rfl (st_ldD (v := dI .i64 x105) ta3 rfl rfl) rfl rfl rfl ?_
        refine do_ rfl rfl (st_bin (v := dB (decide (x105 > (65536 : Int)))) rfl rfl rfl) rfl rfl rfl ?_
        refine do_ rfl rfl (st_pickF rfl rfl) rfl rfl rfl ?_
        refine do_ rfl rfl (st_mv rfl) rfl rfl rfl ?_
        refine bool_split (decide (x105 > (65536 : Int))) (fun p151 => ?_) (fun p151 => ?_)
        · replace h := ite_T p151 h
          rw [p151]
          refine dz rfl rfl ?_
          refine dz rfl rfl ?_
          refine dz rfl rfl ?_
          refine dz rfl rfl ?_
          refine dz rfl rfl ?_
          refine dz rfl rfl ?_
          refine dz rfl rfl ?_
          refine dz rfl rfl ?_
          refine dz rfl rfl ?_
          refine dz rfl rfl ?_
          refine dz rfl rfl ?_
          refine dz rfl rfl ?_
          refine dz rfl rfl ?_
          refine dz rfl rfl ?_
          refine do_ rfl rfl (st_pickT rfl rfl) rfl rfl rfl ?_
          refine rd_nil (by kernel_rfl) ?_
          refine nx_then ?_
          exact J148 true () _ _ h (gh_frz rfl rfl ⟨⟨_, rfl, .keep rfl⟩, ⟨_, rfl, .keep rfl⟩, ⟨_, rfl, .keep rfl⟩, trivial⟩ trivial)
        · replace h := ite_F p151 h
          rw [p151]
          refine do_ rfl rfl (st_mv rfl) rfl rfl rfl ?_
          refine do_ rfl rfl (st_bin (v := dB (decide (((j104 : Nat) : Int) > (0 : Int)))) rfl rfl rfl) rfl rfl rfl ?_
          refine do_ rfl rfl (st_mv rfl) rfl rfl rfl ?_
          refine bool_split (decide (((j104 : Nat) : Int) > (0 : Int))) (fun p152 => ?_) (fun p152 => ?_)
          · replace h := ite_T p152 h
            rw [p152]
            refine do_ rfl rfl (st_mv rfl) rfl rfl rfl ?_
            refine do_ rfl rfl (st_mv rfl) rfl rfl rfl ?_
            refine do_ rfl rfl (st_bin (v := dI .i64 (IntKind.wrap .i64 (((j104 : Nat) : Int) - (1 : Int)))) rfl rfl rfl) rfl rfl rfl ?_
            obtain ⟨x153, h0153, hx153, h⟩ := getI_some h
            refine do_ rfl rfl (st_ixD sl22 rfl rfl h0153 hx153) rfl rfl rfl ?_
            refine do_ rfl rfl (st_ldD (v := dI .i64 x153) ta3 rfl rfl) rfl rfl rfl ?_
            refine do_ rfl rfl (st_mv rfl) rfl rfl rfl ?_
            refine do_ rfl rfl (st_mv rfl) rfl rfl rfl ?_
            refine do_ rfl rfl (st_ixDn sl22 rfl rfl hx104) rfl rfl rfl ?_
            refine do_ rfl rfl (st_ldD (v := dI .i64 x105) ta3 rfl rfl) rfl rfl rfl ?_
            refine do_ rfl rfl (st_bin (v := dB (decide (x153 ≥ x105))) rfl rfl rfl) rfl rfl rfl ?_
            refine do_ rfl rfl (st_pickT rfl rfl) rfl rfl rfl ?_
            refine do_ rfl rfl (st_pickF rfl rfl) rfl rfl rfl ?_
            refine rd_nil (by kernel_rfl) ?_
            refine nx_then ?_
            exact J148 (decide (x153 ≥ x105)) () _ _ h (gh_frz rfl rfl ⟨⟨_, rfl, .keep rfl⟩, ⟨_, rfl, .keep rfl⟩, ⟨_, rfl, .keep rfl⟩, trivial⟩ trivial)
          · replace h := ite_F p152 h
            rw [p152]
            refine dz rfl rfl ?_
            refine dz rfl rfl ?_
            refine dz rfl rfl ?_
            refine dz rfl rfl ?_
            refine dz rfl rfl ?_
            refine dz rfl rfl ?_
            refine dz rfl rfl ?_
            refine dz rfl rfl ?_
            refine dz rfl rfl ?_
            refine dz rfl rfl ?_
            refine do_ rfl rfl (st_pickF rfl rfl) rfl rfl rfl ?_
            refine do_ rfl rfl (st_pickF rfl rfl) rfl rfl rfl ?_
            refine rd_nil (by kernel_rfl) ?_
            refine nx_then ?_
            exact J148 false () _ _ h (gh_frz rfl rfl ⟨⟨_, rfl, .keep rfl⟩, ⟨_, rfl, .keep rfl⟩, ⟨_, rfl, .keep rfl⟩, trivial⟩ trivial)
  · clear h
    intro s101 g102 h
    refine awp_seq ?_
    refine awp_rs ?_
    refine ro rfl rfl (st_mv rfl) ?_
    refine ro rfl rfl (st_mv rfl) ?_
    refine ro rfl rfl (st_lenD rfl un22) ?_
    refine ro rfl rfl (st_bin (v := dB (decide (((a0.length : Nat) : Int) < ((a0.length : Nat) : Int)))) rfl rfl rfl) ?_
    refine rw_nilk ?_
    refine awp_ifF rfl dge ?_
    refine awp_exit ?_
    refine ex_out ?_
    refine ex_out ?_
    refine ex_in ?_
    refine nx_then ?_
    refine awp_rs ?_
    refine ro rfl rfl (st_as rfl) ?_
    refine rw_nilk ?_
    refine awp_ret ?_
    injection h with h
    subst h
    exact ret_out (v := dB true) (resV_one (resVs_tmp rfl resVs_nil)) (.keep rfl)

theorem ok_skolemref03_Abs {a0 : Int} {r : Int} (h : F_skolemref03_Abs a0 = some r) : Fn Tryz.prog 88 [dI .i64 a0] (dI .i64 r) := by
  unfold F_skolemref03_Abs at h
  refine Fn.of_body (N := 8) (rs := [.tmp 2]) Tryz.func88 (c := _) rfl rfl rfl (by kernel_rfl) (Nat.le_of_ble_eq_true rfl) (fun _B => ?_)
  refine awp_rs ?_
  refine ro rfl rfl (st_as rfl) ?_
  refine rw_nilk ?_
  refine awp_seq ?_
  refine awp_rs ?_
  refine ro rfl rfl (st_mv rfl) ?_
  refine ro rfl rfl (st_bin (v := dB (decide (a0 < (0 : Int)))) rfl rfl rfl) ?_
  refine rw_nilk ?_
  refine awp_ite (b := (decide (a0 < (0 : Int)))) rfl (fun p101 => ?_) (fun p101 => ?_)
  · replace h := ite_T p101 h
    refine awp_rs ?_
    refine ro rfl rfl (st_mv rfl) ?_
    refine ro rfl rfl (st_un (v := dI .i64 (IntKind.wrap .i64 (0 - a0))) rfl rfl) ?_
    refine ro rfl rfl (st_as rfl) ?_
    refine rw_nilk ?_
    refine awp_ret ?_
    refine rt_then ?_
    injection h with h
    subst h
    exact ret_out (v := dI .i64 (IntKind.wrap .i64 (0 - a0))) (resV_one (resVs_tmp rfl resVs_nil)) (.keep rfl)
  · replace h := ite_F p101 h
    refine awp_skip ?_
    refine nx_then ?_
    refine awp_rs ?_
    refine ro rfl rfl (st_mv rfl) ?_
    refine ro rfl rfl (st_as rfl) ?_
    refine rw_nilk ?_
    refine awp_ret ?_
    injection h with h
    subst h
    exact ret_out (v := dI .i64 a0) (resV_one (resVs_tmp rfl resVs_nil)) (.keep rfl)

theorem ok_skolemref03_Normal {a0 : (List Int)} {r : Bool} (h : F_skolemref03_Normal a0 = some r) : Fn Tryz.prog 87 [dL 1 (eI .i64) a0] (dB r) := by
  unfold F_skolemref03_Normal at h
  refine Fn.of_body (N := 47) (rs := [.tmp 2]) Tryz.func87 (c := _) rfl rfl rfl (by kernel_rfl) (Nat.le_of_ble_eq_true rfl) (fun _B => ?_)
  refine awp_rs ?_
  refine ro rfl rfl (st_as rfl) ?_
  refine rw_nilk ?_
  refine awp_seq ?_
  refine awp_rs ?_
  refine ro rfl rfl (st_as rfl) ?_
  refine rw_nilk ?_
  refine awp_block ?_
  refine awp_len (t := 0) rfl (fun hl104 => ?_)
  rw [List.length_map] at hl104
  refine awp_range (fun (j104 : Nat) (s101 : Unit) (g102 : Unit) => [(0, dL 1 (eI .i64) a0), (3, dI .i64 ((j104 : Nat) : Int))]) (fun (s101 : Unit) (g102 : Unit) => []) () (fun _ _ _ h => h) h (gh_frz rfl rfl ⟨⟨_, rfl, .keep rfl⟩, ⟨_, rfl, .keep rfl⟩, trivial⟩ trivial) ?_ ?_
  · clear h
    intro j104 x105 s101 g102 k103 hj104 hx104 h ih103
    refine awp_seq ?_
    refine awp_rs ?_
    refine ro rfl rfl (st_mv rfl) ?_
    refine ro rfl rfl (st_mv rfl) ?_
    refine ro rfl rfl (st_lenD rfl un22) ?_
    refine ro rfl rfl (st_bin (v := dB (decide (((j104 : Nat) : Int) < ((a0.length : Nat) : Int)))) rfl rfl rfl) ?_
    refine rw_nilk ?_
    refine awp_ifT rfl (dlt hj104) ?_
    refine awp_skip ?_
    refine nx_then ?_
    refine awp_seq ?_
    refine awp_block ?_
    refine awp_jn (fun (s167 : Bool) (g168 : Unit) => [(0, dL 1 (eI .i64) a0), (3, dI .i64 ((j104 : Nat) : Int)), (46, dB s167)]) (fun (s167 : Bool) (g168 : Unit) => []) h ?_ ?_
    · clear h
      intro s167 g168 h
      refine awp_ite (b := s167) rfl (fun p170 => ?_) (fun p170 => ?_)
      · replace h := ite_T p170 h
        refine awp_rs ?_
        refine ro rfl rfl (st_as rfl) ?_
        refine rw_nilk ?_
        refine awp_ret ?_
        refine rt_block ?_
        refine rt_then ?_
        refine rt_then ?_
        refine rt_block ?_
        refine rt_then ?_
        injection h with h
        subst h
        exact ret_out (v := dB false) (resV_one (resVs_tmp rfl resVs_nil)) (.keep rfl)
      · replace h := ite_F p170 h
        refine awp_skip ?_
        refine nx_block ?_
        refine nx_then ?_
        refine awp_rw ?_
        refine ro rfl rfl (st_mv rfl) ?_
        refine ro rfl rfl (st_inc rfl rfl hj104 hl104) ?_
        refine ro rfl rfl (st_as rfl) ?_
        refine rw_nil ?_
        refine nx_then ?_
        refine awp_gh ?_ (ih103 () () h)
        exact (gh_frz rfl rfl ⟨⟨_, rfl, .keep rfl⟩, ⟨_, rfl, .keep rfl⟩, trivial⟩ trivial)
    · clear h
      intro k169 h J169
      refine awp_rd hmix ?_
      refine do_ rfl rfl (st_mv rfl) rfl rfl rfl ?_
      refine do_ rfl rfl (st_mv rfl) rfl rfl rfl ?_
      refine do_ rfl rfl (st_ixDn sl22 rfl rfl hx104) rfl rfl rfl ?_
      refine do_ rfl rfl (st_ldD (v := dI .i64 x105) ta3 rfl rfl) rfl rfl rfl ?_
      refine do_ rfl rfl (st_bin (v := dB (x105 == (0 : Int))) rfl rfl rfl) rfl rfl rfl ?_
      refine do_ rfl rfl (st_mv rfl) rfl rfl rfl ?_
      refine bool_split (x105 == (0 : Int)) (fun p171 => ?_) (fun p171 => ?_)
      · replace h := ite_T p171 h
        rw [p171]
        refine dz rfl rfl ?_
        refine dz rfl rfl ?_
        refine dz rfl rfl ?_
        refine dz rfl rfl ?_
        refine dz rfl rfl ?_
        refine do_ rfl rfl (st_pickT rfl rfl) rfl rfl rfl ?_
        refine do_ rfl rfl (st_mv rfl) rfl rfl rfl ?_
        refine dz rfl rfl ?_
        refine dz rfl rfl ?_
        refine dz rfl rfl ?_
        refine dz rfl rfl ?_
        refine dz rfl rfl ?_
        refine do_ rfl rfl (st_pickT rfl rfl) rfl rfl rfl ?_
        refine do_ rfl rfl (st_mv rfl) rfl rfl rfl ?_
        refine dz rfl rfl ?_
        refine dz rfl rfl ?_
        refine dz rfl rfl ?_
        refine dz rfl rfl ?_
        refine dz rfl rfl ?_
        refine dz rfl rfl ?_
        refine dz rfl rfl ?_
        refine dz rfl rfl ?_
        refine dz rfl rfl ?_
        refine dz rfl rfl ?_
        refine dz rfl rfl ?_
        refine dz rfl rfl ?_
        refine dz rfl rfl ?_
        refine dz rfl rfl ?_
        refine dz rfl rfl ?_
        refine dz rfl rfl ?_
        refine do_ rfl rfl (st_pickT rfl rfl) rfl rfl rfl ?_
        refine rd_nil (by kernel_rfl) ?_
        refine nx_then ?_
        exact J169 true () _ _ h (gh_frz rfl rfl ⟨⟨_, rfl, .keep rfl⟩, ⟨_, rfl, .keep rfl⟩, ⟨_, rfl, .keep rfl⟩, trivial⟩ trivial)
      · replace h := ite_F p171 h
        rw [p171]
        refine do_ rfl rfl (st_mv rfl) rfl rfl rfl ?_
        refine do_ rfl rfl (st_mv rfl) rfl rfl rfl ?_
        refine do_ rfl rfl (st_ixDn sl22 rfl rfl hx104) rfl rfl rfl ?_
        refine do_ rfl rfl (st_ldD (v := dI .i64 x105) ta3 rfl rfl) rfl rfl rfl ?_
        refine do_ rfl rfl (st_bin (v := dB (decide (x105 < (-65536 : Int)))) rfl rfl rfl) rfl rfl rfl ?_
        refine do_ rfl rfl (st_pickF rfl rfl) rfl rfl rfl ?_
        refine do_ rfl rfl (st_mv rfl) rfl rfl rfl ?_
        refine bool_split (decide (x105 < (-65536 : Int))) (fun p172 => ?_) (fun p172 => ?_)
        · replace h := ite_T p172 h
          rw [p172]
          refine dz rfl rfl ?_
          refine dz rfl rfl ?_
          refine dz rfl rfl ?_
          refine dz rfl rfl ?_
          refine dz rfl rfl ?_
          refine do_ rfl rfl (st_pickT rfl rfl) rfl rfl rfl ?_
          refine do_ rfl rfl (st_mv rfl) rfl rfl rfl ?_
          refine dz rfl rfl ?_
          refine dz rfl rfl ?_
          refine dz rfl rfl ?_
          refine dz rfl rfl ?_
          refine dz rfl rfl ?_
          refine dz rfl rfl ?_
          refine dz rfl rfl ?_
          refine dz rfl rfl ?_
          refine dz rfl rfl ?_
          refine dz rfl rfl ?_
          refine dz rfl rfl ?_
          refine dz rfl rfl ?_
          refine dz rfl rfl ?_
          refine dz rfl rfl ?_
          refine dz rfl rfl ?_
          refine dz rfl rfl ?_
          refine do_ rfl rfl (st_pickT rfl rfl) rfl rfl rfl ?_
          refine rd_nil (by kernel_rfl) ?_
          refine nx_then ?_
          exact J169 true () _ _ h (gh_frz rfl rfl ⟨⟨_, rfl, .keep rfl⟩, ⟨_, rfl, .keep rfl⟩, ⟨_, rfl, .keep rfl⟩, trivial⟩ trivial)
        · replace h := ite_F p172 h
          rw [p172]
          refine do_ rfl rfl (st_mv rfl) rfl rfl rfl ?_
          refine do_ rfl rfl (st_mv rfl) rfl rfl rfl ?_
          refine do_ rfl rfl (st_ixDn sl22 rfl rfl hx104) rfl rfl rfl ?_
          refine do_ rfl rfl (st_ldD (v := dI .i64 x105) ta3 rfl rfl) rfl rfl rfl ?_
          refine do_ rfl rfl (st_bin (v := dB (decide (x105 > (65536 : Int)))) rfl rfl rfl) rfl rfl rfl ?_
          refine do_ rfl rfl (st_pickF rfl rfl) rfl rfl rfl ?_
          refine do_ rfl rfl (st_mv rfl) rfl rfl rfl ?_
          refine bool_split (decide (x105 > (65536 : Int))) (fun p173 => ?_) (fun p173 => ?_)
          · replace h := ite_T p173 h
            rw [p173]
            refine dz rfl rfl ?_
            refine dz rfl rfl ?_
            refine dz rfl rfl ?_
            refine dz rfl rfl ?_
            refine dz rfl rfl ?_
            refine dz rfl rfl ?_
            refine dz rfl rfl ?_
            refine dz rfl rfl ?_
            refine dz rfl rfl ?_
            refine dz rfl rfl ?_
            refine dz rfl rfl ?_
            refine dz rfl rfl ?_
            refine dz rfl rfl ?_
            refine dz rfl rfl ?_
            refine dz rfl rfl ?_
            refine dz rfl rfl ?_
            refine do_ rfl rfl (st_pickT rfl rfl) rfl rfl rfl ?_
            refine rd_nil (by kernel_rfl) ?_
            refine nx_then ?_
            exact J169 true () _ _ h (gh_frz rfl rfl ⟨⟨_, rfl, .keep rfl⟩, ⟨_, rfl, .keep rfl⟩, ⟨_, rfl, .keep rfl⟩, trivial⟩ trivial)
          · replace h := ite_F p173 h
            rw [p173]
            refine do_ rfl rfl (st_mv rfl) rfl rfl rfl ?_
            refine do_ rfl rfl (st_bin (v := dB (decide (((j104 : Nat) : Int) > (0 : Int)))) rfl rfl rfl) rfl rfl rfl ?_
            refine do_ rfl rfl (st_mv rfl) rfl rfl rfl ?_
            refine bool_split (decide (((j104 : Nat) : Int) > (0 : Int))) (fun p174 => ?_) (fun p174 => ?_)
            · replace h := ite_T p174 h
              rw [p174]
              refine do_ rfl rfl (st_mv rfl) rfl rfl rfl ?_
              refine do_ rfl rfl (st_mv rfl) rfl rfl rfl ?_
              refine do_ rfl rfl (st_bin (v := dI .i64 (IntKind.wrap .i64 (((j104 : Nat) : Int) - (1 : Int)))) rfl rfl rfl) rfl rfl rfl ?_
              obtain ⟨x175, h0175, hx175, h⟩ := getI_some h
              refine do_ rfl rfl (st_ixD sl22 rfl rfl h0175 hx175) rfl rfl rfl ?_
              refine do_ rfl rfl (st_ldD (v := dI .i64 x175) ta3 rfl rfl) rfl rfl rfl ?_
              obtain ⟨y176, hy176, h⟩ := bind_some_elim h
              refine df rfl rfl (ok_skolemref03_Abs hy176) rfl rfl ?_
              refine do_ rfl rfl (st_mv rfl) rfl rfl rfl ?_
              refine do_ rfl rfl (st_mv rfl) rfl rfl rfl ?_
              refine do_ rfl rfl (st_ixDn sl22 rfl rfl hx104) rfl rfl rfl ?_
              refine do_ rfl rfl (st_ldD (v := dI .i64 x105) ta3 rfl rfl) rfl rfl rfl ?_
              obtain ⟨y177, hy177, h⟩ := bind_some_elim h
              refine df rfl rfl (ok_skolemref03_Abs hy177) rfl rfl ?_
              refine do_ rfl rfl (st_bin (v := dB (decide (y176 ≥ y177))) rfl rfl rfl) rfl rfl rfl ?_
              refine do_ rfl rfl (st_pickT rfl rfl) rfl rfl rfl ?_
              refine do_ rfl rfl (st_pickF rfl rfl) rfl rfl rfl ?_
              refine rd_nil (by kernel_rfl) ?_
              refine nx_then ?_
              exact J169 (decide (y176 ≥ y177)) () _ _ h (gh_frz rfl rfl ⟨⟨_, rfl, .keep rfl⟩, ⟨_, rfl, .keep rfl⟩, ⟨_, rfl, .keep rfl⟩, trivial⟩ trivial)
            · replace h := ite_F p174 h
              rw [p174]
              refine dz rfl rfl ?_
              refine dz rfl rfl ?_
              refine dz rfl rfl ?_
              refine dz rfl rfl ?_
              refine dz rfl rfl ?_
              refine dz rfl rfl ?_
              refine dz rfl rfl ?_
              refine dz rfl rfl ?_
              refine dz rfl rfl ?_
              refine dz rfl rfl ?_
              refine dz rfl rfl ?_
              refine dz rfl rfl ?_
              refine do_ rfl rfl (st_pickF rfl rfl) rfl rfl rfl ?_
              refine do_ rfl rfl (st_pickF rfl rfl) rfl rfl rfl ?_
              refine rd_nil (by kernel_rfl) ?_
              refine nx_then ?_
              exact J169 false () _ _ h (gh_frz rfl rfl ⟨⟨_, rfl, .keep rfl⟩, ⟨_, rfl, .keep rfl⟩, ⟨_, rfl, .keep rfl⟩, trivial⟩ trivial)
  · clear h
    intro s101 g102 h
    refine awp_seq ?_
    refine awp_rs ?_
    refine ro rfl rfl (st_mv rfl) ?_
    refine ro rfl rfl (st_mv rfl) ?_
    refine ro rfl rfl (st_lenD rfl un22) ?_
    refine ro rfl rfl (st_bin (v := dB (decide (((a0.length : Nat) : Int) < ((a0.length : Nat) : Int)))) rfl rfl rfl) ?_
    refine rw_nilk ?_
    refine awp_ifF rfl dge ?_
    refine awp_exit ?_
    refine ex_out ?_
    refine ex_out ?_
    refine ex_in ?_
    refine nx_then ?_
    refine awp_rs ?_
    refine ro rfl rfl (st_as rfl) ?_
    refine rw_nilk ?_
    refine awp_ret ?_
    injection h with h
    subst h
    exact ret_out (v := dB true) (resV_one (resVs_tmp rfl resVs_nil)) (.keep rfl)

theorem ok_skolemref03_Cnf {a0 : (List (List Int))} {r : Bool} (h : F_skolemref03_Cnf a0 = some r) : Fn Tryz.prog 48 [dL 1 (eL 1 (eI .i64)) a0] (dB r) := by
  unfold F_skolemref03_Cnf at h
  refine Fn.of_body (N := 31) (rs := [.tmp 2]) Tryz.func48 (c := _) rfl rfl rfl (by kernel_rfl) (Nat.le_of_ble_eq_true rfl) (fun _B => ?_)
  refine awp_rs ?_
  refine ro rfl rfl (st_as rfl) ?_
  refine rw_nilk ?_
  refine awp_rs ?_
  refine ro rfl rfl (st_as rfl) ?_
  refine rw_nilk ?_
  refine awp_seq ?_
  refine awp_rs ?_
  refine ro rfl rfl (st_as rfl) ?_
  refine rw_nilk ?_
  refine awp_block ?_
  refine awp_len (t := 0) rfl (fun hl104 => ?_)
  rw [List.length_map] at hl104
  refine awp_range (fun (j104 : Nat) (s101 : Int) (g102 : Unit) => [(0, dL 1 (eL 1 (eI .i64)) a0), (3, dI .i64 s101), (4, dI .i64 ((j104 : Nat) : Int))]) (fun (s101 : Int) (g102 : Unit) => []) () (fun _ _ _ h => h) h (gh_frz rfl rfl ⟨⟨_, rfl, .keep rfl⟩, ⟨_, rfl, .keep rfl⟩, ⟨_, rfl, .keep rfl⟩, trivial⟩ trivial) ?_ ?_
  · clear h
    intro j104 x105 s101 g102 k103 hj104 hx104 h ih103
    refine awp_seq ?_
    refine awp_rs ?_
    refine ro rfl rfl (st_mv rfl) ?_
    refine ro rfl rfl (st_mv rfl) ?_
    refine ro rfl rfl (st_lenD rfl un24) ?_
    refine ro rfl rfl (st_bin (v := dB (decide (((j104 : Nat) : Int) < ((a0.length : Nat) : Int)))) rfl rfl rfl) ?_
    refine rw_nilk ?_
    refine awp_ifT rfl (dlt hj104) ?_
    refine awp_skip ?_
    refine nx_then ?_
    refine awp_seq ?_
    refine awp_block ?_
    refine awp_rs ?_
    refine ro rfl rfl (st_mv rfl) ?_
    refine ro rfl rfl (st_mv rfl) ?_
    refine ro rfl rfl (st_mv rfl) ?_
    refine ro rfl rfl (st_ixDn sl24 rfl rfl hx104) ?_
    refine ro rfl rfl (st_ldD (v := dL 1 (eI .i64) x105) ta22 rfl rfl) ?_
    refine ro rfl rfl (st_lenD rfl un22) ?_
    refine ro rfl rfl (st_bin (v := dI .i64 (IntKind.wrap .i64 (s101 + ((x105.length : Nat) : Int)))) rfl rfl rfl) ?_
    refine ro rfl rfl (st_as rfl) ?_
    refine rw_nilk ?_
    refine awp_rs ?_
    refine ro rfl rfl (st_mv rfl) ?_
    refine ro rfl rfl (st_mv rfl) ?_
    refine ro rfl rfl (st_ixDn sl24 rfl rfl hx104) ?_
    refine ro rfl rfl (st_ldD (v := dL 1 (eI .i64) x105) ta22 rfl rfl) ?_
    obtain ⟨y110, hy110, h⟩ := bind_some_elim h
    refine rf rfl rfl (ok_skolemref03_Normal hy110) rfl rfl ?_
    refine ro rfl rfl (st_un (v := dB (!y110)) rfl rfl) ?_
    refine rw_nilk ?_
    refine awp_ite (b := (!y110)) rfl (fun p111 => ?_) (fun p111 => ?_)
    · replace h := ite_T p111 h
      refine awp_rs ?_
      refine ro rfl rfl (st_as rfl) ?_
      refine rw_nilk ?_
      refine awp_ret ?_
      refine rt_block ?_
      refine rt_then ?_
      refine rt_then ?_
      refine rt_block ?_
      refine rt_then ?_
      injection h with h
      subst h
      exact ret_out (v := dB false) (resV_one (resVs_tmp rfl resVs_nil)) (.keep rfl)
    · replace h := ite_F p111 h
      refine awp_skip ?_
      refine nx_block ?_
      refine nx_then ?_
      refine awp_rw ?_
      refine ro rfl rfl (st_mv rfl) ?_
      refine ro rfl rfl (st_inc rfl rfl hj104 hl104) ?_
      refine ro rfl rfl (st_as rfl) ?_
      refine rw_nil ?_
      refine nx_then ?_
      refine awp_gh ?_ (ih103 (IntKind.wrap .i64 (s101 + ((x105.length : Nat) : Int))) () h)
      exact (gh_frz rfl rfl ⟨⟨_, rfl, .keep rfl⟩, ⟨_, rfl, .keep rfl⟩, ⟨_, rfl, .keep rfl⟩, trivial⟩ trivial)
  · clear h
    intro s101 g102 h
    refine awp_seq ?_
    refine awp_rs ?_
    refine ro rfl rfl (st_mv rfl) ?_
    refine ro rfl rfl (st_mv rfl) ?_
    refine ro rfl rfl (st_lenD rfl un24) ?_
    refine ro rfl rfl (st_bin (v := dB (decide (((a0.length : Nat) : Int) < ((a0.length : Nat) : Int)))) rfl rfl rfl) ?_
    refine rw_nilk ?_
    refine awp_ifF rfl dge ?_
    refine awp_exit ?_
    refine ex_out ?_
    refine ex_out ?_
    refine ex_in ?_
    refine nx_then ?_
    refine awp_rs ?_
    refine ro rfl rfl (st_mv rfl) ?_
    refine ro rfl rfl (st_lenD rfl un24) ?_
    refine ro rfl rfl (st_bin (v := dB (decide (((a0.length : Nat) : Int) ≤ (20000 : Int)))) rfl rfl rfl) ?_
    refine ro rfl rfl (st_mv rfl) ?_
    refine bool_split (decide (((a0.length : Nat) : Int) ≤ (20000 : Int))) (fun p113 => ?_) (fun p113 => ?_)
    · replace h := ite_T p113 h
      rw [p113]
      refine ro rfl rfl (st_mv rfl) ?_
      refine ro rfl rfl (st_bin (v := dB (decide (s101 ≤ (200000 : Int)))) rfl rfl rfl) ?_
      refine ro rfl rfl (st_pickT rfl rfl) ?_
      refine ro rfl rfl (st_as rfl) ?_
      refine rw_nilk ?_
      refine awp_ret ?_
      injection h with h
      subst h
      exact ret_out (v := dB (decide (s101 ≤ (200000 : Int)))) (resV_one (resVs_tmp rfl resVs_nil)) (.keep rfl)
    · replace h := ite_F p113 h
      rw [p113]
      refine rz rfl rfl ?_
      refine rz rfl rfl ?_
      refine ro rfl rfl (st_pickF rfl rfl) ?_
      refine ro rfl rfl (st_as rfl) ?_
      refine rw_nilk ?_
      refine awp_ret ?_
      injection h with h
      subst h
      exact ret_out (v := dB false) (resV_one (resVs_tmp rfl resVs_nil)) (.keep rfl)

theorem ok_skolemref03_within {a0 : (List (List Int))} {a1 : (List Int)} {r : Bool} (h : F_skolemref03_within a0 a1 = some r) : Fn Tryz.prog 49 [dL 1 (eL 1 (eI .i64)) a0, dL 1 (eI .i64) a1] (dB r) := by
  unfold F_skolemref03_within at h
  refine Fn.of_body (N := 33) (rs := [.tmp 4]) Tryz.func49 (c := _) rfl rfl rfl (by kernel_rfl) (Nat.le_of_ble_eq_true rfl) (fun _B => ?_)
  refine awp_rs ?_
  refine ro rfl rfl (st_as rfl) ?_
  refine rw_nilk ?_
  refine awp_seq ?_
  refine awp_rs ?_
  refine ro rfl rfl (st_as rfl) ?_
  refine rw_nilk ?_
  refine awp_block ?_
  refine awp_len (t := 0) rfl (fun hl104 => ?_)
  rw [List.length_map] at hl104
  refine awp_range (fun (j104 : Nat) (s101 : Unit) (g102 : Unit) => [(0, dL 1 (eL 1 (eI .i64)) a0), (1, dL 1 (eI .i64) a1), (5, dI .i64 ((j104 : Nat) : Int))]) (fun (s101 : Unit) (g102 : Unit) => []) () (fun _ _ _ h => h) h (gh_frz rfl rfl ⟨⟨_, rfl, .keep rfl⟩, ⟨_, rfl, .keep rfl⟩, ⟨_, rfl, .keep rfl⟩, trivial⟩ trivial) ?_ ?_
  · clear h
    intro j104 x105 s101 g102 k103 hj104 hx104 h ih103
    refine awp_seq ?_
    refine awp_rs ?_
    refine ro rfl rfl (st_mv rfl) ?_
    refine ro rfl rfl (st_mv rfl) ?_
    refine ro rfl rfl (st_lenD rfl un24) ?_
    refine ro rfl rfl (st_bin (v := dB (decide (((j104 : Nat) : Int) < ((a0.length : Nat) : Int)))) rfl rfl rfl) ?_
    refine rw_nilk ?_
    refine awp_ifT rfl (dlt hj104) ?_
    refine awp_skip ?_
    refine nx_then ?_
    refine awp_seq ?_
    refine awp_block ?_
    refine awp_rs ?_
    refine ro rfl rfl (st_as rfl) ?_
    refine rw_nilk ?_
    refine awp_block ?_
    refine awp_while (fun (s128 : Int) (g129 : Unit) => [(0, dL 1 (eL 1 (eI .i64)) a0), (1, dL 1 (eI .i64) a1), (5, dI .i64 ((j104 : Nat) : Int)), (6, dI .i64 s128)]) (fun (s128 : Int) (g129 : Unit) => []) () (fun _ _ _ h => h) h (gh_frz rfl rfl ⟨⟨_, rfl, .keep rfl⟩, ⟨_, rfl, .keep rfl⟩, ⟨_, rfl, .keep rfl⟩, ⟨_, rfl, .keep rfl⟩, trivial⟩ trivial) ?_
    clear h
    intro s128 g129 k130 h ih130
    refine awp_seq ?_
    refine awp_rs ?_
    refine ro rfl rfl (st_mv rfl) ?_
    refine ro rfl rfl (st_mv rfl) ?_
    refine ro rfl rfl (st_mv rfl) ?_
    refine ro rfl rfl (st_ixDn sl24 rfl rfl hx104) ?_
    refine ro rfl rfl (st_ldD (v := dL 1 (eI .i64) x105) ta22 rfl rfl) ?_
    refine ro rfl rfl (st_lenD rfl un22) ?_
    refine ro rfl rfl (st_bin (v := dB (decide (s128 < ((x105.length : Nat) : Int)))) rfl rfl rfl) ?_
    refine rw_nilk ?_
    refine awp_ite (b := (decide (s128 < ((x105.length : Nat) : Int)))) rfl (fun p145 => ?_) (fun p145 => ?_)
    · replace h := ite_T p145 h
      refine awp_skip ?_
      refine nx_then ?_
      refine awp_seq ?_
      refine awp_block ?_
      refine awp_rs ?_
      refine ro rfl rfl (st_mv rfl) ?_
      refine ro rfl rfl (st_mv rfl) ?_
      refine ro rfl rfl (st_mv rfl) ?_
      refine ro rfl rfl (st_ixDn sl24 rfl rfl hx104) ?_
      refine ro rfl rfl (st_ldD (v := dL 1 (eI .i64) x105) ta22 rfl rfl) ?_
      refine ro rfl rfl (st_mv rfl) ?_
      obtain ⟨x146, h0146, hx146, h⟩ := getI_some h
      refine ro rfl rfl (st_ixD sl22 rfl rfl h0146 hx146) ?_
      refine ro rfl rfl (st_ldD (v := dI .i64 x146) ta3 rfl rfl) ?_
      obtain ⟨y147, hy147, h⟩ := bind_some_elim h
      refine rf rfl rfl (ok_skolemref03_Abs hy147) rfl rfl ?_
      obtain ⟨y148, hy148, h⟩ := bind_some_elim h
      refine rf rfl rfl (ok_skolemref03_Has hy148) rfl rfl ?_
      refine ro rfl rfl (st_un (v := dB (!y148)) rfl rfl) ?_
      refine rw_nilk ?_
      refine awp_ite (b := (!y148)) rfl (fun p149 => ?_) (fun p149 => ?_)
      · replace h := ite_T p149 h
        refine awp_rs ?_
        refine ro rfl rfl (st_as rfl) ?_
        refine rw_nilk ?_
        refine awp_ret ?_
        refine rt_block ?_
        refine rt_then ?_
        refine rt_then ?_
        refine rt_block ?_
        refine rt_block ?_
        refine rt_then ?_
        refine rt_then ?_
        refine rt_block ?_
        refine rt_then ?_
        injection h with h
        subst h
        exact ret_out (v := dB false) (resV_one (resVs_tmp rfl resVs_nil)) (.keep rfl)
      · replace h := ite_F p149 h
        refine awp_skip ?_
        refine nx_block ?_
        refine nx_then ?_
        refine awp_rw ?_
        refine ro rfl rfl (st_mv rfl) ?_
        refine ro rfl rfl (st_bin (v := dI .i64 (IntKind.wrap .i64 (s128 + (1 : Int)))) rfl rfl rfl) ?_
        refine ro rfl rfl (st_as rfl) ?_
        refine rw_nil ?_
        refine nx_then ?_
        refine awp_gh ?_ (ih130 (IntKind.wrap .i64 (s128 + (1 : Int))) () h)
        exact (gh_frz rfl rfl ⟨⟨_, rfl, .keep rfl⟩, ⟨_, rfl, .keep rfl⟩, ⟨_, rfl, .keep rfl⟩, ⟨_, rfl, .keep rfl⟩, trivial⟩ trivial)
    · replace h := ite_F p145 h
      refine awp_exit ?_
      refine ex_out ?_
      refine ex_out ?_
      refine ex_in ?_
      refine nx_block ?_
      refine nx_then ?_
      refine awp_rw ?_
      refine ro rfl rfl (st_mv rfl) ?_
      refine ro rfl rfl (st_inc rfl rfl hj104 hl104) ?_
      refine ro rfl rfl (st_as rfl) ?_
      refine rw_nil ?_
      refine nx_then ?_
      refine awp_gh ?_ (ih103 () () h)
      exact (gh_frz rfl rfl ⟨⟨_, rfl, .keep rfl⟩, ⟨_, rfl, .keep rfl⟩, ⟨_, rfl, .keep rfl⟩, trivial⟩ trivial)
  · clear h
    intro s101 g102 h
    refine awp_seq ?_
    refine awp_rs ?_
    refine ro rfl rfl (st_mv rfl) ?_
    refine ro rfl rfl (st_mv rfl) ?_
    refine ro rfl rfl (st_lenD rfl un24) ?_
    refine ro rfl rfl (st_bin (v := dB (decide (((a0.length : Nat) : Int) < ((a0.length : Nat) : Int)))) rfl rfl rfl) ?_
    refine rw_nilk ?_
    refine awp_ifF rfl dge ?_
    refine awp_exit ?_
    refine ex_out ?_
    refine ex_out ?_
    refine ex_in ?_
    refine nx_then ?_
    refine awp_rs ?_
    refine ro rfl rfl (st_as rfl) ?_
    refine rw_nilk ?_
    refine awp_ret ?_
    injection h with h
    subst h
    exact ret_out (v := dB true) (resV_one (resVs_tmp rfl resVs_nil)) (.keep rfl)

theorem ok_skolemref03_Part {a0 : (List Int)} {a1 : (List Int)} {r : Bool} (h : F_skolemref03_Part a0 a1 = some r) : Fn Tryz.prog 50 [dL 1 (eI .i64) a0, dL 1 (eI .i64) a1] (dB r) := by
  unfold F_skolemref03_Part at h
  refine Fn.of_body (N := 19) (rs := [.tmp 4]) Tryz.func50 (c := _) rfl rfl rfl (by kernel_rfl) (Nat.le_of_ble_eq_true rfl) (fun _B => ?_)
  refine awp_rs ?_
  refine ro rfl rfl (st_as rfl) ?_
  refine rw_nilk ?_
  refine awp_seq ?_
  refine awp_rs ?_
  refine ro rfl rfl (st_as rfl) ?_
  refine rw_nilk ?_
  refine awp_block ?_
  refine awp_len (t := 0) rfl (fun hl104 => ?_)
  rw [List.length_map] at hl104
  refine awp_range (fun (j104 : Nat) (s101 : Unit) (g102 : Unit) => [(0, dL 1 (eI .i64) a0), (1, dL 1 (eI .i64) a1), (5, dI .i64 ((j104 : Nat) : Int))]) (fun (s101 : Unit) (g102 : Unit) => []) () (fun _ _ _ h => h) h (gh_frz rfl rfl ⟨⟨_, rfl, .keep rfl⟩, ⟨_, rfl, .keep rfl⟩, ⟨_, rfl, .keep rfl⟩, trivial⟩ trivial) ?_ ?_
  · clear h
    intro j104 x105 s101 g102 k103 hj104 hx104 h ih103
    refine awp_seq ?_
    refine awp_rs ?_
    refine ro rfl rfl (st_mv rfl) ?_
    refine ro rfl rfl (st_mv rfl) ?_
    refine ro rfl rfl (st_lenD rfl un22) ?_
    refine ro rfl rfl (st_bin (v := dB (decide (((j104 : Nat) : Int) < ((a0.length : Nat) : Int)))) rfl rfl rfl) ?_
    refine rw_nilk ?_
    refine awp_ifT rfl (dlt hj104) ?_
    refine awp_skip ?_
    refine nx_then ?_
    refine awp_seq ?_
    refine awp_block ?_
    refine awp_rs ?_
    refine ro rfl rfl (st_mv rfl) ?_
    refine ro rfl rfl (st_mv rfl) ?_
    refine ro rfl rfl (st_mv rfl) ?_
    refine ro rfl rfl (st_ixDn sl22 rfl rfl hx104) ?_
    refine ro rfl rfl (st_ldD (v := dI .i64 x105) ta3 rfl rfl) ?_
    obtain ⟨y108, hy108, h⟩ := bind_some_elim h
    refine rf rfl rfl (ok_skolemref03_Has hy108) rfl rfl ?_
    refine ro rfl rfl (st_un (v := dB (!y108)) rfl rfl) ?_
    refine rw_nilk ?_
    refine awp_ite (b := (!y108)) rfl (fun p109 => ?_) (fun p109 => ?_)
    · replace h := ite_T p109 h
      refine awp_rs ?_
      refine ro rfl rfl (st_as rfl) ?_
      refine rw_nilk ?_
      refine awp_ret ?_
      refine rt_block ?_
      refine rt_then ?_
      refine rt_then ?_
      refine rt_block ?_
      refine rt_then ?_
      injection h with h
      subst h
      exact ret_out (v := dB false) (resV_one (resVs_tmp rfl resVs_nil)) (.keep rfl)
    · replace h := ite_F p109 h
      refine awp_skip ?_
      refine nx_block ?_
      refine nx_then ?_
      refine awp_rw ?_
      refine ro rfl rfl (st_mv rfl) ?_
      refine ro rfl rfl (st_inc rfl rfl hj104 hl104) ?_
      refine ro rfl rfl (st_as rfl) ?_
      refine rw_nil ?_
      refine nx_then ?_
      refine awp_gh ?_ (ih103 () () h)
      exact (gh_frz rfl rfl ⟨⟨_, rfl, .keep rfl⟩, ⟨_, rfl, .keep rfl⟩, ⟨_, rfl, .keep rfl⟩, trivial⟩ trivial)
  · clear h
    intro s101 g102 h
    refine awp_seq ?_
    refine awp_rs ?_
    refine ro rfl rfl (st_mv rfl) ?_
    refine ro rfl rfl (st_mv rfl) ?_
    refine ro rfl rfl (st_lenD rfl un22) ?_
    refine ro rfl rfl (st_bin (v := dB (decide (((a0.length : Nat) : Int) < ((a0.length : Nat) : Int)))) rfl rfl rfl) ?_
    refine rw_nilk ?_
    refine awp_ifF rfl dge ?_
    refine awp_exit ?_
    refine ex_out ?_
    refine ex_out ?_
    refine ex_in ?_
    refine nx_then ?_
    refine awp_rs ?_
    refine ro rfl rfl (st_as rfl) ?_
    refine rw_nilk ?_
    refine awp_ret ?_
    injection h with h
    subst h
    exact ret_out (v := dB true) (resV_one (resVs_tmp rfl resVs_nil)) (.keep rfl)

theorem ok_skolemref03_MayDqbf {a0 : S_api_Dqbf} {r : Bool} (h : F_skolemref03_MayDqbf a0 = some r) : Fn Tryz.prog 15 [.agg [dL 1 (eI .i64) a0.Univ, dL 2 e_S_api_Dep a0.Exist, dL 1 (eL 1 (eI .i64)) a0.Clauses]] (dB r) := by
  unfold F_skolemref03_MayDqbf at h
  refine Fn.of_body (N := 70) (rs := [.tmp 2]) Tryz.func15 (c := _) rfl rfl rfl (by kernel_rfl) (Nat.le_of_ble_eq_true rfl) (fun _B => ?_)
  refine awp_rs ?_
  refine rn (r := 1001) rfl rfl (st_box rfl rfl rfl co26 rfl rfl) rfl ?_
  refine ro rfl rfl (st_as rfl) ?_
  refine rw_nilk ?_
  refine awp_rs ?_
  refine ro rfl rfl (st_ldP (v := .agg [dL 1 (eI .i64) a0.Univ, dL 2 e_S_api_Dep a0.Exist, dL 1 (eL 1 (eI .i64)) a0.Clauses]) ta26 rfl rfl rfl rfl) ?_
  obtain ⟨y101, hy101, h⟩ := bind_some_elim h
  refine rf rfl rfl (ok_skolemref03_All hy101) rfl rfl ?_
  refine ro rfl rfl (st_as rfl) ?_
  refine rw_nilk ?_
  refine awp_seq ?_
  refine awp_jn (fun (s139 : Bool) (g140 : Unit) => [(1, .ptr 1001 0 0 0), (42, dB s139)]) (fun (s139 : Bool) (g140 : Unit) => [(1001, .row 0 26 [[dL 1 (eI .i64) a0.Univ, dL 2 e_S_api_Dep a0.Exist, dL 1 (eL 1 (eI .i64)) a0.Clauses]])]) h ?_ ?_
  · clear h
    intro s139 g140 h
    refine awp_ite (b := s139) rfl (fun p142 => ?_) (fun p142 => ?_)
    · replace h := ite_T p142 h
      refine awp_rs ?_
      refine ro rfl rfl (st_as rfl) ?_
      refine rw_nilk ?_
      refine awp_ret ?_
      refine rt_then ?_
      injection h with h
      subst h
      exact ret_out (v := dB false) (resV_one (resVs_tmp rfl resVs_nil)) (.keep rfl)
    · replace h := ite_F p142 h
      refine awp_skip ?_
      refine nx_then ?_
      refine awp_seq ?_
      refine awp_rs ?_
      refine ro rfl rfl (st_as rfl) ?_
      refine rw_nilk ?_
      refine awp_block ?_
      refine awp_lenC (r := 1001) (i := 1) rfl rfl (fun hl146 => ?_)
      rw [List.length_map] at hl146
      refine awp_range (fun (j146 : Nat) (s143 : Unit) (g144 : Unit) => [(1, .ptr 1001 0 0 0), (4, dI .i64 ((j146 : Nat) : Int))]) (fun (s143 : Unit) (g144 : Unit) => [(1001, .row 0 26 [[dL 1 (eI .i64) a0.Univ, dL 2 e_S_api_Dep a0.Exist, dL 1 (eL 1 (eI .i64)) a0.Clauses]])]) () (fun _ _ _ h => h) h (gh_frz rfl rfl ⟨⟨_, rfl, .keep rfl⟩, ⟨_, rfl, .keep rfl⟩, trivial⟩ ⟨⟨_, rfl, objOne ⟨⟨rfl, .keep rfl⟩, ⟨rfl, .keep rfl⟩, ⟨rfl, .keep rfl⟩, trivial⟩⟩, trivial⟩) ?_ ?_
      · clear h
        intro j146 x147 s143 g144 k145 hj146 hx146 h ih145
        refine awp_seq ?_
        refine awp_rs ?_
        refine ro rfl rfl (st_mv rfl) ?_
        refine ro rfl rfl (st_faP fo26_1 rfl) ?_
        refine ro rfl rfl (st_ldP (v := dL 2 e_S_api_Dep a0.Exist) ta23 rfl rfl rfl rfl) ?_
        refine ro rfl rfl (st_lenD rfl un23) ?_
        refine ro rfl rfl (st_bin (v := dB (decide (((j146 : Nat) : Int) < ((a0.Exist.length : Nat) : Int)))) rfl rfl rfl) ?_
        refine rw_nilk ?_
        refine awp_ifT rfl (dlt hj146) ?_
        refine awp_skip ?_
        refine nx_then ?_
        refine awp_seq ?_
        refine awp_block ?_
        refine awp_jn (fun (s181 : Bool) (g182 : Unit) => [(1, .ptr 1001 0 0 0), (4, dI .i64 ((j146 : Nat) : Int)), (69, dB s181)]) (fun (s181 : Bool) (g182 : Unit) => [(1001, .row 0 26 [[dL 1 (eI .i64) a0.Univ, dL 2 e_S_api_Dep a0.Exist, dL 1 (eL 1 (eI .i64)) a0.Clauses]])]) h ?_ ?_
        · clear h
          intro s181 g182 h
          refine awp_ite (b := s181) rfl (fun p184 => ?_) (fun p184 => ?_)
          · replace h := ite_T p184 h
            refine awp_rs ?_
            refine ro rfl rfl (st_as rfl) ?_
            refine rw_nilk ?_
            refine awp_ret ?_
            refine rt_block ?_
            refine rt_then ?_
            refine rt_then ?_
            refine rt_block ?_
            refine rt_then ?_
            injection h with h
            subst h
            exact ret_out (v := dB false) (resV_one (resVs_tmp rfl resVs_nil)) (.keep rfl)
          · replace h := ite_F p184 h
            refine awp_skip ?_
            refine nx_block ?_
            refine nx_then ?_
            refine awp_rw ?_
            refine ro rfl rfl (st_mv rfl) ?_
            refine ro rfl rfl (st_inc rfl rfl hj146 hl146) ?_
            refine ro rfl rfl (st_as rfl) ?_
            refine rw_nil ?_
            refine nx_then ?_
            refine awp_gh ?_ (ih145 () () h)
            exact (gh_frz rfl rfl ⟨⟨_, rfl, .keep rfl⟩, ⟨_, rfl, .keep rfl⟩, trivial⟩ ⟨⟨_, rfl, objOne ⟨⟨rfl, .keep rfl⟩, ⟨rfl, .keep rfl⟩, ⟨rfl, .keep rfl⟩, trivial⟩⟩, trivial⟩)
        · clear h
          intro k183 h J183
          refine awp_rd hmix ?_
          refine do_ rfl rfl (st_faP fo26_1 rfl) rfl rfl rfl ?_
          refine do_ rfl rfl (st_ldP (v := dL 2 e_S_api_Dep a0.Exist) ta23 rfl rfl rfl rfl) rfl rfl rfl ?_
          refine do_ rfl rfl (st_mv rfl) rfl rfl rfl ?_
          refine do_ rfl rfl (st_ixDn sl23 rfl rfl hx146) rfl rfl rfl ?_
          refine do_ rfl rfl (st_faD fo44_1 rfl) rfl rfl rfl ?_
          refine do_ rfl rfl (st_ldD (v := dL 1 (eI .i64) x147.On) ta22 rfl rfl) rfl rfl rfl ?_
          obtain ⟨y185, hy185, h⟩ := bind_some_elim h
          refine df rfl rfl (ok_skolemref03_Rises hy185) rfl rfl ?_
          refine do_ rfl rfl (st_un (v := dB (!y185)) rfl rfl) rfl rfl rfl ?_
          refine do_ rfl rfl (st_mv rfl) rfl rfl rfl ?_
          refine bool_split (!y185) (fun p186 => ?_) (fun p186 => ?_)
          · replace h := ite_T p186 h
            rw [p186]
            refine dz rfl rfl ?_
            refine dz rfl rfl ?_
            refine dz rfl rfl ?_
            refine dz rfl rfl ?_
            refine dz rfl rfl ?_
            refine dz rfl rfl ?_
            refine dz rfl rfl ?_
            refine dz rfl rfl ?_
            refine dz rfl rfl ?_
            refine dz rfl rfl ?_
            refine do_ rfl rfl (st_pickT rfl rfl) rfl rfl rfl ?_
            refine rd_nil (by kernel_rfl) ?_
            refine nx_then ?_
            exact J183 true () _ _ h (gh_frz rfl rfl ⟨⟨_, rfl, .keep rfl⟩, ⟨_, rfl, .keep rfl⟩, ⟨_, rfl, .keep rfl⟩, trivial⟩ ⟨⟨_, rfl, objOne ⟨⟨rfl, .keep rfl⟩, ⟨rfl, .keep rfl⟩, ⟨rfl, .keep rfl⟩, trivial⟩⟩, trivial⟩)
          · replace h := ite_F p186 h
            rw [p186]
            refine do_ rfl rfl (st_faP fo26_1 rfl) rfl rfl rfl ?_
            refine do_ rfl rfl (st_ldP (v := dL 2 e_S_api_Dep a0.Exist) ta23 rfl rfl rfl rfl) rfl rfl rfl ?_
            refine do_ rfl rfl (st_mv rfl) rfl rfl rfl ?_
            refine do_ rfl rfl (st_ixDn sl23 rfl rfl hx146) rfl rfl rfl ?_
            refine do_ rfl rfl (st_faD fo44_1 rfl) rfl rfl rfl ?_
            refine do_ rfl rfl (st_ldD (v := dL 1 (eI .i64) x147.On) ta22 rfl rfl) rfl rfl rfl ?_
            refine do_ rfl rfl (st_faP fo26_0 rfl) rfl rfl rfl ?_
            refine do_ rfl rfl (st_ldP (v := dL 1 (eI .i64) a0.Univ) ta22 rfl rfl rfl rfl) rfl rfl rfl ?_
            obtain ⟨y187, hy187, h⟩ := bind_some_elim h
            refine df rfl rfl (ok_skolemref03_Part hy187) rfl rfl ?_
            refine do_ rfl rfl (st_un (v := dB (!y187)) rfl rfl) rfl rfl rfl ?_
            refine do_ rfl rfl (st_pickF rfl rfl) rfl rfl rfl ?_
            refine rd_nil (by kernel_rfl) ?_
            refine nx_then ?_
            exact J183 (!y187) () _ _ h (gh_frz rfl rfl ⟨⟨_, rfl, .keep rfl⟩, ⟨_, rfl, .keep rfl⟩, ⟨_, rfl, .keep rfl⟩, trivial⟩ ⟨⟨_, rfl, objOne ⟨⟨rfl, .keep rfl⟩, ⟨rfl, .keep rfl⟩, ⟨rfl, .keep rfl⟩, trivial⟩⟩, trivial⟩)
      · clear h
        intro s143 g144 h
        refine awp_seq ?_
        refine awp_rs ?_
        refine ro rfl rfl (st_mv rfl) ?_
        refine ro rfl rfl (st_faP fo26_1 rfl) ?_
        refine ro rfl rfl (st_ldP (v := dL 2 e_S_api_Dep a0.Exist) ta23 rfl rfl rfl rfl) ?_
        refine ro rfl rfl (st_lenD rfl un23) ?_
        refine ro rfl rfl (st_bin (v := dB (decide (((a0.Exist.length : Nat) : Int) < ((a0.Exist.length : Nat) : Int)))) rfl rfl rfl) ?_
        refine rw_nilk ?_
        refine awp_ifF rfl dge ?_
        refine awp_exit ?_
        refine ex_out ?_
        refine ex_out ?_
        refine ex_in ?_
        refine nx_then ?_
        refine awp_rs ?_
        refine ro rfl rfl (st_as rfl) ?_
        refine rw_nilk ?_
        refine awp_ret ?_
        injection h with h
        subst h
        exact ret_out (v := dB true) (resV_one (resVs_tmp rfl resVs_nil)) (.keep rfl)
  · clear h
    intro k141 h J141
    refine awp_rw ?_
    refine ro rfl rfl (st_mv rfl) ?_
    refine ro rfl rfl (st_lenD rfl un22) ?_
    refine ro rfl rfl (st_bin (v := dB (decide (((y101.length : Nat) : Int) > (1024 : Int)))) rfl rfl rfl) ?_
    refine ro rfl rfl (st_mv rfl) ?_
    refine bool_split (decide (((y101.length : Nat) : Int) > (1024 : Int))) (fun p188 => ?_) (fun p188 => ?_)
    · replace h := ite_T p188 h
      rw [p188]
      refine rz rfl rfl ?_
      refine rz rfl rfl ?_
      refine rz rfl rfl ?_
      refine ro rfl rfl (st_pickT rfl rfl) ?_
      refine ro rfl rfl (st_mv rfl) ?_
      refine rz rfl rfl ?_
      refine rz rfl rfl ?_
      refine rz rfl rfl ?_
      refine rz rfl rfl ?_
      refine ro rfl rfl (st_pickT rfl rfl) ?_
      refine ro rfl rfl (st_mv rfl) ?_
      refine rz rfl rfl ?_
      refine rz rfl rfl ?_
      refine rz rfl rfl ?_
      refine rz rfl rfl ?_
      refine rz rfl rfl ?_
      refine rz rfl rfl ?_
      refine rz rfl rfl ?_
      refine ro rfl rfl (st_pickT rfl rfl) ?_
      refine ro rfl rfl (st_mv rfl) ?_
      refine rz rfl rfl ?_
      refine rz rfl rfl ?_
      refine rz rfl rfl ?_
      refine rz rfl rfl ?_
      refine ro rfl rfl (st_pickT rfl rfl) ?_
      refine ro rfl rfl (st_mv rfl) ?_
      refine rz rfl rfl ?_
      refine rz rfl rfl ?_
      refine rz rfl rfl ?_
      refine rz rfl rfl ?_
      refine rz rfl rfl ?_
      refine ro rfl rfl (st_pickT rfl rfl) ?_
      refine rw_nil ?_
      refine nx_then ?_
      exact J141 true () _ _ h (gh_frz rfl rfl ⟨⟨_, rfl, .keep rfl⟩, ⟨_, rfl, .keep rfl⟩, trivial⟩ ⟨⟨_, rfl, objOne ⟨⟨rfl, .keep rfl⟩, ⟨rfl, .keep rfl⟩, ⟨rfl, .keep rfl⟩, trivial⟩⟩, trivial⟩)
    · replace h := ite_F p188 h
      rw [p188]
      refine ro rfl rfl (st_mv rfl) ?_
      obtain ⟨y189, hy189, h⟩ := bind_some_elim h
      refine rf rfl rfl (ok_skolemref03_single hy189) rfl rfl ?_
      refine ro rfl rfl (st_un (v := dB (!y189)) rfl rfl) ?_
      refine ro rfl rfl (st_pickF rfl rfl) ?_
      refine ro rfl rfl (st_mv rfl) ?_
      refine bool_split (!y189) (fun p190 => ?_) (fun p190 => ?_)
      · replace h := ite_T p190 h
        rw [p190]
        refine rz rfl rfl ?_
        refine rz rfl rfl ?_
        refine rz rfl rfl ?_
        refine rz rfl rfl ?_
        refine ro rfl rfl (st_pickT rfl rfl) ?_
        refine ro rfl rfl (st_mv rfl) ?_
        refine rz rfl rfl ?_
        refine rz rfl rfl ?_
        refine rz rfl rfl ?_
        refine rz rfl rfl ?_
        refine rz rfl rfl ?_
        refine rz rfl rfl ?_
        refine rz rfl rfl ?_
        refine ro rfl rfl (st_pickT rfl rfl) ?_
        refine ro rfl rfl (st_mv rfl) ?_
        refine rz rfl rfl ?_
        refine rz rfl rfl ?_
        refine rz rfl rfl ?_
        refine rz rfl rfl ?_
        refine ro rfl rfl (st_pickT rfl rfl) ?_
        refine ro rfl rfl (st_mv rfl) ?_
        refine rz rfl rfl ?_
        refine rz rfl rfl ?_
        refine rz rfl rfl ?_
        refine rz rfl rfl ?_
        refine rz rfl rfl ?_
        refine ro rfl rfl (st_pickT rfl rfl) ?_
        refine rw_nil ?_
        refine nx_then ?_
        exact J141 true () _ _ h (gh_frz rfl rfl ⟨⟨_, rfl, .keep rfl⟩, ⟨_, rfl, .keep rfl⟩, trivial⟩ ⟨⟨_, rfl, objOne ⟨⟨rfl, .keep rfl⟩, ⟨rfl, .keep rfl⟩, ⟨rfl, .keep rfl⟩, trivial⟩⟩, trivial⟩)
      · replace h := ite_F p190 h
        rw [p190]
        refine ro rfl rfl (st_faP fo26_0 rfl) ?_
        refine ro rfl rfl (st_ldP (v := dL 1 (eI .i64) a0.Univ) ta22 rfl rfl rfl rfl) ?_
        obtain ⟨y191, hy191, h⟩ := bind_some_elim h
        refine rf rfl rfl (ok_skolemref03_Rises hy191) rfl rfl ?_
        refine ro rfl rfl (st_un (v := dB (!y191)) rfl rfl) ?_
        refine ro rfl rfl (st_pickF rfl rfl) ?_
        refine ro rfl rfl (st_mv rfl) ?_
        refine bool_split (!y191) (fun p192 => ?_) (fun p192 => ?_)
        · replace h := ite_T p192 h
          rw [p192]
          refine rz rfl rfl ?_
          refine rz rfl rfl ?_
          refine rz rfl rfl ?_
          refine rz rfl rfl ?_
          refine rz rfl rfl ?_
          refine rz rfl rfl ?_
          refine rz rfl rfl ?_
          refine ro rfl rfl (st_pickT rfl rfl) ?_
          refine ro rfl rfl (st_mv rfl) ?_
          refine rz rfl rfl ?_
          refine rz rfl rfl ?_
          refine rz rfl rfl ?_
          refine rz rfl rfl ?_
          refine ro rfl rfl (st_pickT rfl rfl) ?_
          refine ro rfl rfl (st_mv rfl) ?_
          refine rz rfl rfl ?_
          refine rz rfl rfl ?_
          refine rz rfl rfl ?_
          refine rz rfl rfl ?_
          refine rz rfl rfl ?_
          refine ro rfl rfl (st_pickT rfl rfl) ?_
          refine rw_nil ?_
          refine nx_then ?_
          exact J141 true () _ _ h (gh_frz rfl rfl ⟨⟨_, rfl, .keep rfl⟩, ⟨_, rfl, .keep rfl⟩, trivial⟩ ⟨⟨_, rfl, objOne ⟨⟨rfl, .keep rfl⟩, ⟨rfl, .keep rfl⟩, ⟨rfl, .keep rfl⟩, trivial⟩⟩, trivial⟩)
        · replace h := ite_F p192 h
          rw [p192]
          refine ro rfl rfl (st_mv rfl) ?_
          refine ro rfl rfl (st_faP fo26_0 rfl) ?_
          refine ro rfl rfl (st_ldP (v := dL 1 (eI .i64) a0.Univ) ta22 rfl rfl rfl rfl) ?_
          refine ro rfl rfl (st_lenD rfl un22) ?_
          obtain ⟨c193, h⟩ := okI_some h
          refine ro rfl rfl (st_slLo sl22 rfl rfl c193.1 c193.2) ?_
          obtain ⟨y194, hy194, h⟩ := bind_some_elim h
          refine rf rfl rfl (ok_skolemref03_Rises hy194) rfl rfl ?_
          refine ro rfl rfl (st_un (v := dB (!y194)) rfl rfl) ?_
          refine ro rfl rfl (st_pickF rfl rfl) ?_
          refine ro rfl rfl (st_mv rfl) ?_
          refine bool_split (!y194) (fun p195 => ?_) (fun p195 => ?_)
          · replace h := ite_T p195 h
            rw [p195]
            refine rz rfl rfl ?_
            refine rz rfl rfl ?_
            refine rz rfl rfl ?_
            refine rz rfl rfl ?_
            refine ro rfl rfl (st_pickT rfl rfl) ?_
            refine ro rfl rfl (st_mv rfl) ?_
            refine rz rfl rfl ?_
            refine rz rfl rfl ?_
            refine rz rfl rfl ?_
            refine rz rfl rfl ?_
            refine rz rfl rfl ?_
            refine ro rfl rfl (st_pickT rfl rfl) ?_
            refine rw_nil ?_
            refine nx_then ?_
            exact J141 true () _ _ h (gh_frz rfl rfl ⟨⟨_, rfl, .keep rfl⟩, ⟨_, rfl, .keep rfl⟩, trivial⟩ ⟨⟨_, rfl, objOne ⟨⟨rfl, .keep rfl⟩, ⟨rfl, .keep rfl⟩, ⟨rfl, .keep rfl⟩, trivial⟩⟩, trivial⟩)
          · replace h := ite_F p195 h
            rw [p195]
            refine ro rfl rfl (st_faP fo26_2 rfl) ?_
            refine ro rfl rfl (st_ldP (v := dL 1 (eL 1 (eI .i64)) a0.Clauses) ta24 rfl rfl rfl rfl) ?_
            obtain ⟨y196, hy196, h⟩ := bind_some_elim h
            refine rf rfl rfl (ok_skolemref03_Cnf hy196) rfl rfl ?_
            refine ro rfl rfl (st_un (v := dB (!y196)) rfl rfl) ?_
            refine ro rfl rfl (st_pickF rfl rfl) ?_
            refine ro rfl rfl (st_mv rfl) ?_
            refine bool_split (!y196) (fun p197 => ?_) (fun p197 => ?_)
            · replace h := ite_T p197 h
              rw [p197]
              refine rz rfl rfl ?_
              refine rz rfl rfl ?_
              refine rz rfl rfl ?_
              refine rz rfl rfl ?_
              refine rz rfl rfl ?_
              refine ro rfl rfl (st_pickT rfl rfl) ?_
              refine rw_nil ?_
              refine nx_then ?_
              exact J141 true () _ _ h (gh_frz rfl rfl ⟨⟨_, rfl, .keep rfl⟩, ⟨_, rfl, .keep rfl⟩, trivial⟩ ⟨⟨_, rfl, objOne ⟨⟨rfl, .keep rfl⟩, ⟨rfl, .keep rfl⟩, ⟨rfl, .keep rfl⟩, trivial⟩⟩, trivial⟩)
            · replace h := ite_F p197 h
              rw [p197]
              refine ro rfl rfl (st_faP fo26_2 rfl) ?_
              refine ro rfl rfl (st_ldP (v := dL 1 (eL 1 (eI .i64)) a0.Clauses) ta24 rfl rfl rfl rfl) ?_
              refine ro rfl rfl (st_mv rfl) ?_
              obtain ⟨y198, hy198, h⟩ := bind_some_elim h
              refine rf rfl rfl (ok_skolemref03_within hy198) rfl rfl ?_
              refine ro rfl rfl (st_un (v := dB (!y198)) rfl rfl) ?_
              refine ro rfl rfl (st_pickF rfl rfl) ?_
              refine rw_nil ?_
              refine nx_then ?_
              exact J141 (!y198) () _ _ h (gh_frz rfl rfl ⟨⟨_, rfl, .keep rfl⟩, ⟨_, rfl, .keep rfl⟩, trivial⟩ ⟨⟨_, rfl, objOne ⟨⟨rfl, .keep rfl⟩, ⟨rfl, .keep rfl⟩, ⟨rfl, .keep rfl⟩, trivial⟩⟩, trivial⟩)

theorem ok_skolemref01_size {a0 : Int} {r : Int} (h : F_skolemref01_size a0 = some r) : Fn Tryz.prog 74 [dI .i64 a0] (dI .u64 r) := by
  unfold F_skolemref01_size at h
  refine Fn.of_body (N := 12) (rs := [.tmp 2]) Tryz.func74 (c := _) rfl rfl rfl (by kernel_rfl) (Nat.le_of_ble_eq_true rfl) (fun _B => ?_)
  refine awp_rs ?_
  refine ro rfl rfl (st_as rfl) ?_
  refine rw_nilk ?_
  refine awp_seq ?_
  refine awp_rs ?_
  refine ro rfl rfl (st_mv rfl) ?_
  refine ro rfl rfl (st_bin (v := dB (decide (a0 < (0 : Int)))) rfl rfl rfl) ?_
  refine rw_nilk ?_
  refine awp_ite (b := (decide (a0 < (0 : Int)))) rfl (fun p101 => ?_) (fun p101 => ?_)
  · replace h := ite_T p101 h
    refine awp_rs ?_
    refine ro rfl rfl (st_mv rfl) ?_
    refine ro rfl rfl (st_bin (v := dI .i64 (IntKind.wrap .i64 (a0 + (1 : Int)))) rfl rfl rfl) ?_
    refine ro rfl rfl (st_un (v := dI .i64 (IntKind.wrap .i64 (0 - (IntKind.wrap .i64 (a0 + (1 : Int)))))) rfl rfl) ?_
    refine ro rfl rfl (st_conv rfl un3 un91) ?_
    refine ro rfl rfl (st_bin (v := dI .u64 (IntKind.wrap .u64 ((IntKind.wrap .u64 (IntKind.wrap .i64 (0 - (IntKind.wrap .i64 (a0 + (1 : Int)))))) + (1 : Int)))) rfl rfl rfl) ?_
    refine ro rfl rfl (st_as rfl) ?_
    refine rw_nilk ?_
    refine awp_ret ?_
    refine rt_then ?_
    injection h with h
    subst h
    exact ret_out (v := dI .u64 (IntKind.wrap .u64 ((IntKind.wrap .u64 (IntKind.wrap .i64 (0 - (IntKind.wrap .i64 (a0 + (1 : Int)))))) + (1 : Int)))) (resV_one (resVs_tmp rfl resVs_nil)) (.keep rfl)
  · replace h := ite_F p101 h
    refine awp_skip ?_
    refine nx_then ?_
    refine awp_rs ?_
    refine ro rfl rfl (st_mv rfl) ?_
    refine ro rfl rfl (st_conv rfl un3 un91) ?_
    refine ro rfl rfl (st_as rfl) ?_
    refine rw_nilk ?_
    refine awp_ret ?_
    injection h with h
    subst h
    exact ret_out (v := dI .u64 (IntKind.wrap .u64 a0)) (resV_one (resVs_tmp rfl resVs_nil)) (.keep rfl)

theorem ok_skolemref01_literal {a0 : Int} {r : Bool} (h : F_skolemref01_literal a0 = some r) : Fn Tryz.prog 73 [dI .i64 a0] (dB r) := by
  unfold F_skolemref01_literal at h
  refine Fn.of_body (N := 10) (rs := [.tmp 2]) Tryz.func73 (c := _) rfl rfl rfl (by kernel_rfl) (Nat.le_of_ble_eq_true rfl) (fun _B => ?_)
  refine awp_rs ?_
  refine ro rfl rfl (st_as rfl) ?_
  refine rw_nilk ?_
  refine awp_rs ?_
  refine ro rfl rfl (st_mv rfl) ?_
  refine ro rfl rfl (st_bin (v := dB (a0 != (0 : Int))) rfl rfl rfl) ?_
  refine ro rfl rfl (st_mv rfl) ?_
  refine bool_split (a0 != (0 : Int)) (fun p103 => ?_) (fun p103 => ?_)
  · replace h := ite_T p103 h
    rw [p103]
    refine ro rfl rfl (st_mv rfl) ?_
    obtain ⟨y104, hy104, h⟩ := bind_some_elim h
    refine rf rfl rfl (ok_skolemref01_size hy104) rfl rfl ?_
    refine ro rfl rfl (st_bin (v := dB (decide (y104 ≤ (65536 : Int)))) rfl rfl rfl) ?_
    refine ro rfl rfl (st_pickT rfl rfl) ?_
    refine ro rfl rfl (st_as rfl) ?_
    refine rw_nilk ?_
    refine awp_ret ?_
    injection h with h
    subst h
    exact ret_out (v := dB (decide (y104 ≤ (65536 : Int)))) (resV_one (resVs_tmp rfl resVs_nil)) (.keep rfl)
  · replace h := ite_F p103 h
    rw [p103]
    refine rz rfl rfl ?_
    refine rz rfl rfl ?_
    refine rz rfl rfl ?_
    refine ro rfl rfl (st_pickF rfl rfl) ?_
    refine ro rfl rfl (st_as rfl) ?_
    refine rw_nilk ?_
    refine awp_ret ?_
    injection h with h
    subst h
    exact ret_out (v := dB false) (resV_one (resVs_tmp rfl resVs_nil)) (.keep rfl)

theorem ok_skolemref01_Var {a0 : Int} {r : Int} (h : F_skolemref01_Var a0 = some r) : Fn Tryz.prog 26 [dI .i64 a0] (dI .i64 r) := by
  unfold F_skolemref01_Var at h
  refine Fn.of_body (N := 9) (rs := [.tmp 2]) Tryz.func26 (c := _) rfl rfl rfl (by kernel_rfl) (Nat.le_of_ble_eq_true rfl) (fun _B => ?_)
  refine awp_rs ?_
  refine ro rfl rfl (st_as rfl) ?_
  refine rw_nilk ?_
  refine awp_seq ?_
  refine awp_rs ?_
  refine ro rfl rfl (st_mv rfl) ?_
  obtain ⟨y101, hy101, h⟩ := bind_some_elim h
  refine rf rfl rfl (ok_skolemref01_literal hy101) rfl rfl ?_
  refine ro rfl rfl (st_un (v := dB (!y101)) rfl rfl) ?_
  refine rw_nilk ?_
  refine awp_ite (b := (!y101)) rfl (fun p102 => ?_) (fun p102 => ?_)
  · replace h := ite_T p102 h
    refine awp_rs ?_
    refine ro rfl rfl (st_as rfl) ?_
    refine rw_nilk ?_
    refine awp_ret ?_
    refine rt_then ?_
    injection h with h
    subst h
    exact ret_out (v := dI .i64 (0 : Int)) (resV_one (resVs_tmp rfl resVs_nil)) (.keep rfl)
  · replace h := ite_F p102 h
    refine awp_skip ?_
    refine nx_then ?_
    refine awp_rs ?_
    refine ro rfl rfl (st_mv rfl) ?_
    obtain ⟨y103, hy103, h⟩ := bind_some_elim h
    refine rf rfl rfl (ok_skolemref01_size hy103) rfl rfl ?_
    refine ro rfl rfl (st_conv rfl un91 un3) ?_
    refine ro rfl rfl (st_as rfl) ?_
    refine rw_nilk ?_
    refine awp_ret ?_
    injection h with h
    subst h
    exact ret_out (v := dI .i64 (IntKind.wrap .i64 y103)) (resV_one (resVs_tmp rfl resVs_nil)) (.keep rfl)

theorem ok_skolemref01_Has {a0 : (List Int)} {a1 : Int} {r : Bool} (h : F_skolemref01_Has a0 a1 = some r) : Fn Tryz.prog 68 [dL 1 (eI .i64) a0, dI .i64 a1] (dB r) := by
  unfold F_skolemref01_Has at h
  refine Fn.of_body (N := 18) (rs := [.tmp 4]) Tryz.func68 (c := _) rfl rfl rfl (by kernel_rfl) (Nat.le_of_ble_eq_true rfl) (fun _B => ?_)
  refine awp_rs ?_
  refine ro rfl rfl (st_as rfl) ?_
  refine rw_nilk ?_
  refine awp_seq ?_
  refine awp_rs ?_
  refine ro rfl rfl (st_as rfl) ?_
  refine rw_nilk ?_
  refine awp_block ?_
  refine awp_len (t := 0) rfl (fun hl104 => ?_)
  rw [List.length_map] at hl104
  refine awp_range (fun (j104 : Nat) (s101 : Unit) (g102 : Unit) => [(0, dL 1 (eI .i64) a0), (1, dI .i64 a1), (5, dI .i64 ((j104 : Nat) : Int))]) (fun (s101 : Unit) (g102 : Unit) => []) () (fun _ _ _ h => h) h (gh_frz rfl rfl ⟨⟨_, rfl, .keep rfl⟩, ⟨_, rfl, .keep rfl⟩, ⟨_, rfl, .keep rfl⟩, trivial⟩ trivial) ?_ ?_
  · clear h
    intro j104 x105 s101 g102 k103 hj104 hx104 h ih103
    refine awp_seq ?_
    refine awp_rs ?_
    refine ro rfl rfl (st_mv rfl) ?_
    refine ro rfl rfl (st_mv rfl) ?_
    refine ro rfl rfl (st_lenD rfl un22) ?_
    refine ro rfl rfl (st_bin (v := dB (decide (((j104 : Nat) : Int) < ((a0.length : Nat) : Int)))) rfl rfl rfl) ?_
    refine rw_nilk ?_
    refine awp_ifT rfl (dlt hj104) ?_
    refine awp_skip ?_
    refine nx_then ?_
    refine awp_seq ?_
    refine awp_block ?_
    refine awp_rs ?_
    refine ro rfl rfl (st_mv rfl) ?_
    refine ro rfl rfl (st_mv rfl) ?_
    refine ro rfl rfl (st_ixDn sl22 rfl rfl hx104) ?_
    refine ro rfl rfl (st_ldD (v := dI .i64 x105) ta3 rfl rfl) ?_
    refine ro rfl rfl (st_mv rfl) ?_
    refine ro rfl rfl (st_bin (v := dB (x105 == a1)) rfl rfl rfl) ?_
    refine rw_nilk ?_
    refine awp_ite (b := (x105 == a1)) rfl (fun p107 => ?_) (fun p107 => ?_)
    · replace h := ite_T p107 h
      refine awp_rs ?_
      refine ro rfl rfl (st_as rfl) ?_
      refine rw_nilk ?_
      refine awp_ret ?_
      refine rt_block ?_
      refine rt_then ?_
      refine rt_then ?_
      refine rt_block ?_
      refine rt_then ?_
      injection h with h
      subst h
      exact ret_out (v := dB true) (resV_one (resVs_tmp rfl resVs_nil)) (.keep rfl)
    · replace h := ite_F p107 h
      refine awp_skip ?_
      refine nx_block ?_
      refine nx_then ?_
      refine awp_rw ?_
      refine ro rfl rfl (st_mv rfl) ?_
      refine ro rfl rfl (st_inc rfl rfl hj104 hl104) ?_
      refine ro rfl rfl (st_as rfl) ?_
      refine rw_nil ?_
      refine nx_then ?_
      refine awp_gh ?_ (ih103 () () h)
      exact (gh_frz rfl rfl ⟨⟨_, rfl, .keep rfl⟩, ⟨_, rfl, .keep rfl⟩, ⟨_, rfl, .keep rfl⟩, trivial⟩ trivial)
  · clear h
    intro s101 g102 h
    refine awp_seq ?_
    refine awp_rs ?_
    refine ro rfl rfl (st_mv rfl) ?_
    refine ro rfl rfl (st_mv rfl) ?_
    refine ro rfl rfl (st_lenD rfl un22) ?_
    refine ro rfl rfl (st_bin (v := dB (decide (((a0.length : Nat) : Int) < ((a0.length : Nat) : Int)))) rfl rfl rfl) ?_
    refine rw_nilk ?_
    refine awp_ifF rfl dge ?_
    refine awp_exit ?_
    refine ex_out ?_
    refine ex_out ?_
    refine ex_in ?_
    refine nx_then ?_
    refine awp_rs ?_
    refine ro rfl rfl (st_as rfl) ?_
    refine rw_nilk ?_
    refine awp_ret ?_
    injection h with h
    subst h
    exact ret_out (v := dB false) (resV_one (resVs_tmp rfl resVs_nil)) (.keep rfl)

theorem ok_skolemref13_Universal {a0 : S_api_Dqbf} {a1 : Int} {r : Bool} (h : F_skolemref13_Universal a0 a1 = some r) : Fn Tryz.prog 29 [.agg [dL 1 (eI .i64) a0.Univ, dL 2 e_S_api_Dep a0.Exist, dL 1 (eL 1 (eI .i64)) a0.Clauses], dI .i64 a1] (dB r) := by
  unfold F_skolemref13_Universal at h
  refine Fn.of_body (N := 9) (rs := [.tmp 4]) Tryz.func29 (c := _) rfl rfl rfl (by kernel_rfl) (Nat.le_of_ble_eq_true rfl) (fun _B => ?_)
  refine awp_rs ?_
  refine rn (r := 1001) rfl rfl (st_box rfl rfl rfl co26 rfl rfl) rfl ?_
  refine ro rfl rfl (st_as rfl) ?_
  refine rw_nilk ?_
  refine awp_rs ?_
  refine ro rfl rfl (st_faP fo26_0 rfl) ?_
  refine ro rfl rfl (st_ldP (v := dL 1 (eI .i64) a0.Univ) ta22 rfl rfl rfl rfl) ?_
  refine ro rfl rfl (st_mv rfl) ?_
  obtain ⟨y101, hy101, h⟩ := bind_some_elim h
  refine rf rfl rfl (ok_skolemref01_Has hy101) rfl rfl ?_
  refine ro rfl rfl (st_as rfl) ?_
  refine rw_nilk ?_
  refine awp_ret ?_
  injection h with h
  subst h
  exact ret_out (v := dB y101) (resV_one (resVs_tmp rfl resVs_nil)) (.keep rfl)

theorem ok_skolemref13_Decided {a0 : S_api_Dqbf} {r : Int} (h : F_skolemref13_Decided a0 = some r) : Fn Tryz.prog 14 [.agg [dL 1 (eI .i64) a0.Univ, dL 2 e_S_api_Dep a0.Exist, dL 1 (eL 1 (eI .i64)) a0.Clauses]] (dI .u8 r) := by
  unfold F_skolemref13_Decided at h
  refine Fn.of_body (N := 45) (rs := [.tmp 2]) Tryz.func14 (c := _) rfl rfl rfl (by kernel_rfl) (Nat.le_of_ble_eq_true rfl) (fun _B => ?_)
  refine awp_rs ?_
  refine rn (r := 1001) rfl rfl (st_box rfl rfl rfl co26 rfl rfl) rfl ?_
  refine ro rfl rfl (st_as rfl) ?_
  refine rw_nilk ?_
  refine awp_seq ?_
  refine awp_rs ?_
  refine ro rfl rfl (st_ldP (v := .agg [dL 1 (eI .i64) a0.Univ, dL 2 e_S_api_Dep a0.Exist, dL 1 (eL 1 (eI .i64)) a0.Clauses]) ta26 rfl rfl rfl rfl) ?_
  obtain ⟨y101, hy101, h⟩ := bind_some_elim h
  refine rf rfl rfl (ok_skolemref03_MayDqbf hy101) rfl rfl ?_
  refine ro rfl rfl (st_un (v := dB (!y101)) rfl rfl) ?_
  refine rw_nilk ?_
  refine awp_ite (b := (!y101)) rfl (fun p102 => ?_) (fun p102 => ?_)
  · replace h := ite_T p102 h
    refine awp_rs ?_
    refine ro rfl rfl (st_as rfl) ?_
    refine rw_nilk ?_
    refine awp_ret ?_
    refine rt_then ?_
    injection h with h
    subst h
    exact ret_out (v := dI .u8 (0 : Int)) (resV_one (resVs_tmp rfl resVs_nil)) (.keep rfl)
  · replace h := ite_F p102 h
    refine awp_skip ?_
    refine nx_then ?_
    refine awp_seq ?_
    refine awp_rs ?_
    refine ro rfl rfl (st_as rfl) ?_
    refine rw_nilk ?_
    refine awp_block ?_
    refine awp_lenA (t := 0) (i := 2) rfl rfl (fun hl106 => ?_)
    rw [List.length_map] at hl106
    refine awp_range (fun (j106 : Nat) (s103 : Unit) (g104 : Unit) => [(1, .ptr 1001 0 0 0), (3, dI .i64 ((j106 : Nat) : Int))]) (fun (s103 : Unit) (g104 : Unit) => [(1001, .row 0 26 [[dL 1 (eI .i64) a0.Univ, dL 2 e_S_api_Dep a0.Exist, dL 1 (eL 1 (eI .i64)) a0.Clauses]])]) () (fun _ _ _ h => h) h (gh_frz rfl rfl ⟨⟨_, rfl, .keep rfl⟩, ⟨_, rfl, .keep rfl⟩, trivial⟩ ⟨⟨_, rfl, objOne ⟨⟨rfl, .keep rfl⟩, ⟨rfl, .keep rfl⟩, ⟨rfl, .keep rfl⟩, trivial⟩⟩, trivial⟩) ?_ ?_
    · clear h
      intro j106 x107 s103 g104 k105 hj106 hx106 h ih105
      refine awp_seq ?_
      refine awp_rs ?_
      refine ro rfl rfl (st_mv rfl) ?_
      refine ro rfl rfl (st_faP fo26_2 rfl) ?_
      refine ro rfl rfl (st_ldP (v := dL 1 (eL 1 (eI .i64)) a0.Clauses) ta24 rfl rfl rfl rfl) ?_
      refine ro rfl rfl (st_lenD rfl un24) ?_
      refine ro rfl rfl (st_bin (v := dB (decide (((j106 : Nat) : Int) < ((a0.Clauses.length : Nat) : Int)))) rfl rfl rfl) ?_
      refine rw_nilk ?_
      refine awp_ifT rfl (dlt hj106) ?_
      refine awp_skip ?_
      refine nx_then ?_
      refine awp_seq ?_
      refine awp_block ?_
      refine awp_rs ?_
      refine ro rfl rfl (st_as rfl) ?_
      refine rw_nilk ?_
      refine awp_seq ?_
      refine awp_rs ?_
      refine ro rfl rfl (st_as rfl) ?_
      refine rw_nilk ?_
      refine awp_block ?_
      refine awp_while (fun (s148 : (Bool × Int)) (g149 : Unit) => [(1, .ptr 1001 0 0 0), (3, dI .i64 ((j106 : Nat) : Int)), (4, dB s148.1), (5, dI .i64 s148.2)]) (fun (s148 : (Bool × Int)) (g149 : Unit) => [(1001, .row 0 26 [[dL 1 (eI .i64) a0.Univ, dL 2 e_S_api_Dep a0.Exist, dL 1 (eL 1 (eI .i64)) a0.Clauses]])]) () (fun _ _ _ h => h) h (gh_frz rfl rfl ⟨⟨_, rfl, .keep rfl⟩, ⟨_, rfl, .keep rfl⟩, ⟨_, rfl, .keep rfl⟩, ⟨_, rfl, .keep rfl⟩, trivial⟩ ⟨⟨_, rfl, objOne ⟨⟨rfl, .keep rfl⟩, ⟨rfl, .keep rfl⟩, ⟨rfl, .keep rfl⟩, trivial⟩⟩, trivial⟩) ?_
      clear h
      intro s148 g149 k150 h ih150
      refine awp_seq ?_
      refine awp_rs ?_
      refine ro rfl rfl (st_mv rfl) ?_
      refine ro rfl rfl (st_faP fo26_2 rfl) ?_
      refine ro rfl rfl (st_ldP (v := dL 1 (eL 1 (eI .i64)) a0.Clauses) ta24 rfl rfl rfl rfl) ?_
      refine ro rfl rfl (st_mv rfl) ?_
      refine ro rfl rfl (st_ixDn sl24 rfl rfl hx106) ?_
      refine ro rfl rfl (st_ldD (v := dL 1 (eI .i64) x107) ta22 rfl rfl) ?_
      refine ro rfl rfl (st_lenD rfl un22) ?_
      refine ro rfl rfl (st_bin (v := dB (decide (s148.2 < ((x107.length : Nat) : Int)))) rfl rfl rfl) ?_
      refine rw_nilk ?_
      refine awp_ite (b := (decide (s148.2 < ((x107.length : Nat) : Int)))) rfl (fun p175 => ?_) (fun p175 => ?_)
      · replace h := ite_T p175 h
        refine awp_skip ?_
        refine nx_then ?_
        refine awp_jn (fun (s180 : Bool) (g181 : Unit) => [(1, .ptr 1001 0 0 0), (3, dI .i64 ((j106 : Nat) : Int)), (4, dB s180), (5, dI .i64 s148.2)]) (fun (s180 : Bool) (g181 : Unit) => [(1001, .row 0 26 [[dL 1 (eI .i64) a0.Univ, dL 2 e_S_api_Dep a0.Exist, dL 1 (eL 1 (eI .i64)) a0.Clauses]])]) h ?_ ?_
        · clear h
          intro s180 g181 h
          refine awp_rw ?_
          refine ro rfl rfl (st_mv rfl) ?_
          refine ro rfl rfl (st_bin (v := dI .i64 (IntKind.wrap .i64 (s148.2 + (1 : Int)))) rfl rfl rfl) ?_
          refine ro rfl rfl (st_as rfl) ?_
          refine rw_nil ?_
          refine nx_then ?_
          refine awp_gh ?_ (ih150 (s180, (IntKind.wrap .i64 (s148.2 + (1 : Int)))) () h)
          exact (gh_frz rfl rfl ⟨⟨_, rfl, .keep rfl⟩, ⟨_, rfl, .keep rfl⟩, ⟨_, rfl, .keep rfl⟩, ⟨_, rfl, .keep rfl⟩, trivial⟩ ⟨⟨_, rfl, objOne ⟨⟨rfl, .keep rfl⟩, ⟨rfl, .keep rfl⟩, ⟨rfl, .keep rfl⟩, trivial⟩⟩, trivial⟩)
        · clear h
          intro k182 h J182
          refine awp_block ?_
          refine awp_rd hmix ?_
          refine do_ rfl rfl (st_mv rfl) rfl rfl rfl ?_
          refine do_ rfl rfl (st_mv rfl) rfl rfl rfl ?_
          refine bool_split s148.1 (fun p183 => ?_) (fun p183 => ?_)
          · replace h := ite_T p183 h
            rw [p183]
            refine do_ rfl rfl (st_ldP (v := .agg [dL 1 (eI .i64) a0.Univ, dL 2 e_S_api_Dep a0.Exist, dL 1 (eL 1 (eI .i64)) a0.Clauses]) ta26 rfl rfl rfl rfl) rfl rfl rfl ?_
            refine do_ rfl rfl (st_faP fo26_2 rfl) rfl rfl rfl ?_
            refine do_ rfl rfl (st_ldP (v := dL 1 (eL 1 (eI .i64)) a0.Clauses) ta24 rfl rfl rfl rfl) rfl rfl rfl ?_
            refine do_ rfl rfl (st_mv rfl) rfl rfl rfl ?_
            refine do_ rfl rfl (st_ixDn sl24 rfl rfl hx106) rfl rfl rfl ?_
            refine do_ rfl rfl (st_ldD (v := dL 1 (eI .i64) x107) ta22 rfl rfl) rfl rfl rfl ?_
            refine do_ rfl rfl (st_mv rfl) rfl rfl rfl ?_
            obtain ⟨x184, h0184, hx184, h⟩ := getI_some h
            refine do_ rfl rfl (st_ixD sl22 rfl rfl h0184 hx184) rfl rfl rfl ?_
            refine do_ rfl rfl (st_ldD (v := dI .i64 x184) ta3 rfl rfl) rfl rfl rfl ?_
            obtain ⟨y185, hy185, h⟩ := bind_some_elim h
            refine df rfl rfl (ok_skolemref01_Var hy185) rfl rfl ?_
            obtain ⟨y186, hy186, h⟩ := bind_some_elim h
            refine df rfl rfl (ok_skolemref13_Universal hy186) rfl rfl ?_
            refine do_ rfl rfl (st_pickT rfl rfl) rfl rfl rfl ?_
            refine do_ rfl rfl (st_as rfl) rfl rfl rfl ?_
            refine rd_nil (by kernel_rfl) ?_
            refine nx_block ?_
            refine nx_then ?_
            exact J182 y186 () _ _ h (gh_frz rfl rfl ⟨⟨_, rfl, .keep rfl⟩, ⟨_, rfl, .keep rfl⟩, ⟨_, rfl, .keep rfl⟩, ⟨_, rfl, .keep rfl⟩, trivial⟩ ⟨⟨_, rfl, objOne ⟨⟨rfl, .keep rfl⟩, ⟨rfl, .keep rfl⟩, ⟨rfl, .keep rfl⟩, trivial⟩⟩, trivial⟩)
          · replace h := ite_F p183 h
            rw [p183]
            refine dz rfl rfl ?_
            refine dz rfl rfl ?_
            refine dz rfl rfl ?_
            refine dz rfl rfl ?_
            refine dz rfl rfl ?_
            refine dz rfl rfl ?_
            refine dz rfl rfl ?_
            refine dz rfl rfl ?_
            refine dz rfl rfl ?_
            refine dz rfl rfl ?_
            refine dz rfl rfl ?_
            refine do_ rfl rfl (st_pickF rfl rfl) rfl rfl rfl ?_
            refine do_ rfl rfl (st_as rfl) rfl rfl rfl ?_
            refine rd_nil (by kernel_rfl) ?_
            refine nx_block ?_
            refine nx_then ?_
            exact J182 false () _ _ h (gh_frz rfl rfl ⟨⟨_, rfl, .keep rfl⟩, ⟨_, rfl, .keep rfl⟩, ⟨_, rfl, .keep rfl⟩, ⟨_, rfl, .keep rfl⟩, trivial⟩ ⟨⟨_, rfl, objOne ⟨⟨rfl, .keep rfl⟩, ⟨rfl, .keep rfl⟩, ⟨rfl, .keep rfl⟩, trivial⟩⟩, trivial⟩)
      · replace h := ite_F p175 h
        refine awp_exit ?_
        refine ex_out ?_
        refine ex_out ?_
        refine ex_in ?_
        refine nx_then ?_
        refine awp_rs ?_
        refine ro rfl rfl (st_mv rfl) ?_
        refine rw_nilk ?_
        refine awp_ite (b := s148.1) rfl (fun p187 => ?_) (fun p187 => ?_)
        · replace h := ite_T p187 h
          refine awp_rs ?_
          refine ro rfl rfl (st_as rfl) ?_
          refine rw_nilk ?_
          refine awp_ret ?_
          refine rt_block ?_
          refine rt_then ?_
          refine rt_then ?_
          refine rt_block ?_
          refine rt_then ?_
          injection h with h
          subst h
          exact ret_out (v := dI .u8 (2 : Int)) (resV_one (resVs_tmp rfl resVs_nil)) (.keep rfl)
        · replace h := ite_F p187 h
          refine awp_skip ?_
          refine nx_block ?_
          refine nx_then ?_
          refine awp_rw ?_
          refine ro rfl rfl (st_mv rfl) ?_
          refine ro rfl rfl (st_inc rfl rfl hj106 hl106) ?_
          refine ro rfl rfl (st_as rfl) ?_
          refine rw_nil ?_
          refine nx_then ?_
          refine awp_gh ?_ (ih105 () () h)
          exact (gh_frz rfl rfl ⟨⟨_, rfl, .keep rfl⟩, ⟨_, rfl, .keep rfl⟩, trivial⟩ ⟨⟨_, rfl, objOne ⟨⟨rfl, .keep rfl⟩, ⟨rfl, .keep rfl⟩, ⟨rfl, .keep rfl⟩, trivial⟩⟩, trivial⟩)
    · clear h
      intro s103 g104 h
      refine awp_seq ?_
      refine awp_rs ?_
      refine ro rfl rfl (st_mv rfl) ?_
      refine ro rfl rfl (st_faP fo26_2 rfl) ?_
      refine ro rfl rfl (st_ldP (v := dL 1 (eL 1 (eI .i64)) a0.Clauses) ta24 rfl rfl rfl rfl) ?_
      refine ro rfl rfl (st_lenD rfl un24) ?_
      refine ro rfl rfl (st_bin (v := dB (decide (((a0.Clauses.length : Nat) : Int) < ((a0.Clauses.length : Nat) : Int)))) rfl rfl rfl) ?_
      refine rw_nilk ?_
      refine awp_ifF rfl dge ?_
      refine awp_exit ?_
      refine ex_out ?_
      refine ex_out ?_
      refine ex_in ?_
      refine nx_then ?_
      refine awp_seq ?_
      refine awp_rs ?_
      refine ro rfl rfl (st_faP fo26_2 rfl) ?_
      refine ro rfl rfl (st_ldP (v := dL 1 (eL 1 (eI .i64)) a0.Clauses) ta24 rfl rfl rfl rfl) ?_
      refine ro rfl rfl (st_lenD rfl un24) ?_
      refine ro rfl rfl (st_bin (v := dB (((a0.Clauses.length : Nat) : Int) == (0 : Int))) rfl rfl rfl) ?_
      refine rw_nilk ?_
      refine awp_ite (b := (((a0.Clauses.length : Nat) : Int) == (0 : Int))) rfl (fun p188 => ?_) (fun p188 => ?_)
      · replace h := ite_T p188 h
        refine awp_rs ?_
        refine ro rfl rfl (st_as rfl) ?_
        refine rw_nilk ?_
        refine awp_ret ?_
        refine rt_then ?_
        injection h with h
        subst h
        exact ret_out (v := dI .u8 (1 : Int)) (resV_one (resVs_tmp rfl resVs_nil)) (.keep rfl)
      · replace h := ite_F p188 h
        refine awp_skip ?_
        refine nx_then ?_
        refine awp_rs ?_
        refine ro rfl rfl (st_as rfl) ?_
        refine rw_nilk ?_
        refine awp_ret ?_
        injection h with h
        subst h
        exact ret_out (v := dI .u8 (0 : Int)) (resV_one (resVs_tmp rfl resVs_nil)) (.keep rfl)

theorem ok_skolemref04_bits {a0 : S_api_Dqbf} {r : Int} (h : F_skolemref04_bits a0 = some r) : Fn Tryz.prog 109 [.agg [dL 1 (eI .i64) a0.Univ, dL 2 e_S_api_Dep a0.Exist, dL 1 (eL 1 (eI .i64)) a0.Clauses]] (dI .i64 r) := by
  unfold F_skolemref04_bits at h
  refine Fn.of_body (N := 29) (rs := [.tmp 2]) Tryz.func109 (c := _) rfl rfl rfl (by kernel_rfl) (Nat.le_of_ble_eq_true rfl) (fun _B => ?_)
  refine awp_rs ?_
  refine rn (r := 1001) rfl rfl (st_box rfl rfl rfl co26 rfl rfl) rfl ?_
  refine ro rfl rfl (st_as rfl) ?_
  refine rw_nilk ?_
  refine awp_rs ?_
  refine ro rfl rfl (st_as rfl) ?_
  refine rw_nilk ?_
  refine awp_seq ?_
  refine awp_rs ?_
  refine ro rfl rfl (st_as rfl) ?_
  refine rw_nilk ?_
  refine awp_block ?_
  refine awp_while (fun (s101 : (Int × Int)) (g102 : Unit) => [(1, .ptr 1001 0 0 0), (3, dI .i64 s101.1), (4, dI .i64 s101.2)]) (fun (s101 : (Int × Int)) (g102 : Unit) => [(1001, .row 0 26 [[dL 1 (eI .i64) a0.Univ, dL 2 e_S_api_Dep a0.Exist, dL 1 (eL 1 (eI .i64)) a0.Clauses]])]) () (fun _ _ _ h => h) h (gh_frz rfl rfl ⟨⟨_, rfl, .keep rfl⟩, ⟨_, rfl, .keep rfl⟩, ⟨_, rfl, .keep rfl⟩, trivial⟩ ⟨⟨_, rfl, objOne ⟨⟨rfl, .keep rfl⟩, ⟨rfl, .keep rfl⟩, ⟨rfl, .keep rfl⟩, trivial⟩⟩, trivial⟩) ?_
  clear h
  intro s101 g102 k103 h ih103
  refine awp_seq ?_
  refine awp_jn (fun (s141 : Bool) (g142 : Unit) => [(1, .ptr 1001 0 0 0), (3, dI .i64 s101.1), (4, dI .i64 s101.2), (13, dB s141)]) (fun (s141 : Bool) (g142 : Unit) => [(1001, .row 0 26 [[dL 1 (eI .i64) a0.Univ, dL 2 e_S_api_Dep a0.Exist, dL 1 (eL 1 (eI .i64)) a0.Clauses]])]) h ?_ ?_
  · clear h
    intro s141 g142 h
    refine awp_ite (b := s141) rfl (fun p144 => ?_) (fun p144 => ?_)
    · replace h := ite_T p144 h
      refine awp_skip ?_
      refine nx_then ?_
      refine awp_seq ?_
      refine awp_block ?_
      refine awp_rw ?_
      refine ro rfl rfl (st_mv rfl) ?_
      refine ro rfl rfl (st_faP fo26_1 rfl) ?_
      refine ro rfl rfl (st_ldP (v := dL 2 e_S_api_Dep a0.Exist) ta23 rfl rfl rfl rfl) ?_
      refine ro rfl rfl (st_mv rfl) ?_
      obtain ⟨x145, h0145, hx145, h⟩ := getI_some h
      refine ro rfl rfl (st_ixD sl23 rfl rfl h0145 hx145) ?_
      refine ro rfl rfl (st_faD fo44_1 rfl) ?_
      refine ro rfl rfl (st_ldD (v := dL 1 (eI .i64) x145.On) ta22 rfl rfl) ?_
      refine ro rfl rfl (st_lenD rfl un22) ?_
      refine ro rfl rfl (st_min rfl rfl) ?_
      refine ro rfl rfl (st_conv rfl un3 un115) ?_
      obtain ⟨c146, h⟩ := okI_some h
      refine ro rfl rfl (st_shl rfl rfl c146) ?_
      refine ro rfl rfl (st_bin (v := dI .i64 (IntKind.wrap .i64 (s101.1 + (IntKind.wrap .i64 ((1 : Int) * 2 ^ (min (IntKind.wrap .u64 (imn ((x145.On.length : Nat) : Int) (10 : Int))).toNat (IntKind.bits .i64))))))) rfl rfl rfl) ?_
      refine ro rfl rfl (st_as rfl) ?_
      refine rw_nil ?_
      refine nx_block ?_
      refine nx_then ?_
      refine awp_rw ?_
      refine ro rfl rfl (st_mv rfl) ?_
      refine ro rfl rfl (st_bin (v := dI .i64 (IntKind.wrap .i64 (s101.2 + (1 : Int)))) rfl rfl rfl) ?_
      refine ro rfl rfl (st_as rfl) ?_
      refine rw_nil ?_
      refine nx_then ?_
      refine awp_gh ?_ (ih103 ((IntKind.wrap .i64 (s101.1 + (IntKind.wrap .i64 ((1 : Int) * 2 ^ (min (IntKind.wrap .u64 (imn ((x145.On.length : Nat) : Int) (10 : Int))).toNat (IntKind.bits .i64)))))), (IntKind.wrap .i64 (s101.2 + (1 : Int)))) () h)
      exact (gh_frz rfl rfl ⟨⟨_, rfl, .keep rfl⟩, ⟨_, rfl, .keep rfl⟩, ⟨_, rfl, .keep rfl⟩, trivial⟩ ⟨⟨_, rfl, objOne ⟨⟨rfl, .keep rfl⟩, ⟨rfl, .keep rfl⟩, ⟨rfl, .keep rfl⟩, trivial⟩⟩, trivial⟩)
    · replace h := ite_F p144 h
      refine awp_exit ?_
      refine ex_out ?_
      refine ex_out ?_
      refine ex_in ?_
      refine nx_then ?_
      refine awp_rs ?_
      refine ro rfl rfl (st_mv rfl) ?_
      refine ro rfl rfl (st_as rfl) ?_
      refine rw_nilk ?_
      refine awp_ret ?_
      injection h with h
      subst h
      exact ret_out (v := dI .i64 s101.1) (resV_one (resVs_tmp rfl resVs_nil)) (.keep rfl)
  · clear h
    intro k143 h J143
    refine awp_rw ?_
    refine ro rfl rfl (st_mv rfl) ?_
    refine ro rfl rfl (st_faP fo26_1 rfl) ?_
    refine ro rfl rfl (st_ldP (v := dL 2 e_S_api_Dep a0.Exist) ta23 rfl rfl rfl rfl) ?_
    refine ro rfl rfl (st_lenD rfl un23) ?_
    refine ro rfl rfl (st_bin (v := dB (decide (s101.2 < ((a0.Exist.length : Nat) : Int)))) rfl rfl rfl) ?_
    refine ro rfl rfl (st_mv rfl) ?_
    refine bool_split (decide (s101.2 < ((a0.Exist.length : Nat) : Int))) (fun p147 => ?_) (fun p147 => ?_)
    · replace h := ite_T p147 h
      rw [p147]
      refine ro rfl rfl (st_mv rfl) ?_
      refine ro rfl rfl (st_bin (v := dB (decide (s101.1 ≤ (16 : Int)))) rfl rfl rfl) ?_
      refine ro rfl rfl (st_pickT rfl rfl) ?_
      refine rw_nil ?_
      refine nx_then ?_
      exact J143 (decide (s101.1 ≤ (16 : Int))) () _ _ h (gh_frz rfl rfl ⟨⟨_, rfl, .keep rfl⟩, ⟨_, rfl, .keep rfl⟩, ⟨_, rfl, .keep rfl⟩, ⟨_, rfl, .keep rfl⟩, trivial⟩ ⟨⟨_, rfl, objOne ⟨⟨rfl, .keep rfl⟩, ⟨rfl, .keep rfl⟩, ⟨rfl, .keep rfl⟩, trivial⟩⟩, trivial⟩)
    · replace h := ite_F p147 h
      rw [p147]
      refine rz rfl rfl ?_
      refine rz rfl rfl ?_
      refine ro rfl rfl (st_pickF rfl rfl) ?_
      refine rw_nil ?_
      refine nx_then ?_
      exact J143 false () _ _ h (gh_frz rfl rfl ⟨⟨_, rfl, .keep rfl⟩, ⟨_, rfl, .keep rfl⟩, ⟨_, rfl, .keep rfl⟩, ⟨_, rfl, .keep rfl⟩, trivial⟩ ⟨⟨_, rfl, objOne ⟨⟨rfl, .keep rfl⟩, ⟨rfl, .keep rfl⟩, ⟨rfl, .keep rfl⟩, trivial⟩⟩, trivial⟩)

theorem ok_skolemref04_check {a0 : S_api_Dqbf} {r : Int} (h : F_skolemref04_check a0 = some r) : Fn Tryz.prog 108 [.agg [dL 1 (eI .i64) a0.Univ, dL 2 e_S_api_Dep a0.Exist, dL 1 (eL 1 (eI .i64)) a0.Clauses]] (dI .i64 r) := by
  unfold F_skolemref04_check at h
  refine Fn.of_body (N := 15) (rs := [.tmp 2]) Tryz.func108 (c := _) rfl rfl rfl (by kernel_rfl) (Nat.le_of_ble_eq_true rfl) (fun _B => ?_)
  refine awp_rs ?_
  refine rn (r := 1001) rfl rfl (st_box rfl rfl rfl co26 rfl rfl) rfl ?_
  refine ro rfl rfl (st_as rfl) ?_
  refine rw_nilk ?_
  refine awp_seq ?_
  refine awp_rs ?_
  refine ro rfl rfl (st_ldP (v := .agg [dL 1 (eI .i64) a0.Univ, dL 2 e_S_api_Dep a0.Exist, dL 1 (eL 1 (eI .i64)) a0.Clauses]) ta26 rfl rfl rfl rfl) ?_
  obtain ⟨y101, hy101, h⟩ := bind_some_elim h
  refine rf rfl rfl (ok_skolemref03_MayDqbf hy101) rfl rfl ?_
  refine ro rfl rfl (st_un (v := dB (!y101)) rfl rfl) ?_
  refine rw_nilk ?_
  refine awp_ite (b := (!y101)) rfl (fun p102 => ?_) (fun p102 => ?_)
  · replace h := ite_T p102 h
    refine awp_rs ?_
    refine ro rfl rfl (st_as rfl) ?_
    refine rw_nilk ?_
    refine awp_ret ?_
    refine rt_then ?_
    injection h with h
    subst h
    exact ret_out (v := dI .i64 (2 : Int)) (resV_one (resVs_tmp rfl resVs_nil)) (.keep rfl)
  · replace h := ite_F p102 h
    refine awp_skip ?_
    refine nx_then ?_
    refine awp_seq ?_
    refine awp_jn (fun (s113 : Bool) (g114 : Unit) => [(14, dB s113)]) (fun (s113 : Bool) (g114 : Unit) => []) h ?_ ?_
    · clear h
      intro s113 g114 h
      refine awp_ite (b := s113) rfl (fun p116 => ?_) (fun p116 => ?_)
      · replace h := ite_T p116 h
        refine awp_rs ?_
        refine ro rfl rfl (st_as rfl) ?_
        refine rw_nilk ?_
        refine awp_ret ?_
        refine rt_then ?_
        injection h with h
        subst h
        exact ret_out (v := dI .i64 (3 : Int)) (resV_one (resVs_tmp rfl resVs_nil)) (.keep rfl)
      · replace h := ite_F p116 h
        refine awp_skip ?_
        refine nx_then ?_
        refine awp_rs ?_
        refine ro rfl rfl (st_as rfl) ?_
        refine rw_nilk ?_
        refine awp_ret ?_
        injection h with h
        subst h
        exact ret_out (v := dI .i64 (0 : Int)) (resV_one (resVs_tmp rfl resVs_nil)) (.keep rfl)
    · clear h
      intro k115 h J115
      refine awp_rw ?_
      refine ro rfl rfl (st_faP fo26_0 rfl) ?_
      refine ro rfl rfl (st_ldP (v := dL 1 (eI .i64) a0.Univ) ta22 rfl rfl rfl rfl) ?_
      refine ro rfl rfl (st_lenD rfl un22) ?_
      refine ro rfl rfl (st_bin (v := dB (decide (((a0.Univ.length : Nat) : Int) > (8 : Int)))) rfl rfl rfl) ?_
      refine ro rfl rfl (st_mv rfl) ?_
      refine bool_split (decide (((a0.Univ.length : Nat) : Int) > (8 : Int))) (fun p117 => ?_) (fun p117 => ?_)
      · replace h := ite_T p117 h
        rw [p117]
        refine rz rfl rfl ?_
        refine rz rfl rfl ?_
        refine rz rfl rfl ?_
        refine ro rfl rfl (st_pickT rfl rfl) ?_
        refine rw_nil ?_
        refine nx_then ?_
        exact J115 true () _ _ h (gh_frz rfl rfl ⟨⟨_, rfl, .keep rfl⟩, trivial⟩ trivial)
      · replace h := ite_F p117 h
        rw [p117]
        refine ro rfl rfl (st_ldP (v := .agg [dL 1 (eI .i64) a0.Univ, dL 2 e_S_api_Dep a0.Exist, dL 1 (eL 1 (eI .i64)) a0.Clauses]) ta26 rfl rfl rfl rfl) ?_
        obtain ⟨y118, hy118, h⟩ := bind_some_elim h
        refine rf rfl rfl (ok_skolemref04_bits hy118) rfl rfl ?_
        refine ro rfl rfl (st_bin (v := dB (decide (y118 > (16 : Int)))) rfl rfl rfl) ?_
        refine ro rfl rfl (st_pickF rfl rfl) ?_
        refine rw_nil ?_
        refine nx_then ?_
        exact J115 (decide (y118 > (16 : Int))) () _ _ h (gh_frz rfl rfl ⟨⟨_, rfl, .keep rfl⟩, trivial⟩ trivial)

theorem ok_skolemref04_numbered {a0 : S_api_Dqbf} {a1 : Int} {r : (List S_api_Table)} (h : F_skolemref04_numbered a0 a1 = some r) : Fn Tryz.prog 110 [.agg [dL 1 (eI .i64) a0.Univ, dL 2 e_S_api_Dep a0.Exist, dL 1 (eL 1 (eI .i64)) a0.Clauses], dI .i64 a1] (dL 3 e_S_api_Table r) := by
  unfold F_skolemref04_numbered at h
  refine Fn.of_body (N := 63) (rs := [.tmp 4]) Tryz.func110 (c := _) rfl rfl rfl (by kernel_rfl) (Nat.le_of_ble_eq_true rfl) (fun _B => ?_)
  refine awp_rs ?_
  refine rn (r := 1001) rfl rfl (st_box rfl rfl rfl co26 rfl rfl) rfl ?_
  refine ro rfl rfl (st_as rfl) ?_
  refine rw_nilk ?_
  refine awp_rs ?_
  refine ro rfl rfl (st_as rfl) ?_
  refine rw_nilk ?_
  refine awp_rs ?_
  refine ro rfl rfl (st_ldP (v := .agg [dL 1 (eI .i64) a0.Univ, dL 2 e_S_api_Dep a0.Exist, dL 1 (eL 1 (eI .i64)) a0.Clauses]) ta26 rfl rfl rfl rfl) ?_
  obtain ⟨y101, hy101, h⟩ := bind_some_elim h
  refine rf rfl rfl (ok_skolemref04_bits hy101) rfl rfl ?_
  refine ro rfl rfl (st_as rfl) ?_
  refine rw_nilk ?_
  refine awp_seq ?_
  refine awp_rs ?_
  refine ro rfl rfl (st_as rfl) ?_
  refine rw_nilk ?_
  refine awp_block ?_
  refine awp_lenA (t := 0) (i := 1) rfl rfl (fun hl105 => ?_)
  rw [List.length_map] at hl105
  refine awp_range (fun (j105 : Nat) (s102 : (Int × (List S_api_Table))) (g103 : Nat) => [(1, dI .i64 a1), (2, .ptr 1001 0 0 0), (5, .slice 1008 g103 0 s102.2.length), (6, dI .i64 s102.1), (7, dI .i64 ((j105 : Nat) : Int))]) (fun (s102 : (Int × (List S_api_Table))) (g103 : Nat) => [(1001, .row 0 26 [[dL 1 (eI .i64) a0.Univ, dL 2 e_S_api_Dep a0.Exist, dL 1 (eL 1 (eI .i64)) a0.Clauses]]), (1008, rw' g103 125 e_S_api_Table s102.2)]) 0 (fun _ _ _ h => h) h (Gh.trans (gh_nil (r := 1008) (E' := [(1, dI .i64 a1), (2, .ptr 1001 0 0 0), (5, .slice 1008 0 0 (([] : List S_api_Table).length)), (6, dI .i64 y101), (7, dI .i64 (0 : Int))]) (L' := [(1001, .row 0 26 [[dL 1 (eI .i64) a0.Univ, dL 2 e_S_api_Dep a0.Exist, dL 1 (eL 1 (eI .i64)) a0.Clauses]])]) rfl co125 rfl rfl ⟨⟨_, rfl, .keep _⟩, ⟨_, rfl, .keep _⟩, ⟨_, rfl, .nil⟩, ⟨_, rfl, .keep _⟩, ⟨_, rfl, .keep _⟩, trivial⟩ ⟨⟨_, rfl, .keep _⟩, trivial⟩) (gh_frz rfl rfl ⟨⟨_, rfl, .keep rfl⟩, ⟨_, rfl, .keep rfl⟩, ⟨_, rfl, .keep rfl⟩, ⟨_, rfl, .keep rfl⟩, ⟨_, rfl, .keep rfl⟩, trivial⟩ ⟨⟨_, rfl, objOne ⟨⟨rfl, .keep rfl⟩, ⟨rfl, .keep rfl⟩, ⟨rfl, .keep rfl⟩, trivial⟩⟩, ⟨_, rfl, objRow (List.map e_S_api_Table ([] : List S_api_Table))⟩, trivial⟩)) ?_ ?_
  · clear h
    intro j105 x106 s102 g103 k104 hj105 hx105 h ih104
    refine awp_seq ?_
    refine awp_rs ?_
    refine ro rfl rfl (st_mv rfl) ?_
    refine ro rfl rfl (st_faP fo26_1 rfl) ?_
    refine ro rfl rfl (st_ldP (v := dL 2 e_S_api_Dep a0.Exist) ta23 rfl rfl rfl rfl) ?_
    refine ro rfl rfl (st_lenD rfl un23) ?_
    refine ro rfl rfl (st_bin (v := dB (decide (((j105 : Nat) : Int) < ((a0.Exist.length : Nat) : Int)))) rfl rfl rfl) ?_
    refine rw_nilk ?_
    refine awp_ifT rfl (dlt hj105) ?_
    refine awp_skip ?_
    refine nx_then ?_
    refine awp_seq ?_
    refine awp_block ?_
    refine awp_rs ?_
    refine ro rfl rfl (st_faP fo26_1 rfl) ?_
    refine ro rfl rfl (st_ldP (v := dL 2 e_S_api_Dep a0.Exist) ta23 rfl rfl rfl rfl) ?_
    refine ro rfl rfl (st_mv rfl) ?_
    refine ro rfl rfl (st_ixDn sl23 rfl rfl hx105) ?_
    refine ro rfl rfl (st_faD fo44_0 rfl) ?_
    refine ro rfl rfl (st_ldD (v := dI .i64 x106.Var) ta3 rfl rfl) ?_
    refine ro rfl rfl (st_build (vs := [dI .i64 x106.Var, .nilS, .nilS]) bl125 rfl rfl) ?_
    refine rn (r := 1009) rfl rfl (st_alloc zc125 rfl rfl) rfl ?_
    refine rx (L' := [(1001, .row 0 26 [[dL 1 (eI .i64) a0.Univ, dL 2 e_S_api_Dep a0.Exist, dL 1 (eL 1 (eI .i64)) a0.Clauses]]), (1008, rw' g103 125 e_S_api_Table s102.2), (1009, .row 0 125 [[dI .i64 x106.Var, .nilS, .nilS]])]) rfl rfl (st_stP ta125 rfl rfl rfl rfl rfl rfl rfl rfl) rfl ?_
    refine rw_nilk ?_
    refine awp_rds hmix ?_
    refine do_ rfl rfl (st_faP fo125_1 rfl) rfl rfl rfl ?_
    refine do_ rfl rfl (st_ldP (v := .nilS) ta22 rfl rfl rfl rfl) rfl rfl rfl ?_
    refine do_ rfl rfl (st_faP fo26_1 rfl) rfl rfl rfl ?_
    refine do_ rfl rfl (st_ldP (v := dL 2 e_S_api_Dep a0.Exist) ta23 rfl rfl rfl rfl) rfl rfl rfl ?_
    refine do_ rfl rfl (st_mv rfl) rfl rfl rfl ?_
    refine do_ rfl rfl (st_ixDn sl23 rfl rfl hx105) rfl rfl rfl ?_
    refine do_ rfl rfl (st_faD fo44_1 rfl) rfl rfl rfl ?_
    refine do_ rfl rfl (st_ldD (v := dL 1 (eI .i64) x106.On) ta22 rfl rfl) rfl rfl rfl ?_
    obtain ⟨c179, h⟩ := capN_some h
    refine dn (r := 1010) rfl rfl (st_appN (f := (eI .i64)) (ys := x106.On) sl22 zc3 rfl rfl rfl rfl news_dat c179) rfl rfl rfl rfl ?_
    refine do_ rfl rfl (st_faP fo125_1 rfl) rfl rfl rfl ?_
    refine dx (L' := [(1001, .row 0 26 [[dL 1 (eI .i64) a0.Univ, dL 2 e_S_api_Dep a0.Exist, dL 1 (eL 1 (eI .i64)) a0.Clauses]]), (1008, rw' g103 125 e_S_api_Table s102.2), (1009, .row 0 125 [[dI .i64 x106.Var, .slice 1010 0 0 x106.On.length, .nilS]]), (1010, rw' 0 3 (eI .i64) x106.On)]) rfl rfl (st_stP ta22 rfl rfl rfl rfl rfl rfl rfl rfl) rfl rfl rfl rfl ?_
    refine rd_nil (by kernel_rfl) ?_
    refine awp_seq ?_
    refine awp_rs ?_
    refine ro rfl rfl (st_as rfl) ?_
    refine rw_nilk ?_
    refine awp_block ?_
    obtain ⟨hl183, h⟩ := okI_some h
    refine awp_up (fun (j183 : Int) (s180 : (Int × (List Bool))) (g181 : Nat) => [(1, dI .i64 a1), (2, .ptr 1001 0 0 0), (5, .slice 1008 g103 0 s102.2.length), (6, dI .i64 s180.1), (7, dI .i64 ((j105 : Nat) : Int)), (8, .ptr 1009 0 0 0), (9, dI .i64 j183)]) (fun (s180 : (Int × (List Bool))) (g181 : Nat) => [(1001, .row 0 26 [[dL 1 (eI .i64) a0.Univ, dL 2 e_S_api_Dep a0.Exist, dL 1 (eL 1 (eI .i64)) a0.Clauses]]), (1008, rw' g103 125 e_S_api_Table s102.2), (1009, .row 0 125 [[dI .i64 x106.Var, .slice 1010 0 0 x106.On.length, .slice 1012 g181 0 s180.2.length]]), (1010, rw' 0 3 (eI .i64) x106.On), (1012, rw' g181 4 eB s180.2)]) 0 (fun _ _ _ h => h) h (Gh.trans (gh_nil (r := 1012) (E' := [(1, dI .i64 a1), (2, .ptr 1001 0 0 0), (5, .slice 1008 g103 0 s102.2.length), (6, dI .i64 s102.1), (7, dI .i64 ((j105 : Nat) : Int)), (8, .ptr 1009 0 0 0), (9, dI .i64 (0 : Int))]) (L' := [(1001, .row 0 26 [[dL 1 (eI .i64) a0.Univ, dL 2 e_S_api_Dep a0.Exist, dL 1 (eL 1 (eI .i64)) a0.Clauses]]), (1008, rw' g103 125 e_S_api_Table s102.2), (1009, .row 0 125 [[dI .i64 x106.Var, .slice 1010 0 0 x106.On.length, .slice 1012 0 0 (([] : List Bool).length)]]), (1010, rw' 0 3 (eI .i64) x106.On)]) rfl co4 rfl rfl ⟨⟨_, rfl, .keep _⟩, ⟨_, rfl, .keep _⟩, ⟨_, rfl, .keep _⟩, ⟨_, rfl, .keep _⟩, ⟨_, rfl, .keep _⟩, ⟨_, rfl, .keep _⟩, ⟨_, rfl, .keep _⟩, trivial⟩ ⟨⟨_, rfl, .keep _⟩, ⟨_, rfl, .keep _⟩, ⟨_, rfl, nilOne ⟨.keep _, .keep _, .nil, trivial⟩⟩, ⟨_, rfl, .keep _⟩, trivial⟩) (gh_frz rfl rfl ⟨⟨_, rfl, .keep rfl⟩, ⟨_, rfl, .keep rfl⟩, ⟨_, rfl, .keep rfl⟩, ⟨_, rfl, .keep rfl⟩, ⟨_, rfl, .keep rfl⟩, ⟨_, rfl, .keep rfl⟩, ⟨_, rfl, .keep rfl⟩, trivial⟩ ⟨⟨_, rfl, objOne ⟨⟨rfl, .keep rfl⟩, ⟨rfl, .keep rfl⟩, ⟨rfl, .keep rfl⟩, trivial⟩⟩, ⟨_, rfl, objRow _⟩, ⟨_, rfl, objOne ⟨⟨rfl, .keep rfl⟩, ⟨rfl, .keep rfl⟩, ⟨rfl, .keep rfl⟩, trivial⟩⟩, ⟨_, rfl, objRow _⟩, ⟨_, rfl, objRow (List.map eB ([] : List Bool))⟩, trivial⟩)) ?_ ?_
    · clear h
      intro j183 s180 g181 k182 hj183 hx183 h ih182
      refine awp_seq ?_
      refine awp_rs ?_
      refine ro rfl rfl (st_mv rfl) ?_
      refine ro rfl rfl (st_faP fo125_1 rfl) ?_
      refine ro rfl rfl (st_ldP (v := .slice 1010 0 0 x106.On.length) ta22 rfl rfl rfl rfl) ?_
      refine ro rfl rfl (st_lenR rfl un22 rfl) ?_
      refine ro rfl rfl (st_conv rfl un3 un115) ?_
      obtain ⟨c198, h⟩ := okI_some h
      refine ro rfl rfl (st_shl rfl rfl c198) ?_
      refine ro rfl rfl (st_bin (v := dB (decide (j183 < (IntKind.wrap .i64 ((1 : Int) * 2 ^ (min (IntKind.wrap .u64 ((x106.On.length : Nat) : Int)).toNat (IntKind.bits .i64))))))) rfl rfl rfl) ?_
      refine rw_nilk ?_
      refine awp_ifT rfl (dltI (upT hj183 hx183)) ?_
      refine awp_skip ?_
      refine nx_then ?_
      refine awp_seq ?_
      refine awp_block ?_
      refine awp_rs ?_
      refine ro rfl rfl (st_mv rfl) ?_
      refine ro rfl rfl (st_bin (v := dI .i64 (IntKind.wrap .i64 (s180.1 - (1 : Int)))) rfl rfl rfl) ?_
      refine ro rfl rfl (st_as rfl) ?_
      refine rw_nilk ?_
      refine awp_rw ?_
      refine ro rfl rfl (st_faP fo125_2 rfl) ?_
      refine ro rfl rfl (st_ldP (v := .slice 1012 g181 0 s180.2.length) ta123 rfl rfl rfl rfl) ?_
      refine ro rfl rfl (st_mv rfl) ?_
      refine ro rfl rfl (st_mv rfl) ?_
      refine ro rfl rfl (st_conv rfl un3 un115) ?_
      obtain ⟨c199, h⟩ := okI_some h
      refine ro rfl rfl (st_shr rfl rfl c199) ?_
      refine ro rfl rfl (st_bin (v := dI .i64 (IntKind.wrap .i64 ((BitVec.ofInt (IntKind.bits .i64) (Int.fdiv a1 (2 ^ (min (IntKind.wrap .u64 (IntKind.wrap .i64 (s180.1 - (1 : Int)))).toNat (IntKind.bits .i64)))) &&& BitVec.ofInt (IntKind.bits .i64) (1 : Int)).toNat : Int))) rfl rfl rfl) ?_
      refine ro rfl rfl (st_bin (v := dB ((IntKind.wrap .i64 ((BitVec.ofInt (IntKind.bits .i64) (Int.fdiv a1 (2 ^ (min (IntKind.wrap .u64 (IntKind.wrap .i64 (s180.1 - (1 : Int)))).toNat (IntKind.bits .i64)))) &&& BitVec.ofInt (IntKind.bits .i64) (1 : Int)).toNat : Int)) == (1 : Int))) rfl rfl rfl) ?_
      refine rn (r := 1013) rfl rfl (st_bsl (els := [[dB ((IntKind.wrap .i64 ((BitVec.ofInt (IntKind.bits .i64) (Int.fdiv a1 (2 ^ (min (IntKind.wrap .u64 (IntKind.wrap .i64 (s180.1 - (1 : Int)))).toNat (IntKind.bits .i64)))) &&& BitVec.ofInt (IntKind.bits .i64) (1 : Int)).toNat : Int)) == (1 : Int))]]) sl123 zc4 rfl rfl rfl rfl rfl) rfl ?_
      obtain ⟨c200, h⟩ := capN_some h
      refine rn (r := 0) (L' := [(1001, .row 0 26 [[dL 1 (eI .i64) a0.Univ, dL 2 e_S_api_Dep a0.Exist, dL 1 (eL 1 (eI .i64)) a0.Clauses]]), (1008, rw' g103 125 e_S_api_Table s102.2), (1009, .row 0 125 [[dI .i64 x106.Var, .slice 1010 0 0 x106.On.length, .slice 1012 g181 0 s180.2.length]]), (1010, rw' 0 3 (eI .i64) x106.On), (1012, rw' (g181 + 2) 4 eB (s180.2 ++ [((IntKind.wrap .i64 ((BitVec.ofInt (IntKind.bits .i64) (Int.fdiv a1 (2 ^ (min (IntKind.wrap .u64 (IntKind.wrap .i64 (s180.1 - (1 : Int)))).toNat (IntKind.bits .i64)))) &&& BitVec.ofInt (IntKind.bits .i64) (1 : Int)).toNat : Int)) == (1 : Int))])), (1013, .row 1 4 [[dB ((IntKind.wrap .i64 ((BitVec.ofInt (IntKind.bits .i64) (Int.fdiv a1 (2 ^ (min (IntKind.wrap .u64 (IntKind.wrap .i64 (s180.1 - (1 : Int)))).toNat (IntKind.bits .i64)))) &&& BitVec.ofInt (IntKind.bits .i64) (1 : Int)).toNat : Int)) == (1 : Int))]])]) rfl rfl (st_appR (f := eB) (xs := s180.2) (ys := [((IntKind.wrap .i64 ((BitVec.ofInt (IntKind.bits .i64) (Int.fdiv a1 (2 ^ (min (IntKind.wrap .u64 (IntKind.wrap .i64 (s180.1 - (1 : Int)))).toNat (IntKind.bits .i64)))) &&& BitVec.ofInt (IntKind.bits .i64) (1 : Int)).toNat : Int)) == (1 : Int))]) sl123 zc4 rfl rfl rfl rfl rfl (news_one (a := ((IntKind.wrap .i64 ((BitVec.ofInt (IntKind.bits .i64) (Int.fdiv a1 (2 ^ (min (IntKind.wrap .u64 (IntKind.wrap .i64 (s180.1 - (1 : Int)))).toNat (IntKind.bits .i64)))) &&& BitVec.ofInt (IntKind.bits .i64) (1 : Int)).toNat : Int)) == (1 : Int))) rfl rfl) c200) rfl ?_
      refine ro rfl rfl (st_faP fo125_2 rfl) ?_
      refine rx (L' := [(1001, .row 0 26 [[dL 1 (eI .i64) a0.Univ, dL 2 e_S_api_Dep a0.Exist, dL 1 (eL 1 (eI .i64)) a0.Clauses]]), (1008, rw' g103 125 e_S_api_Table s102.2), (1009, .row 0 125 [[dI .i64 x106.Var, .slice 1010 0 0 x106.On.length, .slice 1012 (g181 + 2) 0 ((s180.2 ++ [((IntKind.wrap .i64 ((BitVec.ofInt (IntKind.bits .i64) (Int.fdiv a1 (2 ^ (min (IntKind.wrap .u64 (IntKind.wrap .i64 (s180.1 - (1 : Int)))).toNat (IntKind.bits .i64)))) &&& BitVec.ofInt (IntKind.bits .i64) (1 : Int)).toNat : Int)) == (1 : Int))]).length)]]), (1010, rw' 0 3 (eI .i64) x106.On), (1012, rw' (g181 + 2) 4 eB (s180.2 ++ [((IntKind.wrap .i64 ((BitVec.ofInt (IntKind.bits .i64) (Int.fdiv a1 (2 ^ (min (IntKind.wrap .u64 (IntKind.wrap .i64 (s180.1 - (1 : Int)))).toNat (IntKind.bits .i64)))) &&& BitVec.ofInt (IntKind.bits .i64) (1 : Int)).toNat : Int)) == (1 : Int))])), (1013, .row 1 4 [[dB ((IntKind.wrap .i64 ((BitVec.ofInt (IntKind.bits .i64) (Int.fdiv a1 (2 ^ (min (IntKind.wrap .u64 (IntKind.wrap .i64 (s180.1 - (1 : Int)))).toNat (IntKind.bits .i64)))) &&& BitVec.ofInt (IntKind.bits .i64) (1 : Int)).toNat : Int)) == (1 : Int))]])]) rfl rfl (st_stP ta123 rfl rfl rfl rfl rfl rfl rfl rfl) rfl ?_
      refine rw_nil ?_
      refine nx_block ?_
      refine nx_then ?_
      refine awp_rw ?_
      refine ro rfl rfl (st_mv rfl) ?_
      refine ro rfl rfl (st_incU rfl rfl hl183 hj183 hx183) ?_
      refine ro rfl rfl (st_as rfl) ?_
      refine rw_nil ?_
      refine nx_then ?_
      refine awp_gh ?_ (ih182 ((IntKind.wrap .i64 (s180.1 - (1 : Int))), (s180.2 ++ [((IntKind.wrap .i64 ((BitVec.ofInt (IntKind.bits .i64) (Int.fdiv a1 (2 ^ (min (IntKind.wrap .u64 (IntKind.wrap .i64 (s180.1 - (1 : Int)))).toNat (IntKind.bits .i64)))) &&& BitVec.ofInt (IntKind.bits .i64) (1 : Int)).toNat : Int)) == (1 : Int))])) (g181 + 2) h)
      exact (gh_frz rfl rfl ⟨⟨_, rfl, .keep rfl⟩, ⟨_, rfl, .keep rfl⟩, ⟨_, rfl, .keep rfl⟩, ⟨_, rfl, .keep rfl⟩, ⟨_, rfl, .keep rfl⟩, ⟨_, rfl, .keep rfl⟩, ⟨_, rfl, .keep rfl⟩, trivial⟩ ⟨⟨_, rfl, objOne ⟨⟨rfl, .keep rfl⟩, ⟨rfl, .keep rfl⟩, ⟨rfl, .keep rfl⟩, trivial⟩⟩, ⟨_, rfl, objRow _⟩, ⟨_, rfl, objOne ⟨⟨rfl, .keep rfl⟩, ⟨rfl, .keep rfl⟩, ⟨rfl, .keep rfl⟩, trivial⟩⟩, ⟨_, rfl, objRow _⟩, ⟨_, rfl, objRow _⟩, trivial⟩)
    · clear h
      intro s180 g181 h
      refine awp_seq ?_
      refine awp_rs ?_
      refine ro rfl rfl (st_mv rfl) ?_
      refine ro rfl rfl (st_faP fo125_1 rfl) ?_
      refine ro rfl rfl (st_ldP (v := .slice 1010 0 0 x106.On.length) ta22 rfl rfl rfl rfl) ?_
      refine ro rfl rfl (st_lenR rfl un22 rfl) ?_
      refine ro rfl rfl (st_conv rfl un3 un115) ?_
      obtain ⟨c201, h⟩ := okI_some h
      refine ro rfl rfl (st_shl rfl rfl c201) ?_
      refine ro rfl rfl (st_bin (v := dB (decide (((0 : Int) + ((((IntKind.wrap .i64 ((1 : Int) * 2 ^ (min (IntKind.wrap .u64 ((x106.On.length : Nat) : Int)).toNat (IntKind.bits .i64)))) - (0 : Int)).toNat : Nat) : Int)) < (IntKind.wrap .i64 ((1 : Int) * 2 ^ (min (IntKind.wrap .u64 ((x106.On.length : Nat) : Int)).toNat (IntKind.bits .i64))))))) rfl rfl rfl) ?_
      refine rw_nilk ?_
      refine awp_ifF rfl (dgeI upD) ?_
      refine awp_exit ?_
      refine ex_out ?_
      refine ex_out ?_
      refine ex_in ?_
      refine nx_then ?_
      refine awp_rw ?_
      refine ro rfl rfl (st_mv rfl) ?_
      refine ro rfl rfl (st_ldP (v := .agg [dI .i64 x106.Var, .slice 1010 0 0 x106.On.length, .slice 1012 g181 0 s180.2.length]) ta125 rfl rfl rfl rfl) ?_
      refine rn (r := 1014) rfl rfl (st_bsl (els := [[dI .i64 x106.Var, .slice 1010 0 0 x106.On.length, .slice 1012 g181 0 s180.2.length]]) sl100 zc125 rfl rfl rfl rfl rfl) rfl ?_
      refine RW.gh (gh_frz (E' := [(1, dI .i64 a1), (2, .ptr 1001 0 0 0), (6, dI .i64 s180.1), (7, dI .i64 ((j105 : Nat) : Int)), (58, .slice 1008 g103 0 s102.2.length), (60, .slice 1014 1 0 1)]) (L' := [(1001, .row 0 26 [[dL 1 (eI .i64) a0.Univ, dL 2 e_S_api_Dep a0.Exist, dL 1 (eL 1 (eI .i64)) a0.Clauses]]), (1008, rw' g103 125 e_S_api_Table s102.2), (1009, .row 0 125 [[dI .i64 x106.Var, dL 1 (eI .i64) x106.On, dL 1 eB s180.2]]), (1014, .row 1 125 [[dI .i64 x106.Var, dL 1 (eI .i64) x106.On, dL 1 eB s180.2]])]) rfl rfl ⟨⟨_, rfl, .keep rfl⟩, ⟨_, rfl, .keep rfl⟩, ⟨_, rfl, .keep rfl⟩, ⟨_, rfl, .keep rfl⟩, ⟨_, rfl, .keep rfl⟩, ⟨_, rfl, .keep rfl⟩, trivial⟩ ⟨⟨_, rfl, objOne ⟨⟨rfl, .keep rfl⟩, ⟨rfl, .keep rfl⟩, ⟨rfl, .keep rfl⟩, trivial⟩⟩, ⟨_, rfl, objRow _⟩, ⟨_, rfl, objOne ⟨⟨rfl, .keep rfl⟩, ⟨rfl, frzT rfl rfl co3 rfl⟩, ⟨rfl, frzT rfl rfl co4 rfl⟩, trivial⟩⟩, ⟨_, rfl, objOne ⟨⟨rfl, .keep rfl⟩, ⟨rfl, frzT rfl rfl co3 rfl⟩, ⟨rfl, frzT rfl rfl co4 rfl⟩, trivial⟩⟩, trivial⟩) ?_
      obtain ⟨c202, h⟩ := capN_some h
      refine rn (r := 0) (L' := [(1001, .row 0 26 [[dL 1 (eI .i64) a0.Univ, dL 2 e_S_api_Dep a0.Exist, dL 1 (eL 1 (eI .i64)) a0.Clauses]]), (1008, rw' (g103 + 2) 125 e_S_api_Table (s102.2 ++ [(S_api_Table.mk x106.Var x106.On s180.2)])), (1009, .row 0 125 [[dI .i64 x106.Var, dL 1 (eI .i64) x106.On, dL 1 eB s180.2]]), (1014, .row 1 125 [[dI .i64 x106.Var, dL 1 (eI .i64) x106.On, dL 1 eB s180.2]])]) rfl rfl (st_appR (f := e_S_api_Table) (xs := s102.2) (ys := [(S_api_Table.mk x106.Var x106.On s180.2)]) sl100 zc125 rfl rfl rfl rfl rfl (news_one (a := (S_api_Table.mk x106.Var x106.On s180.2)) rfl rfl) c202) rfl ?_
      refine ro rfl rfl (st_as rfl) ?_
      refine rw_nil ?_
      refine nx_block ?_
      refine nx_then ?_
      refine awp_rw ?_
      refine ro rfl rfl (st_mv rfl) ?_
      refine ro rfl rfl (st_inc rfl rfl hj105 hl105) ?_
      refine ro rfl rfl (st_as rfl) ?_
      refine rw_nil ?_
      refine nx_then ?_
      refine awp_gh ?_ (ih104 (s180.1, (s102.2 ++ [(S_api_Table.mk x106.Var x106.On s180.2)])) (g103 + 2) h)
      exact (gh_frz rfl rfl ⟨⟨_, rfl, .keep rfl⟩, ⟨_, rfl, .keep rfl⟩, ⟨_, rfl, .keep rfl⟩, ⟨_, rfl, .keep rfl⟩, ⟨_, rfl, .keep rfl⟩, trivial⟩ ⟨⟨_, rfl, objOne ⟨⟨rfl, .keep rfl⟩, ⟨rfl, .keep rfl⟩, ⟨rfl, .keep rfl⟩, trivial⟩⟩, ⟨_, rfl, objRow _⟩, trivial⟩)
  · clear h
    intro s102 g103 h
    refine awp_seq ?_
    refine awp_rs ?_
    refine ro rfl rfl (st_mv rfl) ?_
    refine ro rfl rfl (st_faP fo26_1 rfl) ?_
    refine ro rfl rfl (st_ldP (v := dL 2 e_S_api_Dep a0.Exist) ta23 rfl rfl rfl rfl) ?_
    refine ro rfl rfl (st_lenD rfl un23) ?_
    refine ro rfl rfl (st_bin (v := dB (decide (((a0.Exist.length : Nat) : Int) < ((a0.Exist.length : Nat) : Int)))) rfl rfl rfl) ?_
    refine rw_nilk ?_
    refine awp_ifF rfl dge ?_
    refine awp_exit ?_
    refine ex_out ?_
    refine ex_out ?_
    refine ex_in ?_
    refine nx_then ?_
    refine awp_rs ?_
    refine ro rfl rfl (st_mv rfl) ?_
    refine ro rfl rfl (st_as rfl) ?_
    refine rw_nilk ?_
    refine awp_ret ?_
    injection h with h
    subst h
    exact ret_out (v := .slice 1008 g103 0 s102.2.length) (resV_one (resVs_tmp rfl resVs_nil)) (frzT rfl rfl co125 rfl)

theorem ok_skolemref04_Point {a0 : (List Int)} {a1 : Int} {r : (List Int)} (h : F_skolemref04_Point a0 a1 = some r) : Fn Tryz.prog 119 [dL 1 (eI .i64) a0, dI .i64 a1] (dL 1 (eI .i64) r) := by
  unfold F_skolemref04_Point at h
  refine Fn.of_body (N := 31) (rs := [.tmp 4]) Tryz.func119 (c := _) rfl rfl rfl (by kernel_rfl) (Nat.le_of_ble_eq_true rfl) (fun _B => ?_)
  refine awp_rs ?_
  refine ro rfl rfl (st_as rfl) ?_
  refine rw_nilk ?_
  refine awp_rs ?_
  refine ro rfl rfl (st_as rfl) ?_
  refine rw_nilk ?_
  refine awp_seq ?_
  refine awp_rs ?_
  refine ro rfl rfl (st_as rfl) ?_
  refine rw_nilk ?_
  refine awp_block ?_
  refine awp_len (t := 0) rfl (fun hl104 => ?_)
  rw [List.length_map] at hl104
  refine awp_range (fun (j104 : Nat) (s101 : (List Int)) (g102 : Nat) => [(0, dL 1 (eI .i64) a0), (1, dI .i64 a1), (5, .slice 1002 g102 0 s101.length), (6, dI .i64 ((j104 : Nat) : Int))]) (fun (s101 : (List Int)) (g102 : Nat) => [(1002, rw' g102 3 (eI .i64) s101)]) 0 (fun _ _ _ h => h) h (Gh.trans (gh_nil (r := 1002) (E' := [(0, dL 1 (eI .i64) a0), (1, dI .i64 a1), (5, .slice 1002 0 0 (([] : List Int).length)), (6, dI .i64 (0 : Int))]) (L' := []) rfl co3 rfl rfl ⟨⟨_, rfl, .keep _⟩, ⟨_, rfl, .keep _⟩, ⟨_, rfl, .nil⟩, ⟨_, rfl, .keep _⟩, trivial⟩ trivial) (gh_frz rfl rfl ⟨⟨_, rfl, .keep rfl⟩, ⟨_, rfl, .keep rfl⟩, ⟨_, rfl, .keep rfl⟩, ⟨_, rfl, .keep rfl⟩, trivial⟩ ⟨⟨_, rfl, objRow (List.map (eI .i64) ([] : List Int))⟩, trivial⟩)) ?_ ?_
  · clear h
    intro j104 x105 s101 g102 k103 hj104 hx104 h ih103
    refine awp_seq ?_
    refine awp_rs ?_
    refine ro rfl rfl (st_mv rfl) ?_
    refine ro rfl rfl (st_mv rfl) ?_
    refine ro rfl rfl (st_lenD rfl un22) ?_
    refine ro rfl rfl (st_bin (v := dB (decide (((j104 : Nat) : Int) < ((a0.length : Nat) : Int)))) rfl rfl rfl) ?_
    refine rw_nilk ?_
    refine awp_ifT rfl (dlt hj104) ?_
    refine awp_skip ?_
    refine nx_then ?_
    refine awp_seq ?_
    refine awp_block ?_
    refine awp_rs ?_
    refine ro rfl rfl (st_mv rfl) ?_
    refine ro rfl rfl (st_mv rfl) ?_
    refine ro rfl rfl (st_ixDn sl22 rfl rfl hx104) ?_
    refine ro rfl rfl (st_ldD (v := dI .i64 x105) ta3 rfl rfl) ?_
    refine ro rfl rfl (st_as rfl) ?_
    refine rw_nilk ?_
    refine awp_jn (fun (s164 : Int) (g165 : Unit) => [(0, dL 1 (eI .i64) a0), (1, dI .i64 a1), (5, .slice 1002 g102 0 s101.length), (6, dI .i64 ((j104 : Nat) : Int)), (7, dI .i64 s164)]) (fun (s164 : Int) (g165 : Unit) => [(1002, rw' g102 3 (eI .i64) s101)]) h ?_ ?_
    · clear h
      intro s164 g165 h
      refine awp_rw ?_
      refine ro rfl rfl (st_mv rfl) ?_
      refine ro rfl rfl (st_mv rfl) ?_
      refine rn (r := 1003) rfl rfl (st_bsl (els := [[dI .i64 s164]]) sl22 zc3 rfl rfl rfl rfl rfl) rfl ?_
      obtain ⟨c167, h⟩ := capN_some h
      refine rn (r := 0) (L' := [(1002, rw' (g102 + 2) 3 (eI .i64) (s101 ++ [s164])), (1003, .row 1 3 [[dI .i64 s164]])]) rfl rfl (st_appR (f := (eI .i64)) (xs := s101) (ys := [s164]) sl22 zc3 rfl rfl rfl rfl rfl (news_one (a := s164) rfl rfl) c167) rfl ?_
      refine ro rfl rfl (st_as rfl) ?_
      refine rw_nil ?_
      refine nx_block ?_
      refine nx_then ?_
      refine awp_rw ?_
      refine ro rfl rfl (st_mv rfl) ?_
      refine ro rfl rfl (st_inc rfl rfl hj104 hl104) ?_
      refine ro rfl rfl (st_as rfl) ?_
      refine rw_nil ?_
      refine nx_then ?_
      refine awp_gh ?_ (ih103 (s101 ++ [s164]) (g102 + 2) h)
      exact (gh_frz rfl rfl ⟨⟨_, rfl, .keep rfl⟩, ⟨_, rfl, .keep rfl⟩, ⟨_, rfl, .keep rfl⟩, ⟨_, rfl, .keep rfl⟩, trivial⟩ ⟨⟨_, rfl, objRow _⟩, trivial⟩)
    · clear h
      intro k166 h J166
      refine awp_rs ?_
      refine ro rfl rfl (st_mv rfl) ?_
      refine ro rfl rfl (st_mv rfl) ?_
      refine ro rfl rfl (st_conv rfl un3 un115) ?_
      obtain ⟨c168, h⟩ := okI_some h
      refine ro rfl rfl (st_shr rfl rfl c168) ?_
      refine ro rfl rfl (st_bin (v := dI .i64 (IntKind.wrap .i64 ((BitVec.ofInt (IntKind.bits .i64) (Int.fdiv a1 (2 ^ (min (IntKind.wrap .u64 ((j104 : Nat) : Int)).toNat (IntKind.bits .i64)))) &&& BitVec.ofInt (IntKind.bits .i64) (1 : Int)).toNat : Int))) rfl rfl rfl) ?_
      refine ro rfl rfl (st_bin (v := dB ((IntKind.wrap .i64 ((BitVec.ofInt (IntKind.bits .i64) (Int.fdiv a1 (2 ^ (min (IntKind.wrap .u64 ((j104 : Nat) : Int)).toNat (IntKind.bits .i64)))) &&& BitVec.ofInt (IntKind.bits .i64) (1 : Int)).toNat : Int)) == (0 : Int))) rfl rfl rfl) ?_
      refine rw_nilk ?_
      refine awp_ite (b := ((IntKind.wrap .i64 ((BitVec.ofInt (IntKind.bits .i64) (Int.fdiv a1 (2 ^ (min (IntKind.wrap .u64 ((j104 : Nat) : Int)).toNat (IntKind.bits .i64)))) &&& BitVec.ofInt (IntKind.bits .i64) (1 : Int)).toNat : Int)) == (0 : Int))) rfl (fun p169 => ?_) (fun p169 => ?_)
      · replace h := ite_T p169 h
        refine awp_rw ?_
        refine ro rfl rfl (st_mv rfl) ?_
        refine ro rfl rfl (st_un (v := dI .i64 (IntKind.wrap .i64 (0 - x105))) rfl rfl) ?_
        refine ro rfl rfl (st_as rfl) ?_
        refine rw_nil ?_
        refine nx_then ?_
        exact J166 (IntKind.wrap .i64 (0 - x105)) () _ _ h (gh_frz rfl rfl ⟨⟨_, rfl, .keep rfl⟩, ⟨_, rfl, .keep rfl⟩, ⟨_, rfl, .keep rfl⟩, ⟨_, rfl, .keep rfl⟩, ⟨_, rfl, .keep rfl⟩, trivial⟩ ⟨⟨_, rfl, objRow _⟩, trivial⟩)
      · replace h := ite_F p169 h
        refine awp_skip ?_
        refine nx_then ?_
        exact J166 x105 () _ _ h (gh_frz rfl rfl ⟨⟨_, rfl, .keep rfl⟩, ⟨_, rfl, .keep rfl⟩, ⟨_, rfl, .keep rfl⟩, ⟨_, rfl, .keep rfl⟩, ⟨_, rfl, .keep rfl⟩, trivial⟩ ⟨⟨_, rfl, objRow _⟩, trivial⟩)
  · clear h
    intro s101 g102 h
    refine awp_seq ?_
    refine awp_rs ?_
    refine ro rfl rfl (st_mv rfl) ?_
    refine ro rfl rfl (st_mv rfl) ?_
    refine ro rfl rfl (st_lenD rfl un22) ?_
    refine ro rfl rfl (st_bin (v := dB (decide (((a0.length : Nat) : Int) < ((a0.length : Nat) : Int)))) rfl rfl rfl) ?_
    refine rw_nilk ?_
    refine awp_ifF rfl dge ?_
    refine awp_exit ?_
    refine ex_out ?_
    refine ex_out ?_
    refine ex_in ?_
    refine nx_then ?_
    refine awp_rs ?_
    refine ro rfl rfl (st_mv rfl) ?_
    refine ro rfl rfl (st_as rfl) ?_
    refine rw_nilk ?_
    refine awp_ret ?_
    injection h with h
    subst h
    exact ret_out (v := .slice 1002 g102 0 s101.length) (resV_one (resVs_tmp rfl resVs_nil)) (frzT rfl rfl co3 rfl)

theorem ok_skolemref04_Lit {a0 : Int} {a1 : Bool} {r : Int} (h : F_skolemref04_Lit a0 a1 = some r) : Fn Tryz.prog 120 [dI .i64 a0, dB a1] (dI .i64 r) := by
  unfold F_skolemref04_Lit at h
  refine Fn.of_body (N := 9) (rs := [.tmp 4]) Tryz.func120 (c := _) rfl rfl rfl (by kernel_rfl) (Nat.le_of_ble_eq_true rfl) (fun _B => ?_)
  refine awp_rs ?_
  refine ro rfl rfl (st_as rfl) ?_
  refine rw_nilk ?_
  refine awp_seq ?_
  refine awp_rs ?_
  refine ro rfl rfl (st_mv rfl) ?_
  refine rw_nilk ?_
  refine awp_ite (b := a1) rfl (fun p101 => ?_) (fun p101 => ?_)
  · replace h := ite_T p101 h
    refine awp_rs ?_
    refine ro rfl rfl (st_mv rfl) ?_
    refine ro rfl rfl (st_as rfl) ?_
    refine rw_nilk ?_
    refine awp_ret ?_
    refine rt_then ?_
    injection h with h
    subst h
    exact ret_out (v := dI .i64 a0) (resV_one (resVs_tmp rfl resVs_nil)) (.keep rfl)
  · replace h := ite_F p101 h
    refine awp_skip ?_
    refine nx_then ?_
    refine awp_rs ?_
    refine ro rfl rfl (st_mv rfl) ?_
    refine ro rfl rfl (st_un (v := dI .i64 (IntKind.wrap .i64 (0 - a0))) rfl rfl) ?_
    refine ro rfl rfl (st_as rfl) ?_
    refine rw_nilk ?_
    refine awp_ret ?_
    injection h with h
    subst h
    exact ret_out (v := dI .i64 (IntKind.wrap .i64 (0 - a0))) (resV_one (resVs_tmp rfl resVs_nil)) (.keep rfl)

theorem ok_skolemref04_At {a0 : S_api_Table} {a1 : (List Int)} {r : Bool} (h : F_skolemref04_At a0 a1 = some r) : Fn Tryz.prog 121 [.agg [dI .i64 a0.Var, dL 1 (eI .i64) a0.On, dL 1 eB a0.Bits], dL 1 (eI .i64) a1] (dB r) := by
  unfold F_skolemref04_At at h
  refine Fn.of_body (N := 31) (rs := [.tmp 4]) Tryz.func121 (c := _) rfl rfl rfl (by kernel_rfl) (Nat.le_of_ble_eq_true rfl) (fun _B => ?_)
  refine awp_rs ?_
  refine rn (r := 1001) rfl rfl (st_box rfl rfl rfl co125 rfl rfl) rfl ?_
  refine ro rfl rfl (st_as rfl) ?_
  refine rw_nilk ?_
  refine awp_rs ?_
  refine ro rfl rfl (st_as rfl) ?_
  refine rw_nilk ?_
  refine awp_seq ?_
  refine awp_rs ?_
  refine ro rfl rfl (st_as rfl) ?_
  refine rw_nilk ?_
  refine awp_block ?_
  refine awp_lenA (t := 0) (i := 1) rfl rfl (fun hl104 => ?_)
  rw [List.length_map] at hl104
  refine awp_range (fun (j104 : Nat) (s101 : Int) (g102 : Unit) => [(1, dL 1 (eI .i64) a1), (2, .ptr 1001 0 0 0), (5, dI .i64 s101), (6, dI .i64 ((j104 : Nat) : Int))]) (fun (s101 : Int) (g102 : Unit) => [(1001, .row 0 125 [[dI .i64 a0.Var, dL 1 (eI .i64) a0.On, dL 1 eB a0.Bits]])]) () (fun _ _ _ h => h) h (gh_frz rfl rfl ⟨⟨_, rfl, .keep rfl⟩, ⟨_, rfl, .keep rfl⟩, ⟨_, rfl, .keep rfl⟩, ⟨_, rfl, .keep rfl⟩, trivial⟩ ⟨⟨_, rfl, objOne ⟨⟨rfl, .keep rfl⟩, ⟨rfl, .keep rfl⟩, ⟨rfl, .keep rfl⟩, trivial⟩⟩, trivial⟩) ?_ ?_
  · clear h
    intro j104 x105 s101 g102 k103 hj104 hx104 h ih103
    refine awp_seq ?_
    refine awp_rs ?_
    refine ro rfl rfl (st_mv rfl) ?_
    refine ro rfl rfl (st_faP fo125_1 rfl) ?_
    refine ro rfl rfl (st_ldP (v := dL 1 (eI .i64) a0.On) ta22 rfl rfl rfl rfl) ?_
    refine ro rfl rfl (st_lenD rfl un22) ?_
    refine ro rfl rfl (st_bin (v := dB (decide (((j104 : Nat) : Int) < ((a0.On.length : Nat) : Int)))) rfl rfl rfl) ?_
    refine rw_nilk ?_
    refine awp_ifT rfl (dlt hj104) ?_
    refine awp_skip ?_
    refine nx_then ?_
    refine awp_jn (fun (s127 : Int) (g128 : Unit) => [(1, dL 1 (eI .i64) a1), (2, .ptr 1001 0 0 0), (5, dI .i64 s127), (6, dI .i64 ((j104 : Nat) : Int))]) (fun (s127 : Int) (g128 : Unit) => [(1001, .row 0 125 [[dI .i64 a0.Var, dL 1 (eI .i64) a0.On, dL 1 eB a0.Bits]])]) h ?_ ?_
    · clear h
      intro s127 g128 h
      refine awp_rw ?_
      refine ro rfl rfl (st_mv rfl) ?_
      refine ro rfl rfl (st_inc rfl rfl hj104 hl104) ?_
      refine ro rfl rfl (st_as rfl) ?_
      refine rw_nil ?_
      refine nx_then ?_
      refine awp_gh ?_ (ih103 s127 () h)
      exact (gh_frz rfl rfl ⟨⟨_, rfl, .keep rfl⟩, ⟨_, rfl, .keep rfl⟩, ⟨_, rfl, .keep rfl⟩, ⟨_, rfl, .keep rfl⟩, trivial⟩ ⟨⟨_, rfl, objOne ⟨⟨rfl, .keep rfl⟩, ⟨rfl, .keep rfl⟩, ⟨rfl, .keep rfl⟩, trivial⟩⟩, trivial⟩)
    · clear h
      intro k129 h J129
      refine awp_block ?_
      refine awp_rs ?_
      refine ro rfl rfl (st_mv rfl) ?_
      refine ro rfl rfl (st_faP fo125_1 rfl) ?_
      refine ro rfl rfl (st_ldP (v := dL 1 (eI .i64) a0.On) ta22 rfl rfl rfl rfl) ?_
      refine ro rfl rfl (st_mv rfl) ?_
      refine ro rfl rfl (st_ixDn sl22 rfl rfl hx104) ?_
      refine ro rfl rfl (st_ldD (v := dI .i64 x105) ta3 rfl rfl) ?_
      obtain ⟨y130, hy130, h⟩ := bind_some_elim h
      refine rf rfl rfl (ok_skolemref03_Has hy130) rfl rfl ?_
      refine rw_nilk ?_
      refine awp_ite (b := y130) rfl (fun p131 => ?_) (fun p131 => ?_)
      · replace h := ite_T p131 h
        refine awp_rw ?_
        refine ro rfl rfl (st_mv rfl) ?_
        refine ro rfl rfl (st_mv rfl) ?_
        refine ro rfl rfl (st_conv rfl un3 un115) ?_
        obtain ⟨c132, h⟩ := okI_some h
        refine ro rfl rfl (st_shl rfl rfl c132) ?_
        refine ro rfl rfl (st_bin (v := dI .i64 (IntKind.wrap .i64 (s101 + (IntKind.wrap .i64 ((1 : Int) * 2 ^ (min (IntKind.wrap .u64 ((j104 : Nat) : Int)).toNat (IntKind.bits .i64))))))) rfl rfl rfl) ?_
        refine ro rfl rfl (st_as rfl) ?_
        refine rw_nil ?_
        refine nx_block ?_
        refine nx_then ?_
        exact J129 (IntKind.wrap .i64 (s101 + (IntKind.wrap .i64 ((1 : Int) * 2 ^ (min (IntKind.wrap .u64 ((j104 : Nat) : Int)).toNat (IntKind.bits .i64)))))) () _ _ h (gh_frz rfl rfl ⟨⟨_, rfl, .keep rfl⟩, ⟨_, rfl, .keep rfl⟩, ⟨_, rfl, .keep rfl⟩, ⟨_, rfl, .keep rfl⟩, trivial⟩ ⟨⟨_, rfl, objOne ⟨⟨rfl, .keep rfl⟩, ⟨rfl, .keep rfl⟩, ⟨rfl, .keep rfl⟩, trivial⟩⟩, trivial⟩)
      · replace h := ite_F p131 h
        refine awp_skip ?_
        refine nx_block ?_
        refine nx_then ?_
        exact J129 s101 () _ _ h (gh_frz rfl rfl ⟨⟨_, rfl, .keep rfl⟩, ⟨_, rfl, .keep rfl⟩, ⟨_, rfl, .keep rfl⟩, ⟨_, rfl, .keep rfl⟩, trivial⟩ ⟨⟨_, rfl, objOne ⟨⟨rfl, .keep rfl⟩, ⟨rfl, .keep rfl⟩, ⟨rfl, .keep rfl⟩, trivial⟩⟩, trivial⟩)
  · clear h
    intro s101 g102 h
    refine awp_seq ?_
    refine awp_rs ?_
    refine ro rfl rfl (st_mv rfl) ?_
    refine ro rfl rfl (st_faP fo125_1 rfl) ?_
    refine ro rfl rfl (st_ldP (v := dL 1 (eI .i64) a0.On) ta22 rfl rfl rfl rfl) ?_
    refine ro rfl rfl (st_lenD rfl un22) ?_
    refine ro rfl rfl (st_bin (v := dB (decide (((a0.On.length : Nat) : Int) < ((a0.On.length : Nat) : Int)))) rfl rfl rfl) ?_
    refine rw_nilk ?_
    refine awp_ifF rfl dge ?_
    refine awp_exit ?_
    refine ex_out ?_
    refine ex_out ?_
    refine ex_in ?_
    refine nx_then ?_
    refine awp_rs ?_
    refine ro rfl rfl (st_faP fo125_2 rfl) ?_
    refine ro rfl rfl (st_ldP (v := dL 1 eB a0.Bits) ta123 rfl rfl rfl rfl) ?_
    refine ro rfl rfl (st_mv rfl) ?_
    obtain ⟨x133, h0133, hx133, h⟩ := getI_some h
    refine ro rfl rfl (st_ixD sl123 rfl rfl h0133 hx133) ?_
    refine ro rfl rfl (st_ldD (v := dB x133) ta4 rfl rfl) ?_
    refine ro rfl rfl (st_as rfl) ?_
    refine rw_nilk ?_
    refine awp_ret ?_
    injection h with h
    subst h
    exact ret_out (v := dB x133) (resV_one (resVs_tmp rfl resVs_nil)) (.keep rfl)

theorem ok_skolemref04_Satisfied {a0 : (List (List Int))} {a1 : (List Int)} {r : Bool} (h : F_skolemref04_Satisfied a0 a1 = some r) : Fn Tryz.prog 122 [dL 1 (eL 1 (eI .i64)) a0, dL 1 (eI .i64) a1] (dB r) := by
  unfold F_skolemref04_Satisfied at h
  refine Fn.of_body (N := 37) (rs := [.tmp 4]) Tryz.func122 (c := _) rfl rfl rfl (by kernel_rfl) (Nat.le_of_ble_eq_true rfl) (fun _B => ?_)
  refine awp_rs ?_
  refine ro rfl rfl (st_as rfl) ?_
  refine rw_nilk ?_
  refine awp_seq ?_
  refine awp_rs ?_
  refine ro rfl rfl (st_as rfl) ?_
  refine rw_nilk ?_
  refine awp_block ?_
  refine awp_len (t := 0) rfl (fun hl104 => ?_)
  rw [List.length_map] at hl104
  refine awp_range (fun (j104 : Nat) (s101 : Unit) (g102 : Unit) => [(0, dL 1 (eL 1 (eI .i64)) a0), (1, dL 1 (eI .i64) a1), (5, dI .i64 ((j104 : Nat) : Int))]) (fun (s101 : Unit) (g102 : Unit) => []) () (fun _ _ _ h => h) h (gh_frz rfl rfl ⟨⟨_, rfl, .keep rfl⟩, ⟨_, rfl, .keep rfl⟩, ⟨_, rfl, .keep rfl⟩, trivial⟩ trivial) ?_ ?_
  · clear h
    intro j104 x105 s101 g102 k103 hj104 hx104 h ih103
    refine awp_seq ?_
    refine awp_rs ?_
    refine ro rfl rfl (st_mv rfl) ?_
    refine ro rfl rfl (st_mv rfl) ?_
    refine ro rfl rfl (st_lenD rfl un24) ?_
    refine ro rfl rfl (st_bin (v := dB (decide (((j104 : Nat) : Int) < ((a0.length : Nat) : Int)))) rfl rfl rfl) ?_
    refine rw_nilk ?_
    refine awp_ifT rfl (dlt hj104) ?_
    refine awp_skip ?_
    refine nx_then ?_
    refine awp_seq ?_
    refine awp_block ?_
    refine awp_rs ?_
    refine ro rfl rfl (st_as rfl) ?_
    refine rw_nilk ?_
    refine awp_seq ?_
    refine awp_rs ?_
    refine ro rfl rfl (st_as rfl) ?_
    refine rw_nilk ?_
    refine awp_block ?_
    refine awp_while (fun (s140 : (Bool × Int)) (g141 : Unit) => [(0, dL 1 (eL 1 (eI .i64)) a0), (1, dL 1 (eI .i64) a1), (5, dI .i64 ((j104 : Nat) : Int)), (6, dB s140.1), (7, dI .i64 s140.2)]) (fun (s140 : (Bool × Int)) (g141 : Unit) => []) () (fun _ _ _ h => h) h (gh_frz rfl rfl ⟨⟨_, rfl, .keep rfl⟩, ⟨_, rfl, .keep rfl⟩, ⟨_, rfl, .keep rfl⟩, ⟨_, rfl, .keep rfl⟩, ⟨_, rfl, .keep rfl⟩, trivial⟩ trivial) ?_
    clear h
    intro s140 g141 k142 h ih142
    refine awp_seq ?_
    refine awp_rs ?_
    refine ro rfl rfl (st_mv rfl) ?_
    refine ro rfl rfl (st_mv rfl) ?_
    refine ro rfl rfl (st_mv rfl) ?_
    refine ro rfl rfl (st_ixDn sl24 rfl rfl hx104) ?_
    refine ro rfl rfl (st_ldD (v := dL 1 (eI .i64) x105) ta22 rfl rfl) ?_
    refine ro rfl rfl (st_lenD rfl un22) ?_
    refine ro rfl rfl (st_bin (v := dB (decide (s140.2 < ((x105.length : Nat) : Int)))) rfl rfl rfl) ?_
    refine rw_nilk ?_
    refine awp_ite (b := (decide (s140.2 < ((x105.length : Nat) : Int)))) rfl (fun p163 => ?_) (fun p163 => ?_)
    · replace h := ite_T p163 h
      refine awp_skip ?_
      refine nx_then ?_
      refine awp_jn (fun (s167 : Bool) (g168 : Unit) => [(0, dL 1 (eL 1 (eI .i64)) a0), (1, dL 1 (eI .i64) a1), (5, dI .i64 ((j104 : Nat) : Int)), (6, dB s167), (7, dI .i64 s140.2)]) (fun (s167 : Bool) (g168 : Unit) => []) h ?_ ?_
      · clear h
        intro s167 g168 h
        refine awp_rw ?_
        refine ro rfl rfl (st_mv rfl) ?_
        refine ro rfl rfl (st_bin (v := dI .i64 (IntKind.wrap .i64 (s140.2 + (1 : Int)))) rfl rfl rfl) ?_
        refine ro rfl rfl (st_as rfl) ?_
        refine rw_nil ?_
        refine nx_then ?_
        refine awp_gh ?_ (ih142 (s167, (IntKind.wrap .i64 (s140.2 + (1 : Int)))) () h)
        exact (gh_frz rfl rfl ⟨⟨_, rfl, .keep rfl⟩, ⟨_, rfl, .keep rfl⟩, ⟨_, rfl, .keep rfl⟩, ⟨_, rfl, .keep rfl⟩, ⟨_, rfl, .keep rfl⟩, trivial⟩ trivial)
      · clear h
        intro k169 h J169
        refine awp_block ?_
        refine awp_rw ?_
        refine ro rfl rfl (st_mv rfl) ?_
        refine ro rfl rfl (st_mv rfl) ?_
        refine bool_split s140.1 (fun p170 => ?_) (fun p170 => ?_)
        · replace h := ite_T p170 h
          rw [p170]
          refine rz rfl rfl ?_
          refine rz rfl rfl ?_
          refine rz rfl rfl ?_
          refine rz rfl rfl ?_
          refine rz rfl rfl ?_
          refine rz rfl rfl ?_
          refine rz rfl rfl ?_
          refine rz rfl rfl ?_
          refine rz rfl rfl ?_
          refine ro rfl rfl (st_pickT rfl rfl) ?_
          refine ro rfl rfl (st_as rfl) ?_
          refine rw_nil ?_
          refine nx_block ?_
          refine nx_then ?_
          exact J169 true () _ _ h (gh_frz rfl rfl ⟨⟨_, rfl, .keep rfl⟩, ⟨_, rfl, .keep rfl⟩, ⟨_, rfl, .keep rfl⟩, ⟨_, rfl, .keep rfl⟩, ⟨_, rfl, .keep rfl⟩, trivial⟩ trivial)
        · replace h := ite_F p170 h
          rw [p170]
          refine ro rfl rfl (st_mv rfl) ?_
          refine ro rfl rfl (st_mv rfl) ?_
          refine ro rfl rfl (st_mv rfl) ?_
          refine ro rfl rfl (st_ixDn sl24 rfl rfl hx104) ?_
          refine ro rfl rfl (st_ldD (v := dL 1 (eI .i64) x105) ta22 rfl rfl) ?_
          refine ro rfl rfl (st_mv rfl) ?_
          obtain ⟨x171, h0171, hx171, h⟩ := getI_some h
          refine ro rfl rfl (st_ixD sl22 rfl rfl h0171 hx171) ?_
          refine ro rfl rfl (st_ldD (v := dI .i64 x171) ta3 rfl rfl) ?_
          obtain ⟨y172, hy172, h⟩ := bind_some_elim h
          refine rf rfl rfl (ok_skolemref03_Has hy172) rfl rfl ?_
          refine ro rfl rfl (st_pickF rfl rfl) ?_
          refine ro rfl rfl (st_as rfl) ?_
          refine rw_nil ?_
          refine nx_block ?_
          refine nx_then ?_
          exact J169 y172 () _ _ h (gh_frz rfl rfl ⟨⟨_, rfl, .keep rfl⟩, ⟨_, rfl, .keep rfl⟩, ⟨_, rfl, .keep rfl⟩, ⟨_, rfl, .keep rfl⟩, ⟨_, rfl, .keep rfl⟩, trivial⟩ trivial)
    · replace h := ite_F p163 h
      refine awp_exit ?_
      refine ex_out ?_
      refine ex_out ?_
      refine ex_in ?_
      refine nx_then ?_
      refine awp_rs ?_
      refine ro rfl rfl (st_mv rfl) ?_
      refine ro rfl rfl (st_un (v := dB (!s140.1)) rfl rfl) ?_
      refine rw_nilk ?_
      refine awp_ite (b := (!s140.1)) rfl (fun p173 => ?_) (fun p173 => ?_)
      · replace h := ite_T p173 h
        refine awp_rs ?_
        refine ro rfl rfl (st_as rfl) ?_
        refine rw_nilk ?_
        refine awp_ret ?_
        refine rt_block ?_
        refine rt_then ?_
        refine rt_then ?_
        refine rt_block ?_
        refine rt_then ?_
        injection h with h
        subst h
        exact ret_out (v := dB false) (resV_one (resVs_tmp rfl resVs_nil)) (.keep rfl)
      · replace h := ite_F p173 h
        refine awp_skip ?_
        refine nx_block ?_
        refine nx_then ?_
        refine awp_rw ?_
        refine ro rfl rfl (st_mv rfl) ?_
        refine ro rfl rfl (st_inc rfl rfl hj104 hl104) ?_
        refine ro rfl rfl (st_as rfl) ?_
        refine rw_nil ?_
        refine nx_then ?_
        refine awp_gh ?_ (ih103 () () h)
        exact (gh_frz rfl rfl ⟨⟨_, rfl, .keep rfl⟩, ⟨_, rfl, .keep rfl⟩, ⟨_, rfl, .keep rfl⟩, trivial⟩ trivial)
  · clear h
    intro s101 g102 h
    refine awp_seq ?_
    refine awp_rs ?_
    refine ro rfl rfl (st_mv rfl) ?_
    refine ro rfl rfl (st_mv rfl) ?_
    refine ro rfl rfl (st_lenD rfl un24) ?_
    refine ro rfl rfl (st_bin (v := dB (decide (((a0.length : Nat) : Int) < ((a0.length : Nat) : Int)))) rfl rfl rfl) ?_
    refine rw_nilk ?_
    refine awp_ifF rfl dge ?_
    refine awp_exit ?_
    refine ex_out ?_
    refine ex_out ?_
    refine ex_in ?_
    refine nx_then ?_
    refine awp_rs ?_
    refine ro rfl rfl (st_as rfl) ?_
    refine rw_nilk ?_
    refine awp_ret ?_
    injection h with h
    subst h
    exact ret_out (v := dB true) (resV_one (resVs_tmp rfl resVs_nil)) (.keep rfl)

theorem ok_skolemref04_win {a0 : S_api_Dqbf} {a1 : (List S_api_Table)} {r : Bool} (h : F_skolemref04_win a0 a1 = some r) : Fn Tryz.prog 111 [.agg [dL 1 (eI .i64) a0.Univ, dL 2 e_S_api_Dep a0.Exist, dL 1 (eL 1 (eI .i64)) a0.Clauses], dL 3 e_S_api_Table a1] (dB r) := by
  unfold F_skolemref04_win at h
  refine Fn.of_body (N := 51) (rs := [.tmp 4]) Tryz.func111 (c := _) rfl rfl rfl (by kernel_rfl) (Nat.le_of_ble_eq_true rfl) (fun _B => ?_)
  refine awp_rs ?_
  refine rn (r := 1001) rfl rfl (st_box rfl rfl rfl co26 rfl rfl) rfl ?_
  refine ro rfl rfl (st_as rfl) ?_
  refine rw_nilk ?_
  refine awp_seq ?_
  refine awp_rs ?_
  refine ro rfl rfl (st_as rfl) ?_
  refine rw_nilk ?_
  refine awp_block ?_
  obtain ⟨hl104, h⟩ := okI_some h
  refine awp_up (fun (j104 : Int) (s101 : Unit) (g102 : Unit) => [(1, dL 3 e_S_api_Table a1), (2, .ptr 1001 0 0 0), (5, dI .i64 j104)]) (fun (s101 : Unit) (g102 : Unit) => [(1001, .row 0 26 [[dL 1 (eI .i64) a0.Univ, dL 2 e_S_api_Dep a0.Exist, dL 1 (eL 1 (eI .i64)) a0.Clauses]])]) () (fun _ _ _ h => h) h (gh_frz rfl rfl ⟨⟨_, rfl, .keep rfl⟩, ⟨_, rfl, .keep rfl⟩, ⟨_, rfl, .keep rfl⟩, trivial⟩ ⟨⟨_, rfl, objOne ⟨⟨rfl, .keep rfl⟩, ⟨rfl, .keep rfl⟩, ⟨rfl, .keep rfl⟩, trivial⟩⟩, trivial⟩) ?_ ?_
  · clear h
    intro j104 s101 g102 k103 hj104 hx104 h ih103
    refine awp_seq ?_
    refine awp_rs ?_
    refine ro rfl rfl (st_mv rfl) ?_
    refine ro rfl rfl (st_faP fo26_0 rfl) ?_
    refine ro rfl rfl (st_ldP (v := dL 1 (eI .i64) a0.Univ) ta22 rfl rfl rfl rfl) ?_
    refine ro rfl rfl (st_lenD rfl un22) ?_
    refine ro rfl rfl (st_conv rfl un3 un115) ?_
    obtain ⟨c127, h⟩ := okI_some h
    refine ro rfl rfl (st_shl rfl rfl c127) ?_
    refine ro rfl rfl (st_bin (v := dB (decide (j104 < (IntKind.wrap .i64 ((1 : Int) * 2 ^ (min (IntKind.wrap .u64 ((a0.Univ.length : Nat) : Int)).toNat (IntKind.bits .i64))))))) rfl rfl rfl) ?_
    refine rw_nilk ?_
    refine awp_ifT rfl (dltI (upT hj104 hx104)) ?_
    refine awp_skip ?_
    refine nx_then ?_
    refine awp_seq ?_
    refine awp_block ?_
    refine awp_rs ?_
    refine ro rfl rfl (st_faP fo26_0 rfl) ?_
    refine ro rfl rfl (st_ldP (v := dL 1 (eI .i64) a0.Univ) ta22 rfl rfl rfl rfl) ?_
    refine ro rfl rfl (st_mv rfl) ?_
    obtain ⟨y128, hy128, h⟩ := bind_some_elim h
    refine rf rfl rfl (ok_skolemref04_Point hy128) rfl rfl ?_
    refine ro rfl rfl (st_as rfl) ?_
    refine rw_nilk ?_
    refine awp_rs ?_
    refine rn (r := 1002) rfl rfl (st_bsl (els := []) sl22 zc3 rfl rfl rfl rfl rfl) rfl ?_
    refine ro rfl rfl (st_mv rfl) ?_
    obtain ⟨c129, h⟩ := capN_some h
    refine rn (r := 0) (L' := [(1001, .row 0 26 [[dL 1 (eI .i64) a0.Univ, dL 2 e_S_api_Dep a0.Exist, dL 1 (eL 1 (eI .i64)) a0.Clauses]]), (1002, rw' 3 3 (eI .i64) (([] : List Int) ++ y128))]) rfl rfl (st_appR (f := (eI .i64)) (xs := ([] : List Int)) (ys := y128) sl22 zc3 rfl rfl rfl rfl rfl news_dat c129) rfl ?_
    refine ro rfl rfl (st_as rfl) ?_
    refine rw_nilk ?_
    refine awp_seq ?_
    refine awp_rs ?_
    refine ro rfl rfl (st_as rfl) ?_
    refine rw_nilk ?_
    refine awp_block ?_
    refine awp_len (t := 1) rfl (fun hl133 => ?_)
    rw [List.length_map] at hl133
    refine awp_range (fun (j133 : Nat) (s130 : (List Int)) (g131 : Nat) => [(1, dL 3 e_S_api_Table a1), (2, .ptr 1001 0 0 0), (5, dI .i64 j104), (6, dL 1 (eI .i64) y128), (7, .slice 1002 g131 0 s130.length), (8, dI .i64 ((j133 : Nat) : Int))]) (fun (s130 : (List Int)) (g131 : Nat) => [(1001, .row 0 26 [[dL 1 (eI .i64) a0.Univ, dL 2 e_S_api_Dep a0.Exist, dL 1 (eL 1 (eI .i64)) a0.Clauses]]), (1002, rw' g131 3 (eI .i64) s130)]) 3 (fun _ _ _ h => h) h (gh_frz rfl rfl ⟨⟨_, rfl, .keep rfl⟩, ⟨_, rfl, .keep rfl⟩, ⟨_, rfl, .keep rfl⟩, ⟨_, rfl, .keep rfl⟩, ⟨_, rfl, .keep rfl⟩, ⟨_, rfl, .keep rfl⟩, trivial⟩ ⟨⟨_, rfl, objOne ⟨⟨rfl, .keep rfl⟩, ⟨rfl, .keep rfl⟩, ⟨rfl, .keep rfl⟩, trivial⟩⟩, ⟨_, rfl, objRow _⟩, trivial⟩) ?_ ?_
    · clear h
      intro j133 x134 s130 g131 k132 hj133 hx133 h ih132
      refine awp_seq ?_
      refine awp_rs ?_
      refine ro rfl rfl (st_mv rfl) ?_
      refine ro rfl rfl (st_mv rfl) ?_
      refine ro rfl rfl (st_lenD rfl un100) ?_
      refine ro rfl rfl (st_bin (v := dB (decide (((j133 : Nat) : Int) < ((a1.length : Nat) : Int)))) rfl rfl rfl) ?_
      refine rw_nilk ?_
      refine awp_ifT rfl (dlt hj133) ?_
      refine awp_skip ?_
      refine nx_then ?_
      refine awp_seq ?_
      refine awp_block ?_
      refine awp_rd hmix ?_
      refine do_ rfl rfl (st_mv rfl) rfl rfl rfl ?_
      refine do_ rfl rfl (st_mv rfl) rfl rfl rfl ?_
      refine do_ rfl rfl (st_mv rfl) rfl rfl rfl ?_
      refine do_ rfl rfl (st_ixDn sl100 rfl rfl hx133) rfl rfl rfl ?_
      refine do_ rfl rfl (st_faD fo125_0 rfl) rfl rfl rfl ?_
      refine do_ rfl rfl (st_ldD (v := dI .i64 x134.Var) ta3 rfl rfl) rfl rfl rfl ?_
      refine do_ rfl rfl (st_mv rfl) rfl rfl rfl ?_
      refine do_ rfl rfl (st_mv rfl) rfl rfl rfl ?_
      refine do_ rfl rfl (st_ixDn sl100 rfl rfl hx133) rfl rfl rfl ?_
      refine do_ rfl rfl (st_ldD (v := .agg [dI .i64 x134.Var, dL 1 (eI .i64) x134.On, dL 1 eB x134.Bits]) ta125 rfl rfl) rfl rfl rfl ?_
      refine do_ rfl rfl (st_mv rfl) rfl rfl rfl ?_
      obtain ⟨y141, hy141, h⟩ := bind_some_elim h
      refine df rfl rfl (ok_skolemref04_At hy141) rfl rfl ?_
      obtain ⟨y142, hy142, h⟩ := bind_some_elim h
      refine df rfl rfl (ok_skolemref04_Lit hy142) rfl rfl ?_
      refine dn (r := 1003) rfl rfl (st_bsl (els := [[dI .i64 y142]]) sl22 zc3 rfl rfl rfl rfl rfl) rfl rfl rfl rfl ?_
      obtain ⟨c143, h⟩ := capN_some h
      refine dn (r := 0) (L' := [(1001, .row 0 26 [[dL 1 (eI .i64) a0.Univ, dL 2 e_S_api_Dep a0.Exist, dL 1 (eL 1 (eI .i64)) a0.Clauses]]), (1002, rw' (g131 + 2) 3 (eI .i64) (s130 ++ [y142])), (1003, .row 1 3 [[dI .i64 y142]])]) rfl rfl (st_appR (f := (eI .i64)) (xs := s130) (ys := [y142]) sl22 zc3 rfl rfl rfl rfl rfl (news_one (a := y142) rfl rfl) c143) rfl rfl rfl rfl ?_
      refine do_ rfl rfl (st_as rfl) rfl rfl rfl ?_
      refine rd_nil (by kernel_rfl) ?_
      refine nx_block ?_
      refine nx_then ?_
      refine awp_rw ?_
      refine ro rfl rfl (st_mv rfl) ?_
      refine ro rfl rfl (st_inc rfl rfl hj133 hl133) ?_
      refine ro rfl rfl (st_as rfl) ?_
      refine rw_nil ?_
      refine nx_then ?_
      refine awp_gh ?_ (ih132 (s130 ++ [y142]) (g131 + 2) h)
      exact (gh_frz rfl rfl ⟨⟨_, rfl, .keep rfl⟩, ⟨_, rfl, .keep rfl⟩, ⟨_, rfl, .keep rfl⟩, ⟨_, rfl, .keep rfl⟩, ⟨_, rfl, .keep rfl⟩, ⟨_, rfl, .keep rfl⟩, trivial⟩ ⟨⟨_, rfl, objOne ⟨⟨rfl, .keep rfl⟩, ⟨rfl, .keep rfl⟩, ⟨rfl, .keep rfl⟩, trivial⟩⟩, ⟨_, rfl, objRow _⟩, trivial⟩)
    · clear h
      intro s130 g131 h
      refine awp_seq ?_
      refine awp_rs ?_
      refine ro rfl rfl (st_mv rfl) ?_
      refine ro rfl rfl (st_mv rfl) ?_
      refine ro rfl rfl (st_lenD rfl un100) ?_
      refine ro rfl rfl (st_bin (v := dB (decide (((a1.length : Nat) : Int) < ((a1.length : Nat) : Int)))) rfl rfl rfl) ?_
      refine rw_nilk ?_
      refine awp_ifF rfl dge ?_
      refine awp_exit ?_
      refine ex_out ?_
      refine ex_out ?_
      refine ex_in ?_
      refine nx_then ?_
      refine awp_rs ?_
      refine ro rfl rfl (st_faP fo26_2 rfl) ?_
      refine ro rfl rfl (st_ldP (v := dL 1 (eL 1 (eI .i64)) a0.Clauses) ta24 rfl rfl rfl rfl) ?_
      refine ro rfl rfl (st_mv rfl) ?_
      obtain ⟨y144, hy144, h⟩ := bind_some_elim h
      refine rl rfl rfl (ok_skolemref04_Satisfied hy144) rfl ⟨.keep rfl, frzT rfl rfl co3 rfl, trivial⟩ rfl ?_
      refine ro rfl rfl (st_un (v := dB (!y144)) rfl rfl) ?_
      refine rw_nilk ?_
      refine awp_ite (b := (!y144)) rfl (fun p145 => ?_) (fun p145 => ?_)
      · replace h := ite_T p145 h
        refine awp_rs ?_
        refine ro rfl rfl (st_as rfl) ?_
        refine rw_nilk ?_
        refine awp_ret ?_
        refine rt_block ?_
        refine rt_then ?_
        refine rt_then ?_
        refine rt_block ?_
        refine rt_then ?_
        injection h with h
        subst h
        exact ret_out (v := dB false) (resV_one (resVs_tmp rfl resVs_nil)) (.keep rfl)
      · replace h := ite_F p145 h
        refine awp_skip ?_
        refine nx_block ?_
        refine nx_then ?_
        refine awp_rw ?_
        refine ro rfl rfl (st_mv rfl) ?_
        refine ro rfl rfl (st_incU rfl rfl hl104 hj104 hx104) ?_
        refine ro rfl rfl (st_as rfl) ?_
        refine rw_nil ?_
        refine nx_then ?_
        refine awp_gh ?_ (ih103 () () h)
        exact (gh_frz rfl rfl ⟨⟨_, rfl, .keep rfl⟩, ⟨_, rfl, .keep rfl⟩, ⟨_, rfl, .keep rfl⟩, trivial⟩ ⟨⟨_, rfl, objOne ⟨⟨rfl, .keep rfl⟩, ⟨rfl, .keep rfl⟩, ⟨rfl, .keep rfl⟩, trivial⟩⟩, trivial⟩)
  · clear h
    intro s101 g102 h
    refine awp_seq ?_
    refine awp_rs ?_
    refine ro rfl rfl (st_mv rfl) ?_
    refine ro rfl rfl (st_faP fo26_0 rfl) ?_
    refine ro rfl rfl (st_ldP (v := dL 1 (eI .i64) a0.Univ) ta22 rfl rfl rfl rfl) ?_
    refine ro rfl rfl (st_lenD rfl un22) ?_
    refine ro rfl rfl (st_conv rfl un3 un115) ?_
    obtain ⟨c146, h⟩ := okI_some h
    refine ro rfl rfl (st_shl rfl rfl c146) ?_
    refine ro rfl rfl (st_bin (v := dB (decide (((0 : Int) + ((((IntKind.wrap .i64 ((1 : Int) * 2 ^ (min (IntKind.wrap .u64 ((a0.Univ.length : Nat) : Int)).toNat (IntKind.bits .i64)))) - (0 : Int)).toNat : Nat) : Int)) < (IntKind.wrap .i64 ((1 : Int) * 2 ^ (min (IntKind.wrap .u64 ((a0.Univ.length : Nat) : Int)).toNat (IntKind.bits .i64))))))) rfl rfl rfl) ?_
    refine rw_nilk ?_
    refine awp_ifF rfl (dgeI upD) ?_
    refine awp_exit ?_
    refine ex_out ?_
    refine ex_out ?_
    refine ex_in ?_
    refine nx_then ?_
    refine awp_rs ?_
    refine ro rfl rfl (st_as rfl) ?_
    refine rw_nilk ?_
    refine awp_ret ?_
    injection h with h
    subst h
    exact ret_out (v := dB true) (resV_one (resVs_tmp rfl resVs_nil)) (.keep rfl)
end Go.Sk.X
