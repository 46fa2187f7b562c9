/- The program computes these plain functions (law CleanDecides, part 4). It has no conditions. -/
import Derived.Test.YtokbhdfaccahbaaGreatDoorXCleanDecidesP3
set_option linter.unusedVariables false
set_option linter.unusedSimpArgs false
set_option maxRecDepth 100000
set_option maxHeartbeats 4000000
namespace Go.Sk.X
open Go Go.Sk Go.Proofs
theorem ok_skolemref04_Skolem {a0 : S_api_Dqbf} {r : ((List S_api_Table) × Int)} (h : F_skolemref04_Skolem a0 = some r) : Fn Tryz.prog 89 [.agg [dL 1 (eI .i64) a0.Univ, dL 2 e_S_api_Dep a0.Exist, dL 1 (eL 1 (eI .i64)) a0.Clauses]] (.tup [dL 3 e_S_api_Table r.1, dI .i64 r.2]) := by
  unfold F_skolemref04_Skolem at h
  refine Fn.of_body (N := 27) (rs := [.tmp 2, .tmp 3]) Tryz.func89 (c := _) rfl rfl rfl (by kernel_rfl) (Nat.le_of_ble_eq_true rfl) (fun _B => ?_)
  refine awp_rs ?_
  refine rn (r := 1001) rfl rfl (st_box rfl rfl rfl co26 rfl rfl) rfl ?_
  refine ro rfl rfl (st_as rfl) ?_
  refine ro rfl rfl (st_as rfl) ?_
  refine rw_nilk ?_
  refine awp_rs ?_
  refine ro rfl rfl (st_ldP (v := .agg [dL 1 (eI .i64) a0.Univ, dL 2 e_S_api_Dep a0.Exist, dL 1 (eL 1 (eI .i64)) a0.Clauses]) ta26 rfl rfl rfl rfl) ?_
  obtain ⟨y101, hy101, h⟩ := bind_some_elim h
  refine rf rfl rfl (ok_skolemref04_check hy101) rfl rfl ?_
  refine ro rfl rfl (st_as rfl) ?_
  refine rw_nilk ?_
  refine awp_seq ?_
  refine awp_rs ?_
  refine ro rfl rfl (st_mv rfl) ?_
  refine ro rfl rfl (st_bin (v := dB (y101 != (0 : Int))) rfl rfl rfl) ?_
  refine rw_nilk ?_
  refine awp_ite (b := (y101 != (0 : Int))) rfl (fun p102 => ?_) (fun p102 => ?_)
  · replace h := ite_T p102 h
    refine awp_rs ?_
    refine ro rfl rfl (st_mv rfl) ?_
    refine ro rfl rfl (st_as rfl) ?_
    refine ro rfl rfl (st_as rfl) ?_
    refine rw_nilk ?_
    refine awp_ret ?_
    refine rt_then ?_
    injection h with h
    subst h
    exact ret_out (v := .tup [.nilS, dI .i64 y101]) (resV_many (resVs_tmp rfl (resVs_tmp rfl resVs_nil))) (frz_tup ⟨(.nilS _), (.keep rfl), trivial⟩)
  · replace h := ite_F p102 h
    refine awp_skip ?_
    refine nx_then ?_
    refine awp_seq ?_
    refine awp_rs ?_
    refine ro rfl rfl (st_as rfl) ?_
    refine rw_nilk ?_
    refine awp_block ?_
    refine awp_while (fun (s103 : Int) (g104 : Unit) => [(1, .ptr 1001 0 0 0), (5, dI .i64 s103)]) (fun (s103 : Int) (g104 : Unit) => [(1001, .row 0 26 [[dL 1 (eI .i64) a0.Univ, dL 2 e_S_api_Dep a0.Exist, dL 1 (eL 1 (eI .i64)) a0.Clauses]])]) () (fun _ _ _ h => h) h (gh_frz rfl rfl ⟨⟨_, rfl, .keep rfl⟩, ⟨_, rfl, .keep rfl⟩, trivial⟩ ⟨⟨_, rfl, objOne ⟨⟨rfl, .keep rfl⟩, ⟨rfl, .keep rfl⟩, ⟨rfl, .keep rfl⟩, trivial⟩⟩, trivial⟩) ?_
    clear h
    intro s103 g104 k105 h ih105
    refine awp_seq ?_
    refine awp_rs ?_
    refine ro rfl rfl (st_mv rfl) ?_
    refine ro rfl rfl (st_ldP (v := .agg [dL 1 (eI .i64) a0.Univ, dL 2 e_S_api_Dep a0.Exist, dL 1 (eL 1 (eI .i64)) a0.Clauses]) ta26 rfl rfl rfl rfl) ?_
    obtain ⟨y126, hy126, h⟩ := bind_some_elim h
    refine rf rfl rfl (ok_skolemref04_bits hy126) rfl rfl ?_
    refine ro rfl rfl (st_conv rfl un3 un115) ?_
    obtain ⟨c127, h⟩ := okI_some h
    refine ro rfl rfl (st_shl rfl rfl c127) ?_
    refine ro rfl rfl (st_bin (v := dB (decide (s103 < (IntKind.wrap .i64 ((1 : Int) * 2 ^ (min (IntKind.wrap .u64 y126).toNat (IntKind.bits .i64))))))) rfl rfl rfl) ?_
    refine rw_nilk ?_
    refine awp_ite (b := (decide (s103 < (IntKind.wrap .i64 ((1 : Int) * 2 ^ (min (IntKind.wrap .u64 y126).toNat (IntKind.bits .i64))))))) rfl (fun p128 => ?_) (fun p128 => ?_)
    · replace h := ite_T p128 h
      refine awp_skip ?_
      refine nx_then ?_
      refine awp_seq ?_
      refine awp_block ?_
      refine awp_rs ?_
      refine ro rfl rfl (st_ldP (v := .agg [dL 1 (eI .i64) a0.Univ, dL 2 e_S_api_Dep a0.Exist, dL 1 (eL 1 (eI .i64)) a0.Clauses]) ta26 rfl rfl rfl rfl) ?_
      refine ro rfl rfl (st_mv rfl) ?_
      obtain ⟨y129, hy129, h⟩ := bind_some_elim h
      refine rf rfl rfl (ok_skolemref04_numbered hy129) rfl rfl ?_
      refine ro rfl rfl (st_as rfl) ?_
      refine rw_nilk ?_
      refine awp_rs ?_
      refine ro rfl rfl (st_ldP (v := .agg [dL 1 (eI .i64) a0.Univ, dL 2 e_S_api_Dep a0.Exist, dL 1 (eL 1 (eI .i64)) a0.Clauses]) ta26 rfl rfl rfl rfl) ?_
      refine ro rfl rfl (st_mv rfl) ?_
      obtain ⟨y130, hy130, h⟩ := bind_some_elim h
      refine rf rfl rfl (ok_skolemref04_win hy130) rfl rfl ?_
      refine rw_nilk ?_
      refine awp_ite (b := y130) rfl (fun p131 => ?_) (fun p131 => ?_)
      · replace h := ite_T p131 h
        refine awp_rs ?_
        refine ro rfl rfl (st_mv rfl) ?_
        refine ro rfl rfl (st_as rfl) ?_
        refine ro rfl rfl (st_as rfl) ?_
        refine rw_nilk ?_
        refine awp_ret ?_
        refine rt_block ?_
        refine rt_then ?_
        refine rt_then ?_
        refine rt_block ?_
        refine rt_then ?_
        injection h with h
        subst h
        exact ret_out (v := .tup [dL 3 e_S_api_Table y129, dI .i64 (0 : Int)]) (resV_many (resVs_tmp rfl (resVs_tmp rfl resVs_nil))) (.keep rfl)
      · replace h := ite_F p131 h
        refine awp_skip ?_
        refine nx_block ?_
        refine nx_then ?_
        refine awp_rw ?_
        refine ro rfl rfl (st_mv rfl) ?_
        refine ro rfl rfl (st_bin (v := dI .i64 (IntKind.wrap .i64 (s103 + (1 : Int)))) rfl rfl rfl) ?_
        refine ro rfl rfl (st_as rfl) ?_
        refine rw_nil ?_
        refine nx_then ?_
        refine awp_gh ?_ (ih105 (IntKind.wrap .i64 (s103 + (1 : Int))) () h)
        exact (gh_frz rfl rfl ⟨⟨_, rfl, .keep rfl⟩, ⟨_, rfl, .keep rfl⟩, trivial⟩ ⟨⟨_, rfl, objOne ⟨⟨rfl, .keep rfl⟩, ⟨rfl, .keep rfl⟩, ⟨rfl, .keep rfl⟩, trivial⟩⟩, trivial⟩)
    · replace h := ite_F p128 h
      refine awp_exit ?_
      refine ex_out ?_
      refine ex_out ?_
      refine ex_in ?_
      refine nx_then ?_
      refine awp_rs ?_
      refine ro rfl rfl (st_as rfl) ?_
      refine ro rfl rfl (st_as rfl) ?_
      refine rw_nilk ?_
      refine awp_ret ?_
      injection h with h
      subst h
      exact ret_out (v := .tup [.nilS, dI .i64 (6 : Int)]) (resV_many (resVs_tmp rfl (resVs_tmp rfl resVs_nil))) (frz_tup ⟨(.nilS _), (.keep rfl), trivial⟩)

theorem ok_skolemref04_Dqbf {a0 : S_api_Dqbf} {r : (Int × Int)} (h : F_skolemref04_Dqbf a0 = some r) : Fn Tryz.prog 51 [.agg [dL 1 (eI .i64) a0.Univ, dL 2 e_S_api_Dep a0.Exist, dL 1 (eL 1 (eI .i64)) a0.Clauses]] (.tup [dI .u8 r.1, dI .i64 r.2]) := by
  unfold F_skolemref04_Dqbf at h
  refine Fn.of_body (N := 16) (rs := [.tmp 2, .tmp 3]) Tryz.func51 (c := _) rfl rfl rfl (by kernel_rfl) (Nat.le_of_ble_eq_true rfl) (fun _B => ?_)
  refine awp_rs ?_
  refine rn (r := 1001) rfl rfl (st_box rfl rfl rfl co26 rfl rfl) rfl ?_
  refine ro rfl rfl (st_as rfl) ?_
  refine ro rfl rfl (st_as rfl) ?_
  refine rw_nilk ?_
  refine awp_rs ?_
  refine ro rfl rfl (st_ldP (v := .agg [dL 1 (eI .i64) a0.Univ, dL 2 e_S_api_Dep a0.Exist, dL 1 (eL 1 (eI .i64)) a0.Clauses]) ta26 rfl rfl rfl rfl) ?_
  obtain ⟨y101, hy101, h⟩ := bind_some_elim h
  refine rf rfl rfl (ok_skolemref04_Skolem hy101) rfl rfl ?_
  refine ro rfl rfl (st_mv rfl) ?_
  refine ro rfl rfl (st_ext rfl rfl) ?_
  refine ro rfl rfl (st_ext rfl rfl) ?_
  refine ro rfl rfl (st_as rfl) ?_
  refine ro rfl rfl (st_as rfl) ?_
  refine rw_nilk ?_
  refine awp_seq ?_
  refine awp_rs ?_
  refine ro rfl rfl (st_mv rfl) ?_
  refine ro rfl rfl (st_bin (v := dB (y101.2 == (0 : Int))) rfl rfl rfl) ?_
  refine rw_nilk ?_
  refine awp_ite (b := (y101.2 == (0 : Int))) rfl (fun p102 => ?_) (fun p102 => ?_)
  · replace h := ite_T p102 h
    refine awp_rs ?_
    refine ro rfl rfl (st_as rfl) ?_
    refine ro rfl rfl (st_as rfl) ?_
    refine rw_nilk ?_
    refine awp_ret ?_
    refine rt_then ?_
    injection h with h
    subst h
    exact ret_out (v := .tup [dI .u8 (1 : Int), dI .i64 (0 : Int)]) (resV_many (resVs_tmp rfl (resVs_tmp rfl resVs_nil))) (.keep rfl)
  · replace h := ite_F p102 h
    refine awp_skip ?_
    refine nx_then ?_
    refine awp_seq ?_
    refine awp_rs ?_
    refine ro rfl rfl (st_mv rfl) ?_
    refine ro rfl rfl (st_bin (v := dB (y101.2 == (6 : Int))) rfl rfl rfl) ?_
    refine rw_nilk ?_
    refine awp_ite (b := (y101.2 == (6 : Int))) rfl (fun p103 => ?_) (fun p103 => ?_)
    · replace h := ite_T p103 h
      refine awp_rs ?_
      refine ro rfl rfl (st_as rfl) ?_
      refine ro rfl rfl (st_as rfl) ?_
      refine rw_nilk ?_
      refine awp_ret ?_
      refine rt_then ?_
      injection h with h
      subst h
      exact ret_out (v := .tup [dI .u8 (2 : Int), dI .i64 (0 : Int)]) (resV_many (resVs_tmp rfl (resVs_tmp rfl resVs_nil))) (.keep rfl)
    · replace h := ite_F p103 h
      refine awp_skip ?_
      refine nx_then ?_
      refine awp_rs ?_
      refine ro rfl rfl (st_mv rfl) ?_
      refine ro rfl rfl (st_as rfl) ?_
      refine ro rfl rfl (st_as rfl) ?_
      refine rw_nilk ?_
      refine awp_ret ?_
      injection h with h
      subst h
      exact ret_out (v := .tup [dI .u8 (0 : Int), dI .i64 y101.2]) (resV_many (resVs_tmp rfl (resVs_tmp rfl resVs_nil))) (.keep rfl)

theorem ok_skolemlaw13_truth {a0 : S_api_Dqbf} {r : Int} (h : F_skolemlaw13_truth a0 = some r) : Fn Tryz.prog 16 [.agg [dL 1 (eI .i64) a0.Univ, dL 2 e_S_api_Dep a0.Exist, dL 1 (eL 1 (eI .i64)) a0.Clauses]] (dI .u8 r) := by
  unfold F_skolemlaw13_truth at h
  refine Fn.of_body (N := 40) (rs := [.tmp 2]) Tryz.func16 (c := _) rfl rfl rfl (by kernel_rfl) (Nat.le_of_ble_eq_true rfl) (fun _B => ?_)
  refine awp_rs ?_
  refine rn (r := 1001) rfl rfl (st_box rfl rfl rfl co26 rfl rfl) rfl ?_
  refine ro rfl rfl (st_as rfl) ?_
  refine rw_nilk ?_
  refine awp_rs ?_
  refine ro rfl rfl (st_as rfl) ?_
  refine rw_nilk ?_
  refine awp_seq ?_
  refine awp_rs ?_
  refine ro rfl rfl (st_faP fo26_1 rfl) ?_
  refine ro rfl rfl (st_ldP (v := dL 2 e_S_api_Dep a0.Exist) ta23 rfl rfl rfl rfl) ?_
  refine ro rfl rfl (st_lenD rfl un23) ?_
  refine ro rfl rfl (st_mv rfl) ?_
  refine rw_nilk ?_
  refine awp_block ?_
  refine awp_len (t := 9) rfl (fun hl104 => ?_)
  rw [List.length_map] at hl104
  refine awp_range (fun (j104 : Nat) (s101 : Int) (g102 : Unit) => [(1, .ptr 1001 0 0 0), (3, dI .i64 s101), (9, dL 2 e_S_api_Dep a0.Exist), (10, dI .i64 ((a0.Exist.length : Nat) : Int)), (11, dI .i64 ((j104 : Nat) : Int))]) (fun (s101 : Int) (g102 : Unit) => [(1001, .row 0 26 [[dL 1 (eI .i64) a0.Univ, dL 2 e_S_api_Dep a0.Exist, dL 1 (eL 1 (eI .i64)) a0.Clauses]])]) () (fun _ _ _ h => h) h (gh_frz rfl rfl ⟨⟨_, rfl, .keep rfl⟩, ⟨_, rfl, .keep rfl⟩, ⟨_, rfl, .keep rfl⟩, ⟨_, rfl, .keep rfl⟩, ⟨_, rfl, .keep rfl⟩, trivial⟩ ⟨⟨_, rfl, objOne ⟨⟨rfl, .keep rfl⟩, ⟨rfl, .keep rfl⟩, ⟨rfl, .keep rfl⟩, trivial⟩⟩, trivial⟩) ?_ ?_
  · clear h
    intro j104 x105 s101 g102 k103 hj104 hx104 h ih103
    refine awp_rs ?_
    refine ro rfl rfl (st_bin (v := dB (decide (((j104 : Nat) : Int) < ((a0.Exist.length : Nat) : Int)))) rfl rfl rfl) ?_
    refine rw_nilk ?_
    refine awp_seq ?_
    refine awp_ifT rfl (dlt hj104) ?_
    refine awp_skip ?_
    refine nx_then ?_
    refine awp_seq ?_
    refine awp_block ?_
    refine awp_rs ?_
    refine ro rfl rfl (st_ixDn sl23 rfl rfl hx104) ?_
    refine ro rfl rfl (st_ldD (v := .agg [dI .i64 x105.Var, dL 1 (eI .i64) x105.On]) ta44 rfl rfl) ?_
    refine rn (r := 1002) rfl rfl (st_alloc zc44 rfl rfl) rfl ?_
    refine rx (L' := [(1001, .row 0 26 [[dL 1 (eI .i64) a0.Univ, dL 2 e_S_api_Dep a0.Exist, dL 1 (eL 1 (eI .i64)) a0.Clauses]]), (1002, .row 0 44 [[dI .i64 x105.Var, dL 1 (eI .i64) x105.On]])]) rfl rfl (st_stP ta44 rfl rfl rfl rfl rfl rfl rfl rfl) rfl ?_
    refine rw_nilk ?_
    refine awp_seq ?_
    refine awp_rs ?_
    refine ro rfl rfl (st_faP fo44_1 rfl) ?_
    refine ro rfl rfl (st_ldP (v := dL 1 (eI .i64) x105.On) ta22 rfl rfl rfl rfl) ?_
    refine ro rfl rfl (st_lenD rfl un22) ?_
    refine ro rfl rfl (st_bin (v := dB (decide (((x105.On.length : Nat) : Int) > (4 : Int)))) rfl rfl rfl) ?_
    refine rw_nilk ?_
    refine awp_ite (b := (decide (((x105.On.length : Nat) : Int) > (4 : Int)))) rfl (fun p110 => ?_) (fun p110 => ?_)
    · replace h := ite_T p110 h
      refine awp_rs ?_
      refine ro rfl rfl (st_as rfl) ?_
      refine rw_nilk ?_
      refine awp_ret ?_
      refine rt_then ?_
      refine rt_block ?_
      refine rt_then ?_
      refine rt_then ?_
      refine rt_block ?_
      refine rt_then ?_
      injection h with h
      subst h
      exact ret_out (v := dI .u8 (0 : Int)) (resV_one (resVs_tmp rfl resVs_nil)) (.keep rfl)
    · replace h := ite_F p110 h
      refine awp_skip ?_
      refine nx_then ?_
      refine awp_rw ?_
      refine ro rfl rfl (st_mv rfl) ?_
      refine ro rfl rfl (st_faP fo44_1 rfl) ?_
      refine ro rfl rfl (st_ldP (v := dL 1 (eI .i64) x105.On) ta22 rfl rfl rfl rfl) ?_
      refine ro rfl rfl (st_lenD rfl un22) ?_
      obtain ⟨c111, h⟩ := okI_some h
      refine ro rfl rfl (st_shl rfl rfl c111) ?_
      refine ro rfl rfl (st_bin (v := dI .i64 (IntKind.wrap .i64 (s101 + (IntKind.wrap .i64 ((1 : Int) * 2 ^ (min ((x105.On.length : Nat) : Int).toNat (IntKind.bits .i64))))))) rfl rfl rfl) ?_
      refine ro rfl rfl (st_as rfl) ?_
      refine rw_nil ?_
      refine nx_block ?_
      refine nx_then ?_
      refine awp_rw ?_
      refine ro rfl rfl (st_inc rfl rfl hj104 hl104) ?_
      refine ro rfl rfl (st_mv rfl) ?_
      refine rw_nil ?_
      refine nx_then ?_
      refine awp_gh ?_ (ih103 (IntKind.wrap .i64 (s101 + (IntKind.wrap .i64 ((1 : Int) * 2 ^ (min ((x105.On.length : Nat) : Int).toNat (IntKind.bits .i64)))))) () h)
      exact (gh_frz rfl rfl ⟨⟨_, rfl, .keep rfl⟩, ⟨_, rfl, .keep rfl⟩, ⟨_, rfl, .keep rfl⟩, ⟨_, rfl, .keep rfl⟩, ⟨_, rfl, .keep rfl⟩, trivial⟩ ⟨⟨_, rfl, objOne ⟨⟨rfl, .keep rfl⟩, ⟨rfl, .keep rfl⟩, ⟨rfl, .keep rfl⟩, trivial⟩⟩, trivial⟩)
  · clear h
    intro s101 g102 h
    refine awp_rs ?_
    refine ro rfl rfl (st_bin (v := dB (decide (((a0.Exist.length : Nat) : Int) < ((a0.Exist.length : Nat) : Int)))) rfl rfl rfl) ?_
    refine rw_nilk ?_
    refine awp_seq ?_
    refine awp_ifF rfl dge ?_
    refine awp_exit ?_
    refine ex_out ?_
    refine ex_out ?_
    refine ex_in ?_
    refine nx_then ?_
    refine awp_seq ?_
    refine awp_jn (fun (s119 : Bool) (g120 : Unit) => [(1, .ptr 1001 0 0 0), (33, dB s119)]) (fun (s119 : Bool) (g120 : Unit) => [(1001, .row 0 26 [[dL 1 (eI .i64) a0.Univ, dL 2 e_S_api_Dep a0.Exist, dL 1 (eL 1 (eI .i64)) a0.Clauses]])]) h ?_ ?_
    · clear h
      intro s119 g120 h
      refine awp_ite (b := s119) rfl (fun p122 => ?_) (fun p122 => ?_)
      · replace h := ite_T p122 h
        refine awp_rs ?_
        refine ro rfl rfl (st_as rfl) ?_
        refine rw_nilk ?_
        refine awp_ret ?_
        refine rt_then ?_
        injection h with h
        subst h
        exact ret_out (v := dI .u8 (0 : Int)) (resV_one (resVs_tmp rfl resVs_nil)) (.keep rfl)
      · replace h := ite_F p122 h
        refine awp_skip ?_
        refine nx_then ?_
        refine awp_rs ?_
        refine ro rfl rfl (st_ldP (v := .agg [dL 1 (eI .i64) a0.Univ, dL 2 e_S_api_Dep a0.Exist, dL 1 (eL 1 (eI .i64)) a0.Clauses]) ta26 rfl rfl rfl rfl) ?_
        obtain ⟨y123, hy123, h⟩ := bind_some_elim h
        refine rf rfl rfl (ok_skolemref04_Dqbf hy123) rfl rfl ?_
        refine ro rfl rfl (st_mv rfl) ?_
        refine ro rfl rfl (st_ext rfl rfl) ?_
        refine ro rfl rfl (st_ext rfl rfl) ?_
        refine ro rfl rfl (st_as rfl) ?_
        refine ro rfl rfl (st_as rfl) ?_
        refine rw_nilk ?_
        refine awp_rs ?_
        refine ro rfl rfl (st_mv rfl) ?_
        refine ro rfl rfl (st_as rfl) ?_
        refine rw_nilk ?_
        refine awp_ret ?_
        injection h with h
        subst h
        exact ret_out (v := dI .u8 y123.1) (resV_one (resVs_tmp rfl resVs_nil)) (.keep rfl)
    · clear h
      intro k121 h J121
      refine awp_rw ?_
      refine ro rfl rfl (st_faP fo26_0 rfl) ?_
      refine ro rfl rfl (st_ldP (v := dL 1 (eI .i64) a0.Univ) ta22 rfl rfl rfl rfl) ?_
      refine ro rfl rfl (st_lenD rfl un22) ?_
      refine ro rfl rfl (st_bin (v := dB (decide (((a0.Univ.length : Nat) : Int) > (4 : Int)))) rfl rfl rfl) ?_
      refine ro rfl rfl (st_mv rfl) ?_
      refine bool_split (decide (((a0.Univ.length : Nat) : Int) > (4 : Int))) (fun p124 => ?_) (fun p124 => ?_)
      · replace h := ite_T p124 h
        rw [p124]
        refine rz rfl rfl ?_
        refine rz rfl rfl ?_
        refine ro rfl rfl (st_pickT rfl rfl) ?_
        refine rw_nil ?_
        refine nx_then ?_
        exact J121 true () _ _ h (gh_frz rfl rfl ⟨⟨_, rfl, .keep rfl⟩, ⟨_, rfl, .keep rfl⟩, trivial⟩ ⟨⟨_, rfl, objOne ⟨⟨rfl, .keep rfl⟩, ⟨rfl, .keep rfl⟩, ⟨rfl, .keep rfl⟩, trivial⟩⟩, trivial⟩)
      · replace h := ite_F p124 h
        rw [p124]
        refine ro rfl rfl (st_mv rfl) ?_
        refine ro rfl rfl (st_bin (v := dB (decide (s101 > (12 : Int)))) rfl rfl rfl) ?_
        refine ro rfl rfl (st_pickF rfl rfl) ?_
        refine rw_nil ?_
        refine nx_then ?_
        exact J121 (decide (s101 > (12 : Int))) () _ _ h (gh_frz rfl rfl ⟨⟨_, rfl, .keep rfl⟩, ⟨_, rfl, .keep rfl⟩, trivial⟩ ⟨⟨_, rfl, objOne ⟨⟨rfl, .keep rfl⟩, ⟨rfl, .keep rfl⟩, ⟨rfl, .keep rfl⟩, trivial⟩⟩, trivial⟩)

theorem ok_skolemlaw13_CleanDecides {a0 : S_api_Dqbf} {r : Bool} (h : F_skolemlaw13_CleanDecides a0 = some r) : FnG Tryz.prog 0 [.int .u8 1, .int .u8 3, .int .u8 2, .int .u8 4, .int .u8 5] 5 [.agg [dL 1 (eI .i64) a0.Univ, dL 2 e_S_api_Dep a0.Exist, dL 1 (eL 1 (eI .i64)) a0.Clauses]] (dB r) := by
  unfold F_skolemlaw13_CleanDecides at h
  refine Ev.of_bodyX (N := 34) (rs := [.tmp 2]) Tryz.func5 (c := _) rfl rfl rfl (by kernel_rfl) rfl (Nat.le_of_ble_eq_true rfl) (fun _B => ?_)
  refine awp_rs ?_
  refine rn (r := 1001) rfl rfl (st_box rfl rfl rfl co26 rfl rfl) rfl ?_
  refine ro rfl rfl (st_as rfl) ?_
  refine rw_nilk ?_
  refine awp_seq ?_
  refine awp_rs ?_
  refine ro rfl rfl (st_ldP (v := .agg [dL 1 (eI .i64) a0.Univ, dL 2 e_S_api_Dep a0.Exist, dL 1 (eL 1 (eI .i64)) a0.Clauses]) ta26 rfl rfl rfl rfl) ?_
  obtain ⟨y101, hy101, h⟩ := bind_some_elim h
  refine rf rfl rfl (ok_skolemlaw13_large hy101) rfl rfl ?_
  refine rw_nilk ?_
  refine awp_ite (b := y101) rfl (fun p102 => ?_) (fun p102 => ?_)
  · replace h := ite_T p102 h
    refine awp_rs ?_
    obtain ⟨y103, hy103, h⟩ := bind_some_elim h
    refine rcall (v := dB y103) (L0 := [(100, .glob 0 [.int .u8 1, .int .u8 3, .int .u8 2, .int .u8 4, .int .u8 5])]) (L1 := [(100, .glob 0 [.int .u8 1, .int .u8 3, .int .u8 2, .int .u8 4, .int .u8 5])]) (L' := [(100, .glob 0 [.int .u8 1, .int .u8 3, .int .u8 2, .int .u8 4, .int .u8 5]), (1001, .row 0 26 [[dL 1 (eI .i64) a0.Univ, dL 2 e_S_api_Dep a0.Exist, dL 1 (eL 1 (eI .i64)) a0.Clauses]])]) rfl rfl rfl rfl (ok_skolemlaw13_awake hy103) ⟨rfl, trivial⟩ rfl ⟨rfl, trivial⟩ rfl rfl ?_
    refine ro rfl rfl (st_as rfl) ?_
    refine rw_nilk ?_
    refine awp_ret ?_
    refine rt_then ?_
    injection h with h
    subst h
    exact retX (v := dB y103) (resV_one (resVs_tmp rfl resVs_nil)) (.keep rfl) ⟨⟨_, rfl, objGlob⟩, trivial⟩
  · replace h := ite_F p102 h
    refine awp_skip ?_
    refine nx_then ?_
    refine awp_rs ?_
    refine ro rfl rfl (st_ldP (v := .agg [dL 1 (eI .i64) a0.Univ, dL 2 e_S_api_Dep a0.Exist, dL 1 (eL 1 (eI .i64)) a0.Clauses]) ta26 rfl rfl rfl rfl) ?_
    obtain ⟨y104, hy104, h⟩ := bind_some_elim h
    refine rf rfl rfl (ok_clean_Decided hy104) rfl rfl ?_
    refine ro rfl rfl (st_as rfl) ?_
    refine rw_nilk ?_
    refine awp_seq ?_
    refine awp_rs ?_
    refine ro rfl rfl (st_mv rfl) ?_
    refine ro rfl rfl (st_ldP (v := .agg [dL 1 (eI .i64) a0.Univ, dL 2 e_S_api_Dep a0.Exist, dL 1 (eL 1 (eI .i64)) a0.Clauses]) ta26 rfl rfl rfl rfl) ?_
    obtain ⟨y105, hy105, h⟩ := bind_some_elim h
    refine rf rfl rfl (ok_skolemref13_Decided hy105) rfl rfl ?_
    refine ro rfl rfl (st_bin (v := dB (y104 != y105)) rfl rfl rfl) ?_
    refine rw_nilk ?_
    refine awp_ite (b := (y104 != y105)) rfl (fun p106 => ?_) (fun p106 => ?_)
    · replace h := ite_T p106 h
      refine awp_rs ?_
      refine ro rfl rfl (st_as rfl) ?_
      refine rw_nilk ?_
      refine awp_ret ?_
      refine rt_then ?_
      injection h with h
      subst h
      exact retX (v := dB false) (resV_one (resVs_tmp rfl resVs_nil)) (.keep rfl) ⟨⟨_, rfl, objGlob⟩, trivial⟩
    · replace h := ite_F p106 h
      refine awp_skip ?_
      refine nx_then ?_
      refine awp_seq ?_
      refine awp_jn (fun (s118 : Bool) (g119 : Unit) => [(1, .ptr 1001 0 0 0), (3, dI .u8 y104), (20, dB s118)]) (fun (s118 : Bool) (g119 : Unit) => [(100, .glob 0 [.int .u8 1, .int .u8 3, .int .u8 2, .int .u8 4, .int .u8 5]), (1001, .row 0 26 [[dL 1 (eI .i64) a0.Univ, dL 2 e_S_api_Dep a0.Exist, dL 1 (eL 1 (eI .i64)) a0.Clauses]])]) h ?_ ?_
      · clear h
        intro s118 g119 h
        refine awp_ite (b := s118) rfl (fun p121 => ?_) (fun p121 => ?_)
        · replace h := ite_T p121 h
          refine awp_rs ?_
          obtain ⟨y122, hy122, h⟩ := bind_some_elim h
          refine rcall (v := dB y122) (L0 := [(100, .glob 0 [.int .u8 1, .int .u8 3, .int .u8 2, .int .u8 4, .int .u8 5])]) (L1 := [(100, .glob 0 [.int .u8 1, .int .u8 3, .int .u8 2, .int .u8 4, .int .u8 5])]) (L' := [(100, .glob 0 [.int .u8 1, .int .u8 3, .int .u8 2, .int .u8 4, .int .u8 5]), (1001, .row 0 26 [[dL 1 (eI .i64) a0.Univ, dL 2 e_S_api_Dep a0.Exist, dL 1 (eL 1 (eI .i64)) a0.Clauses]])]) rfl rfl rfl rfl (ok_skolemlaw13_awake hy122) ⟨rfl, trivial⟩ rfl ⟨rfl, trivial⟩ rfl rfl ?_
          refine ro rfl rfl (st_as rfl) ?_
          refine rw_nilk ?_
          refine awp_ret ?_
          refine rt_then ?_
          injection h with h
          subst h
          exact retX (v := dB y122) (resV_one (resVs_tmp rfl resVs_nil)) (.keep rfl) ⟨⟨_, rfl, objGlob⟩, trivial⟩
        · replace h := ite_F p121 h
          refine awp_skip ?_
          refine nx_then ?_
          refine awp_rs ?_
          refine ro rfl rfl (st_ldP (v := .agg [dL 1 (eI .i64) a0.Univ, dL 2 e_S_api_Dep a0.Exist, dL 1 (eL 1 (eI .i64)) a0.Clauses]) ta26 rfl rfl rfl rfl) ?_
          obtain ⟨y123, hy123, h⟩ := bind_some_elim h
          refine rf rfl rfl (ok_skolemlaw13_truth hy123) rfl rfl ?_
          refine ro rfl rfl (st_as rfl) ?_
          refine rw_nilk ?_
          refine awp_rs ?_
          refine ro rfl rfl (st_mv rfl) ?_
          refine ro rfl rfl (st_bin (v := dB (y123 == (0 : Int))) rfl rfl rfl) ?_
          refine ro rfl rfl (st_mv rfl) ?_
          refine bool_split (y123 == (0 : Int)) (fun p128 => ?_) (fun p128 => ?_)
          · replace h := ite_T p128 h
            rw [p128]
            refine rz rfl rfl ?_
            refine rz rfl rfl ?_
            refine rz rfl rfl ?_
            refine ro rfl rfl (st_pickT rfl rfl) ?_
            refine ro rfl rfl (st_mv rfl) ?_
            obtain ⟨y129, hy129, h⟩ := bind_some_elim h
            refine rcall (v := dB y129) (L0 := [(100, .glob 0 [.int .u8 1, .int .u8 3, .int .u8 2, .int .u8 4, .int .u8 5])]) (L1 := [(100, .glob 0 [.int .u8 1, .int .u8 3, .int .u8 2, .int .u8 4, .int .u8 5])]) (L' := [(100, .glob 0 [.int .u8 1, .int .u8 3, .int .u8 2, .int .u8 4, .int .u8 5]), (1001, .row 0 26 [[dL 1 (eI .i64) a0.Univ, dL 2 e_S_api_Dep a0.Exist, dL 1 (eL 1 (eI .i64)) a0.Clauses]])]) rfl rfl rfl rfl (ok_skolemlaw13_awake hy129) ⟨rfl, trivial⟩ rfl ⟨rfl, trivial⟩ rfl rfl ?_
            refine ro rfl rfl (st_pickT rfl rfl) ?_
            refine ro rfl rfl (st_as rfl) ?_
            refine rw_nilk ?_
            refine awp_ret ?_
            injection h with h
            subst h
            exact retX (v := dB y129) (resV_one (resVs_tmp rfl resVs_nil)) (.keep rfl) ⟨⟨_, rfl, objGlob⟩, trivial⟩
          · replace h := ite_F p128 h
            rw [p128]
            refine ro rfl rfl (st_mv rfl) ?_
            refine ro rfl rfl (st_mv rfl) ?_
            refine ro rfl rfl (st_bin (v := dB (y104 == y123)) rfl rfl rfl) ?_
            refine ro rfl rfl (st_pickF rfl rfl) ?_
            refine ro rfl rfl (st_mv rfl) ?_
            refine bool_split (y104 == y123) (fun p130 => ?_) (fun p130 => ?_)
            · replace h := ite_T p130 h
              rw [p130]
              obtain ⟨y131, hy131, h⟩ := bind_some_elim h
              refine rcall (v := dB y131) (L0 := [(100, .glob 0 [.int .u8 1, .int .u8 3, .int .u8 2, .int .u8 4, .int .u8 5])]) (L1 := [(100, .glob 0 [.int .u8 1, .int .u8 3, .int .u8 2, .int .u8 4, .int .u8 5])]) (L' := [(100, .glob 0 [.int .u8 1, .int .u8 3, .int .u8 2, .int .u8 4, .int .u8 5]), (1001, .row 0 26 [[dL 1 (eI .i64) a0.Univ, dL 2 e_S_api_Dep a0.Exist, dL 1 (eL 1 (eI .i64)) a0.Clauses]])]) rfl rfl rfl rfl (ok_skolemlaw13_awake hy131) ⟨rfl, trivial⟩ rfl ⟨rfl, trivial⟩ rfl rfl ?_
              refine ro rfl rfl (st_pickT rfl rfl) ?_
              refine ro rfl rfl (st_as rfl) ?_
              refine rw_nilk ?_
              refine awp_ret ?_
              injection h with h
              subst h
              exact retX (v := dB y131) (resV_one (resVs_tmp rfl resVs_nil)) (.keep rfl) ⟨⟨_, rfl, objGlob⟩, trivial⟩
            · replace h := ite_F p130 h
              rw [p130]
              refine rz rfl rfl ?_
              refine ro rfl rfl (st_pickF rfl rfl) ?_
              refine ro rfl rfl (st_as rfl) ?_
              refine rw_nilk ?_
              refine awp_ret ?_
              injection h with h
              subst h
              exact retX (v := dB false) (resV_one (resVs_tmp rfl resVs_nil)) (.keep rfl) ⟨⟨_, rfl, objGlob⟩, trivial⟩
      · clear h
        intro k120 h J120
        refine awp_rw ?_
        refine ro rfl rfl (st_mv rfl) ?_
        refine ro rfl rfl (st_bin (v := dB (y104 == (0 : Int))) rfl rfl rfl) ?_
        refine ro rfl rfl (st_mv rfl) ?_
        refine bool_split (y104 == (0 : Int)) (fun p132 => ?_) (fun p132 => ?_)
        · replace h := ite_T p132 h
          rw [p132]
          refine rz rfl rfl ?_
          refine rz rfl rfl ?_
          refine rz rfl rfl ?_
          refine ro rfl rfl (st_pickT rfl rfl) ?_
          refine rw_nil ?_
          refine nx_then ?_
          exact J120 true () _ _ h (gh_frz rfl rfl ⟨⟨_, rfl, .keep rfl⟩, ⟨_, rfl, .keep rfl⟩, ⟨_, rfl, .keep rfl⟩, trivial⟩ ⟨⟨_, rfl, objGlob⟩, ⟨_, rfl, objOne ⟨⟨rfl, .keep rfl⟩, ⟨rfl, .keep rfl⟩, ⟨rfl, .keep rfl⟩, trivial⟩⟩, trivial⟩)
        · replace h := ite_F p132 h
          rw [p132]
          refine ro rfl rfl (st_ldP (v := .agg [dL 1 (eI .i64) a0.Univ, dL 2 e_S_api_Dep a0.Exist, dL 1 (eL 1 (eI .i64)) a0.Clauses]) ta26 rfl rfl rfl rfl) ?_
          obtain ⟨y133, hy133, h⟩ := bind_some_elim h
          refine rf rfl rfl (ok_skolemref03_MayDqbf hy133) rfl rfl ?_
          refine ro rfl rfl (st_un (v := dB (!y133)) rfl rfl) ?_
          refine ro rfl rfl (st_pickF rfl rfl) ?_
          refine rw_nil ?_
          refine nx_then ?_
          exact J120 (!y133) () _ _ h (gh_frz rfl rfl ⟨⟨_, rfl, .keep rfl⟩, ⟨_, rfl, .keep rfl⟩, ⟨_, rfl, .keep rfl⟩, trivial⟩ ⟨⟨_, rfl, objGlob⟩, ⟨_, rfl, objOne ⟨⟨rfl, .keep rfl⟩, ⟨rfl, .keep rfl⟩, ⟨rfl, .keep rfl⟩, trivial⟩⟩, trivial⟩)
end Go.Sk.X
