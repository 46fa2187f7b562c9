/- The program computes these plain functions (law ProofHolds, part 1). It has no conditions. -/
import Derived.Test.YtehfobeocanbfaaProg
import Derived.Test.YtehfobeocanbfaaSk7
import Derived.Test.YtehfobeocanbfaaSk5
import Derived.Test.YtehfobeocanbfaaXProofHoldsF
import Derived.KernelRfl
set_option linter.unusedVariables false
set_option linter.unusedSimpArgs false
set_option maxRecDepth 100000
set_option maxHeartbeats 4000000
namespace Go.Sk.X
open Go Go.Sk Go.Proofs
abbrev e_S_api_Line (x : S_api_Line) : List Dat := [.int .u8 x.Rule, .int .i64 x.A, .int .i64 x.B, .int .i64 x.Piv, .sl 1 (x.Lits.map (eI .i64))]
abbrev e_S_api_Proof (x : S_api_Proof) : List Dat := [.bool x.Cubes, .sl 5 (x.Lines.map e_S_api_Line)]
theorem hmix : (Go.Proofs.Try.prog).follows .mixedOrders = true := by kernel_rfl
theorem ta3 : tAgg Go.Proofs.Try.prog 3 = some (false, 1) := by kernel_rfl
theorem co3 : Program.cellsOf Go.Proofs.Try.prog 3 = 1 := by kernel_rfl
theorem zc3 : zCells Go.Proofs.Try.prog 3 = some [.dat (.int .i64 0)] := by kernel_rfl
theorem ta4 : tAgg Go.Proofs.Try.prog 4 = some (false, 1) := by kernel_rfl
theorem un4 : Program.underlying Go.Proofs.Try.prog 4 = some .bool := Go.Proofs.Try.underlying4
theorem un22 : Program.underlying Go.Proofs.Try.prog 22 = some (.slice 28) := Go.Proofs.Try.underlying22
theorem sl22 : slE Go.Proofs.Try.prog 22 = some (28, 1, 24) := by kernel_rfl
theorem ta23 : tAgg Go.Proofs.Try.prog 23 = some (false, 1) := by kernel_rfl
theorem un23 : Program.underlying Go.Proofs.Try.prog 23 = some (.slice 58) := Go.Proofs.Try.underlying23
theorem sl23 : slE Go.Proofs.Try.prog 23 = some (58, 5, 56) := by kernel_rfl
theorem ta25 : tAgg Go.Proofs.Try.prog 25 = some (true, 2) := by kernel_rfl
theorem co25 : Program.cellsOf Go.Proofs.Try.prog 25 = 2 := by kernel_rfl
theorem fo25_0 : fOff Go.Proofs.Try.prog 25 0 = some (0, 1, false) := by kernel_rfl
theorem fo25_1 : fOff Go.Proofs.Try.prog 25 1 = some (1, 1, false) := by kernel_rfl
theorem ta28 : tAgg Go.Proofs.Try.prog 28 = some (false, 1) := by kernel_rfl
theorem un28 : Program.underlying Go.Proofs.Try.prog 28 = some (.slice 3) := Go.Proofs.Try.underlying28
theorem sl28 : slE Go.Proofs.Try.prog 28 = some (3, 1, 8) := by kernel_rfl
theorem un46 : Program.underlying Go.Proofs.Try.prog 46 = some (.slice 48) := Go.Proofs.Try.underlying46
theorem sl46 : slE Go.Proofs.Try.prog 46 = some (48, 1, 8) := by kernel_rfl
theorem ta48 : tAgg Go.Proofs.Try.prog 48 = some (false, 1) := by kernel_rfl
theorem ta56 : tAgg Go.Proofs.Try.prog 56 = some (false, 1) := by kernel_rfl
theorem ta58 : tAgg Go.Proofs.Try.prog 58 = some (true, 5) := by kernel_rfl
theorem co58 : Program.cellsOf Go.Proofs.Try.prog 58 = 5 := by kernel_rfl
theorem fo58_0 : fOff Go.Proofs.Try.prog 58 0 = some (0, 1, false) := by kernel_rfl
theorem fo58_1 : fOff Go.Proofs.Try.prog 58 1 = some (1, 1, false) := by kernel_rfl
theorem fo58_2 : fOff Go.Proofs.Try.prog 58 2 = some (2, 1, false) := by kernel_rfl
theorem fo58_3 : fOff Go.Proofs.Try.prog 58 3 = some (3, 1, false) := by kernel_rfl
theorem fo58_4 : fOff Go.Proofs.Try.prog 58 4 = some (4, 1, false) := by kernel_rfl
theorem zc58 : zCells Go.Proofs.Try.prog 58 = some [.dat (.int .u8 0), .dat (.int .i64 0), .dat (.int .i64 0), .dat (.int .i64 0), .nilS] := by kernel_rfl

theorem ok_skolemlaw10_large {a0 : (List (List Int))} {a1 : S_api_Proof} {r : Bool} (h : F_skolemlaw10_large a0 a1 = some r) : Fn Try.prog 12 [dL 1 (eL 1 (eI .i64)) a0, .agg [dB a1.Cubes, dL 5 e_S_api_Line a1.Lines]] (dB r) := by
  unfold F_skolemlaw10_large at h
  refine Fn.of_body (N := 55) (rs := [.tmp 4]) Try.func12 (c := _) rfl rfl rfl (by kernel_rfl) (Nat.le_of_ble_eq_true rfl) (fun _B => ?_)
  refine awp_rs ?_
  refine rn (r := 1001) rfl rfl (st_box rfl rfl rfl co25 rfl rfl) rfl ?_
  refine ro rfl rfl (st_as rfl) ?_
  refine rw_nilk ?_
  refine awp_rs ?_
  refine ro rfl rfl (st_as rfl) ?_
  refine ro rfl rfl (st_as rfl) ?_
  refine rw_nilk ?_
  refine awp_seq ?_
  refine awp_rs ?_
  refine ro rfl rfl (st_as rfl) ?_
  refine rw_nilk ?_
  refine awp_block ?_
  refine awp_len (t := 0) rfl (fun hl104 => ?_)
  rw [List.length_map] at hl104
  refine awp_range (fun (j104 : Nat) (s101 : Int) (g102 : Unit) => [(0, dL 1 (eL 1 (eI .i64)) a0), (3, .ptr 1001 0 0 0), (5, dI .i64 s101), (6, dI .i64 (0 : Int)), (7, dI .i64 ((j104 : Nat) : Int))]) (fun (s101 : Int) (g102 : Unit) => [(1001, .row 0 25 [[dB a1.Cubes, dL 5 e_S_api_Line a1.Lines]])]) () (fun _ _ _ h => h) h (gh_frz rfl rfl ⟨⟨_, rfl, .keep rfl⟩, ⟨_, rfl, .keep rfl⟩, ⟨_, rfl, .keep rfl⟩, ⟨_, rfl, .keep rfl⟩, ⟨_, rfl, .keep rfl⟩, trivial⟩ ⟨⟨_, rfl, objOne ⟨⟨rfl, .keep rfl⟩, ⟨rfl, .keep rfl⟩, trivial⟩⟩, trivial⟩) ?_ ?_
  · clear h
    intro j104 x105 s101 g102 k103 hj104 hx104 h ih103
    refine awp_seq ?_
    refine awp_rs ?_
    refine ro rfl rfl (st_mv rfl) ?_
    refine ro rfl rfl (st_mv rfl) ?_
    refine ro rfl rfl (st_lenD rfl un22) ?_
    refine ro rfl rfl (st_bin (v := dB (decide (((j104 : Nat) : Int) < ((a0.length : Nat) : Int)))) rfl rfl rfl) ?_
    refine rw_nilk ?_
    refine awp_ifT rfl (dlt hj104) ?_
    refine awp_skip ?_
    refine nx_then ?_
    refine awp_seq ?_
    refine awp_block ?_
    refine awp_rw ?_
    refine ro rfl rfl (st_mv rfl) ?_
    refine ro rfl rfl (st_mv rfl) ?_
    refine ro rfl rfl (st_mv rfl) ?_
    refine ro rfl rfl (st_ixDn sl22 rfl rfl hx104) ?_
    refine ro rfl rfl (st_ldD (v := dL 1 (eI .i64) x105) ta28 rfl rfl) ?_
    refine ro rfl rfl (st_lenD rfl un28) ?_
    refine ro rfl rfl (st_bin (v := dI .i64 (IntKind.wrap .i64 (s101 + ((x105.length : Nat) : Int)))) rfl rfl rfl) ?_
    refine ro rfl rfl (st_as rfl) ?_
    refine rw_nil ?_
    refine nx_block ?_
    refine nx_then ?_
    refine awp_rw ?_
    refine ro rfl rfl (st_mv rfl) ?_
    refine ro rfl rfl (st_inc rfl rfl hj104 hl104) ?_
    refine ro rfl rfl (st_as rfl) ?_
    refine rw_nil ?_
    refine nx_then ?_
    refine awp_gh ?_ (ih103 (IntKind.wrap .i64 (s101 + ((x105.length : Nat) : Int))) () h)
    exact (gh_frz rfl rfl ⟨⟨_, rfl, .keep rfl⟩, ⟨_, rfl, .keep rfl⟩, ⟨_, rfl, .keep rfl⟩, ⟨_, rfl, .keep rfl⟩, ⟨_, rfl, .keep rfl⟩, trivial⟩ ⟨⟨_, rfl, objOne ⟨⟨rfl, .keep rfl⟩, ⟨rfl, .keep rfl⟩, trivial⟩⟩, trivial⟩)
  · clear h
    intro s101 g102 h
    refine awp_seq ?_
    refine awp_rs ?_
    refine ro rfl rfl (st_mv rfl) ?_
    refine ro rfl rfl (st_mv rfl) ?_
    refine ro rfl rfl (st_lenD rfl un22) ?_
    refine ro rfl rfl (st_bin (v := dB (decide (((a0.length : Nat) : Int) < ((a0.length : Nat) : Int)))) rfl rfl rfl) ?_
    refine rw_nilk ?_
    refine awp_ifF rfl dge ?_
    refine awp_exit ?_
    refine ex_out ?_
    refine ex_out ?_
    refine ex_in ?_
    refine nx_then ?_
    refine awp_seq ?_
    refine awp_rs ?_
    refine ro rfl rfl (st_as rfl) ?_
    refine rw_nilk ?_
    refine awp_block ?_
    refine awp_lenC (r := 1001) (i := 1) rfl rfl (fun hl109 => ?_)
    rw [List.length_map] at hl109
    refine awp_range (fun (j109 : Nat) (s106 : Int) (g107 : Unit) => [(0, dL 1 (eL 1 (eI .i64)) a0), (3, .ptr 1001 0 0 0), (5, dI .i64 s101), (6, dI .i64 s106), (8, dI .i64 ((j109 : Nat) : Int))]) (fun (s106 : Int) (g107 : Unit) => [(1001, .row 0 25 [[dB a1.Cubes, dL 5 e_S_api_Line a1.Lines]])]) () (fun _ _ _ h => h) h (gh_frz rfl rfl ⟨⟨_, rfl, .keep rfl⟩, ⟨_, rfl, .keep rfl⟩, ⟨_, rfl, .keep rfl⟩, ⟨_, rfl, .keep rfl⟩, ⟨_, rfl, .keep rfl⟩, trivial⟩ ⟨⟨_, rfl, objOne ⟨⟨rfl, .keep rfl⟩, ⟨rfl, .keep rfl⟩, trivial⟩⟩, trivial⟩) ?_ ?_
    · clear h
      intro j109 x110 s106 g107 k108 hj109 hx109 h ih108
      refine awp_seq ?_
      refine awp_rs ?_
      refine ro rfl rfl (st_mv rfl) ?_
      refine ro rfl rfl (st_faP fo25_1 rfl) ?_
      refine ro rfl rfl (st_ldP (v := dL 5 e_S_api_Line a1.Lines) ta23 rfl rfl rfl rfl) ?_
      refine ro rfl rfl (st_lenD rfl un23) ?_
      refine ro rfl rfl (st_bin (v := dB (decide (((j109 : Nat) : Int) < ((a1.Lines.length : Nat) : Int)))) rfl rfl rfl) ?_
      refine rw_nilk ?_
      refine awp_ifT rfl (dlt hj109) ?_
      refine awp_skip ?_
      refine nx_then ?_
      refine awp_seq ?_
      refine awp_block ?_
      refine awp_rw ?_
      refine ro rfl rfl (st_mv rfl) ?_
      refine ro rfl rfl (st_faP fo25_1 rfl) ?_
      refine ro rfl rfl (st_ldP (v := dL 5 e_S_api_Line a1.Lines) ta23 rfl rfl rfl rfl) ?_
      refine ro rfl rfl (st_mv rfl) ?_
      refine ro rfl rfl (st_ixDn sl23 rfl rfl hx109) ?_
      refine ro rfl rfl (st_faD fo58_4 rfl) ?_
      refine ro rfl rfl (st_ldD (v := dL 1 (eI .i64) x110.Lits) ta28 rfl rfl) ?_
      refine ro rfl rfl (st_lenD rfl un28) ?_
      refine ro rfl rfl (st_bin (v := dI .i64 (IntKind.wrap .i64 (s106 + ((x110.Lits.length : Nat) : Int)))) rfl rfl rfl) ?_
      refine ro rfl rfl (st_as rfl) ?_
      refine rw_nil ?_
      refine nx_block ?_
      refine nx_then ?_
      refine awp_rw ?_
      refine ro rfl rfl (st_mv rfl) ?_
      refine ro rfl rfl (st_inc rfl rfl hj109 hl109) ?_
      refine ro rfl rfl (st_as rfl) ?_
      refine rw_nil ?_
      refine nx_then ?_
      refine awp_gh ?_ (ih108 (IntKind.wrap .i64 (s106 + ((x110.Lits.length : Nat) : Int))) () h)
      exact (gh_frz rfl rfl ⟨⟨_, rfl, .keep rfl⟩, ⟨_, rfl, .keep rfl⟩, ⟨_, rfl, .keep rfl⟩, ⟨_, rfl, .keep rfl⟩, ⟨_, rfl, .keep rfl⟩, trivial⟩ ⟨⟨_, rfl, objOne ⟨⟨rfl, .keep rfl⟩, ⟨rfl, .keep rfl⟩, trivial⟩⟩, trivial⟩)
    · clear h
      intro s106 g107 h
      refine awp_seq ?_
      refine awp_rs ?_
      refine ro rfl rfl (st_mv rfl) ?_
      refine ro rfl rfl (st_faP fo25_1 rfl) ?_
      refine ro rfl rfl (st_ldP (v := dL 5 e_S_api_Line a1.Lines) ta23 rfl rfl rfl rfl) ?_
      refine ro rfl rfl (st_lenD rfl un23) ?_
      refine ro rfl rfl (st_bin (v := dB (decide (((a1.Lines.length : Nat) : Int) < ((a1.Lines.length : Nat) : Int)))) rfl rfl rfl) ?_
      refine rw_nilk ?_
      refine awp_ifF rfl dge ?_
      refine awp_exit ?_
      refine ex_out ?_
      refine ex_out ?_
      refine ex_in ?_
      refine nx_then ?_
      refine awp_rs ?_
      refine ro rfl rfl (st_mv rfl) ?_
      refine ro rfl rfl (st_lenD rfl un22) ?_
      refine ro rfl rfl (st_bin (v := dB (decide (((a0.length : Nat) : Int) > (200 : Int)))) rfl rfl rfl) ?_
      refine ro rfl rfl (st_mv rfl) ?_
      refine bool_split (decide (((a0.length : Nat) : Int) > (200 : Int))) (fun p114 => ?_) (fun p114 => ?_)
      · replace h := ite_T p114 h
        rw [p114]
        refine rz rfl rfl ?_
        refine rz rfl rfl ?_
        refine ro rfl rfl (st_pickT rfl rfl) ?_
        refine ro rfl rfl (st_mv rfl) ?_
        refine rz rfl rfl ?_
        refine rz rfl rfl ?_
        refine rz rfl rfl ?_
        refine rz rfl rfl ?_
        refine ro rfl rfl (st_pickT rfl rfl) ?_
        refine ro rfl rfl (st_mv rfl) ?_
        refine rz rfl rfl ?_
        refine rz rfl rfl ?_
        refine ro rfl rfl (st_pickT rfl rfl) ?_
        refine ro rfl rfl (st_as rfl) ?_
        refine rw_nilk ?_
        refine awp_ret ?_
        injection h with h
        subst h
        exact ret_out (v := dB true) (resV_one (resVs_tmp rfl resVs_nil)) (.keep rfl)
      · replace h := ite_F p114 h
        rw [p114]
        refine ro rfl rfl (st_mv rfl) ?_
        refine ro rfl rfl (st_bin (v := dB (decide (s101 > (1000 : Int)))) rfl rfl rfl) ?_
        refine ro rfl rfl (st_pickF rfl rfl) ?_
        refine ro rfl rfl (st_mv rfl) ?_
        refine bool_split (decide (s101 > (1000 : Int))) (fun p115 => ?_) (fun p115 => ?_)
        · replace h := ite_T p115 h
          rw [p115]
          refine rz rfl rfl ?_
          refine rz rfl rfl ?_
          refine rz rfl rfl ?_
          refine rz rfl rfl ?_
          refine ro rfl rfl (st_pickT rfl rfl) ?_
          refine ro rfl rfl (st_mv rfl) ?_
          refine rz rfl rfl ?_
          refine rz rfl rfl ?_
          refine ro rfl rfl (st_pickT rfl rfl) ?_
          refine ro rfl rfl (st_as rfl) ?_
          refine rw_nilk ?_
          refine awp_ret ?_
          injection h with h
          subst h
          exact ret_out (v := dB true) (resV_one (resVs_tmp rfl resVs_nil)) (.keep rfl)
        · replace h := ite_F p115 h
          rw [p115]
          refine ro rfl rfl (st_faP fo25_1 rfl) ?_
          refine ro rfl rfl (st_ldP (v := dL 5 e_S_api_Line a1.Lines) ta23 rfl rfl rfl rfl) ?_
          refine ro rfl rfl (st_lenD rfl un23) ?_
          refine ro rfl rfl (st_bin (v := dB (decide (((a1.Lines.length : Nat) : Int) > (300 : Int)))) rfl rfl rfl) ?_
          refine ro rfl rfl (st_pickF rfl rfl) ?_
          refine ro rfl rfl (st_mv rfl) ?_
          refine bool_split (decide (((a1.Lines.length : Nat) : Int) > (300 : Int))) (fun p116 => ?_) (fun p116 => ?_)
          · replace h := ite_T p116 h
            rw [p116]
            refine rz rfl rfl ?_
            refine rz rfl rfl ?_
            refine ro rfl rfl (st_pickT rfl rfl) ?_
            refine ro rfl rfl (st_as rfl) ?_
            refine rw_nilk ?_
            refine awp_ret ?_
            injection h with h
            subst h
            exact ret_out (v := dB true) (resV_one (resVs_tmp rfl resVs_nil)) (.keep rfl)
          · replace h := ite_F p116 h
            rw [p116]
            refine ro rfl rfl (st_mv rfl) ?_
            refine ro rfl rfl (st_bin (v := dB (decide (s106 > (2000 : Int)))) rfl rfl rfl) ?_
            refine ro rfl rfl (st_pickF rfl rfl) ?_
            refine ro rfl rfl (st_as rfl) ?_
            refine rw_nilk ?_
            refine awp_ret ?_
            injection h with h
            subst h
            exact ret_out (v := dB (decide (s106 > (2000 : Int)))) (resV_one (resVs_tmp rfl resVs_nil)) (.keep rfl)

theorem ok_skolemlaw10_head {r : Bool} (h : F_skolemlaw10_head = some r) : Fn Try.prog 13 [] (dB r) := by
  unfold F_skolemlaw10_head at h
  injection h with h
  subst h
  exact fn_eval (n := 5000) (by kernel_rfl) (by kernel_rfl)

theorem ok_proof_abs {a0 : Int} {r : Int} (h : F_proof_abs a0 = some r) : Fn Try.prog 79 [dI .i64 a0] (dI .i64 r) := by
  unfold F_proof_abs at h
  refine Fn.of_body (N := 7) (rs := [.tmp 2]) Try.func79 (c := _) rfl rfl rfl (by kernel_rfl) (Nat.le_of_ble_eq_true rfl) (fun _B => ?_)
  refine awp_rs ?_
  refine ro rfl rfl (st_as rfl) ?_
  refine rw_nilk ?_
  refine awp_rs ?_
  refine ro rfl rfl (st_mv rfl) ?_
  refine ro rfl rfl (st_mv rfl) ?_
  refine ro rfl rfl (st_un (v := dI .i64 (IntKind.wrap .i64 (0 - a0))) rfl rfl) ?_
  refine ro rfl rfl (st_max rfl rfl) ?_
  refine ro rfl rfl (st_as rfl) ?_
  refine rw_nilk ?_
  refine awp_ret ?_
  injection h with h
  subst h
  exact ret_out (v := dI .i64 (imx a0 (IntKind.wrap .i64 (0 - a0)))) (resV_one (resVs_tmp rfl resVs_nil)) (.keep rfl)

theorem ok_proof_normal {a0 : (List Int)} {r : Bool} (h : F_proof_normal a0 = some r) : Fn Try.prog 51 [dL 1 (eI .i64) a0] (dB r) := by
  unfold F_proof_normal at h
  refine Fn.of_body (N := 27) (rs := [.tmp 2]) Try.func51 (c := _) rfl rfl rfl (by kernel_rfl) (Nat.le_of_ble_eq_true rfl) (fun _B => ?_)
  refine awp_rs ?_
  refine ro rfl rfl (st_as rfl) ?_
  refine rw_nilk ?_
  refine awp_rs ?_
  refine ro rfl rfl (st_as rfl) ?_
  refine rw_nilk ?_
  refine awp_seq ?_
  refine awp_rs ?_
  refine ro rfl rfl (st_mv rfl) ?_
  refine ro rfl rfl (st_lenD rfl un28) ?_
  refine ro rfl rfl (st_mv rfl) ?_
  refine rw_nilk ?_
  refine awp_block ?_
  refine awp_len (t := 0) rfl (fun hl104 => ?_)
  rw [List.length_map] at hl104
  refine awp_range (fun (j104 : Nat) (s101 : Int) (g102 : Unit) => [(3, dI .i64 s101), (6, dL 1 (eI .i64) a0), (7, dI .i64 ((a0.length : Nat) : Int)), (8, dI .i64 ((j104 : Nat) : Int))]) (fun (s101 : Int) (g102 : Unit) => []) () (fun _ _ _ h => h) h (gh_frz rfl rfl ⟨⟨_, rfl, .keep rfl⟩, ⟨_, rfl, .keep rfl⟩, ⟨_, rfl, .keep rfl⟩, ⟨_, rfl, .keep rfl⟩, trivial⟩ trivial) ?_ ?_
  · clear h
    intro j104 x105 s101 g102 k103 hj104 hx104 h ih103
    refine awp_rs ?_
    refine ro rfl rfl (st_bin (v := dB (decide (((j104 : Nat) : Int) < ((a0.length : Nat) : Int)))) rfl rfl rfl) ?_
    refine rw_nilk ?_
    refine awp_seq ?_
    refine awp_ifT rfl (dlt hj104) ?_
    refine awp_skip ?_
    refine nx_then ?_
    refine awp_seq ?_
    refine awp_block ?_
    refine awp_rs ?_
    refine ro rfl rfl (st_ixDn sl28 rfl rfl hx104) ?_
    refine ro rfl rfl (st_ldD (v := dI .i64 x105) ta3 rfl rfl) ?_
    refine ro rfl rfl (st_as rfl) ?_
    refine rw_nilk ?_
    refine awp_seq ?_
    refine awp_jn (fun (s224 : Bool) (g225 : Unit) => [(5, dI .i64 x105), (6, dL 1 (eI .i64) a0), (7, dI .i64 ((a0.length : Nat) : Int)), (8, dI .i64 ((j104 : Nat) : Int)), (23, dB s224)]) (fun (s224 : Bool) (g225 : Unit) => []) h ?_ ?_
    · clear h
      intro s224 g225 h
      refine awp_ite (b := s224) rfl (fun p227 => ?_) (fun p227 => ?_)
      · replace h := ite_T p227 h
        refine awp_rs ?_
        refine ro rfl rfl (st_as rfl) ?_
        refine rw_nilk ?_
        refine awp_ret ?_
        refine rt_then ?_
        refine rt_block ?_
        refine rt_then ?_
        refine rt_then ?_
        refine rt_block ?_
        refine rt_then ?_
        injection h with h
        subst h
        exact ret_out (v := dB false) (resV_one (resVs_tmp rfl resVs_nil)) (.keep rfl)
      · replace h := ite_F p227 h
        refine awp_skip ?_
        refine nx_then ?_
        refine awp_rw ?_
        refine ro rfl rfl (st_mv rfl) ?_
        obtain ⟨y228, hy228, h⟩ := bind_some_elim h
        refine rf rfl rfl (ok_proof_abs hy228) rfl rfl ?_
        refine ro rfl rfl (st_as rfl) ?_
        refine rw_nil ?_
        refine nx_block ?_
        refine nx_then ?_
        refine awp_rw ?_
        refine ro rfl rfl (st_inc rfl rfl hj104 hl104) ?_
        refine ro rfl rfl (st_mv rfl) ?_
        refine rw_nil ?_
        refine nx_then ?_
        refine awp_gh ?_ (ih103 y228 () h)
        exact (gh_frz rfl rfl ⟨⟨_, rfl, .keep rfl⟩, ⟨_, rfl, .keep rfl⟩, ⟨_, rfl, .keep rfl⟩, ⟨_, rfl, .keep rfl⟩, trivial⟩ trivial)
    · clear h
      intro k226 h J226
      refine awp_rw ?_
      refine ro rfl rfl (st_mv rfl) ?_
      refine ro rfl rfl (st_bin (v := dB (decide (x105 < (-65536 : Int)))) rfl rfl rfl) ?_
      refine ro rfl rfl (st_mv rfl) ?_
      refine bool_split (decide (x105 < (-65536 : Int))) (fun p229 => ?_) (fun p229 => ?_)
      · replace h := ite_T p229 h
        rw [p229]
        refine rz rfl rfl ?_
        refine rz rfl rfl ?_
        refine ro rfl rfl (st_pickT rfl rfl) ?_
        refine ro rfl rfl (st_mv rfl) ?_
        refine rz rfl rfl ?_
        refine rz rfl rfl ?_
        refine rz rfl rfl ?_
        refine rz rfl rfl ?_
        refine ro rfl rfl (st_pickT rfl rfl) ?_
        refine rw_nil ?_
        refine nx_then ?_
        exact J226 true () _ _ h (gh_frz rfl rfl ⟨⟨_, rfl, .keep rfl⟩, ⟨_, rfl, .keep rfl⟩, ⟨_, rfl, .keep rfl⟩, ⟨_, rfl, .keep rfl⟩, ⟨_, rfl, .keep rfl⟩, trivial⟩ trivial)
      · replace h := ite_F p229 h
        rw [p229]
        refine ro rfl rfl (st_mv rfl) ?_
        refine ro rfl rfl (st_bin (v := dB (decide (x105 > (65536 : Int)))) rfl rfl rfl) ?_
        refine ro rfl rfl (st_pickF rfl rfl) ?_
        refine ro rfl rfl (st_mv rfl) ?_
        refine bool_split (decide (x105 > (65536 : Int))) (fun p230 => ?_) (fun p230 => ?_)
        · replace h := ite_T p230 h
          rw [p230]
          refine rz rfl rfl ?_
          refine rz rfl rfl ?_
          refine rz rfl rfl ?_
          refine rz rfl rfl ?_
          refine ro rfl rfl (st_pickT rfl rfl) ?_
          refine rw_nil ?_
          refine nx_then ?_
          exact J226 true () _ _ h (gh_frz rfl rfl ⟨⟨_, rfl, .keep rfl⟩, ⟨_, rfl, .keep rfl⟩, ⟨_, rfl, .keep rfl⟩, ⟨_, rfl, .keep rfl⟩, ⟨_, rfl, .keep rfl⟩, trivial⟩ trivial)
        · replace h := ite_F p230 h
          rw [p230]
          refine ro rfl rfl (st_mv rfl) ?_
          obtain ⟨y231, hy231, h⟩ := bind_some_elim h
          refine rf rfl rfl (ok_proof_abs hy231) rfl rfl ?_
          refine ro rfl rfl (st_mv rfl) ?_
          refine ro rfl rfl (st_bin (v := dB (decide (y231 ≤ s101))) rfl rfl rfl) ?_
          refine ro rfl rfl (st_pickF rfl rfl) ?_
          refine rw_nil ?_
          refine nx_then ?_
          exact J226 (decide (y231 ≤ s101)) () _ _ h (gh_frz rfl rfl ⟨⟨_, rfl, .keep rfl⟩, ⟨_, rfl, .keep rfl⟩, ⟨_, rfl, .keep rfl⟩, ⟨_, rfl, .keep rfl⟩, ⟨_, rfl, .keep rfl⟩, trivial⟩ trivial)
  · clear h
    intro s101 g102 h
    refine awp_rs ?_
    refine ro rfl rfl (st_bin (v := dB (decide (((a0.length : Nat) : Int) < ((a0.length : Nat) : Int)))) rfl rfl rfl) ?_
    refine rw_nilk ?_
    refine awp_seq ?_
    refine awp_ifF rfl dge ?_
    refine awp_exit ?_
    refine ex_out ?_
    refine ex_out ?_
    refine ex_in ?_
    refine nx_then ?_
    refine awp_rs ?_
    refine ro rfl rfl (st_as rfl) ?_
    refine rw_nilk ?_
    refine awp_ret ?_
    injection h with h
    subst h
    exact ret_out (v := dB true) (resV_one (resVs_tmp rfl resVs_nil)) (.keep rfl)

theorem ok_proof_cnf {a0 : (List (List Int))} {r : Bool} (h : F_proof_cnf a0 = some r) : Fn Try.prog 45 [dL 1 (eL 1 (eI .i64)) a0] (dB r) := by
  unfold F_proof_cnf at h
  refine Fn.of_body (N := 27) (rs := [.tmp 2]) Try.func45 (c := _) rfl rfl rfl (by kernel_rfl) (Nat.le_of_ble_eq_true rfl) (fun _B => ?_)
  refine awp_rs ?_
  refine ro rfl rfl (st_as rfl) ?_
  refine rw_nilk ?_
  refine awp_seq ?_
  refine awp_rs ?_
  refine ro rfl rfl (st_mv rfl) ?_
  refine ro rfl rfl (st_lenD rfl un22) ?_
  refine ro rfl rfl (st_bin (v := dB (decide (((a0.length : Nat) : Int) > (20000 : Int)))) rfl rfl rfl) ?_
  refine rw_nilk ?_
  refine awp_ite (b := (decide (((a0.length : Nat) : Int) > (20000 : Int)))) rfl (fun p101 => ?_) (fun p101 => ?_)
  · replace h := ite_T p101 h
    refine awp_rs ?_
    refine ro rfl rfl (st_as rfl) ?_
    refine rw_nilk ?_
    refine awp_ret ?_
    refine rt_then ?_
    injection h with h
    subst h
    exact ret_out (v := dB false) (resV_one (resVs_tmp rfl resVs_nil)) (.keep rfl)
  · replace h := ite_F p101 h
    refine awp_skip ?_
    refine nx_then ?_
    refine awp_rs ?_
    refine ro rfl rfl (st_as rfl) ?_
    refine rw_nilk ?_
    refine awp_seq ?_
    refine awp_rs ?_
    refine ro rfl rfl (st_mv rfl) ?_
    refine ro rfl rfl (st_lenD rfl un22) ?_
    refine ro rfl rfl (st_mv rfl) ?_
    refine rw_nilk ?_
    refine awp_block ?_
    refine awp_len (t := 0) rfl (fun hl105 => ?_)
    rw [List.length_map] at hl105
    refine awp_range (fun (j105 : Nat) (s102 : Int) (g103 : Unit) => [(3, dI .i64 s102), (9, dL 1 (eL 1 (eI .i64)) a0), (10, dI .i64 ((a0.length : Nat) : Int)), (11, dI .i64 ((j105 : Nat) : Int))]) (fun (s102 : Int) (g103 : Unit) => []) () (fun _ _ _ h => h) h (gh_frz rfl rfl ⟨⟨_, rfl, .keep rfl⟩, ⟨_, rfl, .keep rfl⟩, ⟨_, rfl, .keep rfl⟩, ⟨_, rfl, .keep rfl⟩, trivial⟩ trivial) ?_ ?_
    · clear h
      intro j105 x106 s102 g103 k104 hj105 hx105 h ih104
      refine awp_rs ?_
      refine ro rfl rfl (st_bin (v := dB (decide (((j105 : Nat) : Int) < ((a0.length : Nat) : Int)))) rfl rfl rfl) ?_
      refine rw_nilk ?_
      refine awp_seq ?_
      refine awp_ifT rfl (dlt hj105) ?_
      refine awp_skip ?_
      refine nx_then ?_
      refine awp_seq ?_
      refine awp_block ?_
      refine awp_rs ?_
      refine ro rfl rfl (st_ixDn sl22 rfl rfl hx105) ?_
      refine ro rfl rfl (st_ldD (v := dL 1 (eI .i64) x106) ta28 rfl rfl) ?_
      refine ro rfl rfl (st_as rfl) ?_
      refine rw_nilk ?_
      refine awp_rs ?_
      refine ro rfl rfl (st_mv rfl) ?_
      refine ro rfl rfl (st_mv rfl) ?_
      refine ro rfl rfl (st_lenD rfl un28) ?_
      refine ro rfl rfl (st_bin (v := dI .i64 (IntKind.wrap .i64 (s102 + ((x106.length : Nat) : Int)))) rfl rfl rfl) ?_
      refine ro rfl rfl (st_as rfl) ?_
      refine rw_nilk ?_
      refine awp_jn (fun (s149 : Bool) (g150 : Unit) => [(3, dI .i64 (IntKind.wrap .i64 (s102 + ((x106.length : Nat) : Int)))), (9, dL 1 (eL 1 (eI .i64)) a0), (10, dI .i64 ((a0.length : Nat) : Int)), (11, dI .i64 ((j105 : Nat) : Int)), (25, dB s149)]) (fun (s149 : Bool) (g150 : Unit) => []) h ?_ ?_
      · clear h
        intro s149 g150 h
        refine awp_ite (b := s149) rfl (fun p152 => ?_) (fun p152 => ?_)
        · replace h := ite_T p152 h
          refine awp_rs ?_
          refine ro rfl rfl (st_as rfl) ?_
          refine rw_nilk ?_
          refine awp_ret ?_
          refine rt_block ?_
          refine rt_then ?_
          refine rt_then ?_
          refine rt_block ?_
          refine rt_then ?_
          injection h with h
          subst h
          exact ret_out (v := dB false) (resV_one (resVs_tmp rfl resVs_nil)) (.keep rfl)
        · replace h := ite_F p152 h
          refine awp_skip ?_
          refine nx_block ?_
          refine nx_then ?_
          refine awp_rw ?_
          refine ro rfl rfl (st_inc rfl rfl hj105 hl105) ?_
          refine ro rfl rfl (st_mv rfl) ?_
          refine rw_nil ?_
          refine nx_then ?_
          refine awp_gh ?_ (ih104 (IntKind.wrap .i64 (s102 + ((x106.length : Nat) : Int))) () h)
          exact (gh_frz rfl rfl ⟨⟨_, rfl, .keep rfl⟩, ⟨_, rfl, .keep rfl⟩, ⟨_, rfl, .keep rfl⟩, ⟨_, rfl, .keep rfl⟩, trivial⟩ trivial)
      · clear h
        intro k151 h J151
        refine awp_rw ?_
        refine ro rfl rfl (st_mv rfl) ?_
        refine ro rfl rfl (st_bin (v := dB (decide ((IntKind.wrap .i64 (s102 + ((x106.length : Nat) : Int))) > (200000 : Int)))) rfl rfl rfl) ?_
        refine ro rfl rfl (st_mv rfl) ?_
        refine bool_split (decide ((IntKind.wrap .i64 (s102 + ((x106.length : Nat) : Int))) > (200000 : Int))) (fun p153 => ?_) (fun p153 => ?_)
        · replace h := ite_T p153 h
          rw [p153]
          refine rz rfl rfl ?_
          refine rz rfl rfl ?_
          refine rz rfl rfl ?_
          refine ro rfl rfl (st_pickT rfl rfl) ?_
          refine rw_nil ?_
          refine nx_then ?_
          exact J151 true () _ _ h (gh_frz rfl rfl ⟨⟨_, rfl, .keep rfl⟩, ⟨_, rfl, .keep rfl⟩, ⟨_, rfl, .keep rfl⟩, ⟨_, rfl, .keep rfl⟩, ⟨_, rfl, .keep rfl⟩, trivial⟩ trivial)
        · replace h := ite_F p153 h
          rw [p153]
          refine ro rfl rfl (st_mv rfl) ?_
          obtain ⟨y154, hy154, h⟩ := bind_some_elim h
          refine rf rfl rfl (ok_proof_normal hy154) rfl rfl ?_
          refine ro rfl rfl (st_un (v := dB (!y154)) rfl rfl) ?_
          refine ro rfl rfl (st_pickF rfl rfl) ?_
          refine rw_nil ?_
          refine nx_then ?_
          exact J151 (!y154) () _ _ h (gh_frz rfl rfl ⟨⟨_, rfl, .keep rfl⟩, ⟨_, rfl, .keep rfl⟩, ⟨_, rfl, .keep rfl⟩, ⟨_, rfl, .keep rfl⟩, ⟨_, rfl, .keep rfl⟩, trivial⟩ trivial)
    · clear h
      intro s102 g103 h
      refine awp_rs ?_
      refine ro rfl rfl (st_bin (v := dB (decide (((a0.length : Nat) : Int) < ((a0.length : Nat) : Int)))) rfl rfl rfl) ?_
      refine rw_nilk ?_
      refine awp_seq ?_
      refine awp_ifF rfl dge ?_
      refine awp_exit ?_
      refine ex_out ?_
      refine ex_out ?_
      refine ex_in ?_
      refine nx_then ?_
      refine awp_rs ?_
      refine ro rfl rfl (st_as rfl) ?_
      refine rw_nilk ?_
      refine awp_ret ?_
      injection h with h
      subst h
      exact ret_out (v := dB true) (resV_one (resVs_tmp rfl resVs_nil)) (.keep rfl)

theorem ok_proof_fits {a0 : S_api_Proof} {r : Bool} (h : F_proof_fits a0 = some r) : Fn Try.prog 46 [.agg [dB a0.Cubes, dL 5 e_S_api_Line a0.Lines]] (dB r) := by
  unfold F_proof_fits at h
  refine Fn.of_body (N := 18) (rs := [.tmp 2]) Try.func46 (c := _) rfl rfl rfl (by kernel_rfl) (Nat.le_of_ble_eq_true rfl) (fun _B => ?_)
  refine awp_rs ?_
  refine rn (r := 1001) rfl rfl (st_box rfl rfl rfl co25 rfl rfl) rfl ?_
  refine ro rfl rfl (st_as rfl) ?_
  refine rw_nilk ?_
  refine awp_rs ?_
  refine ro rfl rfl (st_faP fo25_0 rfl) ?_
  refine ro rfl rfl (st_ldP (v := dB a0.Cubes) ta4 rfl rfl rfl rfl) ?_
  refine ro rfl rfl (st_un (v := dB (!a0.Cubes)) rfl rfl) ?_
  refine ro rfl rfl (st_mv rfl) ?_
  refine bool_split (!a0.Cubes) (fun p103 => ?_) (fun p103 => ?_)
  · replace h := ite_T p103 h
    rw [p103]
    refine ro rfl rfl (st_faP fo25_1 rfl) ?_
    refine ro rfl rfl (st_ldP (v := dL 5 e_S_api_Line a0.Lines) ta23 rfl rfl rfl rfl) ?_
    refine ro rfl rfl (st_lenD rfl un23) ?_
    refine ro rfl rfl (st_bin (v := dB (decide (((a0.Lines.length : Nat) : Int) > (0 : Int)))) rfl rfl rfl) ?_
    refine ro rfl rfl (st_pickT rfl rfl) ?_
    refine ro rfl rfl (st_mv rfl) ?_
    refine bool_split (decide (((a0.Lines.length : Nat) : Int) > (0 : Int))) (fun p104 => ?_) (fun p104 => ?_)
    · replace h := ite_T p104 h
      rw [p104]
      refine ro rfl rfl (st_faP fo25_1 rfl) ?_
      refine ro rfl rfl (st_ldP (v := dL 5 e_S_api_Line a0.Lines) ta23 rfl rfl rfl rfl) ?_
      refine ro rfl rfl (st_lenD rfl un23) ?_
      refine ro rfl rfl (st_bin (v := dB (decide (((a0.Lines.length : Nat) : Int) ≤ (1000000 : Int)))) rfl rfl rfl) ?_
      refine ro rfl rfl (st_pickT rfl rfl) ?_
      refine ro rfl rfl (st_as rfl) ?_
      refine rw_nilk ?_
      refine awp_ret ?_
      injection h with h
      subst h
      exact ret_out (v := dB (decide (((a0.Lines.length : Nat) : Int) ≤ (1000000 : Int)))) (resV_one (resVs_tmp rfl resVs_nil)) (.keep rfl)
    · replace h := ite_F p104 h
      rw [p104]
      refine rz rfl rfl ?_
      refine rz rfl rfl ?_
      refine rz rfl rfl ?_
      refine rz rfl rfl ?_
      refine ro rfl rfl (st_pickF rfl rfl) ?_
      refine ro rfl rfl (st_as rfl) ?_
      refine rw_nilk ?_
      refine awp_ret ?_
      injection h with h
      subst h
      exact ret_out (v := dB false) (resV_one (resVs_tmp rfl resVs_nil)) (.keep rfl)
  · replace h := ite_F p103 h
    rw [p103]
    refine rz rfl rfl ?_
    refine rz rfl rfl ?_
    refine rz rfl rfl ?_
    refine rz rfl rfl ?_
    refine ro rfl rfl (st_pickF rfl rfl) ?_
    refine ro rfl rfl (st_mv rfl) ?_
    refine rz rfl rfl ?_
    refine rz rfl rfl ?_
    refine rz rfl rfl ?_
    refine rz rfl rfl ?_
    refine ro rfl rfl (st_pickF rfl rfl) ?_
    refine ro rfl rfl (st_as rfl) ?_
    refine rw_nilk ?_
    refine awp_ret ?_
    injection h with h
    subst h
    exact ret_out (v := dB false) (resV_one (resVs_tmp rfl resVs_nil)) (.keep rfl)

theorem ok_slices_Index_int_int {a0 : (List Int)} {a1 : Int} {r : Int} (h : F_slices_Index_int_int a0 a1 = some r) : Fn Try.prog 83 [dL 1 (eI .i64) a0, dI .i64 a1] (dI .i64 r) := by
  unfold F_slices_Index_int_int at h
  refine Fn.of_body (N := 19) (rs := [.tmp 4]) Try.func83 (c := _) rfl rfl rfl (by kernel_rfl) (Nat.le_of_ble_eq_true rfl) (fun _B => ?_)
  refine awp_rs ?_
  refine ro rfl rfl (st_as rfl) ?_
  refine rw_nilk ?_
  refine awp_seq ?_
  refine awp_rs ?_
  refine ro rfl rfl (st_mv rfl) ?_
  refine ro rfl rfl (st_lenD rfl un28) ?_
  refine ro rfl rfl (st_mv rfl) ?_
  refine rw_nilk ?_
  refine awp_block ?_
  refine awp_len (t := 0) rfl (fun hl104 => ?_)
  rw [List.length_map] at hl104
  refine awp_range (fun (j104 : Nat) (s101 : Unit) (g102 : Unit) => [(0, dL 1 (eI .i64) a0), (1, dI .i64 a1), (7, dI .i64 ((a0.length : Nat) : Int)), (8, dI .i64 ((j104 : Nat) : Int))]) (fun (s101 : Unit) (g102 : Unit) => []) () (fun _ _ _ h => h) h (gh_frz rfl rfl ⟨⟨_, rfl, .keep rfl⟩, ⟨_, rfl, .keep rfl⟩, ⟨_, rfl, .keep rfl⟩, ⟨_, rfl, .keep rfl⟩, trivial⟩ trivial) ?_ ?_
  · clear h
    intro j104 x105 s101 g102 k103 hj104 hx104 h ih103
    refine awp_rs ?_
    refine ro rfl rfl (st_bin (v := dB (decide (((j104 : Nat) : Int) < ((a0.length : Nat) : Int)))) rfl rfl rfl) ?_
    refine rw_nilk ?_
    refine awp_seq ?_
    refine awp_ifT rfl (dlt hj104) ?_
    refine awp_skip ?_
    refine nx_then ?_
    refine awp_seq ?_
    refine awp_block ?_
    refine awp_rs ?_
    refine ro rfl rfl (st_mv rfl) ?_
    refine ro rfl rfl (st_as rfl) ?_
    refine rw_nilk ?_
    refine awp_rs ?_
    refine ro rfl rfl (st_mv rfl) ?_
    refine ro rfl rfl (st_mv rfl) ?_
    refine ro rfl rfl (st_mv rfl) ?_
    refine ro rfl rfl (st_ixDn sl28 rfl rfl hx104) ?_
    refine ro rfl rfl (st_ldD (v := dI .i64 x105) ta3 rfl rfl) ?_
    refine ro rfl rfl (st_bin (v := dB (a1 == x105)) rfl rfl rfl) ?_
    refine rw_nilk ?_
    refine awp_ite (b := (a1 == x105)) rfl (fun p107 => ?_) (fun p107 => ?_)
    · replace h := ite_T p107 h
      refine awp_rs ?_
      refine ro rfl rfl (st_mv rfl) ?_
      refine ro rfl rfl (st_as rfl) ?_
      refine rw_nilk ?_
      refine awp_ret ?_
      refine rt_block ?_
      refine rt_then ?_
      refine rt_then ?_
      refine rt_block ?_
      refine rt_then ?_
      injection h with h
      subst h
      exact ret_out (v := dI .i64 ((j104 : Nat) : Int)) (resV_one (resVs_tmp rfl resVs_nil)) (.keep rfl)
    · replace h := ite_F p107 h
      refine awp_skip ?_
      refine nx_block ?_
      refine nx_then ?_
      refine awp_rw ?_
      refine ro rfl rfl (st_inc rfl rfl hj104 hl104) ?_
      refine ro rfl rfl (st_mv rfl) ?_
      refine rw_nil ?_
      refine nx_then ?_
      refine awp_gh ?_ (ih103 () () h)
      exact (gh_frz rfl rfl ⟨⟨_, rfl, .keep rfl⟩, ⟨_, rfl, .keep rfl⟩, ⟨_, rfl, .keep rfl⟩, ⟨_, rfl, .keep rfl⟩, trivial⟩ trivial)
  · clear h
    intro s101 g102 h
    refine awp_rs ?_
    refine ro rfl rfl (st_bin (v := dB (decide (((a0.length : Nat) : Int) < ((a0.length : Nat) : Int)))) rfl rfl rfl) ?_
    refine rw_nilk ?_
    refine awp_seq ?_
    refine awp_ifF rfl dge ?_
    refine awp_exit ?_
    refine ex_out ?_
    refine ex_out ?_
    refine ex_in ?_
    refine nx_then ?_
    refine awp_rs ?_
    refine ro rfl rfl (st_as rfl) ?_
    refine rw_nilk ?_
    refine awp_ret ?_
    injection h with h
    subst h
    exact ret_out (v := dI .i64 (-1 : Int)) (resV_one (resVs_tmp rfl resVs_nil)) (.keep rfl)

theorem ok_slices_Contains_int_int {a0 : (List Int)} {a1 : Int} {r : Bool} (h : F_slices_Contains_int_int a0 a1 = some r) : Fn Try.prog 55 [dL 1 (eI .i64) a0, dI .i64 a1] (dB r) := by
  unfold F_slices_Contains_int_int at h
  refine Fn.of_body (N := 9) (rs := [.tmp 4]) Try.func55 (c := _) rfl rfl rfl (by kernel_rfl) (Nat.le_of_ble_eq_true rfl) (fun _B => ?_)
  refine awp_rs ?_
  refine ro rfl rfl (st_as rfl) ?_
  refine rw_nilk ?_
  refine awp_rs ?_
  refine ro rfl rfl (st_mv rfl) ?_
  refine ro rfl rfl (st_mv rfl) ?_
  obtain ⟨y101, hy101, h⟩ := bind_some_elim h
  refine rf rfl rfl (ok_slices_Index_int_int hy101) rfl rfl ?_
  refine ro rfl rfl (st_bin (v := dB (decide (y101 ≥ (0 : Int)))) rfl rfl rfl) ?_
  refine ro rfl rfl (st_as rfl) ?_
  refine rw_nilk ?_
  refine awp_ret ?_
  injection h with h
  subst h
  exact ret_out (v := dB (decide (y101 ≥ (0 : Int)))) (resV_one (resVs_tmp rfl resVs_nil)) (.keep rfl)

theorem ok_proof_resolvent {a0 : (List Int)} {a1 : (List Int)} {a2 : Int} {r : ((List Int) × Bool)} (h : F_proof_resolvent a0 a1 a2 = some r) : Fn Try.prog 60 [dL 1 (eI .i64) a0, dL 1 (eI .i64) a1, dI .i64 a2] (.tup [dL 1 (eI .i64) r.1, dB r.2]) := by
  unfold F_proof_resolvent at h
  refine Fn.of_body (N := 117) (rs := [.tmp 6, .tmp 7]) Try.func60 (c := _) rfl rfl rfl (by kernel_rfl) (Nat.le_of_ble_eq_true rfl) (fun _B => ?_)
  refine awp_rs ?_
  refine ro rfl rfl (st_as rfl) ?_
  refine ro rfl rfl (st_as rfl) ?_
  refine rw_nilk ?_
  refine awp_seq ?_
  refine awp_jn (fun (s117 : Bool) (g118 : Unit) => [(0, dL 1 (eI .i64) a0), (1, dL 1 (eI .i64) a1), (2, dI .i64 a2), (23, dB s117)]) (fun (s117 : Bool) (g118 : Unit) => []) h ?_ ?_
  · clear h
    intro s117 g118 h
    refine awp_ite (b := s117) rfl (fun p120 => ?_) (fun p120 => ?_)
    · replace h := ite_T p120 h
      refine awp_rs ?_
      refine ro rfl rfl (st_as rfl) ?_
      refine ro rfl rfl (st_as rfl) ?_
      refine rw_nilk ?_
      refine awp_ret ?_
      refine rt_then ?_
      injection h with h
      subst h
      exact ret_out (v := .tup [.nilS, dB false]) (resV_many (resVs_tmp rfl (resVs_tmp rfl resVs_nil))) (frz_tup ⟨(.nilS _), (.keep rfl), trivial⟩)
    · replace h := ite_F p120 h
      refine awp_skip ?_
      refine nx_then ?_
      refine awp_rs ?_
      refine ro rfl rfl (st_mv rfl) ?_
      refine ro rfl rfl (st_lenD rfl un28) ?_
      refine ro rfl rfl (st_mv rfl) ?_
      refine ro rfl rfl (st_lenD rfl un28) ?_
      refine ro rfl rfl (st_bin (v := dI .i64 (IntKind.wrap .i64 (((a0.length : Nat) : Int) + ((a1.length : Nat) : Int)))) rfl rfl rfl) ?_
      refine ro rfl rfl (st_bin (v := dI .i64 (IntKind.wrap .i64 ((IntKind.wrap .i64 (((a0.length : Nat) : Int) + ((a1.length : Nat) : Int))) - (2 : Int)))) rfl rfl rfl) ?_
      obtain ⟨c121, h⟩ := okI_some h
      refine rn (r := 1001) rfl rfl (st_mk0I (f := (eI .i64)) sl28 zc3 rfl rfl rfl rfl rfl c121) rfl ?_
      refine ro rfl rfl (st_as rfl) ?_
      refine rw_nilk ?_
      refine awp_seq ?_
      refine awp_block ?_
      refine awp_while (fun (s122 : ((List Int) × (List Int) × (List Int))) (g123 : Nat) => [(0, dL 1 (eI .i64) s122.1), (1, dL 1 (eI .i64) s122.2.1), (2, dI .i64 a2), (8, .slice 1001 g123 0 s122.2.2.length)]) (fun (s122 : ((List Int) × (List Int) × (List Int))) (g123 : Nat) => [(1001, rw' g123 3 (eI .i64) s122.2.2)]) 1 (fun _ _ _ h => h) h (gh_frz rfl rfl ⟨⟨_, rfl, .keep rfl⟩, ⟨_, rfl, .keep rfl⟩, ⟨_, rfl, .keep rfl⟩, ⟨_, rfl, .keep rfl⟩, trivial⟩ ⟨⟨_, rfl, objRow (List.map (eI .i64) ([] : List Int))⟩, trivial⟩) ?_
      clear h
      intro s122 g123 k124 h ih124
      refine awp_seq ?_
      refine awp_rs ?_
      refine ro rfl rfl (st_mv rfl) ?_
      refine ro rfl rfl (st_lenD rfl un28) ?_
      refine ro rfl rfl (st_mv rfl) ?_
      refine ro rfl rfl (st_lenD rfl un28) ?_
      refine ro rfl rfl (st_bin (v := dI .i64 (IntKind.wrap .i64 (((s122.1.length : Nat) : Int) + ((s122.2.1.length : Nat) : Int)))) rfl rfl rfl) ?_
      refine ro rfl rfl (st_bin (v := dB (decide ((IntKind.wrap .i64 (((s122.1.length : Nat) : Int) + ((s122.2.1.length : Nat) : Int))) > (0 : Int)))) rfl rfl rfl) ?_
      refine rw_nilk ?_
      refine awp_ite (b := (decide ((IntKind.wrap .i64 (((s122.1.length : Nat) : Int) + ((s122.2.1.length : Nat) : Int))) > (0 : Int)))) rfl (fun p219 => ?_) (fun p219 => ?_)
      · replace h := ite_T p219 h
        refine awp_skip ?_
        refine nx_then ?_
        refine awp_block ?_
        refine awp_block ?_
        refine awp_jn (fun (s226 : Bool) (g227 : Unit) => [(0, dL 1 (eI .i64) s122.1), (1, dL 1 (eI .i64) s122.2.1), (2, dI .i64 a2), (8, .slice 1001 g123 0 s122.2.2.length), (37, dB s226)]) (fun (s226 : Bool) (g227 : Unit) => [(1001, rw' g123 3 (eI .i64) s122.2.2)]) h ?_ ?_
        · clear h
          intro s226 g227 h
          refine awp_ite (b := s226) rfl (fun p229 => ?_) (fun p229 => ?_)
          · replace h := ite_T p229 h
            refine awp_rd hmix ?_
            refine do_ rfl rfl (st_mv rfl) rfl rfl rfl ?_
            refine do_ rfl rfl (st_mv rfl) rfl rfl rfl ?_
            obtain ⟨x230, h0230, hx230, h⟩ := getI_some h
            refine do_ rfl rfl (st_ixD sl28 rfl rfl h0230 hx230) rfl rfl rfl ?_
            refine do_ rfl rfl (st_ldD (v := dI .i64 x230) ta3 rfl rfl) rfl rfl rfl ?_
            refine dn (r := 1002) rfl rfl (st_bsl (els := [[dI .i64 x230]]) sl28 zc3 rfl rfl rfl rfl rfl) rfl rfl rfl rfl ?_
            obtain ⟨c231, h⟩ := capN_some h
            refine dn (r := 0) (L' := [(1001, rw' (g123 + 2) 3 (eI .i64) (s122.2.2 ++ [x230])), (1002, .row 1 3 [[dI .i64 x230]])]) rfl rfl (st_appR (f := (eI .i64)) (xs := s122.2.2) (ys := [x230]) sl28 zc3 rfl rfl rfl rfl rfl (news_one (a := x230) rfl rfl) c231) rfl rfl rfl rfl ?_
            refine do_ rfl rfl (st_mv rfl) rfl rfl rfl ?_
            obtain ⟨c232, h⟩ := okI_some h
            refine do_ rfl rfl (st_slLo sl28 rfl rfl c232.1 c232.2) rfl rfl rfl ?_
            refine do_ rfl rfl (st_as rfl) rfl rfl rfl ?_
            refine do_ rfl rfl (st_as rfl) rfl rfl rfl ?_
            refine rd_nil (by kernel_rfl) ?_
            refine nx_block ?_
            refine nx_block ?_
            refine nx_then ?_
            refine awp_gh ?_ (ih124 ((s122.1.drop (1 : Int).toNat), s122.2.1, (s122.2.2 ++ [x230])) (g123 + 2) h)
            exact (gh_frz rfl rfl ⟨⟨_, rfl, .keep rfl⟩, ⟨_, rfl, .keep rfl⟩, ⟨_, rfl, .keep rfl⟩, ⟨_, rfl, .keep rfl⟩, trivial⟩ ⟨⟨_, rfl, objRow _⟩, trivial⟩)
          · replace h := ite_F p229 h
            refine awp_jn (fun (s238 : Bool) (g239 : Unit) => [(0, dL 1 (eI .i64) s122.1), (1, dL 1 (eI .i64) s122.2.1), (2, dI .i64 a2), (8, .slice 1001 g123 0 s122.2.2.length), (65, dB s238)]) (fun (s238 : Bool) (g239 : Unit) => [(1001, rw' g123 3 (eI .i64) s122.2.2)]) h ?_ ?_
            · clear h
              intro s238 g239 h
              refine awp_ite (b := s238) rfl (fun p241 => ?_) (fun p241 => ?_)
              · replace h := ite_T p241 h
                refine awp_rd hmix ?_
                refine do_ rfl rfl (st_mv rfl) rfl rfl rfl ?_
                refine do_ rfl rfl (st_mv rfl) rfl rfl rfl ?_
                obtain ⟨x242, h0242, hx242, h⟩ := getI_some h
                refine do_ rfl rfl (st_ixD sl28 rfl rfl h0242 hx242) rfl rfl rfl ?_
                refine do_ rfl rfl (st_ldD (v := dI .i64 x242) ta3 rfl rfl) rfl rfl rfl ?_
                refine dn (r := 1003) rfl rfl (st_bsl (els := [[dI .i64 x242]]) sl28 zc3 rfl rfl rfl rfl rfl) rfl rfl rfl rfl ?_
                obtain ⟨c243, h⟩ := capN_some h
                refine dn (r := 0) (L' := [(1001, rw' (g123 + 2) 3 (eI .i64) (s122.2.2 ++ [x242])), (1003, .row 1 3 [[dI .i64 x242]])]) rfl rfl (st_appR (f := (eI .i64)) (xs := s122.2.2) (ys := [x242]) sl28 zc3 rfl rfl rfl rfl rfl (news_one (a := x242) rfl rfl) c243) rfl rfl rfl rfl ?_
                refine do_ rfl rfl (st_mv rfl) rfl rfl rfl ?_
                obtain ⟨c244, h⟩ := okI_some h
                refine do_ rfl rfl (st_slLo sl28 rfl rfl c244.1 c244.2) rfl rfl rfl ?_
                refine do_ rfl rfl (st_as rfl) rfl rfl rfl ?_
                refine do_ rfl rfl (st_as rfl) rfl rfl rfl ?_
                refine rd_nil (by kernel_rfl) ?_
                refine nx_block ?_
                refine nx_block ?_
                refine nx_then ?_
                refine awp_gh ?_ (ih124 (s122.1, (s122.2.1.drop (1 : Int).toNat), (s122.2.2 ++ [x242])) (g123 + 2) h)
                exact (gh_frz rfl rfl ⟨⟨_, rfl, .keep rfl⟩, ⟨_, rfl, .keep rfl⟩, ⟨_, rfl, .keep rfl⟩, ⟨_, rfl, .keep rfl⟩, trivial⟩ ⟨⟨_, rfl, objRow _⟩, trivial⟩)
              · replace h := ite_F p241 h
                refine awp_rds hmix ?_
                refine do_ rfl rfl (st_mv rfl) rfl rfl rfl ?_
                obtain ⟨x245, h0245, hx245, h⟩ := getI_some h
                refine do_ rfl rfl (st_ixD sl28 rfl rfl h0245 hx245) rfl rfl rfl ?_
                refine do_ rfl rfl (st_ldD (v := dI .i64 x245) ta3 rfl rfl) rfl rfl rfl ?_
                refine do_ rfl rfl (st_mv rfl) rfl rfl rfl ?_
                obtain ⟨x246, h0246, hx246, h⟩ := getI_some h
                refine do_ rfl rfl (st_ixD sl28 rfl rfl h0246 hx246) rfl rfl rfl ?_
                refine do_ rfl rfl (st_ldD (v := dI .i64 x246) ta3 rfl rfl) rfl rfl rfl ?_
                refine do_ rfl rfl (st_bin (v := dB (x245 == x246)) rfl rfl rfl) rfl rfl rfl ?_
                refine do_ rfl rfl (st_as rfl) rfl rfl rfl ?_
                refine rd_nil (by kernel_rfl) ?_
                refine awp_ite (b := (x245 == x246)) rfl (fun p247 => ?_) (fun p247 => ?_)
                · replace h := ite_T p247 h
                  refine awp_rd hmix ?_
                  refine do_ rfl rfl (st_mv rfl) rfl rfl rfl ?_
                  refine do_ rfl rfl (st_mv rfl) rfl rfl rfl ?_
                  refine do_ rfl rfl (st_ixD sl28 rfl rfl h0245 hx245) rfl rfl rfl ?_
                  refine do_ rfl rfl (st_ldD (v := dI .i64 x245) ta3 rfl rfl) rfl rfl rfl ?_
                  refine dn (r := 1004) rfl rfl (st_bsl (els := [[dI .i64 x245]]) sl28 zc3 rfl rfl rfl rfl rfl) rfl rfl rfl rfl ?_
                  obtain ⟨c248, h⟩ := capN_some h
                  refine dn (r := 0) (L' := [(1001, rw' (g123 + 2) 3 (eI .i64) (s122.2.2 ++ [x245])), (1004, .row 1 3 [[dI .i64 x245]])]) rfl rfl (st_appR (f := (eI .i64)) (xs := s122.2.2) (ys := [x245]) sl28 zc3 rfl rfl rfl rfl rfl (news_one (a := x245) rfl rfl) c248) rfl rfl rfl rfl ?_
                  refine do_ rfl rfl (st_mv rfl) rfl rfl rfl ?_
                  obtain ⟨c249, h⟩ := okI_some h
                  refine do_ rfl rfl (st_slLo sl28 rfl rfl c249.1 c249.2) rfl rfl rfl ?_
                  refine do_ rfl rfl (st_mv rfl) rfl rfl rfl ?_
                  obtain ⟨c250, h⟩ := okI_some h
                  refine do_ rfl rfl (st_slLo sl28 rfl rfl c250.1 c250.2) rfl rfl rfl ?_
                  refine do_ rfl rfl (st_as rfl) rfl rfl rfl ?_
                  refine do_ rfl rfl (st_as rfl) rfl rfl rfl ?_
                  refine do_ rfl rfl (st_as rfl) rfl rfl rfl ?_
                  refine rd_nil (by kernel_rfl) ?_
                  refine nx_block ?_
                  refine nx_block ?_
                  refine nx_then ?_
                  refine awp_gh ?_ (ih124 ((s122.1.drop (1 : Int).toNat), (s122.2.1.drop (1 : Int).toNat), (s122.2.2 ++ [x245])) (g123 + 2) h)
                  exact (gh_frz rfl rfl ⟨⟨_, rfl, .keep rfl⟩, ⟨_, rfl, .keep rfl⟩, ⟨_, rfl, .keep rfl⟩, ⟨_, rfl, .keep rfl⟩, trivial⟩ ⟨⟨_, rfl, objRow _⟩, trivial⟩)
                · replace h := ite_F p247 h
                  refine awp_rs ?_
                  refine ro rfl rfl (st_mv rfl) ?_
                  refine ro rfl rfl (st_ixD sl28 rfl rfl h0245 hx245) ?_
                  refine ro rfl rfl (st_ldD (v := dI .i64 x245) ta3 rfl rfl) ?_
                  refine ro rfl rfl (st_mv rfl) ?_
                  refine ro rfl rfl (st_bin (v := dB (x245 == a2)) rfl rfl rfl) ?_
                  refine ro rfl rfl (st_as rfl) ?_
                  refine rw_nilk ?_
                  refine awp_ite (b := (x245 == a2)) rfl (fun p251 => ?_) (fun p251 => ?_)
                  · replace h := ite_T p251 h
                    refine awp_rd hmix ?_
                    refine do_ rfl rfl (st_mv rfl) rfl rfl rfl ?_
                    obtain ⟨c252, h⟩ := okI_some h
                    refine do_ rfl rfl (st_slLo sl28 rfl rfl c252.1 c252.2) rfl rfl rfl ?_
                    refine do_ rfl rfl (st_mv rfl) rfl rfl rfl ?_
                    obtain ⟨c253, h⟩ := okI_some h
                    refine do_ rfl rfl (st_slLo sl28 rfl rfl c253.1 c253.2) rfl rfl rfl ?_
                    refine do_ rfl rfl (st_as rfl) rfl rfl rfl ?_
                    refine do_ rfl rfl (st_as rfl) rfl rfl rfl ?_
                    refine rd_nil (by kernel_rfl) ?_
                    refine nx_block ?_
                    refine nx_block ?_
                    refine nx_then ?_
                    refine awp_gh ?_ (ih124 ((s122.1.drop (1 : Int).toNat), (s122.2.1.drop (1 : Int).toNat), s122.2.2) g123 h)
                    exact (gh_frz rfl rfl ⟨⟨_, rfl, .keep rfl⟩, ⟨_, rfl, .keep rfl⟩, ⟨_, rfl, .keep rfl⟩, ⟨_, rfl, .keep rfl⟩, trivial⟩ ⟨⟨_, rfl, objRow _⟩, trivial⟩)
                  · replace h := ite_F p251 h
                    refine awp_rs ?_
                    refine ro rfl rfl (st_as rfl) ?_
                    refine ro rfl rfl (st_as rfl) ?_
                    refine rw_nilk ?_
                    refine awp_ret ?_
                    refine rt_block ?_
                    refine rt_block ?_
                    refine rt_then ?_
                    refine rt_block ?_
                    refine rt_then ?_
                    injection h with h
                    subst h
                    exact ret_out (v := .tup [.nilS, dB false]) (resV_many (resVs_tmp rfl (resVs_tmp rfl resVs_nil))) (frz_tup ⟨(.nilS _), (.keep rfl), trivial⟩)
            · clear h
              intro k240 h J240
              refine awp_rd hmix ?_
              refine do_ rfl rfl (st_mv rfl) rfl rfl rfl ?_
              refine do_ rfl rfl (st_lenD rfl un28) rfl rfl rfl ?_
              refine do_ rfl rfl (st_bin (v := dB (((s122.1.length : Nat) : Int) == (0 : Int))) rfl rfl rfl) rfl rfl rfl ?_
              refine do_ rfl rfl (st_mv rfl) rfl rfl rfl ?_
              refine bool_split (((s122.1.length : Nat) : Int) == (0 : Int)) (fun p254 => ?_) (fun p254 => ?_)
              · replace h := ite_T p254 h
                rw [p254]
                refine dz rfl rfl ?_
                refine dz rfl rfl ?_
                refine dz rfl rfl ?_
                refine dz rfl rfl ?_
                refine dz rfl rfl ?_
                refine dz rfl rfl ?_
                refine dz rfl rfl ?_
                refine dz rfl rfl ?_
                refine dz rfl rfl ?_
                refine do_ rfl rfl (st_pickT rfl rfl) rfl rfl rfl ?_
                refine do_ rfl rfl (st_as rfl) rfl rfl rfl ?_
                refine rd_nil (by kernel_rfl) ?_
                refine nx_then ?_
                exact J240 true () _ _ h (gh_frz rfl rfl ⟨⟨_, rfl, .keep rfl⟩, ⟨_, rfl, .keep rfl⟩, ⟨_, rfl, .keep rfl⟩, ⟨_, rfl, .keep rfl⟩, ⟨_, rfl, .keep rfl⟩, trivial⟩ ⟨⟨_, rfl, objRow _⟩, trivial⟩)
              · replace h := ite_F p254 h
                rw [p254]
                refine do_ rfl rfl (st_mv rfl) rfl rfl rfl ?_
                obtain ⟨x255, h0255, hx255, h⟩ := getI_some h
                refine do_ rfl rfl (st_ixD sl28 rfl rfl h0255 hx255) rfl rfl rfl ?_
                refine do_ rfl rfl (st_ldD (v := dI .i64 x255) ta3 rfl rfl) rfl rfl rfl ?_
                obtain ⟨y256, hy256, h⟩ := bind_some_elim h
                refine df rfl rfl (ok_proof_abs hy256) rfl rfl ?_
                refine do_ rfl rfl (st_mv rfl) rfl rfl rfl ?_
                obtain ⟨x257, h0257, hx257, h⟩ := getI_some h
                refine do_ rfl rfl (st_ixD sl28 rfl rfl h0257 hx257) rfl rfl rfl ?_
                refine do_ rfl rfl (st_ldD (v := dI .i64 x257) ta3 rfl rfl) rfl rfl rfl ?_
                obtain ⟨y258, hy258, h⟩ := bind_some_elim h
                refine df rfl rfl (ok_proof_abs hy258) rfl rfl ?_
                refine do_ rfl rfl (st_bin (v := dB (decide (y256 < y258))) rfl rfl rfl) rfl rfl rfl ?_
                refine do_ rfl rfl (st_pickF rfl rfl) rfl rfl rfl ?_
                refine do_ rfl rfl (st_as rfl) rfl rfl rfl ?_
                refine rd_nil (by kernel_rfl) ?_
                refine nx_then ?_
                exact J240 (decide (y256 < y258)) () _ _ h (gh_frz rfl rfl ⟨⟨_, rfl, .keep rfl⟩, ⟨_, rfl, .keep rfl⟩, ⟨_, rfl, .keep rfl⟩, ⟨_, rfl, .keep rfl⟩, ⟨_, rfl, .keep rfl⟩, trivial⟩ ⟨⟨_, rfl, objRow _⟩, trivial⟩)
        · clear h
          intro k228 h J228
          refine awp_rd hmix ?_
          refine do_ rfl rfl (st_mv rfl) rfl rfl rfl ?_
          refine do_ rfl rfl (st_lenD rfl un28) rfl rfl rfl ?_
          refine do_ rfl rfl (st_bin (v := dB (((s122.2.1.length : Nat) : Int) == (0 : Int))) rfl rfl rfl) rfl rfl rfl ?_
          refine do_ rfl rfl (st_mv rfl) rfl rfl rfl ?_
          refine bool_split (((s122.2.1.length : Nat) : Int) == (0 : Int)) (fun p259 => ?_) (fun p259 => ?_)
          · replace h := ite_T p259 h
            rw [p259]
            refine dz rfl rfl ?_
            refine dz rfl rfl ?_
            refine dz rfl rfl ?_
            refine dz rfl rfl ?_
            refine dz rfl rfl ?_
            refine dz rfl rfl ?_
            refine dz rfl rfl ?_
            refine dz rfl rfl ?_
            refine dz rfl rfl ?_
            refine dz rfl rfl ?_
            refine dz rfl rfl ?_
            refine dz rfl rfl ?_
            refine dz rfl rfl ?_
            refine dz rfl rfl ?_
            refine do_ rfl rfl (st_pickT rfl rfl) rfl rfl rfl ?_
            refine do_ rfl rfl (st_as rfl) rfl rfl rfl ?_
            refine rd_nil (by kernel_rfl) ?_
            refine nx_then ?_
            exact J228 true () _ _ h (gh_frz rfl rfl ⟨⟨_, rfl, .keep rfl⟩, ⟨_, rfl, .keep rfl⟩, ⟨_, rfl, .keep rfl⟩, ⟨_, rfl, .keep rfl⟩, ⟨_, rfl, .keep rfl⟩, trivial⟩ ⟨⟨_, rfl, objRow _⟩, trivial⟩)
          · replace h := ite_F p259 h
            rw [p259]
            refine do_ rfl rfl (st_mv rfl) rfl rfl rfl ?_
            refine do_ rfl rfl (st_lenD rfl un28) rfl rfl rfl ?_
            refine do_ rfl rfl (st_bin (v := dB (decide (((s122.1.length : Nat) : Int) > (0 : Int)))) rfl rfl rfl) rfl rfl rfl ?_
            refine do_ rfl rfl (st_mv rfl) rfl rfl rfl ?_
            refine bool_split (decide (((s122.1.length : Nat) : Int) > (0 : Int))) (fun p260 => ?_) (fun p260 => ?_)
            · replace h := ite_T p260 h
              rw [p260]
              refine do_ rfl rfl (st_mv rfl) rfl rfl rfl ?_
              obtain ⟨x261, h0261, hx261, h⟩ := getI_some h
              refine do_ rfl rfl (st_ixD sl28 rfl rfl h0261 hx261) rfl rfl rfl ?_
              refine do_ rfl rfl (st_ldD (v := dI .i64 x261) ta3 rfl rfl) rfl rfl rfl ?_
              obtain ⟨y262, hy262, h⟩ := bind_some_elim h
              refine df rfl rfl (ok_proof_abs hy262) rfl rfl ?_
              refine do_ rfl rfl (st_mv rfl) rfl rfl rfl ?_
              obtain ⟨x263, h0263, hx263, h⟩ := getI_some h
              refine do_ rfl rfl (st_ixD sl28 rfl rfl h0263 hx263) rfl rfl rfl ?_
              refine do_ rfl rfl (st_ldD (v := dI .i64 x263) ta3 rfl rfl) rfl rfl rfl ?_
              obtain ⟨y264, hy264, h⟩ := bind_some_elim h
              refine df rfl rfl (ok_proof_abs hy264) rfl rfl ?_
              refine do_ rfl rfl (st_bin (v := dB (decide (y262 < y264))) rfl rfl rfl) rfl rfl rfl ?_
              refine do_ rfl rfl (st_pickT rfl rfl) rfl rfl rfl ?_
              refine do_ rfl rfl (st_pickF rfl rfl) rfl rfl rfl ?_
              refine do_ rfl rfl (st_as rfl) rfl rfl rfl ?_
              refine rd_nil (by kernel_rfl) ?_
              refine nx_then ?_
              exact J228 (decide (y262 < y264)) () _ _ h (gh_frz rfl rfl ⟨⟨_, rfl, .keep rfl⟩, ⟨_, rfl, .keep rfl⟩, ⟨_, rfl, .keep rfl⟩, ⟨_, rfl, .keep rfl⟩, ⟨_, rfl, .keep rfl⟩, trivial⟩ ⟨⟨_, rfl, objRow _⟩, trivial⟩)
            · replace h := ite_F p260 h
              rw [p260]
              refine dz rfl rfl ?_
              refine dz rfl rfl ?_
              refine dz rfl rfl ?_
              refine dz rfl rfl ?_
              refine dz rfl rfl ?_
              refine dz rfl rfl ?_
              refine dz rfl rfl ?_
              refine dz rfl rfl ?_
              refine dz rfl rfl ?_
              refine do_ rfl rfl (st_pickF rfl rfl) rfl rfl rfl ?_
              refine do_ rfl rfl (st_pickF rfl rfl) rfl rfl rfl ?_
              refine do_ rfl rfl (st_as rfl) rfl rfl rfl ?_
              refine rd_nil (by kernel_rfl) ?_
              refine nx_then ?_
              exact J228 false () _ _ h (gh_frz rfl rfl ⟨⟨_, rfl, .keep rfl⟩, ⟨_, rfl, .keep rfl⟩, ⟨_, rfl, .keep rfl⟩, ⟨_, rfl, .keep rfl⟩, ⟨_, rfl, .keep rfl⟩, trivial⟩ ⟨⟨_, rfl, objRow _⟩, trivial⟩)
      · replace h := ite_F p219 h
        refine awp_exit ?_
        refine ex_out ?_
        refine ex_out ?_
        refine ex_in ?_
        refine nx_then ?_
        refine awp_rs ?_
        refine ro rfl rfl (st_mv rfl) ?_
        refine ro rfl rfl (st_as rfl) ?_
        refine ro rfl rfl (st_as rfl) ?_
        refine rw_nilk ?_
        refine awp_ret ?_
        injection h with h
        subst h
        exact ret_out (v := .tup [.slice 1001 g123 0 s122.2.2.length, dB true]) (resV_many (resVs_tmp rfl (resVs_tmp rfl resVs_nil))) (frz_tup ⟨(frzT rfl rfl co3 rfl), (.keep rfl), trivial⟩)
  · clear h
    intro k119 h J119
    refine awp_rw ?_
    refine ro rfl rfl (st_mv rfl) ?_
    refine ro rfl rfl (st_bin (v := dB (decide (a2 < (1 : Int)))) rfl rfl rfl) ?_
    refine ro rfl rfl (st_mv rfl) ?_
    refine bool_split (decide (a2 < (1 : Int))) (fun p265 => ?_) (fun p265 => ?_)
    · replace h := ite_T p265 h
      rw [p265]
      refine rz rfl rfl ?_
      refine rz rfl rfl ?_
      refine rz rfl rfl ?_
      refine rz rfl rfl ?_
      refine ro rfl rfl (st_pickT rfl rfl) ?_
      refine ro rfl rfl (st_mv rfl) ?_
      refine rz rfl rfl ?_
      refine rz rfl rfl ?_
      refine rz rfl rfl ?_
      refine rz rfl rfl ?_
      refine rz rfl rfl ?_
      refine ro rfl rfl (st_pickT rfl rfl) ?_
      refine rw_nil ?_
      refine nx_then ?_
      exact J119 true () _ _ h (gh_frz rfl rfl ⟨⟨_, rfl, .keep rfl⟩, ⟨_, rfl, .keep rfl⟩, ⟨_, rfl, .keep rfl⟩, ⟨_, rfl, .keep rfl⟩, trivial⟩ trivial)
    · replace h := ite_F p265 h
      rw [p265]
      refine ro rfl rfl (st_mv rfl) ?_
      refine ro rfl rfl (st_mv rfl) ?_
      obtain ⟨y266, hy266, h⟩ := bind_some_elim h
      refine rf rfl rfl (ok_slices_Contains_int_int hy266) rfl rfl ?_
      refine ro rfl rfl (st_un (v := dB (!y266)) rfl rfl) ?_
      refine ro rfl rfl (st_pickF rfl rfl) ?_
      refine ro rfl rfl (st_mv rfl) ?_
      refine bool_split (!y266) (fun p267 => ?_) (fun p267 => ?_)
      · replace h := ite_T p267 h
        rw [p267]
        refine rz rfl rfl ?_
        refine rz rfl rfl ?_
        refine rz rfl rfl ?_
        refine rz rfl rfl ?_
        refine rz rfl rfl ?_
        refine ro rfl rfl (st_pickT rfl rfl) ?_
        refine rw_nil ?_
        refine nx_then ?_
        exact J119 true () _ _ h (gh_frz rfl rfl ⟨⟨_, rfl, .keep rfl⟩, ⟨_, rfl, .keep rfl⟩, ⟨_, rfl, .keep rfl⟩, ⟨_, rfl, .keep rfl⟩, trivial⟩ trivial)
      · replace h := ite_F p267 h
        rw [p267]
        refine ro rfl rfl (st_mv rfl) ?_
        refine ro rfl rfl (st_mv rfl) ?_
        refine ro rfl rfl (st_un (v := dI .i64 (IntKind.wrap .i64 (0 - a2))) rfl rfl) ?_
        obtain ⟨y268, hy268, h⟩ := bind_some_elim h
        refine rf rfl rfl (ok_slices_Contains_int_int hy268) rfl rfl ?_
        refine ro rfl rfl (st_un (v := dB (!y268)) rfl rfl) ?_
        refine ro rfl rfl (st_pickF rfl rfl) ?_
        refine rw_nil ?_
        refine nx_then ?_
        exact J119 (!y268) () _ _ h (gh_frz rfl rfl ⟨⟨_, rfl, .keep rfl⟩, ⟨_, rfl, .keep rfl⟩, ⟨_, rfl, .keep rfl⟩, ⟨_, rfl, .keep rfl⟩, trivial⟩ trivial)

theorem ok_slices_Equal_int_int {a0 : (List Int)} {a1 : (List Int)} {r : Bool} (h : F_slices_Equal_int_int a0 a1 = some r) : Fn Try.prog 78 [dL 1 (eI .i64) a0, dL 1 (eI .i64) a1] (dB r) := by
  unfold F_slices_Equal_int_int at h
  refine Fn.of_body (N := 26) (rs := [.tmp 4]) Try.func78 (c := _) rfl rfl rfl (by kernel_rfl) (Nat.le_of_ble_eq_true rfl) (fun _B => ?_)
  refine awp_rs ?_
  refine ro rfl rfl (st_as rfl) ?_
  refine rw_nilk ?_
  refine awp_seq ?_
  refine awp_rs ?_
  refine ro rfl rfl (st_mv rfl) ?_
  refine ro rfl rfl (st_lenD rfl un28) ?_
  refine ro rfl rfl (st_mv rfl) ?_
  refine ro rfl rfl (st_lenD rfl un28) ?_
  refine ro rfl rfl (st_bin (v := dB (((a0.length : Nat) : Int) != ((a1.length : Nat) : Int))) rfl rfl rfl) ?_
  refine rw_nilk ?_
  refine awp_ite (b := (((a0.length : Nat) : Int) != ((a1.length : Nat) : Int))) rfl (fun p101 => ?_) (fun p101 => ?_)
  · replace h := ite_T p101 h
    refine awp_rs ?_
    refine ro rfl rfl (st_as rfl) ?_
    refine rw_nilk ?_
    refine awp_ret ?_
    refine rt_then ?_
    injection h with h
    subst h
    exact ret_out (v := dB false) (resV_one (resVs_tmp rfl resVs_nil)) (.keep rfl)
  · replace h := ite_F p101 h
    refine awp_skip ?_
    refine nx_then ?_
    refine awp_seq ?_
    refine awp_rs ?_
    refine ro rfl rfl (st_mv rfl) ?_
    refine ro rfl rfl (st_lenD rfl un28) ?_
    refine ro rfl rfl (st_mv rfl) ?_
    refine rw_nilk ?_
    refine awp_block ?_
    refine awp_len (t := 0) rfl (fun hl105 => ?_)
    rw [List.length_map] at hl105
    refine awp_range (fun (j105 : Nat) (s102 : Unit) (g103 : Unit) => [(0, dL 1 (eI .i64) a0), (1, dL 1 (eI .i64) a1), (12, dI .i64 ((a0.length : Nat) : Int)), (13, dI .i64 ((j105 : Nat) : Int))]) (fun (s102 : Unit) (g103 : Unit) => []) () (fun _ _ _ h => h) h (gh_frz rfl rfl ⟨⟨_, rfl, .keep rfl⟩, ⟨_, rfl, .keep rfl⟩, ⟨_, rfl, .keep rfl⟩, ⟨_, rfl, .keep rfl⟩, trivial⟩ trivial) ?_ ?_
    · clear h
      intro j105 x106 s102 g103 k104 hj105 hx105 h ih104
      refine awp_rs ?_
      refine ro rfl rfl (st_bin (v := dB (decide (((j105 : Nat) : Int) < ((a0.length : Nat) : Int)))) rfl rfl rfl) ?_
      refine rw_nilk ?_
      refine awp_seq ?_
      refine awp_ifT rfl (dlt hj105) ?_
      refine awp_skip ?_
      refine nx_then ?_
      refine awp_seq ?_
      refine awp_block ?_
      refine awp_rs ?_
      refine ro rfl rfl (st_mv rfl) ?_
      refine ro rfl rfl (st_as rfl) ?_
      refine rw_nilk ?_
      refine awp_rds hmix ?_
      refine do_ rfl rfl (st_mv rfl) rfl rfl rfl ?_
      refine do_ rfl rfl (st_mv rfl) rfl rfl rfl ?_
      refine do_ rfl rfl (st_ixDn sl28 rfl rfl hx105) rfl rfl rfl ?_
      refine do_ rfl rfl (st_ldD (v := dI .i64 x106) ta3 rfl rfl) rfl rfl rfl ?_
      refine do_ rfl rfl (st_mv rfl) rfl rfl rfl ?_
      refine do_ rfl rfl (st_mv rfl) rfl rfl rfl ?_
      obtain ⟨x109, h0109, hx109, h⟩ := getI_some h
      refine do_ rfl rfl (st_ixD sl28 rfl rfl h0109 hx109) rfl rfl rfl ?_
      refine do_ rfl rfl (st_ldD (v := dI .i64 x109) ta3 rfl rfl) rfl rfl rfl ?_
      refine do_ rfl rfl (st_bin (v := dB (x106 != x109)) rfl rfl rfl) rfl rfl rfl ?_
      refine rd_nil (by kernel_rfl) ?_
      refine awp_ite (b := (x106 != x109)) rfl (fun p110 => ?_) (fun p110 => ?_)
      · replace h := ite_T p110 h
        refine awp_rs ?_
        refine ro rfl rfl (st_as rfl) ?_
        refine rw_nilk ?_
        refine awp_ret ?_
        refine rt_block ?_
        refine rt_then ?_
        refine rt_then ?_
        refine rt_block ?_
        refine rt_then ?_
        injection h with h
        subst h
        exact ret_out (v := dB false) (resV_one (resVs_tmp rfl resVs_nil)) (.keep rfl)
      · replace h := ite_F p110 h
        refine awp_skip ?_
        refine nx_block ?_
        refine nx_then ?_
        refine awp_rw ?_
        refine ro rfl rfl (st_inc rfl rfl hj105 hl105) ?_
        refine ro rfl rfl (st_mv rfl) ?_
        refine rw_nil ?_
        refine nx_then ?_
        refine awp_gh ?_ (ih104 () () h)
        exact (gh_frz rfl rfl ⟨⟨_, rfl, .keep rfl⟩, ⟨_, rfl, .keep rfl⟩, ⟨_, rfl, .keep rfl⟩, ⟨_, rfl, .keep rfl⟩, trivial⟩ trivial)
    · clear h
      intro s102 g103 h
      refine awp_rs ?_
      refine ro rfl rfl (st_bin (v := dB (decide (((a0.length : Nat) : Int) < ((a0.length : Nat) : Int)))) rfl rfl rfl) ?_
      refine rw_nilk ?_
      refine awp_seq ?_
      refine awp_ifF rfl dge ?_
      refine awp_exit ?_
      refine ex_out ?_
      refine ex_out ?_
      refine ex_in ?_
      refine nx_then ?_
      refine awp_rs ?_
      refine ro rfl rfl (st_as rfl) ?_
      refine rw_nilk ?_
      refine awp_ret ?_
      injection h with h
      subst h
      exact ret_out (v := dB true) (resV_one (resVs_tmp rfl resVs_nil)) (.keep rfl)

theorem ok_proof_right {a0 : (List (List Int))} {a1 : (List S_api_Line)} {a2 : S_api_Line} {r : Bool} (h : F_proof_right a0 a1 a2 = some r) : Fn Try.prog 47 [dL 1 (eL 1 (eI .i64)) a0, dL 5 e_S_api_Line a1, .agg [dI .u8 a2.Rule, dI .i64 a2.A, dI .i64 a2.B, dI .i64 a2.Piv, dL 1 (eI .i64) a2.Lits]] (dB r) := by
  unfold F_proof_right at h
  refine Fn.of_body (N := 86) (rs := [.tmp 6]) Try.func47 (c := _) rfl rfl rfl (by kernel_rfl) (Nat.le_of_ble_eq_true rfl) (fun _B => ?_)
  refine awp_rs ?_
  refine rn (r := 1001) rfl rfl (st_box rfl rfl rfl co58 rfl rfl) rfl ?_
  refine ro rfl rfl (st_as rfl) ?_
  refine rw_nilk ?_
  refine awp_seq ?_
  refine awp_rs ?_
  refine ro rfl rfl (st_faP fo58_0 rfl) ?_
  refine ro rfl rfl (st_ldP (v := dI .u8 a2.Rule) ta56 rfl rfl rfl rfl) ?_
  refine rw_nilk ?_
  refine awp_block ?_
  refine awp_rs ?_
  refine ro rfl rfl (st_bin (v := dB (a2.Rule == (1 : Int))) rfl rfl rfl) ?_
  refine ro rfl rfl (st_as rfl) ?_
  refine rw_nilk ?_
  refine awp_ite (b := (a2.Rule == (1 : Int))) rfl (fun p101 => ?_) (fun p101 => ?_)
  · replace h := ite_T p101 h
    refine awp_rds hmix ?_
    refine do_ rfl rfl (st_faP fo58_1 rfl) rfl rfl rfl ?_
    refine do_ rfl rfl (st_ldP (v := dI .i64 a2.A) ta3 rfl rfl rfl rfl) rfl rfl rfl ?_
    refine do_ rfl rfl (st_bin (v := dB (decide (a2.A ≥ (0 : Int)))) rfl rfl rfl) rfl rfl rfl ?_
    refine do_ rfl rfl (st_mv rfl) rfl rfl rfl ?_
    refine bool_split (decide (a2.A ≥ (0 : Int))) (fun p108 => ?_) (fun p108 => ?_)
    · replace h := ite_T p108 h
      rw [p108]
      refine do_ rfl rfl (st_faP fo58_1 rfl) rfl rfl rfl ?_
      refine do_ rfl rfl (st_ldP (v := dI .i64 a2.A) ta3 rfl rfl rfl rfl) rfl rfl rfl ?_
      refine do_ rfl rfl (st_mv rfl) rfl rfl rfl ?_
      refine do_ rfl rfl (st_lenD rfl un22) rfl rfl rfl ?_
      refine do_ rfl rfl (st_bin (v := dB (decide (a2.A < ((a0.length : Nat) : Int)))) rfl rfl rfl) rfl rfl rfl ?_
      refine do_ rfl rfl (st_pickT rfl rfl) rfl rfl rfl ?_
      refine do_ rfl rfl (st_mv rfl) rfl rfl rfl ?_
      refine bool_split (decide (a2.A < ((a0.length : Nat) : Int))) (fun p109 => ?_) (fun p109 => ?_)
      · replace h := ite_T p109 h
        rw [p109]
        refine do_ rfl rfl (st_faP fo58_2 rfl) rfl rfl rfl ?_
        refine do_ rfl rfl (st_ldP (v := dI .i64 a2.B) ta3 rfl rfl rfl rfl) rfl rfl rfl ?_
        refine do_ rfl rfl (st_bin (v := dB (a2.B == (0 : Int))) rfl rfl rfl) rfl rfl rfl ?_
        refine do_ rfl rfl (st_pickT rfl rfl) rfl rfl rfl ?_
        refine do_ rfl rfl (st_mv rfl) rfl rfl rfl ?_
        refine bool_split (a2.B == (0 : Int)) (fun p110 => ?_) (fun p110 => ?_)
        · replace h := ite_T p110 h
          rw [p110]
          refine do_ rfl rfl (st_faP fo58_3 rfl) rfl rfl rfl ?_
          refine do_ rfl rfl (st_ldP (v := dI .i64 a2.Piv) ta3 rfl rfl rfl rfl) rfl rfl rfl ?_
          refine do_ rfl rfl (st_bin (v := dB (a2.Piv == (0 : Int))) rfl rfl rfl) rfl rfl rfl ?_
          refine do_ rfl rfl (st_pickT rfl rfl) rfl rfl rfl ?_
          refine do_ rfl rfl (st_mv rfl) rfl rfl rfl ?_
          refine bool_split (a2.Piv == (0 : Int)) (fun p111 => ?_) (fun p111 => ?_)
          · replace h := ite_T p111 h
            rw [p111]
            refine do_ rfl rfl (st_faP fo58_4 rfl) rfl rfl rfl ?_
            refine do_ rfl rfl (st_ldP (v := dL 1 (eI .i64) a2.Lits) ta28 rfl rfl rfl rfl) rfl rfl rfl ?_
            refine do_ rfl rfl (st_mv rfl) rfl rfl rfl ?_
            refine do_ rfl rfl (st_faP fo58_1 rfl) rfl rfl rfl ?_
            refine do_ rfl rfl (st_ldP (v := dI .i64 a2.A) ta3 rfl rfl rfl rfl) rfl rfl rfl ?_
            obtain ⟨x112, h0112, hx112, h⟩ := getI_some h
            refine do_ rfl rfl (st_ixD sl22 rfl rfl h0112 hx112) rfl rfl rfl ?_
            refine do_ rfl rfl (st_ldD (v := dL 1 (eI .i64) x112) ta28 rfl rfl) rfl rfl rfl ?_
            obtain ⟨y113, hy113, h⟩ := bind_some_elim h
            refine df rfl rfl (ok_slices_Equal_int_int hy113) rfl rfl ?_
            refine do_ rfl rfl (st_pickT rfl rfl) rfl rfl rfl ?_
            refine do_ rfl rfl (st_as rfl) rfl rfl rfl ?_
            refine rd_nil (by kernel_rfl) ?_
            refine awp_ret ?_
            refine rt_block ?_
            refine rt_then ?_
            injection h with h
            subst h
            exact ret_out (v := dB y113) (resV_one (resVs_tmp rfl resVs_nil)) (.keep rfl)
          · replace h := ite_F p111 h
            rw [p111]
            refine dz rfl rfl ?_
            refine dz rfl rfl ?_
            refine dz rfl rfl ?_
            refine dz rfl rfl ?_
            refine dz rfl rfl ?_
            refine dz rfl rfl ?_
            refine dz rfl rfl ?_
            refine dz rfl rfl ?_
            refine do_ rfl rfl (st_pickF rfl rfl) rfl rfl rfl ?_
            refine do_ rfl rfl (st_as rfl) rfl rfl rfl ?_
            refine rd_nil (by kernel_rfl) ?_
            refine awp_ret ?_
            refine rt_block ?_
            refine rt_then ?_
            injection h with h
            subst h
            exact ret_out (v := dB false) (resV_one (resVs_tmp rfl resVs_nil)) (.keep rfl)
        · replace h := ite_F p110 h
          rw [p110]
          refine dz rfl rfl ?_
          refine dz rfl rfl ?_
          refine dz rfl rfl ?_
          refine do_ rfl rfl (st_pickF rfl rfl) rfl rfl rfl ?_
          refine do_ rfl rfl (st_mv rfl) rfl rfl rfl ?_
          refine dz rfl rfl ?_
          refine dz rfl rfl ?_
          refine dz rfl rfl ?_
          refine dz rfl rfl ?_
          refine dz rfl rfl ?_
          refine dz rfl rfl ?_
          refine dz rfl rfl ?_
          refine dz rfl rfl ?_
          refine do_ rfl rfl (st_pickF rfl rfl) rfl rfl rfl ?_
          refine do_ rfl rfl (st_as rfl) rfl rfl rfl ?_
          refine rd_nil (by kernel_rfl) ?_
          refine awp_ret ?_
          refine rt_block ?_
          refine rt_then ?_
          injection h with h
          subst h
          exact ret_out (v := dB false) (resV_one (resVs_tmp rfl resVs_nil)) (.keep rfl)
      · replace h := ite_F p109 h
        rw [p109]
        refine dz rfl rfl ?_
        refine dz rfl rfl ?_
        refine dz rfl rfl ?_
        refine do_ rfl rfl (st_pickF rfl rfl) rfl rfl rfl ?_
        refine do_ rfl rfl (st_mv rfl) rfl rfl rfl ?_
        refine dz rfl rfl ?_
        refine dz rfl rfl ?_
        refine dz rfl rfl ?_
        refine do_ rfl rfl (st_pickF rfl rfl) rfl rfl rfl ?_
        refine do_ rfl rfl (st_mv rfl) rfl rfl rfl ?_
        refine dz rfl rfl ?_
        refine dz rfl rfl ?_
        refine dz rfl rfl ?_
        refine dz rfl rfl ?_
        refine dz rfl rfl ?_
        refine dz rfl rfl ?_
        refine dz rfl rfl ?_
        refine dz rfl rfl ?_
        refine do_ rfl rfl (st_pickF rfl rfl) rfl rfl rfl ?_
        refine do_ rfl rfl (st_as rfl) rfl rfl rfl ?_
        refine rd_nil (by kernel_rfl) ?_
        refine awp_ret ?_
        refine rt_block ?_
        refine rt_then ?_
        injection h with h
        subst h
        exact ret_out (v := dB false) (resV_one (resVs_tmp rfl resVs_nil)) (.keep rfl)
    · replace h := ite_F p108 h
      rw [p108]
      refine dz rfl rfl ?_
      refine dz rfl rfl ?_
      refine dz rfl rfl ?_
      refine dz rfl rfl ?_
      refine dz rfl rfl ?_
      refine do_ rfl rfl (st_pickF rfl rfl) rfl rfl rfl ?_
      refine do_ rfl rfl (st_mv rfl) rfl rfl rfl ?_
      refine dz rfl rfl ?_
      refine dz rfl rfl ?_
      refine dz rfl rfl ?_
      refine do_ rfl rfl (st_pickF rfl rfl) rfl rfl rfl ?_
      refine do_ rfl rfl (st_mv rfl) rfl rfl rfl ?_
      refine dz rfl rfl ?_
      refine dz rfl rfl ?_
      refine dz rfl rfl ?_
      refine do_ rfl rfl (st_pickF rfl rfl) rfl rfl rfl ?_
      refine do_ rfl rfl (st_mv rfl) rfl rfl rfl ?_
      refine dz rfl rfl ?_
      refine dz rfl rfl ?_
      refine dz rfl rfl ?_
      refine dz rfl rfl ?_
      refine dz rfl rfl ?_
      refine dz rfl rfl ?_
      refine dz rfl rfl ?_
      refine dz rfl rfl ?_
      refine do_ rfl rfl (st_pickF rfl rfl) rfl rfl rfl ?_
      refine do_ rfl rfl (st_as rfl) rfl rfl rfl ?_
      refine rd_nil (by kernel_rfl) ?_
      refine awp_ret ?_
      refine rt_block ?_
      refine rt_then ?_
      injection h with h
      subst h
      exact ret_out (v := dB false) (resV_one (resVs_tmp rfl resVs_nil)) (.keep rfl)
  · replace h := ite_F p101 h
    refine awp_rs ?_
    refine ro rfl rfl (st_bin (v := dB (a2.Rule == (2 : Int))) rfl rfl rfl) ?_
    refine ro rfl rfl (st_as rfl) ?_
    refine rw_nilk ?_
    refine awp_ite (b := (a2.Rule == (2 : Int))) rfl (fun p114 => ?_) (fun p114 => ?_)
    · replace h := ite_T p114 h
      refine awp_seq ?_
      refine awp_jn (fun (s122 : Bool) (g123 : Unit) => [(1, dL 5 e_S_api_Line a1), (5, .ptr 1001 0 0 0), (60, dB s122)]) (fun (s122 : Bool) (g123 : Unit) => [(1001, .row 0 58 [[dI .u8 a2.Rule, dI .i64 a2.A, dI .i64 a2.B, dI .i64 a2.Piv, dL 1 (eI .i64) a2.Lits]])]) h ?_ ?_
      · clear h
        intro s122 g123 h
        refine awp_ite (b := s122) rfl (fun p125 => ?_) (fun p125 => ?_)
        · replace h := ite_T p125 h
          refine awp_rs ?_
          refine ro rfl rfl (st_as rfl) ?_
          refine rw_nilk ?_
          refine awp_ret ?_
          refine rt_then ?_
          refine rt_block ?_
          refine rt_then ?_
          injection h with h
          subst h
          exact ret_out (v := dB false) (resV_one (resVs_tmp rfl resVs_nil)) (.keep rfl)
        · replace h := ite_F p125 h
          refine awp_skip ?_
          refine nx_then ?_
          refine awp_rds hmix ?_
          refine do_ rfl rfl (st_mv rfl) rfl rfl rfl ?_
          refine do_ rfl rfl (st_faP fo58_1 rfl) rfl rfl rfl ?_
          refine do_ rfl rfl (st_ldP (v := dI .i64 a2.A) ta3 rfl rfl rfl rfl) rfl rfl rfl ?_
          obtain ⟨x126, h0126, hx126, h⟩ := getI_some h
          refine do_ rfl rfl (st_ixD sl23 rfl rfl h0126 hx126) rfl rfl rfl ?_
          refine do_ rfl rfl (st_faD fo58_4 rfl) rfl rfl rfl ?_
          refine do_ rfl rfl (st_ldD (v := dL 1 (eI .i64) x126.Lits) ta28 rfl rfl) rfl rfl rfl ?_
          refine do_ rfl rfl (st_mv rfl) rfl rfl rfl ?_
          refine do_ rfl rfl (st_faP fo58_2 rfl) rfl rfl rfl ?_
          refine do_ rfl rfl (st_ldP (v := dI .i64 a2.B) ta3 rfl rfl rfl rfl) rfl rfl rfl ?_
          obtain ⟨x127, h0127, hx127, h⟩ := getI_some h
          refine do_ rfl rfl (st_ixD sl23 rfl rfl h0127 hx127) rfl rfl rfl ?_
          refine do_ rfl rfl (st_faD fo58_4 rfl) rfl rfl rfl ?_
          refine do_ rfl rfl (st_ldD (v := dL 1 (eI .i64) x127.Lits) ta28 rfl rfl) rfl rfl rfl ?_
          refine do_ rfl rfl (st_faP fo58_3 rfl) rfl rfl rfl ?_
          refine do_ rfl rfl (st_ldP (v := dI .i64 a2.Piv) ta3 rfl rfl rfl rfl) rfl rfl rfl ?_
          obtain ⟨y128, hy128, h⟩ := bind_some_elim h
          refine df rfl rfl (ok_proof_resolvent hy128) rfl rfl ?_
          refine do_ rfl rfl (st_mv rfl) rfl rfl rfl ?_
          refine do_ rfl rfl (st_ext rfl rfl) rfl rfl rfl ?_
          refine do_ rfl rfl (st_ext rfl rfl) rfl rfl rfl ?_
          refine do_ rfl rfl (st_as rfl) rfl rfl rfl ?_
          refine do_ rfl rfl (st_as rfl) rfl rfl rfl ?_
          refine rd_nil (by kernel_rfl) ?_
          refine awp_rs ?_
          refine ro rfl rfl (st_mv rfl) ?_
          refine ro rfl rfl (st_mv rfl) ?_
          refine bool_split y128.2 (fun p131 => ?_) (fun p131 => ?_)
          · replace h := ite_T p131 h
            rw [p131]
            refine ro rfl rfl (st_mv rfl) ?_
            refine ro rfl rfl (st_faP fo58_4 rfl) ?_
            refine ro rfl rfl (st_ldP (v := dL 1 (eI .i64) a2.Lits) ta28 rfl rfl rfl rfl) ?_
            obtain ⟨y132, hy132, h⟩ := bind_some_elim h
            refine rf rfl rfl (ok_slices_Equal_int_int hy132) rfl rfl ?_
            refine ro rfl rfl (st_pickT rfl rfl) ?_
            refine ro rfl rfl (st_as rfl) ?_
            refine rw_nilk ?_
            refine awp_ret ?_
            refine rt_block ?_
            refine rt_then ?_
            injection h with h
            subst h
            exact ret_out (v := dB y132) (resV_one (resVs_tmp rfl resVs_nil)) (.keep rfl)
          · replace h := ite_F p131 h
            rw [p131]
            refine rz rfl rfl ?_
            refine rz rfl rfl ?_
            refine rz rfl rfl ?_
            refine rz rfl rfl ?_
            refine ro rfl rfl (st_pickF rfl rfl) ?_
            refine ro rfl rfl (st_as rfl) ?_
            refine rw_nilk ?_
            refine awp_ret ?_
            refine rt_block ?_
            refine rt_then ?_
            injection h with h
            subst h
            exact ret_out (v := dB false) (resV_one (resVs_tmp rfl resVs_nil)) (.keep rfl)
      · clear h
        intro k124 h J124
        refine awp_rw ?_
        refine ro rfl rfl (st_faP fo58_1 rfl) ?_
        refine ro rfl rfl (st_ldP (v := dI .i64 a2.A) ta3 rfl rfl rfl rfl) ?_
        refine ro rfl rfl (st_faP fo58_2 rfl) ?_
        refine ro rfl rfl (st_ldP (v := dI .i64 a2.B) ta3 rfl rfl rfl rfl) ?_
        refine ro rfl rfl (st_min rfl rfl) ?_
        refine ro rfl rfl (st_bin (v := dB (decide ((imn a2.A a2.B) < (0 : Int)))) rfl rfl rfl) ?_
        refine ro rfl rfl (st_mv rfl) ?_
        refine bool_split (decide ((imn a2.A a2.B) < (0 : Int))) (fun p133 => ?_) (fun p133 => ?_)
        · replace h := ite_T p133 h
          rw [p133]
          refine rz rfl rfl ?_
          refine rz rfl rfl ?_
          refine rz rfl rfl ?_
          refine rz rfl rfl ?_
          refine rz rfl rfl ?_
          refine rz rfl rfl ?_
          refine rz rfl rfl ?_
          refine rz rfl rfl ?_
          refine ro rfl rfl (st_pickT rfl rfl) ?_
          refine rw_nil ?_
          refine nx_then ?_
          exact J124 true () _ _ h (gh_frz rfl rfl ⟨⟨_, rfl, .keep rfl⟩, ⟨_, rfl, .keep rfl⟩, ⟨_, rfl, .keep rfl⟩, trivial⟩ ⟨⟨_, rfl, objOne ⟨⟨rfl, .keep rfl⟩, ⟨rfl, .keep rfl⟩, ⟨rfl, .keep rfl⟩, ⟨rfl, .keep rfl⟩, ⟨rfl, .keep rfl⟩, trivial⟩⟩, trivial⟩)
        · replace h := ite_F p133 h
          rw [p133]
          refine ro rfl rfl (st_faP fo58_1 rfl) ?_
          refine ro rfl rfl (st_ldP (v := dI .i64 a2.A) ta3 rfl rfl rfl rfl) ?_
          refine ro rfl rfl (st_faP fo58_2 rfl) ?_
          refine ro rfl rfl (st_ldP (v := dI .i64 a2.B) ta3 rfl rfl rfl rfl) ?_
          refine ro rfl rfl (st_max rfl rfl) ?_
          refine ro rfl rfl (st_mv rfl) ?_
          refine ro rfl rfl (st_lenD rfl un23) ?_
          refine ro rfl rfl (st_bin (v := dB (decide ((imx a2.A a2.B) ≥ ((a1.length : Nat) : Int)))) rfl rfl rfl) ?_
          refine ro rfl rfl (st_pickF rfl rfl) ?_
          refine rw_nil ?_
          refine nx_then ?_
          exact J124 (decide ((imx a2.A a2.B) ≥ ((a1.length : Nat) : Int))) () _ _ h (gh_frz rfl rfl ⟨⟨_, rfl, .keep rfl⟩, ⟨_, rfl, .keep rfl⟩, ⟨_, rfl, .keep rfl⟩, trivial⟩ ⟨⟨_, rfl, objOne ⟨⟨rfl, .keep rfl⟩, ⟨rfl, .keep rfl⟩, ⟨rfl, .keep rfl⟩, ⟨rfl, .keep rfl⟩, ⟨rfl, .keep rfl⟩, trivial⟩⟩, trivial⟩)
    · replace h := ite_F p114 h
      refine awp_skip ?_
      refine nx_block ?_
      refine nx_then ?_
      refine awp_rs ?_
      refine ro rfl rfl (st_as rfl) ?_
      refine rw_nilk ?_
      refine awp_ret ?_
      injection h with h
      subst h
      exact ret_out (v := dB false) (resV_one (resVs_tmp rfl resVs_nil)) (.keep rfl)

theorem ok_slices_Clone_int_int {a0 : (List Int)} {r : (List Int)} (h : F_slices_Clone_int_int a0 = some r) : Fn Try.prog 48 [dL 1 (eI .i64) a0] (dL 1 (eI .i64) r) := by
  unfold F_slices_Clone_int_int at h
  refine Fn.of_body (N := 8) (rs := [.tmp 2]) Try.func48 (c := _) rfl rfl rfl (by kernel_rfl) (Nat.le_of_ble_eq_true rfl) (fun _B => ?_)
  refine awp_rs ?_
  refine ro rfl rfl (st_as rfl) ?_
  refine rw_nilk ?_
  refine awp_seq ?_
  refine awp_rs ?_
  refine ro rfl rfl (st_mv rfl) ?_
  refine bool_split a0.isEmpty (fun p101 => ?_) (fun p101 => ?_)
  · replace h := ite_T p101 h
    rw [List.isEmpty_iff.1 p101]
    refine rw_nilcase (t := 3) rfl rfl ?_ (fun wq102 cq103 => ?_)
    · refine ro rfl rfl (st_nne rfl rfl un28) ?_
      refine rw_nilk ?_
      refine awp_condT rfl ?_
      refine awp_rs ?_
      refine ro rfl rfl (st_as rfl) ?_
      refine rw_nilk ?_
      refine awp_ret ?_
      refine rt_then ?_
      injection h with h
      subst h
      exact ret_out (v := .nilS) (resV_one (resVs_tmp rfl resVs_nil)) (.nilS _)
    · refine ro rfl rfl (st_rawe rfl rfl un28) ?_
      refine rw_nilk ?_
      refine awp_condF rfl ?_
      refine awp_skip ?_
      refine nx_then ?_
      refine awp_rs ?_
      refine rn (r := 1001) rfl rfl (st_bsl (els := []) sl28 zc3 rfl rfl rfl rfl rfl) rfl ?_
      refine ro rfl rfl (st_mv rfl) ?_
      refine rn (r := 0) (L' := [(1001, rw' 3 3 (eI .i64) ([] : List Int))]) rfl rfl (st_appR (f := (eI .i64)) (xs := ([] : List Int)) (ys := ([] : List Int)) sl28 zc3 rfl rfl rfl rfl rfl news_dat (by decide)) rfl ?_
      refine ro rfl rfl (st_as rfl) ?_
      refine rw_nilk ?_
      refine awp_ret ?_
      injection h with h
      subst h
      exact ret_out (v := .slice 1001 3 0 (([] : List Int).length)) (resV_one (resVs_tmp rfl resVs_nil)) (frzT rfl rfl co3 rfl)
  · replace h := ite_F p101 h
    refine ro rfl rfl (st_dne rfl rfl p101 un28) ?_
    refine rw_nilk ?_
    refine awp_condF rfl ?_
    refine awp_skip ?_
    refine nx_then ?_
    refine awp_rs ?_
    refine rn (r := 1002) rfl rfl (st_bsl (els := []) sl28 zc3 rfl rfl rfl rfl rfl) rfl ?_
    refine ro rfl rfl (st_mv rfl) ?_
    obtain ⟨c104, h⟩ := capN_some h
    refine rn (r := 0) (L' := [(1002, rw' 3 3 (eI .i64) (([] : List Int) ++ a0))]) rfl rfl (st_appR (f := (eI .i64)) (xs := ([] : List Int)) (ys := a0) sl28 zc3 rfl rfl rfl rfl rfl news_dat c104) rfl ?_
    refine ro rfl rfl (st_as rfl) ?_
    refine rw_nilk ?_
    refine awp_ret ?_
    injection h with h
    subst h
    exact ret_out (v := .slice 1002 3 0 ((([] : List Int) ++ a0).length)) (resV_one (resVs_tmp rfl resVs_nil)) (frzT rfl rfl co3 rfl)

theorem ok_proof_Check {a0 : (List (List Int))} {a1 : S_api_Proof} {r : ((List Int) × Int × Int)} (h : F_proof_Check a0 a1 = some r) : Fn Try.prog 14 [dL 1 (eL 1 (eI .i64)) a0, .agg [dB a1.Cubes, dL 5 e_S_api_Line a1.Lines]] (.tup [dL 1 (eI .i64) r.1, dI .i64 r.2.1, dI .i64 r.2.2]) := by
  unfold F_proof_Check at h
  refine Fn.of_body (N := 45) (rs := [.tmp 4, .tmp 5, .tmp 6]) Try.func14 (c := _) rfl rfl rfl (by kernel_rfl) (Nat.le_of_ble_eq_true rfl) (fun _B => ?_)
  refine awp_rs ?_
  refine rn (r := 1001) rfl rfl (st_box rfl rfl rfl co25 rfl rfl) rfl ?_
  refine ro rfl rfl (st_as rfl) ?_
  refine ro rfl rfl (st_as rfl) ?_
  refine ro rfl rfl (st_as rfl) ?_
  refine rw_nilk ?_
  refine awp_seq ?_
  refine awp_block ?_
  refine awp_rs ?_
  refine ro rfl rfl (st_mv rfl) ?_
  obtain ⟨y101, hy101, h⟩ := bind_some_elim h
  refine rf rfl rfl (ok_proof_cnf hy101) rfl rfl ?_
  refine ro rfl rfl (st_un (v := dB (!y101)) rfl rfl) ?_
  refine ro rfl rfl (st_as rfl) ?_
  refine rw_nilk ?_
  refine awp_ite (b := (!y101)) rfl (fun p102 => ?_) (fun p102 => ?_)
  · replace h := ite_T p102 h
    refine awp_rs ?_
    refine ro rfl rfl (st_as rfl) ?_
    refine ro rfl rfl (st_as rfl) ?_
    refine ro rfl rfl (st_as rfl) ?_
    refine rw_nilk ?_
    refine awp_ret ?_
    refine rt_block ?_
    refine rt_then ?_
    injection h with h
    subst h
    exact ret_out (v := .tup [.nilS, dI .i64 (0 : Int), dI .i64 (2 : Int)]) (resV_many (resVs_tmp rfl (resVs_tmp rfl (resVs_tmp rfl resVs_nil)))) (frz_tup ⟨(.nilS _), (.keep rfl), (.keep rfl), trivial⟩)
  · replace h := ite_F p102 h
    refine awp_rs ?_
    refine ro rfl rfl (st_ldP (v := .agg [dB a1.Cubes, dL 5 e_S_api_Line a1.Lines]) ta25 rfl rfl rfl rfl) ?_
    obtain ⟨y103, hy103, h⟩ := bind_some_elim h
    refine rf rfl rfl (ok_proof_fits hy103) rfl rfl ?_
    refine ro rfl rfl (st_un (v := dB (!y103)) rfl rfl) ?_
    refine ro rfl rfl (st_as rfl) ?_
    refine rw_nilk ?_
    refine awp_ite (b := (!y103)) rfl (fun p104 => ?_) (fun p104 => ?_)
    · replace h := ite_T p104 h
      refine awp_rs ?_
      refine ro rfl rfl (st_as rfl) ?_
      refine ro rfl rfl (st_as rfl) ?_
      refine ro rfl rfl (st_as rfl) ?_
      refine rw_nilk ?_
      refine awp_ret ?_
      refine rt_block ?_
      refine rt_then ?_
      injection h with h
      subst h
      exact ret_out (v := .tup [.nilS, dI .i64 (0 : Int), dI .i64 (100 : Int)]) (resV_many (resVs_tmp rfl (resVs_tmp rfl (resVs_tmp rfl resVs_nil)))) (frz_tup ⟨(.nilS _), (.keep rfl), (.keep rfl), trivial⟩)
    · replace h := ite_F p104 h
      refine awp_skip ?_
      refine nx_block ?_
      refine nx_then ?_
      refine awp_seq ?_
      refine awp_rs ?_
      refine ro rfl rfl (st_faP fo25_1 rfl) ?_
      refine ro rfl rfl (st_ldP (v := dL 5 e_S_api_Line a1.Lines) ta23 rfl rfl rfl rfl) ?_
      refine ro rfl rfl (st_lenD rfl un23) ?_
      refine ro rfl rfl (st_mv rfl) ?_
      refine rw_nilk ?_
      refine awp_block ?_
      refine awp_len (t := 18) rfl (fun hl108 => ?_)
      rw [List.length_map] at hl108
      refine awp_range (fun (j108 : Nat) (s105 : Unit) (g106 : Unit) => [(0, dL 1 (eL 1 (eI .i64)) a0), (3, .ptr 1001 0 0 0), (18, dL 5 e_S_api_Line a1.Lines), (19, dI .i64 ((a1.Lines.length : Nat) : Int)), (20, dI .i64 ((j108 : Nat) : Int))]) (fun (s105 : Unit) (g106 : Unit) => [(1001, .row 0 25 [[dB a1.Cubes, dL 5 e_S_api_Line a1.Lines]])]) () (fun _ _ _ h => h) h (gh_frz rfl rfl ⟨⟨_, rfl, .keep rfl⟩, ⟨_, rfl, .keep rfl⟩, ⟨_, rfl, .keep rfl⟩, ⟨_, rfl, .keep rfl⟩, ⟨_, rfl, .keep rfl⟩, trivial⟩ ⟨⟨_, rfl, objOne ⟨⟨rfl, .keep rfl⟩, ⟨rfl, .keep rfl⟩, trivial⟩⟩, trivial⟩) ?_ ?_
      · clear h
        intro j108 x109 s105 g106 k107 hj108 hx108 h ih107
        refine awp_rs ?_
        refine ro rfl rfl (st_bin (v := dB (decide (((j108 : Nat) : Int) < ((a1.Lines.length : Nat) : Int)))) rfl rfl rfl) ?_
        refine rw_nilk ?_
        refine awp_seq ?_
        refine awp_ifT rfl (dlt hj108) ?_
        refine awp_skip ?_
        refine nx_then ?_
        refine awp_seq ?_
        refine awp_block ?_
        refine awp_rs ?_
        refine ro rfl rfl (st_mv rfl) ?_
        refine ro rfl rfl (st_ixDn sl23 rfl rfl hx108) ?_
        refine ro rfl rfl (st_ldD (v := .agg [dI .u8 x109.Rule, dI .i64 x109.A, dI .i64 x109.B, dI .i64 x109.Piv, dL 1 (eI .i64) x109.Lits]) ta58 rfl rfl) ?_
        refine rn (r := 1002) rfl rfl (st_alloc zc58 rfl rfl) rfl ?_
        refine ro rfl rfl (st_as rfl) ?_
        refine rx (L' := [(1001, .row 0 25 [[dB a1.Cubes, dL 5 e_S_api_Line a1.Lines]]), (1002, .row 0 58 [[dI .u8 x109.Rule, dI .i64 x109.A, dI .i64 x109.B, dI .i64 x109.Piv, dL 1 (eI .i64) x109.Lits]])]) rfl rfl (st_stP ta58 rfl rfl rfl rfl rfl rfl rfl rfl) rfl ?_
        refine rw_nilk ?_
        refine awp_rds hmix ?_
        refine do_ rfl rfl (st_mv rfl) rfl rfl rfl ?_
        refine do_ rfl rfl (st_faP fo25_1 rfl) rfl rfl rfl ?_
        refine do_ rfl rfl (st_ldP (v := dL 5 e_S_api_Line a1.Lines) ta23 rfl rfl rfl rfl) rfl rfl rfl ?_
        refine do_ rfl rfl (st_mv rfl) rfl rfl rfl ?_
        obtain ⟨c113, h⟩ := okI_some h
        refine do_ rfl rfl (st_slHi sl23 rfl rfl c113.1 c113.2) rfl rfl rfl ?_
        refine do_ rfl rfl (st_ldP (v := .agg [dI .u8 x109.Rule, dI .i64 x109.A, dI .i64 x109.B, dI .i64 x109.Piv, dL 1 (eI .i64) x109.Lits]) ta58 rfl rfl rfl rfl) rfl rfl rfl ?_
        obtain ⟨y114, hy114, h⟩ := bind_some_elim h
        refine df rfl rfl (ok_proof_right hy114) rfl rfl ?_
        refine do_ rfl rfl (st_un (v := dB (!y114)) rfl rfl) rfl rfl rfl ?_
        refine rd_nil (by kernel_rfl) ?_
        refine awp_ite (b := (!y114)) rfl (fun p115 => ?_) (fun p115 => ?_)
        · replace h := ite_T p115 h
          refine awp_rs ?_
          refine ro rfl rfl (st_mv rfl) ?_
          refine ro rfl rfl (st_as rfl) ?_
          refine ro rfl rfl (st_as rfl) ?_
          refine ro rfl rfl (st_as rfl) ?_
          refine rw_nilk ?_
          refine awp_ret ?_
          refine rt_block ?_
          refine rt_then ?_
          refine rt_then ?_
          refine rt_block ?_
          refine rt_then ?_
          injection h with h
          subst h
          exact ret_out (v := .tup [.nilS, dI .i64 ((j108 : Nat) : Int), dI .i64 (100 : Int)]) (resV_many (resVs_tmp rfl (resVs_tmp rfl (resVs_tmp rfl resVs_nil)))) (frz_tup ⟨(.nilS _), (.keep rfl), (.keep rfl), trivial⟩)
        · replace h := ite_F p115 h
          refine awp_skip ?_
          refine nx_block ?_
          refine nx_then ?_
          refine awp_rw ?_
          refine ro rfl rfl (st_inc rfl rfl hj108 hl108) ?_
          refine ro rfl rfl (st_mv rfl) ?_
          refine rw_nil ?_
          refine nx_then ?_
          refine awp_gh ?_ (ih107 () () h)
          exact (gh_frz rfl rfl ⟨⟨_, rfl, .keep rfl⟩, ⟨_, rfl, .keep rfl⟩, ⟨_, rfl, .keep rfl⟩, ⟨_, rfl, .keep rfl⟩, ⟨_, rfl, .keep rfl⟩, trivial⟩ ⟨⟨_, rfl, objOne ⟨⟨rfl, .keep rfl⟩, ⟨rfl, .keep rfl⟩, trivial⟩⟩, trivial⟩)
      · clear h
        intro s105 g106 h
        refine awp_rs ?_
        refine ro rfl rfl (st_bin (v := dB (decide (((a1.Lines.length : Nat) : Int) < ((a1.Lines.length : Nat) : Int)))) rfl rfl rfl) ?_
        refine rw_nilk ?_
        refine awp_seq ?_
        refine awp_ifF rfl dge ?_
        refine awp_exit ?_
        refine ex_out ?_
        refine ex_out ?_
        refine ex_in ?_
        refine nx_then ?_
        refine awp_rs ?_
        refine ro rfl rfl (st_faP fo25_1 rfl) ?_
        refine ro rfl rfl (st_ldP (v := dL 5 e_S_api_Line a1.Lines) ta23 rfl rfl rfl rfl) ?_
        refine ro rfl rfl (st_faP fo25_1 rfl) ?_
        refine ro rfl rfl (st_ldP (v := dL 5 e_S_api_Line a1.Lines) ta23 rfl rfl rfl rfl) ?_
        refine ro rfl rfl (st_lenD rfl un23) ?_
        refine ro rfl rfl (st_bin (v := dI .i64 (IntKind.wrap .i64 (((a1.Lines.length : Nat) : Int) - (1 : Int)))) rfl rfl rfl) ?_
        obtain ⟨x116, h0116, hx116, h⟩ := getI_some h
        refine ro rfl rfl (st_ixD sl23 rfl rfl h0116 hx116) ?_
        refine ro rfl rfl (st_faD fo58_4 rfl) ?_
        refine ro rfl rfl (st_ldD (v := dL 1 (eI .i64) x116.Lits) ta28 rfl rfl) ?_
        obtain ⟨y117, hy117, h⟩ := bind_some_elim h
        refine rf rfl rfl (ok_slices_Clone_int_int hy117) rfl rfl ?_
        refine ro rfl rfl (st_as rfl) ?_
        refine ro rfl rfl (st_as rfl) ?_
        refine ro rfl rfl (st_as rfl) ?_
        refine rw_nilk ?_
        refine awp_ret ?_
        injection h with h
        subst h
        exact ret_out (v := .tup [dL 1 (eI .i64) y117, dI .i64 (0 : Int), dI .i64 (0 : Int)]) (resV_many (resVs_tmp rfl (resVs_tmp rfl (resVs_tmp rfl resVs_nil)))) (.keep rfl)

theorem ok_skolemref09_Abs {a0 : Int} {r : Int} (h : F_skolemref09_Abs a0 = some r) : Fn Try.prog 65 [dI .i64 a0] (dI .i64 r) := by
  unfold F_skolemref09_Abs at h
  refine Fn.of_body (N := 8) (rs := [.tmp 2]) Try.func65 (c := _) rfl rfl rfl (by kernel_rfl) (Nat.le_of_ble_eq_true rfl) (fun _B => ?_)
  refine awp_rs ?_
  refine ro rfl rfl (st_as rfl) ?_
  refine rw_nilk ?_
  refine awp_seq ?_
  refine awp_rs ?_
  refine ro rfl rfl (st_mv rfl) ?_
  refine ro rfl rfl (st_bin (v := dB (decide (a0 < (0 : Int)))) rfl rfl rfl) ?_
  refine rw_nilk ?_
  refine awp_ite (b := (decide (a0 < (0 : Int)))) rfl (fun p101 => ?_) (fun p101 => ?_)
  · replace h := ite_T p101 h
    refine awp_rs ?_
    refine ro rfl rfl (st_mv rfl) ?_
    refine ro rfl rfl (st_un (v := dI .i64 (IntKind.wrap .i64 (0 - a0))) rfl rfl) ?_
    refine ro rfl rfl (st_as rfl) ?_
    refine rw_nilk ?_
    refine awp_ret ?_
    refine rt_then ?_
    injection h with h
    subst h
    exact ret_out (v := dI .i64 (IntKind.wrap .i64 (0 - a0))) (resV_one (resVs_tmp rfl resVs_nil)) (.keep rfl)
  · replace h := ite_F p101 h
    refine awp_skip ?_
    refine nx_then ?_
    refine awp_rs ?_
    refine ro rfl rfl (st_mv rfl) ?_
    refine ro rfl rfl (st_as rfl) ?_
    refine rw_nilk ?_
    refine awp_ret ?_
    injection h with h
    subst h
    exact ret_out (v := dI .i64 a0) (resV_one (resVs_tmp rfl resVs_nil)) (.keep rfl)

theorem ok_skolemlaw10_holds {a0 : (List Int)} {a1 : Int} {r : Bool} (h : F_skolemlaw10_holds a0 a1 = some r) : Fn Try.prog 26 [dL 1 (eI .i64) a0, dI .u64 a1] (dB r) := by
  unfold F_skolemlaw10_holds at h
  refine Fn.of_body (N := 28) (rs := [.tmp 4]) Try.func26 (c := _) rfl rfl rfl (by kernel_rfl) (Nat.le_of_ble_eq_true rfl) (fun _B => ?_)
  refine awp_rs ?_
  refine ro rfl rfl (st_as rfl) ?_
  refine rw_nilk ?_
  refine awp_seq ?_
  refine awp_rs ?_
  refine ro rfl rfl (st_as rfl) ?_
  refine rw_nilk ?_
  refine awp_block ?_
  refine awp_len (t := 0) rfl (fun hl104 => ?_)
  rw [List.length_map] at hl104
  refine awp_range (fun (j104 : Nat) (s101 : Unit) (g102 : Unit) => [(0, dL 1 (eI .i64) a0), (1, dI .u64 a1), (5, dI .i64 ((j104 : Nat) : Int))]) (fun (s101 : Unit) (g102 : Unit) => []) () (fun _ _ _ h => h) h (gh_frz rfl rfl ⟨⟨_, rfl, .keep rfl⟩, ⟨_, rfl, .keep rfl⟩, ⟨_, rfl, .keep rfl⟩, trivial⟩ trivial) ?_ ?_
  · clear h
    intro j104 x105 s101 g102 k103 hj104 hx104 h ih103
    refine awp_seq ?_
    refine awp_rs ?_
    refine ro rfl rfl (st_mv rfl) ?_
    refine ro rfl rfl (st_mv rfl) ?_
    refine ro rfl rfl (st_lenD rfl un28) ?_
    refine ro rfl rfl (st_bin (v := dB (decide (((j104 : Nat) : Int) < ((a0.length : Nat) : Int)))) rfl rfl rfl) ?_
    refine rw_nilk ?_
    refine awp_ifT rfl (dlt hj104) ?_
    refine awp_skip ?_
    refine nx_then ?_
    refine awp_seq ?_
    refine awp_block ?_
    refine awp_rds hmix ?_
    refine do_ rfl rfl (st_mv rfl) rfl rfl rfl ?_
    refine do_ rfl rfl (st_mv rfl) rfl rfl rfl ?_
    refine do_ rfl rfl (st_mv rfl) rfl rfl rfl ?_
    refine do_ rfl rfl (st_ixDn sl28 rfl rfl hx104) rfl rfl rfl ?_
    refine do_ rfl rfl (st_ldD (v := dI .i64 x105) ta3 rfl rfl) rfl rfl rfl ?_
    obtain ⟨y109, hy109, h⟩ := bind_some_elim h
    refine df rfl rfl (ok_skolemref09_Abs hy109) rfl rfl ?_
    refine do_ rfl rfl (st_bin (v := dI .i64 (Int.tmod y109 (64 : Int))) rfl rfl rfl) rfl rfl rfl ?_
    obtain ⟨c110, h⟩ := okI_some h
    refine do_ rfl rfl (st_shr rfl rfl c110) rfl rfl rfl ?_
    refine do_ rfl rfl (st_bin (v := dI .u64 (IntKind.wrap .u64 ((BitVec.ofInt (IntKind.bits .u64) (Int.fdiv a1 (2 ^ (min (Int.tmod y109 (64 : Int)).toNat (IntKind.bits .u64)))) &&& BitVec.ofInt (IntKind.bits .u64) (1 : Int)).toNat : Int))) rfl rfl rfl) rfl rfl rfl ?_
    refine do_ rfl rfl (st_bin (v := dB ((IntKind.wrap .u64 ((BitVec.ofInt (IntKind.bits .u64) (Int.fdiv a1 (2 ^ (min (Int.tmod y109 (64 : Int)).toNat (IntKind.bits .u64)))) &&& BitVec.ofInt (IntKind.bits .u64) (1 : Int)).toNat : Int)) == (1 : Int))) rfl rfl rfl) rfl rfl rfl ?_
    refine do_ rfl rfl (st_mv rfl) rfl rfl rfl ?_
    refine do_ rfl rfl (st_mv rfl) rfl rfl rfl ?_
    refine do_ rfl rfl (st_ixDn sl28 rfl rfl hx104) rfl rfl rfl ?_
    refine do_ rfl rfl (st_ldD (v := dI .i64 x105) ta3 rfl rfl) rfl rfl rfl ?_
    refine do_ rfl rfl (st_bin (v := dB (decide (x105 > (0 : Int)))) rfl rfl rfl) rfl rfl rfl ?_
    refine do_ rfl rfl (st_binB (v := dB (((IntKind.wrap .u64 ((BitVec.ofInt (IntKind.bits .u64) (Int.fdiv a1 (2 ^ (min (Int.tmod y109 (64 : Int)).toNat (IntKind.bits .u64)))) &&& BitVec.ofInt (IntKind.bits .u64) (1 : Int)).toNat : Int)) == (1 : Int)) == (decide (x105 > (0 : Int))))) rfl rfl un4 rfl) rfl rfl rfl ?_
    refine rd_nil (by kernel_rfl) ?_
    refine awp_ite (b := (((IntKind.wrap .u64 ((BitVec.ofInt (IntKind.bits .u64) (Int.fdiv a1 (2 ^ (min (Int.tmod y109 (64 : Int)).toNat (IntKind.bits .u64)))) &&& BitVec.ofInt (IntKind.bits .u64) (1 : Int)).toNat : Int)) == (1 : Int)) == (decide (x105 > (0 : Int))))) rfl (fun p111 => ?_) (fun p111 => ?_)
    · replace h := ite_T p111 h
      refine awp_rs ?_
      refine ro rfl rfl (st_as rfl) ?_
      refine rw_nilk ?_
      refine awp_ret ?_
      refine rt_block ?_
      refine rt_then ?_
      refine rt_then ?_
      refine rt_block ?_
      refine rt_then ?_
      injection h with h
      subst h
      exact ret_out (v := dB true) (resV_one (resVs_tmp rfl resVs_nil)) (.keep rfl)
    · replace h := ite_F p111 h
      refine awp_skip ?_
      refine nx_block ?_
      refine nx_then ?_
      refine awp_rw ?_
      refine ro rfl rfl (st_mv rfl) ?_
      refine ro rfl rfl (st_inc rfl rfl hj104 hl104) ?_
      refine ro rfl rfl (st_as rfl) ?_
      refine rw_nil ?_
      refine nx_then ?_
      refine awp_gh ?_ (ih103 () () h)
      exact (gh_frz rfl rfl ⟨⟨_, rfl, .keep rfl⟩, ⟨_, rfl, .keep rfl⟩, ⟨_, rfl, .keep rfl⟩, trivial⟩ trivial)
  · clear h
    intro s101 g102 h
    refine awp_seq ?_
    refine awp_rs ?_
    refine ro rfl rfl (st_mv rfl) ?_
    refine ro rfl rfl (st_mv rfl) ?_
    refine ro rfl rfl (st_lenD rfl un28) ?_
    refine ro rfl rfl (st_bin (v := dB (decide (((a0.length : Nat) : Int) < ((a0.length : Nat) : Int)))) rfl rfl rfl) ?_
    refine rw_nilk ?_
    refine awp_ifF rfl dge ?_
    refine awp_exit ?_
    refine ex_out ?_
    refine ex_out ?_
    refine ex_in ?_
    refine nx_then ?_
    refine awp_rs ?_
    refine ro rfl rfl (st_as rfl) ?_
    refine rw_nilk ?_
    refine awp_ret ?_
    injection h with h
    subst h
    exact ret_out (v := dB false) (resV_one (resVs_tmp rfl resVs_nil)) (.keep rfl)

theorem ok_skolemlaw10_holdsAll {a0 : (List (List Int))} {a1 : Int} {r : Bool} (h : F_skolemlaw10_holdsAll a0 a1 = some r) : Fn Try.prog 25 [dL 1 (eL 1 (eI .i64)) a0, dI .u64 a1] (dB r) := by
  unfold F_skolemlaw10_holdsAll at h
  refine Fn.of_body (N := 19) (rs := [.tmp 4]) Try.func25 (c := _) rfl rfl rfl (by kernel_rfl) (Nat.le_of_ble_eq_true rfl) (fun _B => ?_)
  refine awp_rs ?_
  refine ro rfl rfl (st_as rfl) ?_
  refine rw_nilk ?_
  refine awp_seq ?_
  refine awp_rs ?_
  refine ro rfl rfl (st_as rfl) ?_
  refine rw_nilk ?_
  refine awp_block ?_
  refine awp_len (t := 0) rfl (fun hl104 => ?_)
  rw [List.length_map] at hl104
  refine awp_range (fun (j104 : Nat) (s101 : Unit) (g102 : Unit) => [(0, dL 1 (eL 1 (eI .i64)) a0), (1, dI .u64 a1), (5, dI .i64 ((j104 : Nat) : Int))]) (fun (s101 : Unit) (g102 : Unit) => []) () (fun _ _ _ h => h) h (gh_frz rfl rfl ⟨⟨_, rfl, .keep rfl⟩, ⟨_, rfl, .keep rfl⟩, ⟨_, rfl, .keep rfl⟩, trivial⟩ trivial) ?_ ?_
  · clear h
    intro j104 x105 s101 g102 k103 hj104 hx104 h ih103
    refine awp_seq ?_
    refine awp_rs ?_
    refine ro rfl rfl (st_mv rfl) ?_
    refine ro rfl rfl (st_mv rfl) ?_
    refine ro rfl rfl (st_lenD rfl un22) ?_
    refine ro rfl rfl (st_bin (v := dB (decide (((j104 : Nat) : Int) < ((a0.length : Nat) : Int)))) rfl rfl rfl) ?_
    refine rw_nilk ?_
    refine awp_ifT rfl (dlt hj104) ?_
    refine awp_skip ?_
    refine nx_then ?_
    refine awp_seq ?_
    refine awp_block ?_
    refine awp_rs ?_
    refine ro rfl rfl (st_mv rfl) ?_
    refine ro rfl rfl (st_mv rfl) ?_
    refine ro rfl rfl (st_ixDn sl22 rfl rfl hx104) ?_
    refine ro rfl rfl (st_ldD (v := dL 1 (eI .i64) x105) ta28 rfl rfl) ?_
    refine ro rfl rfl (st_mv rfl) ?_
    obtain ⟨y108, hy108, h⟩ := bind_some_elim h
    refine rf rfl rfl (ok_skolemlaw10_holds hy108) rfl rfl ?_
    refine ro rfl rfl (st_un (v := dB (!y108)) rfl rfl) ?_
    refine rw_nilk ?_
    refine awp_ite (b := (!y108)) rfl (fun p109 => ?_) (fun p109 => ?_)
    · replace h := ite_T p109 h
      refine awp_rs ?_
      refine ro rfl rfl (st_as rfl) ?_
      refine rw_nilk ?_
      refine awp_ret ?_
      refine rt_block ?_
      refine rt_then ?_
      refine rt_then ?_
      refine rt_block ?_
      refine rt_then ?_
      injection h with h
      subst h
      exact ret_out (v := dB false) (resV_one (resVs_tmp rfl resVs_nil)) (.keep rfl)
    · replace h := ite_F p109 h
      refine awp_skip ?_
      refine nx_block ?_
      refine nx_then ?_
      refine awp_rw ?_
      refine ro rfl rfl (st_mv rfl) ?_
      refine ro rfl rfl (st_inc rfl rfl hj104 hl104) ?_
      refine ro rfl rfl (st_as rfl) ?_
      refine rw_nil ?_
      refine nx_then ?_
      refine awp_gh ?_ (ih103 () () h)
      exact (gh_frz rfl rfl ⟨⟨_, rfl, .keep rfl⟩, ⟨_, rfl, .keep rfl⟩, ⟨_, rfl, .keep rfl⟩, trivial⟩ trivial)
  · clear h
    intro s101 g102 h
    refine awp_seq ?_
    refine awp_rs ?_
    refine ro rfl rfl (st_mv rfl) ?_
    refine ro rfl rfl (st_mv rfl) ?_
    refine ro rfl rfl (st_lenD rfl un22) ?_
    refine ro rfl rfl (st_bin (v := dB (decide (((a0.length : Nat) : Int) < ((a0.length : Nat) : Int)))) rfl rfl rfl) ?_
    refine rw_nilk ?_
    refine awp_ifF rfl dge ?_
    refine awp_exit ?_
    refine ex_out ?_
    refine ex_out ?_
    refine ex_in ?_
    refine nx_then ?_
    refine awp_rs ?_
    refine ro rfl rfl (st_as rfl) ?_
    refine rw_nilk ?_
    refine awp_ret ?_
    injection h with h
    subst h
    exact ret_out (v := dB true) (resV_one (resVs_tmp rfl resVs_nil)) (.keep rfl)

theorem ok_skolemlaw10_ProofHolds {a0 : (List (List Int))} {a1 : S_api_Proof} {a2 : (List Int)} {r : Bool} (h : F_skolemlaw10_ProofHolds a0 a1 a2 = some r) : Fn Try.prog 5 [dL 1 (eL 1 (eI .i64)) a0, .agg [dB a1.Cubes, dL 5 e_S_api_Line a1.Lines], dL 1 (eI .u64) a2] (dB r) := by
  unfold F_skolemlaw10_ProofHolds at h
  refine Fn.of_body (N := 57) (rs := [.tmp 6]) Try.func5 (c := _) rfl rfl rfl (by kernel_rfl) (Nat.le_of_ble_eq_true rfl) (fun _B => ?_)
  refine awp_rs ?_
  refine rn (r := 1001) rfl rfl (st_box rfl rfl rfl co25 rfl rfl) rfl ?_
  refine ro rfl rfl (st_as rfl) ?_
  refine rw_nilk ?_
  refine awp_seq ?_
  refine awp_jn (fun (s112 : Bool) (g113 : Unit) => [(0, dL 1 (eL 1 (eI .i64)) a0), (2, dL 1 (eI .u64) a2), (4, .ptr 1001 0 0 0), (18, dB s112)]) (fun (s112 : Bool) (g113 : Unit) => [(1001, .row 0 25 [[dB a1.Cubes, dL 5 e_S_api_Line a1.Lines]])]) h ?_ ?_
  · clear h
    intro s112 g113 h
    refine awp_ite (b := s112) rfl (fun p115 => ?_) (fun p115 => ?_)
    · replace h := ite_T p115 h
      refine awp_rs ?_
      obtain ⟨y116, hy116, h⟩ := bind_some_elim h
      refine rf rfl rfl (ok_skolemlaw10_head hy116) rfl rfl ?_
      refine ro rfl rfl (st_as rfl) ?_
      refine rw_nilk ?_
      refine awp_ret ?_
      refine rt_then ?_
      injection h with h
      subst h
      exact ret_out (v := dB y116) (resV_one (resVs_tmp rfl resVs_nil)) (.keep rfl)
    · replace h := ite_F p115 h
      refine awp_skip ?_
      refine nx_then ?_
      refine awp_rs ?_
      refine ro rfl rfl (st_mv rfl) ?_
      refine ro rfl rfl (st_ldP (v := .agg [dB a1.Cubes, dL 5 e_S_api_Line a1.Lines]) ta25 rfl rfl rfl rfl) ?_
      obtain ⟨y117, hy117, h⟩ := bind_some_elim h
      refine rf rfl rfl (ok_proof_Check hy117) rfl rfl ?_
      refine ro rfl rfl (st_mv rfl) ?_
      refine ro rfl rfl (st_ext rfl rfl) ?_
      refine ro rfl rfl (st_ext rfl rfl) ?_
      refine ro rfl rfl (st_ext rfl rfl) ?_
      refine ro rfl rfl (st_as rfl) ?_
      refine ro rfl rfl (st_as rfl) ?_
      refine ro rfl rfl (st_as rfl) ?_
      refine rw_nilk ?_
      refine awp_seq ?_
      refine awp_rs ?_
      refine ro rfl rfl (st_mv rfl) ?_
      refine ro rfl rfl (st_bin (v := dB (y117.2.2 != (0 : Int))) rfl rfl rfl) ?_
      refine rw_nilk ?_
      refine awp_ite (b := (y117.2.2 != (0 : Int))) rfl (fun p118 => ?_) (fun p118 => ?_)
      · replace h := ite_T p118 h
        refine awp_rs ?_
        refine ro rfl rfl (st_mv rfl) ?_
        refine ro rfl rfl (st_lenD rfl un28) ?_
        refine ro rfl rfl (st_bin (v := dB (((y117.1.length : Nat) : Int) == (0 : Int))) rfl rfl rfl) ?_
        refine ro rfl rfl (st_mv rfl) ?_
        refine bool_split (((y117.1.length : Nat) : Int) == (0 : Int)) (fun p121 => ?_) (fun p121 => ?_)
        · replace h := ite_T p121 h
          rw [p121]
          obtain ⟨y122, hy122, h⟩ := bind_some_elim h
          refine rf rfl rfl (ok_skolemlaw10_head hy122) rfl rfl ?_
          refine ro rfl rfl (st_pickT rfl rfl) ?_
          refine ro rfl rfl (st_as rfl) ?_
          refine rw_nilk ?_
          refine awp_ret ?_
          refine rt_then ?_
          injection h with h
          subst h
          exact ret_out (v := dB y122) (resV_one (resVs_tmp rfl resVs_nil)) (.keep rfl)
        · replace h := ite_F p121 h
          rw [p121]
          refine rz rfl rfl ?_
          refine ro rfl rfl (st_pickF rfl rfl) ?_
          refine ro rfl rfl (st_as rfl) ?_
          refine rw_nilk ?_
          refine awp_ret ?_
          refine rt_then ?_
          injection h with h
          subst h
          exact ret_out (v := dB false) (resV_one (resVs_tmp rfl resVs_nil)) (.keep rfl)
      · replace h := ite_F p118 h
        refine awp_skip ?_
        refine nx_then ?_
        refine awp_seq ?_
        refine awp_rs ?_
        refine ro rfl rfl (st_as rfl) ?_
        refine rw_nilk ?_
        refine awp_block ?_
        refine awp_len (t := 2) rfl (fun hl126 => ?_)
        rw [List.length_map] at hl126
        refine awp_range (fun (j126 : Nat) (s123 : Unit) (g124 : Unit) => [(0, dL 1 (eL 1 (eI .i64)) a0), (2, dL 1 (eI .u64) a2), (7, dL 1 (eI .i64) y117.1), (10, dI .i64 ((j126 : Nat) : Int))]) (fun (s123 : Unit) (g124 : Unit) => []) () (fun _ _ _ h => h) h (gh_frz rfl rfl ⟨⟨_, rfl, .keep rfl⟩, ⟨_, rfl, .keep rfl⟩, ⟨_, rfl, .keep rfl⟩, ⟨_, rfl, .keep rfl⟩, trivial⟩ trivial) ?_ ?_
        · clear h
          intro j126 x127 s123 g124 k125 hj126 hx126 h ih125
          refine awp_seq ?_
          refine awp_rs ?_
          refine ro rfl rfl (st_mv rfl) ?_
          refine ro rfl rfl (st_mv rfl) ?_
          refine ro rfl rfl (st_lenD rfl un46) ?_
          refine ro rfl rfl (st_bin (v := dB (decide (((j126 : Nat) : Int) < ((a2.length : Nat) : Int)))) rfl rfl rfl) ?_
          refine rw_nilk ?_
          refine awp_ifT rfl (dlt hj126) ?_
          refine awp_skip ?_
          refine nx_then ?_
          refine awp_seq ?_
          refine awp_block ?_
          refine awp_jn (fun (s161 : Bool) (g162 : Unit) => [(0, dL 1 (eL 1 (eI .i64)) a0), (2, dL 1 (eI .u64) a2), (7, dL 1 (eI .i64) y117.1), (10, dI .i64 ((j126 : Nat) : Int)), (55, dB s161)]) (fun (s161 : Bool) (g162 : Unit) => []) h ?_ ?_
          · clear h
            intro s161 g162 h
            refine awp_ite (b := s161) rfl (fun p164 => ?_) (fun p164 => ?_)
            · replace h := ite_T p164 h
              refine awp_rs ?_
              refine ro rfl rfl (st_as rfl) ?_
              refine rw_nilk ?_
              refine awp_ret ?_
              refine rt_block ?_
              refine rt_then ?_
              refine rt_then ?_
              refine rt_block ?_
              refine rt_then ?_
              injection h with h
              subst h
              exact ret_out (v := dB false) (resV_one (resVs_tmp rfl resVs_nil)) (.keep rfl)
            · replace h := ite_F p164 h
              refine awp_skip ?_
              refine nx_block ?_
              refine nx_then ?_
              refine awp_rw ?_
              refine ro rfl rfl (st_mv rfl) ?_
              refine ro rfl rfl (st_inc rfl rfl hj126 hl126) ?_
              refine ro rfl rfl (st_as rfl) ?_
              refine rw_nil ?_
              refine nx_then ?_
              refine awp_gh ?_ (ih125 () () h)
              exact (gh_frz rfl rfl ⟨⟨_, rfl, .keep rfl⟩, ⟨_, rfl, .keep rfl⟩, ⟨_, rfl, .keep rfl⟩, ⟨_, rfl, .keep rfl⟩, trivial⟩ trivial)
          · clear h
            intro k163 h J163
            refine awp_rw ?_
            refine ro rfl rfl (st_mv rfl) ?_
            refine ro rfl rfl (st_mv rfl) ?_
            refine ro rfl rfl (st_mv rfl) ?_
            refine ro rfl rfl (st_ixDn sl46 rfl rfl hx126) ?_
            refine ro rfl rfl (st_ldD (v := dI .u64 x127) ta48 rfl rfl) ?_
            obtain ⟨y165, hy165, h⟩ := bind_some_elim h
            refine rf rfl rfl (ok_skolemlaw10_holdsAll hy165) rfl rfl ?_
            refine ro rfl rfl (st_mv rfl) ?_
            refine bool_split y165 (fun p166 => ?_) (fun p166 => ?_)
            · replace h := ite_T p166 h
              rw [p166]
              refine ro rfl rfl (st_mv rfl) ?_
              refine ro rfl rfl (st_mv rfl) ?_
              refine ro rfl rfl (st_mv rfl) ?_
              refine ro rfl rfl (st_ixDn sl46 rfl rfl hx126) ?_
              refine ro rfl rfl (st_ldD (v := dI .u64 x127) ta48 rfl rfl) ?_
              obtain ⟨y167, hy167, h⟩ := bind_some_elim h
              refine rf rfl rfl (ok_skolemlaw10_holds hy167) rfl rfl ?_
              refine ro rfl rfl (st_un (v := dB (!y167)) rfl rfl) ?_
              refine ro rfl rfl (st_pickT rfl rfl) ?_
              refine rw_nil ?_
              refine nx_then ?_
              exact J163 (!y167) () _ _ h (gh_frz rfl rfl ⟨⟨_, rfl, .keep rfl⟩, ⟨_, rfl, .keep rfl⟩, ⟨_, rfl, .keep rfl⟩, ⟨_, rfl, .keep rfl⟩, ⟨_, rfl, .keep rfl⟩, trivial⟩ trivial)
            · replace h := ite_F p166 h
              rw [p166]
              refine rz rfl rfl ?_
              refine rz rfl rfl ?_
              refine rz rfl rfl ?_
              refine rz rfl rfl ?_
              refine rz rfl rfl ?_
              refine rz rfl rfl ?_
              refine rz rfl rfl ?_
              refine ro rfl rfl (st_pickF rfl rfl) ?_
              refine rw_nil ?_
              refine nx_then ?_
              exact J163 false () _ _ h (gh_frz rfl rfl ⟨⟨_, rfl, .keep rfl⟩, ⟨_, rfl, .keep rfl⟩, ⟨_, rfl, .keep rfl⟩, ⟨_, rfl, .keep rfl⟩, ⟨_, rfl, .keep rfl⟩, trivial⟩ trivial)
        · clear h
          intro s123 g124 h
          refine awp_seq ?_
          refine awp_rs ?_
          refine ro rfl rfl (st_mv rfl) ?_
          refine ro rfl rfl (st_mv rfl) ?_
          refine ro rfl rfl (st_lenD rfl un46) ?_
          refine ro rfl rfl (st_bin (v := dB (decide (((a2.length : Nat) : Int) < ((a2.length : Nat) : Int)))) rfl rfl rfl) ?_
          refine rw_nilk ?_
          refine awp_ifF rfl dge ?_
          refine awp_exit ?_
          refine ex_out ?_
          refine ex_out ?_
          refine ex_in ?_
          refine nx_then ?_
          refine awp_rs ?_
          obtain ⟨y168, hy168, h⟩ := bind_some_elim h
          refine rf rfl rfl (ok_skolemlaw10_head hy168) rfl rfl ?_
          refine ro rfl rfl (st_as rfl) ?_
          refine rw_nilk ?_
          refine awp_ret ?_
          injection h with h
          subst h
          exact ret_out (v := dB y168) (resV_one (resVs_tmp rfl resVs_nil)) (.keep rfl)
  · clear h
    intro k114 h J114
    refine awp_rw ?_
    refine ro rfl rfl (st_mv rfl) ?_
    refine ro rfl rfl (st_ldP (v := .agg [dB a1.Cubes, dL 5 e_S_api_Line a1.Lines]) ta25 rfl rfl rfl rfl) ?_
    obtain ⟨y169, hy169, h⟩ := bind_some_elim h
    refine rf rfl rfl (ok_skolemlaw10_large hy169) rfl rfl ?_
    refine ro rfl rfl (st_mv rfl) ?_
    refine bool_split y169 (fun p170 => ?_) (fun p170 => ?_)
    · replace h := ite_T p170 h
      rw [p170]
      refine rz rfl rfl ?_
      refine rz rfl rfl ?_
      refine rz rfl rfl ?_
      refine ro rfl rfl (st_pickT rfl rfl) ?_
      refine rw_nil ?_
      refine nx_then ?_
      exact J114 true () _ _ h (gh_frz rfl rfl ⟨⟨_, rfl, .keep rfl⟩, ⟨_, rfl, .keep rfl⟩, ⟨_, rfl, .keep rfl⟩, ⟨_, rfl, .keep rfl⟩, trivial⟩ ⟨⟨_, rfl, objOne ⟨⟨rfl, .keep rfl⟩, ⟨rfl, .keep rfl⟩, trivial⟩⟩, trivial⟩)
    · replace h := ite_F p170 h
      rw [p170]
      refine ro rfl rfl (st_mv rfl) ?_
      refine ro rfl rfl (st_lenD rfl un46) ?_
      refine ro rfl rfl (st_bin (v := dB (decide (((a2.length : Nat) : Int) > (200 : Int)))) rfl rfl rfl) ?_
      refine ro rfl rfl (st_pickF rfl rfl) ?_
      refine rw_nil ?_
      refine nx_then ?_
      exact J114 (decide (((a2.length : Nat) : Int) > (200 : Int))) () _ _ h (gh_frz rfl rfl ⟨⟨_, rfl, .keep rfl⟩, ⟨_, rfl, .keep rfl⟩, ⟨_, rfl, .keep rfl⟩, ⟨_, rfl, .keep rfl⟩, trivial⟩ ⟨⟨_, rfl, objOne ⟨⟨rfl, .keep rfl⟩, ⟨rfl, .keep rfl⟩, trivial⟩⟩, trivial⟩)
end Go.Sk.X
