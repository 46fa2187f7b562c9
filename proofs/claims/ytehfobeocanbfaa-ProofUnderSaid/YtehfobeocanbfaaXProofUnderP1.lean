/- The program computes these plain functions (law ProofUnder, part 1). It has no conditions. -/
import Derived.Test.YtehfobeocanbfaaProg
import Derived.Test.YtehfobeocanbfaaSk7
import Derived.Test.YtehfobeocanbfaaSk5
import Derived.Test.YtehfobeocanbfaaXProofUnderF
import Derived.KernelRfl
set_option linter.unusedVariables false
set_option linter.unusedSimpArgs false
set_option maxRecDepth 100000
set_option maxHeartbeats 4000000
namespace Go.Sk.X
open Go Go.Sk Go.Proofs
abbrev e_S_api_Line (x : S_api_Line) : List Dat := [.int .u8 x.Rule, .int .i64 x.A, .int .i64 x.B, .int .i64 x.Piv, .sl 1 (x.Lits.map (eI .i64))]
abbrev e_S_api_Proof (x : S_api_Proof) : List Dat := [.bool x.Cubes, .sl 5 (x.Lines.map e_S_api_Line)]
theorem hmix : (Go.Proofs.Try.prog).follows .mixedOrders = true := by kernel_rfl
theorem ta3 : tAgg Go.Proofs.Try.prog 3 = some (false, 1) := by kernel_rfl
theorem co3 : Program.cellsOf Go.Proofs.Try.prog 3 = 1 := by kernel_rfl
theorem un3 : Program.underlying Go.Proofs.Try.prog 3 = some (.int .i64) := Go.Proofs.Try.underlying3
theorem zc3 : zCells Go.Proofs.Try.prog 3 = some [.dat (.int .i64 0)] := by kernel_rfl
theorem ta4 : tAgg Go.Proofs.Try.prog 4 = some (false, 1) := by kernel_rfl
theorem co4 : Program.cellsOf Go.Proofs.Try.prog 4 = 1 := by kernel_rfl
theorem zc4 : zCells Go.Proofs.Try.prog 4 = some [.dat (.bool false)] := by kernel_rfl
theorem un22 : Program.underlying Go.Proofs.Try.prog 22 = some (.slice 28) := Go.Proofs.Try.underlying22
theorem sl22 : slE Go.Proofs.Try.prog 22 = some (28, 1, 24) := by kernel_rfl
theorem ta23 : tAgg Go.Proofs.Try.prog 23 = some (false, 1) := by kernel_rfl
theorem co23 : Program.cellsOf Go.Proofs.Try.prog 23 = 1 := by kernel_rfl
theorem un23 : Program.underlying Go.Proofs.Try.prog 23 = some (.slice 58) := Go.Proofs.Try.underlying23
theorem sl23 : slE Go.Proofs.Try.prog 23 = some (58, 5, 56) := by kernel_rfl
theorem zc23 : zCells Go.Proofs.Try.prog 23 = some [.nilS] := by kernel_rfl
theorem ta25 : tAgg Go.Proofs.Try.prog 25 = some (true, 2) := by kernel_rfl
theorem co25 : Program.cellsOf Go.Proofs.Try.prog 25 = 2 := by kernel_rfl
theorem fo25_0 : fOff Go.Proofs.Try.prog 25 0 = some (0, 1, false) := by kernel_rfl
theorem fo25_1 : fOff Go.Proofs.Try.prog 25 1 = some (1, 1, false) := by kernel_rfl
theorem zc25 : zCells Go.Proofs.Try.prog 25 = some [.dat (.bool false), .nilS] := by kernel_rfl
theorem bl25 : bLay Go.Proofs.Try.prog 25 = some ([.dat (.bool false), .nilS], .list [(0, 1), (1, 1)]) := by kernel_rfl
theorem ta28 : tAgg Go.Proofs.Try.prog 28 = some (false, 1) := by kernel_rfl
theorem co28 : Program.cellsOf Go.Proofs.Try.prog 28 = 1 := by kernel_rfl
theorem un28 : Program.underlying Go.Proofs.Try.prog 28 = some (.slice 3) := Go.Proofs.Try.underlying28
theorem sl28 : slE Go.Proofs.Try.prog 28 = some (3, 1, 8) := by kernel_rfl
theorem zc28 : zCells Go.Proofs.Try.prog 28 = some [.nilS] := by kernel_rfl
theorem ta56 : tAgg Go.Proofs.Try.prog 56 = some (false, 1) := by kernel_rfl
theorem ta58 : tAgg Go.Proofs.Try.prog 58 = some (true, 5) := by kernel_rfl
theorem co58 : Program.cellsOf Go.Proofs.Try.prog 58 = 5 := by kernel_rfl
theorem fo58_0 : fOff Go.Proofs.Try.prog 58 0 = some (0, 1, false) := by kernel_rfl
theorem fo58_1 : fOff Go.Proofs.Try.prog 58 1 = some (1, 1, false) := by kernel_rfl
theorem fo58_2 : fOff Go.Proofs.Try.prog 58 2 = some (2, 1, false) := by kernel_rfl
theorem fo58_3 : fOff Go.Proofs.Try.prog 58 3 = some (3, 1, false) := by kernel_rfl
theorem fo58_4 : fOff Go.Proofs.Try.prog 58 4 = some (4, 1, false) := by kernel_rfl
theorem zc58 : zCells Go.Proofs.Try.prog 58 = some [.dat (.int .u8 0), .dat (.int .i64 0), .dat (.int .i64 0), .dat (.int .i64 0), .nilS] := by kernel_rfl
theorem bl58 : bLay Go.Proofs.Try.prog 58 = some ([.dat (.int .u8 0), .dat (.int .i64 0), .dat (.int .i64 0), .dat (.int .i64 0), .nilS], .list [(0, 1), (1, 1), (2, 1), (3, 1), (4, 1)]) := by kernel_rfl
theorem ta94 : tAgg Go.Proofs.Try.prog 94 = some (false, 1) := by kernel_rfl
theorem un94 : Program.underlying Go.Proofs.Try.prog 94 = some (.slice 4) := Go.Proofs.Try.underlying94
theorem sl94 : slE Go.Proofs.Try.prog 94 = some (4, 1, 1) := by kernel_rfl
theorem zc94 : zCells Go.Proofs.Try.prog 94 = some [.nilS] := by kernel_rfl
theorem un98 : Program.underlying Go.Proofs.Try.prog 98 = some (.int .u64) := Go.Proofs.Try.underlying98

theorem ok_skolemlaw10_large {a0 : (List (List Int))} {a1 : S_api_Proof} {r : Bool} (h : F_skolemlaw10_large a0 a1 = some r) : Fn Try.prog 12 [dL 1 (eL 1 (eI .i64)) a0, .agg [dB a1.Cubes, dL 5 e_S_api_Line a1.Lines]] (dB r) := by
  unfold F_skolemlaw10_large at h
  refine Fn.of_body (N := 55) (rs := [.tmp 4]) Try.func12 (c := _) rfl rfl rfl (by kernel_rfl) (Nat.le_of_ble_eq_true rfl) (fun _B => ?_)
  refine awp_rs ?_
  refine rn (r := 1001) rfl rfl (st_box rfl rfl rfl co25 rfl rfl) rfl ?_
  refine ro rfl rfl (st_as rfl) ?_
  refine rw_nilk ?_
  refine awp_rs ?_
  refine ro rfl rfl (st_as rfl) ?_
  refine ro rfl rfl (st_as rfl) ?_
  refine rw_nilk ?_
  refine awp_seq ?_
  refine awp_rs ?_
  refine ro rfl rfl (st_as rfl) ?_
  refine rw_nilk ?_
  refine awp_block ?_
  refine awp_len (t := 0) rfl (fun hl104 => ?_)
  rw [List.length_map] at hl104
  refine awp_range (fun (j104 : Nat) (s101 : Int) (g102 : Unit) => [(0, dL 1 (eL 1 (eI .i64)) a0), (3, .ptr 1001 0 0 0), (5, dI .i64 s101), (6, dI .i64 (0 : Int)), (7, dI .i64 ((j104 : Nat) : Int))]) (fun (s101 : Int) (g102 : Unit) => [(1001, .row 0 25 [[dB a1.Cubes, dL 5 e_S_api_Line a1.Lines]])]) () (fun _ _ _ h => h) h (gh_frz rfl rfl ⟨⟨_, rfl, .keep rfl⟩, ⟨_, rfl, .keep rfl⟩, ⟨_, rfl, .keep rfl⟩, ⟨_, rfl, .keep rfl⟩, ⟨_, rfl, .keep rfl⟩, trivial⟩ ⟨⟨_, rfl, objOne ⟨⟨rfl, .keep rfl⟩, ⟨rfl, .keep rfl⟩, trivial⟩⟩, trivial⟩) ?_ ?_
  · clear h
    intro j104 x105 s101 g102 k103 hj104 hx104 h ih103
    refine awp_seq ?_
    refine awp_rs ?_
    refine ro rfl rfl (st_mv rfl) ?_
    refine ro rfl rfl (st_mv rfl) ?_
    refine ro rfl rfl (st_lenD rfl un22) ?_
    refine ro rfl rfl (st_bin (v := dB (decide (((j104 : Nat) : Int) < ((a0.length : Nat) : Int)))) rfl rfl rfl) ?_
    refine rw_nilk ?_
    refine awp_ifT rfl (dlt hj104) ?_
    refine awp_skip ?_
    refine nx_then ?_
    refine awp_seq ?_
    refine awp_block ?_
    refine awp_rw ?_
    refine ro rfl rfl (st_mv rfl) ?_
    refine ro rfl rfl (st_mv rfl) ?_
    refine ro rfl rfl (st_mv rfl) ?_
    refine ro rfl rfl (st_ixDn sl22 rfl rfl hx104) ?_
    refine ro rfl rfl (st_ldD (v := dL 1 (eI .i64) x105) ta28 rfl rfl) ?_
    refine ro rfl rfl (st_lenD rfl un28) ?_
    refine ro rfl rfl (st_bin (v := dI .i64 (IntKind.wrap .i64 (s101 + ((x105.length : Nat) : Int)))) rfl rfl rfl) ?_
    refine ro rfl rfl (st_as rfl) ?_
    refine rw_nil ?_
    refine nx_block ?_
    refine nx_then ?_
    refine awp_rw ?_
    refine ro rfl rfl (st_mv rfl) ?_
    refine ro rfl rfl (st_inc rfl rfl hj104 hl104) ?_
    refine ro rfl rfl (st_as rfl) ?_
    refine rw_nil ?_
    refine nx_then ?_
    refine awp_gh ?_ (ih103 (IntKind.wrap .i64 (s101 + ((x105.length : Nat) : Int))) () h)
    exact (gh_frz rfl rfl ⟨⟨_, rfl, .keep rfl⟩, ⟨_, rfl, .keep rfl⟩, ⟨_, rfl, .keep rfl⟩, ⟨_, rfl, .keep rfl⟩, ⟨_, rfl, .keep rfl⟩, trivial⟩ ⟨⟨_, rfl, objOne ⟨⟨rfl, .keep rfl⟩, ⟨rfl, .keep rfl⟩, trivial⟩⟩, trivial⟩)
  · clear h
    intro s101 g102 h
    refine awp_seq ?_
    refine awp_rs ?_
    refine ro rfl rfl (st_mv rfl) ?_
    refine ro rfl rfl (st_mv rfl) ?_
    refine ro rfl rfl (st_lenD rfl un22) ?_
    refine ro rfl rfl (st_bin (v := dB (decide (((a0.length : Nat) : Int) < ((a0.length : Nat) : Int)))) rfl rfl rfl) ?_
    refine rw_nilk ?_
    refine awp_ifF rfl dge ?_
    refine awp_exit ?_
    refine ex_out ?_
    refine ex_out ?_
    refine ex_in ?_
    refine nx_then ?_
    refine awp_seq ?_
    refine awp_rs ?_
    refine ro rfl rfl (st_as rfl) ?_
    refine rw_nilk ?_
    refine awp_block ?_
    refine awp_lenC (r := 1001) (i := 1) rfl rfl (fun hl109 => ?_)
    rw [List.length_map] at hl109
    refine awp_range (fun (j109 : Nat) (s106 : Int) (g107 : Unit) => [(0, dL 1 (eL 1 (eI .i64)) a0), (3, .ptr 1001 0 0 0), (5, dI .i64 s101), (6, dI .i64 s106), (8, dI .i64 ((j109 : Nat) : Int))]) (fun (s106 : Int) (g107 : Unit) => [(1001, .row 0 25 [[dB a1.Cubes, dL 5 e_S_api_Line a1.Lines]])]) () (fun _ _ _ h => h) h (gh_frz rfl rfl ⟨⟨_, rfl, .keep rfl⟩, ⟨_, rfl, .keep rfl⟩, ⟨_, rfl, .keep rfl⟩, ⟨_, rfl, .keep rfl⟩, ⟨_, rfl, .keep rfl⟩, trivial⟩ ⟨⟨_, rfl, objOne ⟨⟨rfl, .keep rfl⟩, ⟨rfl, .keep rfl⟩, trivial⟩⟩, trivial⟩) ?_ ?_
    · clear h
      intro j109 x110 s106 g107 k108 hj109 hx109 h ih108
      refine awp_seq ?_
      refine awp_rs ?_
      refine ro rfl rfl (st_mv rfl) ?_
      refine ro rfl rfl (st_faP fo25_1 rfl) ?_
      refine ro rfl rfl (st_ldP (v := dL 5 e_S_api_Line a1.Lines) ta23 rfl rfl rfl rfl) ?_
      refine ro rfl rfl (st_lenD rfl un23) ?_
      refine ro rfl rfl (st_bin (v := dB (decide (((j109 : Nat) : Int) < ((a1.Lines.length : Nat) : Int)))) rfl rfl rfl) ?_
      refine rw_nilk ?_
      refine awp_ifT rfl (dlt hj109) ?_
      refine awp_skip ?_
      refine nx_then ?_
      refine awp_seq ?_
      refine awp_block ?_
      refine awp_rw ?_
      refine ro rfl rfl (st_mv rfl) ?_
      refine ro rfl rfl (st_faP fo25_1 rfl) ?_
      refine ro rfl rfl (st_ldP (v := dL 5 e_S_api_Line a1.Lines) ta23 rfl rfl rfl rfl) ?_
      refine ro rfl rfl (st_mv rfl) ?_
      refine ro rfl rfl (st_ixDn sl23 rfl rfl hx109) ?_
      refine ro rfl rfl (st_faD fo58_4 rfl) ?_
      refine ro rfl rfl (st_ldD (v := dL 1 (eI .i64) x110.Lits) ta28 rfl rfl) ?_
      refine ro rfl rfl (st_lenD rfl un28) ?_
      refine ro rfl rfl (st_bin (v := dI .i64 (IntKind.wrap .i64 (s106 + ((x110.Lits.length : Nat) : Int)))) rfl rfl rfl) ?_
      refine ro rfl rfl (st_as rfl) ?_
      refine rw_nil ?_
      refine nx_block ?_
      refine nx_then ?_
      refine awp_rw ?_
      refine ro rfl rfl (st_mv rfl) ?_
      refine ro rfl rfl (st_inc rfl rfl hj109 hl109) ?_
      refine ro rfl rfl (st_as rfl) ?_
      refine rw_nil ?_
      refine nx_then ?_
      refine awp_gh ?_ (ih108 (IntKind.wrap .i64 (s106 + ((x110.Lits.length : Nat) : Int))) () h)
      exact (gh_frz rfl rfl ⟨⟨_, rfl, .keep rfl⟩, ⟨_, rfl, .keep rfl⟩, ⟨_, rfl, .keep rfl⟩, ⟨_, rfl, .keep rfl⟩, ⟨_, rfl, .keep rfl⟩, trivial⟩ ⟨⟨_, rfl, objOne ⟨⟨rfl, .keep rfl⟩, ⟨rfl, .keep rfl⟩, trivial⟩⟩, trivial⟩)
    · clear h
      intro s106 g107 h
      refine awp_seq ?_
      refine awp_rs ?_
      refine ro rfl rfl (st_mv rfl) ?_
      refine ro rfl rfl (st_faP fo25_1 rfl) ?_
      refine ro rfl rfl (st_ldP (v := dL 5 e_S_api_Line a1.Lines) ta23 rfl rfl rfl rfl) ?_
      refine ro rfl rfl (st_lenD rfl un23) ?_
      refine ro rfl rfl (st_bin (v := dB (decide (((a1.Lines.length : Nat) : Int) < ((a1.Lines.length : Nat) : Int)))) rfl rfl rfl) ?_
      refine rw_nilk ?_
      refine awp_ifF rfl dge ?_
      refine awp_exit ?_
      refine ex_out ?_
      refine ex_out ?_
      refine ex_in ?_
      refine nx_then ?_
      refine awp_rs ?_
      refine ro rfl rfl (st_mv rfl) ?_
      refine ro rfl rfl (st_lenD rfl un22) ?_
      refine ro rfl rfl (st_bin (v := dB (decide (((a0.length : Nat) : Int) > (200 : Int)))) rfl rfl rfl) ?_
      refine ro rfl rfl (st_mv rfl) ?_
      refine bool_split (decide (((a0.length : Nat) : Int) > (200 : Int))) (fun p114 => ?_) (fun p114 => ?_)
      · replace h := ite_T p114 h
        rw [p114]
        refine rz rfl rfl ?_
        refine rz rfl rfl ?_
        refine ro rfl rfl (st_pickT rfl rfl) ?_
        refine ro rfl rfl (st_mv rfl) ?_
        refine rz rfl rfl ?_
        refine rz rfl rfl ?_
        refine rz rfl rfl ?_
        refine rz rfl rfl ?_
        refine ro rfl rfl (st_pickT rfl rfl) ?_
        refine ro rfl rfl (st_mv rfl) ?_
        refine rz rfl rfl ?_
        refine rz rfl rfl ?_
        refine ro rfl rfl (st_pickT rfl rfl) ?_
        refine ro rfl rfl (st_as rfl) ?_
        refine rw_nilk ?_
        refine awp_ret ?_
        injection h with h
        subst h
        exact ret_out (v := dB true) (resV_one (resVs_tmp rfl resVs_nil)) (.keep rfl)
      · replace h := ite_F p114 h
        rw [p114]
        refine ro rfl rfl (st_mv rfl) ?_
        refine ro rfl rfl (st_bin (v := dB (decide (s101 > (1000 : Int)))) rfl rfl rfl) ?_
        refine ro rfl rfl (st_pickF rfl rfl) ?_
        refine ro rfl rfl (st_mv rfl) ?_
        refine bool_split (decide (s101 > (1000 : Int))) (fun p115 => ?_) (fun p115 => ?_)
        · replace h := ite_T p115 h
          rw [p115]
          refine rz rfl rfl ?_
          refine rz rfl rfl ?_
          refine rz rfl rfl ?_
          refine rz rfl rfl ?_
          refine ro rfl rfl (st_pickT rfl rfl) ?_
          refine ro rfl rfl (st_mv rfl) ?_
          refine rz rfl rfl ?_
          refine rz rfl rfl ?_
          refine ro rfl rfl (st_pickT rfl rfl) ?_
          refine ro rfl rfl (st_as rfl) ?_
          refine rw_nilk ?_
          refine awp_ret ?_
          injection h with h
          subst h
          exact ret_out (v := dB true) (resV_one (resVs_tmp rfl resVs_nil)) (.keep rfl)
        · replace h := ite_F p115 h
          rw [p115]
          refine ro rfl rfl (st_faP fo25_1 rfl) ?_
          refine ro rfl rfl (st_ldP (v := dL 5 e_S_api_Line a1.Lines) ta23 rfl rfl rfl rfl) ?_
          refine ro rfl rfl (st_lenD rfl un23) ?_
          refine ro rfl rfl (st_bin (v := dB (decide (((a1.Lines.length : Nat) : Int) > (300 : Int)))) rfl rfl rfl) ?_
          refine ro rfl rfl (st_pickF rfl rfl) ?_
          refine ro rfl rfl (st_mv rfl) ?_
          refine bool_split (decide (((a1.Lines.length : Nat) : Int) > (300 : Int))) (fun p116 => ?_) (fun p116 => ?_)
          · replace h := ite_T p116 h
            rw [p116]
            refine rz rfl rfl ?_
            refine rz rfl rfl ?_
            refine ro rfl rfl (st_pickT rfl rfl) ?_
            refine ro rfl rfl (st_as rfl) ?_
            refine rw_nilk ?_
            refine awp_ret ?_
            injection h with h
            subst h
            exact ret_out (v := dB true) (resV_one (resVs_tmp rfl resVs_nil)) (.keep rfl)
          · replace h := ite_F p116 h
            rw [p116]
            refine ro rfl rfl (st_mv rfl) ?_
            refine ro rfl rfl (st_bin (v := dB (decide (s106 > (2000 : Int)))) rfl rfl rfl) ?_
            refine ro rfl rfl (st_pickF rfl rfl) ?_
            refine ro rfl rfl (st_as rfl) ?_
            refine rw_nilk ?_
            refine awp_ret ?_
            injection h with h
            subst h
            exact ret_out (v := dB (decide (s106 > (2000 : Int)))) (resV_one (resVs_tmp rfl resVs_nil)) (.keep rfl)

theorem ok_skolemlaw10_head {r : Bool} (h : F_skolemlaw10_head = some r) : Fn Try.prog 13 [] (dB r) := by
  unfold F_skolemlaw10_head at h
  injection h with h
  subst h
  exact fn_eval (n := 5000) (by kernel_rfl) (by kernel_rfl)

theorem ok_proof_abs {a0 : Int} {r : Int} (h : F_proof_abs a0 = some r) : Fn Try.prog 79 [dI .i64 a0] (dI .i64 r) := by
  unfold F_proof_abs at h
  refine Fn.of_body (N := 7) (rs := [.tmp 2]) Try.func79 (c := _) rfl rfl rfl (by kernel_rfl) (Nat.le_of_ble_eq_true rfl) (fun _B => ?_)
  refine awp_rs ?_
  refine ro rfl rfl (st_as rfl) ?_
  refine rw_nilk ?_
  refine awp_rs ?_
  refine ro rfl rfl (st_mv rfl) ?_
  refine ro rfl rfl (st_mv rfl) ?_
  refine ro rfl rfl (st_un (v := dI .i64 (IntKind.wrap .i64 (0 - a0))) rfl rfl) ?_
  refine ro rfl rfl (st_max rfl rfl) ?_
  refine ro rfl rfl (st_as rfl) ?_
  refine rw_nilk ?_
  refine awp_ret ?_
  injection h with h
  subst h
  exact ret_out (v := dI .i64 (imx a0 (IntKind.wrap .i64 (0 - a0)))) (resV_one (resVs_tmp rfl resVs_nil)) (.keep rfl)

theorem ok_proof_normal {a0 : (List Int)} {r : Bool} (h : F_proof_normal a0 = some r) : Fn Try.prog 51 [dL 1 (eI .i64) a0] (dB r) := by
  unfold F_proof_normal at h
  refine Fn.of_body (N := 27) (rs := [.tmp 2]) Try.func51 (c := _) rfl rfl rfl (by kernel_rfl) (Nat.le_of_ble_eq_true rfl) (fun _B => ?_)
  refine awp_rs ?_
  refine ro rfl rfl (st_as rfl) ?_
  refine rw_nilk ?_
  refine awp_rs ?_
  refine ro rfl rfl (st_as rfl) ?_
  refine rw_nilk ?_
  refine awp_seq ?_
  refine awp_rs ?_
  refine ro rfl rfl (st_mv rfl) ?_
  refine ro rfl rfl (st_lenD rfl un28) ?_
  refine ro rfl rfl (st_mv rfl) ?_
  refine rw_nilk ?_
  refine awp_block ?_
  refine awp_len (t := 0) rfl (fun hl104 => ?_)
  rw [List.length_map] at hl104
  refine awp_range (fun (j104 : Nat) (s101 : Int) (g102 : Unit) => [(3, dI .i64 s101), (6, dL 1 (eI .i64) a0), (7, dI .i64 ((a0.length : Nat) : Int)), (8, dI .i64 ((j104 : Nat) : Int))]) (fun (s101 : Int) (g102 : Unit) => []) () (fun _ _ _ h => h) h (gh_frz rfl rfl ⟨⟨_, rfl, .keep rfl⟩, ⟨_, rfl, .keep rfl⟩, ⟨_, rfl, .keep rfl⟩, ⟨_, rfl, .keep rfl⟩, trivial⟩ trivial) ?_ ?_
  · clear h
    intro j104 x105 s101 g102 k103 hj104 hx104 h ih103
    refine awp_rs ?_
    refine ro rfl rfl (st_bin (v := dB (decide (((j104 : Nat) : Int) < ((a0.length : Nat) : Int)))) rfl rfl rfl) ?_
    refine rw_nilk ?_
    refine awp_seq ?_
    refine awp_ifT rfl (dlt hj104) ?_
    refine awp_skip ?_
    refine nx_then ?_
    refine awp_seq ?_
    refine awp_block ?_
    refine awp_rs ?_
    refine ro rfl rfl (st_ixDn sl28 rfl rfl hx104) ?_
    refine ro rfl rfl (st_ldD (v := dI .i64 x105) ta3 rfl rfl) ?_
    refine ro rfl rfl (st_as rfl) ?_
    refine rw_nilk ?_
    refine awp_seq ?_
    refine awp_jn (fun (s224 : Bool) (g225 : Unit) => [(5, dI .i64 x105), (6, dL 1 (eI .i64) a0), (7, dI .i64 ((a0.length : Nat) : Int)), (8, dI .i64 ((j104 : Nat) : Int)), (23, dB s224)]) (fun (s224 : Bool) (g225 : Unit) => []) h ?_ ?_
    · clear h
      intro s224 g225 h
      refine awp_ite (b := s224) rfl (fun p227 => ?_) (fun p227 => ?_)
      · replace h := ite_T p227 h
        refine awp_rs ?_
        refine ro rfl rfl (st_as rfl) ?_
        refine rw_nilk ?_
        refine awp_ret ?_
        refine rt_then ?_
        refine rt_block ?_
        refine rt_then ?_
        refine rt_then ?_
        refine rt_block ?_
        refine rt_then ?_
        injection h with h
        subst h
        exact ret_out (v := dB false) (resV_one (resVs_tmp rfl resVs_nil)) (.keep rfl)
      · replace h := ite_F p227 h
        refine awp_skip ?_
        refine nx_then ?_
        refine awp_rw ?_
        refine ro rfl rfl (st_mv rfl) ?_
        obtain ⟨y228, hy228, h⟩ := bind_some_elim h
        refine rf rfl rfl (ok_proof_abs hy228) rfl rfl ?_
        refine ro rfl rfl (st_as rfl) ?_
        refine rw_nil ?_
        refine nx_block ?_
        refine nx_then ?_
        refine awp_rw ?_
        refine ro rfl rfl (st_inc rfl rfl hj104 hl104) ?_
        refine ro rfl rfl (st_mv rfl) ?_
        refine rw_nil ?_
        refine nx_then ?_
        refine awp_gh ?_ (ih103 y228 () h)
        exact (gh_frz rfl rfl ⟨⟨_, rfl, .keep rfl⟩, ⟨_, rfl, .keep rfl⟩, ⟨_, rfl, .keep rfl⟩, ⟨_, rfl, .keep rfl⟩, trivial⟩ trivial)
    · clear h
      intro k226 h J226
      refine awp_rw ?_
      refine ro rfl rfl (st_mv rfl) ?_
      refine ro rfl rfl (st_bin (v := dB (decide (x105 < (-65536 : Int)))) rfl rfl rfl) ?_
      refine ro rfl rfl (st_mv rfl) ?_
      refine bool_split (decide (x105 < (-65536 : Int))) (fun p229 => ?_) (fun p229 => ?_)
      · replace h := ite_T p229 h
        rw [p229]
        refine rz rfl rfl ?_
        refine rz rfl rfl ?_
        refine ro rfl rfl (st_pickT rfl rfl) ?_
        refine ro rfl rfl (st_mv rfl) ?_
        refine rz rfl rfl ?_
        refine rz rfl rfl ?_
        refine rz rfl rfl ?_
        refine rz rfl rfl ?_
        refine ro rfl rfl (st_pickT rfl rfl) ?_
        refine rw_nil ?_
        refine nx_then ?_
        exact J226 true () _ _ h (gh_frz rfl rfl ⟨⟨_, rfl, .keep rfl⟩, ⟨_, rfl, .keep rfl⟩, ⟨_, rfl, .keep rfl⟩, ⟨_, rfl, .keep rfl⟩, ⟨_, rfl, .keep rfl⟩, trivial⟩ trivial)
      · replace h := ite_F p229 h
        rw [p229]
        refine ro rfl rfl (st_mv rfl) ?_
        refine ro rfl rfl (st_bin (v := dB (decide (x105 > (65536 : Int)))) rfl rfl rfl) ?_
        refine ro rfl rfl (st_pickF rfl rfl) ?_
        refine ro rfl rfl (st_mv rfl) ?_
        refine bool_split (decide (x105 > (65536 : Int))) (fun p230 => ?_) (fun p230 => ?_)
        · replace h := ite_T p230 h
          rw [p230]
          refine rz rfl rfl ?_
          refine rz rfl rfl ?_
          refine rz rfl rfl ?_
          refine rz rfl rfl ?_
          refine ro rfl rfl (st_pickT rfl rfl) ?_
          refine rw_nil ?_
          refine nx_then ?_
          exact J226 true () _ _ h (gh_frz rfl rfl ⟨⟨_, rfl, .keep rfl⟩, ⟨_, rfl, .keep rfl⟩, ⟨_, rfl, .keep rfl⟩, ⟨_, rfl, .keep rfl⟩, ⟨_, rfl, .keep rfl⟩, trivial⟩ trivial)
        · replace h := ite_F p230 h
          rw [p230]
          refine ro rfl rfl (st_mv rfl) ?_
          obtain ⟨y231, hy231, h⟩ := bind_some_elim h
          refine rf rfl rfl (ok_proof_abs hy231) rfl rfl ?_
          refine ro rfl rfl (st_mv rfl) ?_
          refine ro rfl rfl (st_bin (v := dB (decide (y231 ≤ s101))) rfl rfl rfl) ?_
          refine ro rfl rfl (st_pickF rfl rfl) ?_
          refine rw_nil ?_
          refine nx_then ?_
          exact J226 (decide (y231 ≤ s101)) () _ _ h (gh_frz rfl rfl ⟨⟨_, rfl, .keep rfl⟩, ⟨_, rfl, .keep rfl⟩, ⟨_, rfl, .keep rfl⟩, ⟨_, rfl, .keep rfl⟩, ⟨_, rfl, .keep rfl⟩, trivial⟩ trivial)
  · clear h
    intro s101 g102 h
    refine awp_rs ?_
    refine ro rfl rfl (st_bin (v := dB (decide (((a0.length : Nat) : Int) < ((a0.length : Nat) : Int)))) rfl rfl rfl) ?_
    refine rw_nilk ?_
    refine awp_seq ?_
    refine awp_ifF rfl dge ?_
    refine awp_exit ?_
    refine ex_out ?_
    refine ex_out ?_
    refine ex_in ?_
    refine nx_then ?_
    refine awp_rs ?_
    refine ro rfl rfl (st_as rfl) ?_
    refine rw_nilk ?_
    refine awp_ret ?_
    injection h with h
    subst h
    exact ret_out (v := dB true) (resV_one (resVs_tmp rfl resVs_nil)) (.keep rfl)

theorem ok_proof_cnf {a0 : (List (List Int))} {r : Bool} (h : F_proof_cnf a0 = some r) : Fn Try.prog 45 [dL 1 (eL 1 (eI .i64)) a0] (dB r) := by
  unfold F_proof_cnf at h
  refine Fn.of_body (N := 27) (rs := [.tmp 2]) Try.func45 (c := _) rfl rfl rfl (by kernel_rfl) (Nat.le_of_ble_eq_true rfl) (fun _B => ?_)
  refine awp_rs ?_
  refine ro rfl rfl (st_as rfl) ?_
  refine rw_nilk ?_
  refine awp_seq ?_
  refine awp_rs ?_
  refine ro rfl rfl (st_mv rfl) ?_
  refine ro rfl rfl (st_lenD rfl un22) ?_
  refine ro rfl rfl (st_bin (v := dB (decide (((a0.length : Nat) : Int) > (20000 : Int)))) rfl rfl rfl) ?_
  refine rw_nilk ?_
  refine awp_ite (b := (decide (((a0.length : Nat) : Int) > (20000 : Int)))) rfl (fun p101 => ?_) (fun p101 => ?_)
  · replace h := ite_T p101 h
    refine awp_rs ?_
    refine ro rfl rfl (st_as rfl) ?_
    refine rw_nilk ?_
    refine awp_ret ?_
    refine rt_then ?_
    injection h with h
    subst h
    exact ret_out (v := dB false) (resV_one (resVs_tmp rfl resVs_nil)) (.keep rfl)
  · replace h := ite_F p101 h
    refine awp_skip ?_
    refine nx_then ?_
    refine awp_rs ?_
    refine ro rfl rfl (st_as rfl) ?_
    refine rw_nilk ?_
    refine awp_seq ?_
    refine awp_rs ?_
    refine ro rfl rfl (st_mv rfl) ?_
    refine ro rfl rfl (st_lenD rfl un22) ?_
    refine ro rfl rfl (st_mv rfl) ?_
    refine rw_nilk ?_
    refine awp_block ?_
    refine awp_len (t := 0) rfl (fun hl105 => ?_)
    rw [List.length_map] at hl105
    refine awp_range (fun (j105 : Nat) (s102 : Int) (g103 : Unit) => [(3, dI .i64 s102), (9, dL 1 (eL 1 (eI .i64)) a0), (10, dI .i64 ((a0.length : Nat) : Int)), (11, dI .i64 ((j105 : Nat) : Int))]) (fun (s102 : Int) (g103 : Unit) => []) () (fun _ _ _ h => h) h (gh_frz rfl rfl ⟨⟨_, rfl, .keep rfl⟩, ⟨_, rfl, .keep rfl⟩, ⟨_, rfl, .keep rfl⟩, ⟨_, rfl, .keep rfl⟩, trivial⟩ trivial) ?_ ?_
    · clear h
      intro j105 x106 s102 g103 k104 hj105 hx105 h ih104
      refine awp_rs ?_
      refine ro rfl rfl (st_bin (v := dB (decide (((j105 : Nat) : Int) < ((a0.length : Nat) : Int)))) rfl rfl rfl) ?_
      refine rw_nilk ?_
      refine awp_seq ?_
      refine awp_ifT rfl (dlt hj105) ?_
      refine awp_skip ?_
      refine nx_then ?_
      refine awp_seq ?_
      refine awp_block ?_
      refine awp_rs ?_
      refine ro rfl rfl (st_ixDn sl22 rfl rfl hx105) ?_
      refine ro rfl rfl (st_ldD (v := dL 1 (eI .i64) x106) ta28 rfl rfl) ?_
      refine ro rfl rfl (st_as rfl) ?_
      refine rw_nilk ?_
      refine awp_rs ?_
      refine ro rfl rfl (st_mv rfl) ?_
      refine ro rfl rfl (st_mv rfl) ?_
      refine ro rfl rfl (st_lenD rfl un28) ?_
      refine ro rfl rfl (st_bin (v := dI .i64 (IntKind.wrap .i64 (s102 + ((x106.length : Nat) : Int)))) rfl rfl rfl) ?_
      refine ro rfl rfl (st_as rfl) ?_
      refine rw_nilk ?_
      refine awp_jn (fun (s149 : Bool) (g150 : Unit) => [(3, dI .i64 (IntKind.wrap .i64 (s102 + ((x106.length : Nat) : Int)))), (9, dL 1 (eL 1 (eI .i64)) a0), (10, dI .i64 ((a0.length : Nat) : Int)), (11, dI .i64 ((j105 : Nat) : Int)), (25, dB s149)]) (fun (s149 : Bool) (g150 : Unit) => []) h ?_ ?_
      · clear h
        intro s149 g150 h
        refine awp_ite (b := s149) rfl (fun p152 => ?_) (fun p152 => ?_)
        · replace h := ite_T p152 h
          refine awp_rs ?_
          refine ro rfl rfl (st_as rfl) ?_
          refine rw_nilk ?_
          refine awp_ret ?_
          refine rt_block ?_
          refine rt_then ?_
          refine rt_then ?_
          refine rt_block ?_
          refine rt_then ?_
          injection h with h
          subst h
          exact ret_out (v := dB false) (resV_one (resVs_tmp rfl resVs_nil)) (.keep rfl)
        · replace h := ite_F p152 h
          refine awp_skip ?_
          refine nx_block ?_
          refine nx_then ?_
          refine awp_rw ?_
          refine ro rfl rfl (st_inc rfl rfl hj105 hl105) ?_
          refine ro rfl rfl (st_mv rfl) ?_
          refine rw_nil ?_
          refine nx_then ?_
          refine awp_gh ?_ (ih104 (IntKind.wrap .i64 (s102 + ((x106.length : Nat) : Int))) () h)
          exact (gh_frz rfl rfl ⟨⟨_, rfl, .keep rfl⟩, ⟨_, rfl, .keep rfl⟩, ⟨_, rfl, .keep rfl⟩, ⟨_, rfl, .keep rfl⟩, trivial⟩ trivial)
      · clear h
        intro k151 h J151
        refine awp_rw ?_
        refine ro rfl rfl (st_mv rfl) ?_
        refine ro rfl rfl (st_bin (v := dB (decide ((IntKind.wrap .i64 (s102 + ((x106.length : Nat) : Int))) > (200000 : Int)))) rfl rfl rfl) ?_
        refine ro rfl rfl (st_mv rfl) ?_
        refine bool_split (decide ((IntKind.wrap .i64 (s102 + ((x106.length : Nat) : Int))) > (200000 : Int))) (fun p153 => ?_) (fun p153 => ?_)
        · replace h := ite_T p153 h
          rw [p153]
          refine rz rfl rfl ?_
          refine rz rfl rfl ?_
          refine rz rfl rfl ?_
          refine ro rfl rfl (st_pickT rfl rfl) ?_
          refine rw_nil ?_
          refine nx_then ?_
          exact J151 true () _ _ h (gh_frz rfl rfl ⟨⟨_, rfl, .keep rfl⟩, ⟨_, rfl, .keep rfl⟩, ⟨_, rfl, .keep rfl⟩, ⟨_, rfl, .keep rfl⟩, ⟨_, rfl, .keep rfl⟩, trivial⟩ trivial)
        · replace h := ite_F p153 h
          rw [p153]
          refine ro rfl rfl (st_mv rfl) ?_
          obtain ⟨y154, hy154, h⟩ := bind_some_elim h
          refine rf rfl rfl (ok_proof_normal hy154) rfl rfl ?_
          refine ro rfl rfl (st_un (v := dB (!y154)) rfl rfl) ?_
          refine ro rfl rfl (st_pickF rfl rfl) ?_
          refine rw_nil ?_
          refine nx_then ?_
          exact J151 (!y154) () _ _ h (gh_frz rfl rfl ⟨⟨_, rfl, .keep rfl⟩, ⟨_, rfl, .keep rfl⟩, ⟨_, rfl, .keep rfl⟩, ⟨_, rfl, .keep rfl⟩, ⟨_, rfl, .keep rfl⟩, trivial⟩ trivial)
    · clear h
      intro s102 g103 h
      refine awp_rs ?_
      refine ro rfl rfl (st_bin (v := dB (decide (((a0.length : Nat) : Int) < ((a0.length : Nat) : Int)))) rfl rfl rfl) ?_
      refine rw_nilk ?_
      refine awp_seq ?_
      refine awp_ifF rfl dge ?_
      refine awp_exit ?_
      refine ex_out ?_
      refine ex_out ?_
      refine ex_in ?_
      refine nx_then ?_
      refine awp_rs ?_
      refine ro rfl rfl (st_as rfl) ?_
      refine rw_nilk ?_
      refine awp_ret ?_
      injection h with h
      subst h
      exact ret_out (v := dB true) (resV_one (resVs_tmp rfl resVs_nil)) (.keep rfl)

theorem ok_slices_Index_int_int {a0 : (List Int)} {a1 : Int} {r : Int} (h : F_slices_Index_int_int a0 a1 = some r) : Fn Try.prog 83 [dL 1 (eI .i64) a0, dI .i64 a1] (dI .i64 r) := by
  unfold F_slices_Index_int_int at h
  refine Fn.of_body (N := 19) (rs := [.tmp 4]) Try.func83 (c := _) rfl rfl rfl (by kernel_rfl) (Nat.le_of_ble_eq_true rfl) (fun _B => ?_)
  refine awp_rs ?_
  refine ro rfl rfl (st_as rfl) ?_
  refine rw_nilk ?_
  refine awp_seq ?_
  refine awp_rs ?_
  refine ro rfl rfl (st_mv rfl) ?_
  refine ro rfl rfl (st_lenD rfl un28) ?_
  refine ro rfl rfl (st_mv rfl) ?_
  refine rw_nilk ?_
  refine awp_block ?_
  refine awp_len (t := 0) rfl (fun hl104 => ?_)
  rw [List.length_map] at hl104
  refine awp_range (fun (j104 : Nat) (s101 : Unit) (g102 : Unit) => [(0, dL 1 (eI .i64) a0), (1, dI .i64 a1), (7, dI .i64 ((a0.length : Nat) : Int)), (8, dI .i64 ((j104 : Nat) : Int))]) (fun (s101 : Unit) (g102 : Unit) => []) () (fun _ _ _ h => h) h (gh_frz rfl rfl ⟨⟨_, rfl, .keep rfl⟩, ⟨_, rfl, .keep rfl⟩, ⟨_, rfl, .keep rfl⟩, ⟨_, rfl, .keep rfl⟩, trivial⟩ trivial) ?_ ?_
  · clear h
    intro j104 x105 s101 g102 k103 hj104 hx104 h ih103
    refine awp_rs ?_
    refine ro rfl rfl (st_bin (v := dB (decide (((j104 : Nat) : Int) < ((a0.length : Nat) : Int)))) rfl rfl rfl) ?_
    refine rw_nilk ?_
    refine awp_seq ?_
    refine awp_ifT rfl (dlt hj104) ?_
    refine awp_skip ?_
    refine nx_then ?_
    refine awp_seq ?_
    refine awp_block ?_
    refine awp_rs ?_
    refine ro rfl rfl (st_mv rfl) ?_
    refine ro rfl rfl (st_as rfl) ?_
    refine rw_nilk ?_
    refine awp_rs ?_
    refine ro rfl rfl (st_mv rfl) ?_
    refine ro rfl rfl (st_mv rfl) ?_
    refine ro rfl rfl (st_mv rfl) ?_
    refine ro rfl rfl (st_ixDn sl28 rfl rfl hx104) ?_
    refine ro rfl rfl (st_ldD (v := dI .i64 x105) ta3 rfl rfl) ?_
    refine ro rfl rfl (st_bin (v := dB (a1 == x105)) rfl rfl rfl) ?_
    refine rw_nilk ?_
    refine awp_ite (b := (a1 == x105)) rfl (fun p107 => ?_) (fun p107 => ?_)
    · replace h := ite_T p107 h
      refine awp_rs ?_
      refine ro rfl rfl (st_mv rfl) ?_
      refine ro rfl rfl (st_as rfl) ?_
      refine rw_nilk ?_
      refine awp_ret ?_
      refine rt_block ?_
      refine rt_then ?_
      refine rt_then ?_
      refine rt_block ?_
      refine rt_then ?_
      injection h with h
      subst h
      exact ret_out (v := dI .i64 ((j104 : Nat) : Int)) (resV_one (resVs_tmp rfl resVs_nil)) (.keep rfl)
    · replace h := ite_F p107 h
      refine awp_skip ?_
      refine nx_block ?_
      refine nx_then ?_
      refine awp_rw ?_
      refine ro rfl rfl (st_inc rfl rfl hj104 hl104) ?_
      refine ro rfl rfl (st_mv rfl) ?_
      refine rw_nil ?_
      refine nx_then ?_
      refine awp_gh ?_ (ih103 () () h)
      exact (gh_frz rfl rfl ⟨⟨_, rfl, .keep rfl⟩, ⟨_, rfl, .keep rfl⟩, ⟨_, rfl, .keep rfl⟩, ⟨_, rfl, .keep rfl⟩, trivial⟩ trivial)
  · clear h
    intro s101 g102 h
    refine awp_rs ?_
    refine ro rfl rfl (st_bin (v := dB (decide (((a0.length : Nat) : Int) < ((a0.length : Nat) : Int)))) rfl rfl rfl) ?_
    refine rw_nilk ?_
    refine awp_seq ?_
    refine awp_ifF rfl dge ?_
    refine awp_exit ?_
    refine ex_out ?_
    refine ex_out ?_
    refine ex_in ?_
    refine nx_then ?_
    refine awp_rs ?_
    refine ro rfl rfl (st_as rfl) ?_
    refine rw_nilk ?_
    refine awp_ret ?_
    injection h with h
    subst h
    exact ret_out (v := dI .i64 (-1 : Int)) (resV_one (resVs_tmp rfl resVs_nil)) (.keep rfl)

theorem ok_slices_Contains_int_int {a0 : (List Int)} {a1 : Int} {r : Bool} (h : F_slices_Contains_int_int a0 a1 = some r) : Fn Try.prog 55 [dL 1 (eI .i64) a0, dI .i64 a1] (dB r) := by
  unfold F_slices_Contains_int_int at h
  refine Fn.of_body (N := 9) (rs := [.tmp 4]) Try.func55 (c := _) rfl rfl rfl (by kernel_rfl) (Nat.le_of_ble_eq_true rfl) (fun _B => ?_)
  refine awp_rs ?_
  refine ro rfl rfl (st_as rfl) ?_
  refine rw_nilk ?_
  refine awp_rs ?_
  refine ro rfl rfl (st_mv rfl) ?_
  refine ro rfl rfl (st_mv rfl) ?_
  obtain ⟨y101, hy101, h⟩ := bind_some_elim h
  refine rf rfl rfl (ok_slices_Index_int_int hy101) rfl rfl ?_
  refine ro rfl rfl (st_bin (v := dB (decide (y101 ≥ (0 : Int)))) rfl rfl rfl) ?_
  refine ro rfl rfl (st_as rfl) ?_
  refine rw_nilk ?_
  refine awp_ret ?_
  injection h with h
  subst h
  exact ret_out (v := dB (decide (y101 ≥ (0 : Int)))) (resV_one (resVs_tmp rfl resVs_nil)) (.keep rfl)

theorem ok_proof_hits {a0 : (List Int)} {a1 : (List Int)} {r : Bool} (h : F_proof_hits a0 a1 = some r) : Fn Try.prog 52 [dL 1 (eI .i64) a0, dL 1 (eI .i64) a1] (dB r) := by
  unfold F_proof_hits at h
  refine Fn.of_body (N := 8) (rs := [.tmp 4]) Try.func52 (c := _) rfl rfl rfl (by kernel_rfl) (Nat.le_of_ble_eq_true rfl) (fun _B => ?_)
  refine awp_rs ?_
  refine rn (r := 1001) rfl rfl (st_box rfl rfl rfl co28 rfl rfl) rfl ?_
  refine ro rfl rfl (st_as rfl) ?_
  refine rw_nilk ?_
  refine awp_rs ?_
  refine ro rfl rfl (st_mv rfl) ?_
  refine ro rfl rfl (st_fn rfl) ?_
  refine ri (N := 9) (rs := [.tmp 4]) rfl rfl rfl rfl Try.func80 rfl rfl rfl (by kernel_rfl) rfl (fun _B => ?_)
  refine awp_rs ?_
  refine ro rfl rfl (st_as rfl) ?_
  refine rw_nilk ?_
  refine awp_rs ?_
  refine ro rfl rfl (st_mv rfl) ?_
  refine ro rfl rfl (st_mv rfl) ?_
  refine rw_jn (fun (s179 : Int) (g180 : Unit) => [(7, dI .i64 s179)]) (fun (s179 : Int) (g180 : Unit) => [(1001, .row 0 28 [[dL 1 (eI .i64) a1]])]) h ?_ ?_
  · clear h
    intro s179 g180 h
    refine ro rfl rfl (st_bin (v := dB (decide (s179 ≥ (0 : Int)))) rfl rfl rfl) ?_
    refine ro rfl rfl (st_as rfl) ?_
    refine rw_nilk ?_
    refine awp_ret ?_
    refine ret_in (v := dB (decide (s179 ≥ (0 : Int)))) (resV_one (resVs_tmp rfl resVs_nil)) ?_
    show RW _ _ _ _ _ _ _
    refine ro rfl rfl (st_as rfl) ?_
    refine rw_nilk ?_
    refine awp_ret ?_
    injection h with h
    subst h
    exact ret_out (v := dB (decide (s179 ≥ (0 : Int)))) (resV_one (resVs_tmp rfl resVs_nil)) (.keep rfl)
  · clear h
    intro k181 h J181
    refine ri (N := 19) (rs := [.tmp 4]) rfl rfl rfl rfl Try.func82 rfl rfl rfl (by kernel_rfl) rfl (fun _B => ?_)
    refine awp_rs ?_
    refine ro rfl rfl (st_as rfl) ?_
    refine rw_nilk ?_
    refine awp_seq ?_
    refine awp_rs ?_
    refine ro rfl rfl (st_mv rfl) ?_
    refine ro rfl rfl (st_lenD rfl un28) ?_
    refine ro rfl rfl (st_mv rfl) ?_
    refine rw_nilk ?_
    refine awp_block ?_
    refine awp_len (t := 0) rfl (fun hl185 => ?_)
    rw [List.length_map] at hl185
    refine awp_range (fun (j185 : Nat) (s182 : Unit) (g183 : Unit) => [(0, dL 1 (eI .i64) a0), (1, .fn 81 [.ptr 1001 0 0 0]), (7, dI .i64 ((a0.length : Nat) : Int)), (8, dI .i64 ((j185 : Nat) : Int))]) (fun (s182 : Unit) (g183 : Unit) => [(1001, .row 0 28 [[dL 1 (eI .i64) a1]])]) () (fun _ _ _ h => h) h (gh_frz rfl rfl ⟨⟨_, rfl, .keep rfl⟩, ⟨_, rfl, .keep rfl⟩, ⟨_, rfl, .keep rfl⟩, ⟨_, rfl, .keep rfl⟩, trivial⟩ ⟨⟨_, rfl, objOne ⟨⟨rfl, .keep rfl⟩, trivial⟩⟩, trivial⟩) ?_ ?_
    · clear h
      intro j185 x186 s182 g183 k184 hj185 hx185 h ih184
      refine awp_rs ?_
      refine ro rfl rfl (st_bin (v := dB (decide (((j185 : Nat) : Int) < ((a0.length : Nat) : Int)))) rfl rfl rfl) ?_
      refine rw_nilk ?_
      refine awp_seq ?_
      refine awp_ifT rfl (dlt hj185) ?_
      refine awp_skip ?_
      refine nx_then ?_
      refine awp_seq ?_
      refine awp_block ?_
      refine awp_rs ?_
      refine ro rfl rfl (st_mv rfl) ?_
      refine ro rfl rfl (st_as rfl) ?_
      refine rw_nilk ?_
      refine awp_rs ?_
      refine ro rfl rfl (st_mv rfl) ?_
      refine ro rfl rfl (st_mv rfl) ?_
      refine ro rfl rfl (st_mv rfl) ?_
      refine ro rfl rfl (st_ixDn sl28 rfl rfl hx185) ?_
      refine ro rfl rfl (st_ldD (v := dI .i64 x186) ta3 rfl rfl) ?_
      refine ri (N := 7) (rs := [.tmp 3]) rfl rfl rfl rfl Try.func81 rfl rfl rfl (by kernel_rfl) rfl (fun _B => ?_)
      refine awp_rs ?_
      refine ro rfl rfl (st_as rfl) ?_
      refine rw_nilk ?_
      refine awp_rs ?_
      refine ro rfl rfl (st_ldP (v := dL 1 (eI .i64) a1) ta28 rfl rfl rfl rfl) ?_
      refine ro rfl rfl (st_mv rfl) ?_
      obtain ⟨y205, hy205, h⟩ := bind_some_elim h
      refine rf rfl rfl (ok_slices_Contains_int_int hy205) rfl rfl ?_
      refine ro rfl rfl (st_as rfl) ?_
      refine rw_nilk ?_
      refine awp_ret ?_
      refine ret_in (v := dB y205) (resV_one (resVs_tmp rfl resVs_nil)) ?_
      show RW _ _ _ _ _ _ _
      refine rw_nilk ?_
      refine awp_ite (b := y205) rfl (fun p206 => ?_) (fun p206 => ?_)
      · replace h := ite_T p206 h
        refine awp_rs ?_
        refine ro rfl rfl (st_mv rfl) ?_
        refine ro rfl rfl (st_as rfl) ?_
        refine rw_nilk ?_
        refine awp_ret ?_
        refine rt_block ?_
        refine rt_then ?_
        refine rt_then ?_
        refine rt_block ?_
        refine rt_then ?_
        refine ret_in (v := dI .i64 ((j185 : Nat) : Int)) (resV_one (resVs_tmp rfl resVs_nil)) ?_
        exact J181 ((j185 : Nat) : Int) () _ _ h (gh_frz rfl rfl ⟨⟨_, rfl, .keep rfl⟩, trivial⟩ ⟨⟨_, rfl, objOne ⟨⟨rfl, .keep rfl⟩, trivial⟩⟩, trivial⟩)
      · replace h := ite_F p206 h
        refine awp_skip ?_
        refine nx_block ?_
        refine nx_then ?_
        refine awp_rw ?_
        refine ro rfl rfl (st_inc rfl rfl hj185 hl185) ?_
        refine ro rfl rfl (st_mv rfl) ?_
        refine rw_nil ?_
        refine nx_then ?_
        refine awp_gh ?_ (ih184 () () h)
        exact (gh_frz rfl rfl ⟨⟨_, rfl, .keep rfl⟩, ⟨_, rfl, .keep rfl⟩, ⟨_, rfl, .keep rfl⟩, ⟨_, rfl, .keep rfl⟩, trivial⟩ ⟨⟨_, rfl, objOne ⟨⟨rfl, .keep rfl⟩, trivial⟩⟩, trivial⟩)
    · clear h
      intro s182 g183 h
      refine awp_rs ?_
      refine ro rfl rfl (st_bin (v := dB (decide (((a0.length : Nat) : Int) < ((a0.length : Nat) : Int)))) rfl rfl rfl) ?_
      refine rw_nilk ?_
      refine awp_seq ?_
      refine awp_ifF rfl dge ?_
      refine awp_exit ?_
      refine ex_out ?_
      refine ex_out ?_
      refine ex_in ?_
      refine nx_then ?_
      refine awp_rs ?_
      refine ro rfl rfl (st_as rfl) ?_
      refine rw_nilk ?_
      refine awp_ret ?_
      refine ret_in (v := dI .i64 (-1 : Int)) (resV_one (resVs_tmp rfl resVs_nil)) ?_
      exact J181 (-1 : Int) () _ _ h (gh_frz rfl rfl ⟨⟨_, rfl, .keep rfl⟩, trivial⟩ ⟨⟨_, rfl, objOne ⟨⟨rfl, .keep rfl⟩, trivial⟩⟩, trivial⟩)

theorem ok_proof_Under {a0 : (List (List Int))} {a1 : (List Int)} {r : ((List (List Int)) × (List Int) × Int)} (h : F_proof_Under a0 a1 = some r) : Fn Try.prog 19 [dL 1 (eL 1 (eI .i64)) a0, dL 1 (eI .i64) a1] (.tup [dL 1 (eL 1 (eI .i64)) r.1, dL 1 (eI .i64) r.2.1, dI .i64 r.2.2]) := by
  unfold F_proof_Under at h
  refine Fn.of_body (N := 41) (rs := [.tmp 4, .tmp 5, .tmp 6]) Try.func19 (c := _) rfl rfl rfl (by kernel_rfl) (Nat.le_of_ble_eq_true rfl) (fun _B => ?_)
  refine awp_rs ?_
  refine rn (r := 1001) rfl rfl (st_box rfl rfl rfl co28 rfl rfl) rfl ?_
  refine ro rfl rfl (st_as rfl) ?_
  refine ro rfl rfl (st_as rfl) ?_
  refine ro rfl rfl (st_as rfl) ?_
  refine rw_nilk ?_
  refine awp_seq ?_
  refine awp_jn (fun (s114 : Bool) (g115 : Unit) => [(0, dL 1 (eL 1 (eI .i64)) a0), (3, .ptr 1001 0 0 0), (4, .nilS), (5, .nilS), (16, dB s114)]) (fun (s114 : Bool) (g115 : Unit) => [(1001, .row 0 28 [[dL 1 (eI .i64) a1]])]) h ?_ ?_
  · clear h
    intro s114 g115 h
    refine awp_ite (b := s114) rfl (fun p117 => ?_) (fun p117 => ?_)
    · replace h := ite_T p117 h
      refine awp_rs ?_
      refine ro rfl rfl (st_as rfl) ?_
      refine ro rfl rfl (st_as rfl) ?_
      refine ro rfl rfl (st_as rfl) ?_
      refine rw_nilk ?_
      refine awp_ret ?_
      refine rt_then ?_
      injection h with h
      subst h
      exact ret_out (v := .tup [.nilS, .nilS, dI .i64 (2 : Int)]) (resV_many (resVs_tmp rfl (resVs_tmp rfl (resVs_tmp rfl resVs_nil)))) (frz_tup ⟨(.nilS _), (.nilS _), (.keep rfl), trivial⟩)
    · replace h := ite_F p117 h
      refine awp_skip ?_
      refine nx_then ?_
      refine awp_seq ?_
      refine awp_rs ?_
      refine ro rfl rfl (st_mv rfl) ?_
      refine ro rfl rfl (st_lenD rfl un22) ?_
      refine ro rfl rfl (st_mv rfl) ?_
      refine rw_nilk ?_
      refine awp_block ?_
      refine awp_len (t := 0) rfl (fun hl121 => ?_)
      rw [List.length_map] at hl121
      refine awp_range (fun (j121 : Nat) (s118 : ((List (List Int)) × (List Int))) (g119 : (Nat × Nat)) => [(3, .ptr 1001 0 0 0), (4, .slice 1004 g119.1 0 s118.1.length), (5, .slice 1006 g119.2 0 s118.2.length), (17, dL 1 (eL 1 (eI .i64)) a0), (18, dI .i64 ((a0.length : Nat) : Int)), (19, dI .i64 ((j121 : Nat) : Int))]) (fun (s118 : ((List (List Int)) × (List Int))) (g119 : (Nat × Nat)) => [(1001, .row 0 28 [[dL 1 (eI .i64) a1]]), (1004, rw' g119.1 28 (eL 1 (eI .i64)) s118.1), (1006, rw' g119.2 3 (eI .i64) s118.2)]) (0, 0) (fun _ _ _ h => h) h (Gh.trans (gh_nil (r := 1004) (E' := [(3, .ptr 1001 0 0 0), (4, .slice 1004 0 0 (([] : List (List Int)).length)), (5, .nilS), (17, dL 1 (eL 1 (eI .i64)) a0), (18, dI .i64 ((a0.length : Nat) : Int)), (19, dI .i64 (0 : Int))]) (L' := [(1001, .row 0 28 [[dL 1 (eI .i64) a1]])]) rfl co28 rfl rfl ⟨⟨_, rfl, .keep _⟩, ⟨_, rfl, .nil⟩, ⟨_, rfl, .keep _⟩, ⟨_, rfl, .keep _⟩, ⟨_, rfl, .keep _⟩, ⟨_, rfl, .keep _⟩, trivial⟩ ⟨⟨_, rfl, .keep _⟩, trivial⟩) (Gh.trans (gh_nil (r := 1006) (E' := [(3, .ptr 1001 0 0 0), (4, .slice 1004 0 0 (([] : List (List Int)).length)), (5, .slice 1006 0 0 (([] : List Int).length)), (17, dL 1 (eL 1 (eI .i64)) a0), (18, dI .i64 ((a0.length : Nat) : Int)), (19, dI .i64 (0 : Int))]) (L' := [(1001, .row 0 28 [[dL 1 (eI .i64) a1]]), (1004, rw' 0 28 (eL 1 (eI .i64)) ([] : List (List Int)))]) rfl co3 rfl rfl ⟨⟨_, rfl, .keep _⟩, ⟨_, rfl, .keep _⟩, ⟨_, rfl, .nil⟩, ⟨_, rfl, .keep _⟩, ⟨_, rfl, .keep _⟩, ⟨_, rfl, .keep _⟩, trivial⟩ ⟨⟨_, rfl, .keep _⟩, ⟨_, rfl, .keep _⟩, trivial⟩) (gh_frz rfl rfl ⟨⟨_, rfl, .keep rfl⟩, ⟨_, rfl, .keep rfl⟩, ⟨_, rfl, .keep rfl⟩, ⟨_, rfl, .keep rfl⟩, ⟨_, rfl, .keep rfl⟩, ⟨_, rfl, .keep rfl⟩, trivial⟩ ⟨⟨_, rfl, objOne ⟨⟨rfl, .keep rfl⟩, trivial⟩⟩, ⟨_, rfl, objRow (List.map (eL 1 (eI .i64)) ([] : List (List Int)))⟩, ⟨_, rfl, objRow (List.map (eI .i64) ([] : List Int))⟩, trivial⟩))) ?_ ?_
      · clear h
        intro j121 x122 s118 g119 k120 hj121 hx121 h ih120
        refine awp_rs ?_
        refine ro rfl rfl (st_bin (v := dB (decide (((j121 : Nat) : Int) < ((a0.length : Nat) : Int)))) rfl rfl rfl) ?_
        refine rw_nilk ?_
        refine awp_seq ?_
        refine awp_ifT rfl (dlt hj121) ?_
        refine awp_skip ?_
        refine nx_then ?_
        refine awp_jn (fun (s2204 : ((List (List Int)) × (List Int))) (g2205 : (Nat × Nat)) => [(3, .ptr 1001 0 0 0), (4, .slice 1004 g2205.1 0 s2204.1.length), (5, .slice 1006 g2205.2 0 s2204.2.length), (17, dL 1 (eL 1 (eI .i64)) a0), (18, dI .i64 ((a0.length : Nat) : Int)), (19, dI .i64 ((j121 : Nat) : Int))]) (fun (s2204 : ((List (List Int)) × (List Int))) (g2205 : (Nat × Nat)) => [(1001, .row 0 28 [[dL 1 (eI .i64) a1]]), (1004, rw' g2205.1 28 (eL 1 (eI .i64)) s2204.1), (1006, rw' g2205.2 3 (eI .i64) s2204.2)]) h ?_ ?_
        · clear h
          intro s2204 g2205 h
          refine awp_rw ?_
          refine ro rfl rfl (st_inc rfl rfl hj121 hl121) ?_
          refine ro rfl rfl (st_mv rfl) ?_
          refine rw_nil ?_
          refine nx_then ?_
          refine awp_gh ?_ (ih120 (s2204.1, s2204.2) (g2205.1, g2205.2) h)
          exact (gh_frz rfl rfl ⟨⟨_, rfl, .keep rfl⟩, ⟨_, rfl, .keep rfl⟩, ⟨_, rfl, .keep rfl⟩, ⟨_, rfl, .keep rfl⟩, ⟨_, rfl, .keep rfl⟩, ⟨_, rfl, .keep rfl⟩, trivial⟩ ⟨⟨_, rfl, objOne ⟨⟨rfl, .keep rfl⟩, trivial⟩⟩, ⟨_, rfl, objRow _⟩, ⟨_, rfl, objRow _⟩, trivial⟩)
        · clear h
          intro k2206 h J2206
          refine awp_block ?_
          refine awp_rs ?_
          refine ro rfl rfl (st_mv rfl) ?_
          refine ro rfl rfl (st_ixDn sl22 rfl rfl hx121) ?_
          refine ro rfl rfl (st_ldD (v := dL 1 (eI .i64) x122) ta28 rfl rfl) ?_
          refine ro rfl rfl (st_as rfl) ?_
          refine ro rfl rfl (st_as rfl) ?_
          refine rw_nilk ?_
          refine awp_seq ?_
          refine awp_rs ?_
          refine ro rfl rfl (st_mv rfl) ?_
          refine ro rfl rfl (st_ldP (v := dL 1 (eI .i64) a1) ta28 rfl rfl rfl rfl) ?_
          obtain ⟨y2207, hy2207, h⟩ := bind_some_elim h
          refine rf rfl rfl (ok_proof_hits hy2207) rfl rfl ?_
          refine rw_nilk ?_
          refine awp_ite (b := y2207) rfl (fun p2208 => ?_) (fun p2208 => ?_)
          · replace h := ite_T p2208 h
            refine awp_exit ?_
            refine ex_out ?_
            refine ex_in ?_
            refine nx_then ?_
            exact J2206 (s118.1, s118.2) (g119.1, g119.2) _ _ h (gh_frz rfl rfl ⟨⟨_, rfl, .keep rfl⟩, ⟨_, rfl, .keep rfl⟩, ⟨_, rfl, .keep rfl⟩, ⟨_, rfl, .keep rfl⟩, ⟨_, rfl, .keep rfl⟩, ⟨_, rfl, .keep rfl⟩, trivial⟩ ⟨⟨_, rfl, objOne ⟨⟨rfl, .keep rfl⟩, trivial⟩⟩, ⟨_, rfl, objRow _⟩, ⟨_, rfl, objRow _⟩, trivial⟩)
          · replace h := ite_F p2208 h
            refine awp_skip ?_
            refine nx_then ?_
            refine awp_rs ?_
            refine ro rfl rfl (st_mv rfl) ?_
            refine ro rfl rfl (st_mv rfl) ?_
            refine rw_jn (fun (s2213 : (List Int)) (g2214 : Nat) => [(3, .ptr 1001 0 0 0), (5, .slice 1006 g119.2 0 s118.2.length), (7, dI .i64 ((j121 : Nat) : Int)), (17, dL 1 (eL 1 (eI .i64)) a0), (18, dI .i64 ((a0.length : Nat) : Int)), (19, dI .i64 ((j121 : Nat) : Int)), (27, .slice 1004 g119.1 0 s118.1.length), (29, .slice 1007 g2214 0 s2213.length)]) (fun (s2213 : (List Int)) (g2214 : Nat) => [(1001, .row 0 28 [[dL 1 (eI .i64) a1]]), (1004, rw' g119.1 28 (eL 1 (eI .i64)) s118.1), (1006, rw' g119.2 3 (eI .i64) s118.2), (1007, rw' g2214 3 (eI .i64) s2213)]) h ?_ ?_
            · clear h
              intro s2213 g2214 h
              refine ro rfl rfl (st_fn rfl) ?_
              refine rw_jn (fun (s2355 : ((List Int) × Nat)) (g2356 : Unit) => [(3, .ptr 1001 0 0 0), (5, .slice 1006 g119.2 0 s118.2.length), (7, dI .i64 ((j121 : Nat) : Int)), (17, dL 1 (eL 1 (eI .i64)) a0), (18, dI .i64 ((a0.length : Nat) : Int)), (19, dI .i64 ((j121 : Nat) : Int)), (27, .slice 1004 g119.1 0 s118.1.length), (31, .slice 1007 g2214 0 s2355.2)]) (fun (s2355 : ((List Int) × Nat)) (g2356 : Unit) => [(1001, .row 0 28 [[dL 1 (eI .i64) a1]]), (1004, rw' g119.1 28 (eL 1 (eI .i64)) s118.1), (1006, rw' g119.2 3 (eI .i64) s118.2), (1007, rw' g2214 3 (eI .i64) s2355.1)]) h ?_ ?_
              · clear h
                intro s2355 g2356 h
                refine rn (r := 1008) rfl rfl (st_bsl (els := [[.slice 1007 g2214 0 s2355.2]]) sl22 zc28 rfl rfl rfl rfl rfl) rfl ?_
                refine RW.gh (gh_frz (E' := [(3, .ptr 1001 0 0 0), (5, .slice 1006 g119.2 0 s118.2.length), (7, dI .i64 ((j121 : Nat) : Int)), (17, dL 1 (eL 1 (eI .i64)) a0), (18, dI .i64 ((a0.length : Nat) : Int)), (19, dI .i64 ((j121 : Nat) : Int)), (27, .slice 1004 g119.1 0 s118.1.length), (32, .slice 1008 1 0 1)]) (L' := [(1001, .row 0 28 [[dL 1 (eI .i64) a1]]), (1004, rw' g119.1 28 (eL 1 (eI .i64)) s118.1), (1006, rw' g119.2 3 (eI .i64) s118.2), (1008, .row 1 28 [[dL 1 (eI .i64) ((s2355.1.take (0 + s2355.2)).drop 0)]])]) rfl rfl ⟨⟨_, rfl, .keep rfl⟩, ⟨_, rfl, .keep rfl⟩, ⟨_, rfl, .keep rfl⟩, ⟨_, rfl, .keep rfl⟩, ⟨_, rfl, .keep rfl⟩, ⟨_, rfl, .keep rfl⟩, ⟨_, rfl, .keep rfl⟩, ⟨_, rfl, .keep rfl⟩, trivial⟩ ⟨⟨_, rfl, objOne ⟨⟨rfl, .keep rfl⟩, trivial⟩⟩, ⟨_, rfl, objRow _⟩, ⟨_, rfl, objRow _⟩, ⟨_, rfl, objOne ⟨⟨rfl, frzS rfl rfl co3 rfl⟩, trivial⟩⟩, trivial⟩) ?_
                obtain ⟨c2358, h⟩ := capN_some h
                refine rn (r := 0) (L' := [(1001, .row 0 28 [[dL 1 (eI .i64) a1]]), (1004, rw' (g119.1 + 2) 28 (eL 1 (eI .i64)) (s118.1 ++ [((s2355.1.take (0 + s2355.2)).drop 0)])), (1006, rw' g119.2 3 (eI .i64) s118.2), (1008, .row 1 28 [[dL 1 (eI .i64) ((s2355.1.take (0 + s2355.2)).drop 0)]])]) rfl rfl (st_appR (f := (eL 1 (eI .i64))) (xs := s118.1) (ys := [((s2355.1.take (0 + s2355.2)).drop 0)]) sl22 zc28 rfl rfl rfl rfl rfl (news_one (a := ((s2355.1.take (0 + s2355.2)).drop 0)) rfl rfl) c2358) rfl ?_
                refine ro rfl rfl (st_as rfl) ?_
                refine rw_nilk ?_
                refine awp_rw ?_
                refine ro rfl rfl (st_mv rfl) ?_
                refine ro rfl rfl (st_mv rfl) ?_
                refine rn (r := 1009) rfl rfl (st_bsl (els := [[dI .i64 ((j121 : Nat) : Int)]]) sl28 zc3 rfl rfl rfl rfl rfl) rfl ?_
                obtain ⟨c2359, h⟩ := capN_some h
                refine rn (r := 0) (L' := [(1001, .row 0 28 [[dL 1 (eI .i64) a1]]), (1004, rw' (g119.1 + 2) 28 (eL 1 (eI .i64)) (s118.1 ++ [((s2355.1.take (0 + s2355.2)).drop 0)])), (1006, rw' (g119.2 + 2) 3 (eI .i64) (s118.2 ++ [((j121 : Nat) : Int)])), (1008, .row 1 28 [[dL 1 (eI .i64) ((s2355.1.take (0 + s2355.2)).drop 0)]]), (1009, .row 1 3 [[dI .i64 ((j121 : Nat) : Int)]])]) rfl rfl (st_appR (f := (eI .i64)) (xs := s118.2) (ys := [((j121 : Nat) : Int)]) sl28 zc3 rfl rfl rfl rfl rfl (news_one (a := ((j121 : Nat) : Int)) rfl rfl) c2359) rfl ?_
                refine ro rfl rfl (st_as rfl) ?_
                refine rw_nil ?_
                refine nx_block ?_
                refine nx_then ?_
                exact J2206 ((s118.1 ++ [((s2355.1.take (0 + s2355.2)).drop 0)]), (s118.2 ++ [((j121 : Nat) : Int)])) ((g119.1 + 2), (g119.2 + 2)) _ _ h (gh_frz rfl rfl ⟨⟨_, rfl, .keep rfl⟩, ⟨_, rfl, .keep rfl⟩, ⟨_, rfl, .keep rfl⟩, ⟨_, rfl, .keep rfl⟩, ⟨_, rfl, .keep rfl⟩, ⟨_, rfl, .keep rfl⟩, trivial⟩ ⟨⟨_, rfl, objOne ⟨⟨rfl, .keep rfl⟩, trivial⟩⟩, ⟨_, rfl, objRow _⟩, ⟨_, rfl, objRow _⟩, trivial⟩)
              · clear h
                intro k2357 h J2357
                refine ri (N := 42) (rs := [.tmp 4]) rfl rfl rfl rfl Try.func53 rfl rfl rfl (by kernel_rfl) rfl (fun _B => ?_)
                refine awp_rs ?_
                refine ro rfl rfl (st_as rfl) ?_
                refine rw_nilk ?_
                refine awp_rs ?_
                refine ro rfl rfl (st_mv rfl) ?_
                refine ro rfl rfl (st_mv rfl) ?_
                refine rw_jn (fun (s2385 : Int) (g2386 : Unit) => [(0, .slice 1007 g2214 0 s2213.length), (1, .fn 54 [.ptr 1001 0 0 0]), (10, dI .i64 s2385)]) (fun (s2385 : Int) (g2386 : Unit) => [(1001, .row 0 28 [[dL 1 (eI .i64) a1]]), (1004, rw' g119.1 28 (eL 1 (eI .i64)) s118.1), (1006, rw' g119.2 3 (eI .i64) s118.2), (1007, rw' g2214 3 (eI .i64) s2213)]) h ?_ ?_
                · clear h
                  intro s2385 g2386 h
                  refine ro rfl rfl (st_as rfl) ?_
                  refine rw_nilk ?_
                  refine awp_seq ?_
                  refine awp_rs ?_
                  refine ro rfl rfl (st_mv rfl) ?_
                  refine ro rfl rfl (st_bin (v := dB (s2385 == (-1 : Int))) rfl rfl rfl) ?_
                  refine rw_nilk ?_
                  refine awp_ite (b := (s2385 == (-1 : Int))) rfl (fun p2388 => ?_) (fun p2388 => ?_)
                  · replace h := ite_T p2388 h
                    refine awp_rs ?_
                    refine ro rfl rfl (st_mv rfl) ?_
                    refine ro rfl rfl (st_as rfl) ?_
                    refine rw_nilk ?_
                    refine awp_ret ?_
                    refine rt_then ?_
                    refine ret_in (v := .slice 1007 g2214 0 s2213.length) (resV_one (resVs_tmp rfl resVs_nil)) ?_
                    exact J2357 (s2213, s2213.length) () _ _ h (gh_frz rfl rfl ⟨⟨_, rfl, .keep rfl⟩, ⟨_, rfl, .keep rfl⟩, ⟨_, rfl, .keep rfl⟩, ⟨_, rfl, .keep rfl⟩, ⟨_, rfl, .keep rfl⟩, ⟨_, rfl, .keep rfl⟩, ⟨_, rfl, .keep rfl⟩, ⟨_, rfl, .keep rfl⟩, trivial⟩ ⟨⟨_, rfl, objOne ⟨⟨rfl, .keep rfl⟩, trivial⟩⟩, ⟨_, rfl, objRow _⟩, ⟨_, rfl, objRow _⟩, ⟨_, rfl, objRow _⟩, trivial⟩)
                  · replace h := ite_F p2388 h
                    refine awp_skip ?_
                    refine nx_then ?_
                    refine awp_seq ?_
                    refine awp_rs ?_
                    refine ro rfl rfl (st_mv rfl) ?_
                    refine ro rfl rfl (st_bin (v := dI .i64 (IntKind.wrap .i64 (s2385 + (1 : Int)))) rfl rfl rfl) ?_
                    refine ro rfl rfl (st_as rfl) ?_
                    refine rw_nilk ?_
                    refine awp_block ?_
                    refine awp_while (fun (s2389 : (Int × Int × (List Int))) (g2390 : Unit) => [(0, .slice 1007 g2214 0 s2389.2.2.length), (1, .fn 54 [.ptr 1001 0 0 0]), (5, dI .i64 s2389.1), (6, dI .i64 s2389.2.1)]) (fun (s2389 : (Int × Int × (List Int))) (g2390 : Unit) => [(1001, .row 0 28 [[dL 1 (eI .i64) a1]]), (1004, rw' g119.1 28 (eL 1 (eI .i64)) s118.1), (1006, rw' g119.2 3 (eI .i64) s118.2), (1007, rw' g2214 3 (eI .i64) s2389.2.2)]) () (fun _ _ _ h => h) h (gh_frz rfl rfl ⟨⟨_, rfl, .keep rfl⟩, ⟨_, rfl, .keep rfl⟩, ⟨_, rfl, .keep rfl⟩, ⟨_, rfl, .keep rfl⟩, trivial⟩ ⟨⟨_, rfl, objOne ⟨⟨rfl, .keep rfl⟩, trivial⟩⟩, ⟨_, rfl, objRow _⟩, ⟨_, rfl, objRow _⟩, ⟨_, rfl, objRow _⟩, trivial⟩) ?_
                    clear h
                    intro s2389 g2390 k2391 h ih2391
                    refine awp_seq ?_
                    refine awp_rs ?_
                    refine ro rfl rfl (st_mv rfl) ?_
                    refine ro rfl rfl (st_mv rfl) ?_
                    refine ro rfl rfl (st_lenR rfl un28 rfl) ?_
                    refine ro rfl rfl (st_bin (v := dB (decide (s2389.2.1 < ((s2389.2.2.length : Nat) : Int)))) rfl rfl rfl) ?_
                    refine rw_nilk ?_
                    refine awp_ite (b := (decide (s2389.2.1 < ((s2389.2.2.length : Nat) : Int)))) rfl (fun p2453 => ?_) (fun p2453 => ?_)
                    · replace h := ite_T p2453 h
                      refine awp_skip ?_
                      refine nx_then ?_
                      refine awp_jn (fun (s2461 : (Int × (List Int))) (g2462 : Unit) => [(0, .slice 1007 g2214 0 s2461.2.length), (1, .fn 54 [.ptr 1001 0 0 0]), (5, dI .i64 s2461.1), (6, dI .i64 s2389.2.1)]) (fun (s2461 : (Int × (List Int))) (g2462 : Unit) => [(1001, .row 0 28 [[dL 1 (eI .i64) a1]]), (1004, rw' g119.1 28 (eL 1 (eI .i64)) s118.1), (1006, rw' g119.2 3 (eI .i64) s118.2), (1007, rw' g2214 3 (eI .i64) s2461.2)]) h ?_ ?_
                      · clear h
                        intro s2461 g2462 h
                        refine awp_rw ?_
                        refine ro rfl rfl (st_mv rfl) ?_
                        refine ro rfl rfl (st_bin (v := dI .i64 (IntKind.wrap .i64 (s2389.2.1 + (1 : Int)))) rfl rfl rfl) ?_
                        refine ro rfl rfl (st_as rfl) ?_
                        refine rw_nil ?_
                        refine nx_then ?_
                        refine awp_gh ?_ (ih2391 (s2461.1, (IntKind.wrap .i64 (s2389.2.1 + (1 : Int))), s2461.2) () h)
                        exact (gh_frz rfl rfl ⟨⟨_, rfl, .keep rfl⟩, ⟨_, rfl, .keep rfl⟩, ⟨_, rfl, .keep rfl⟩, ⟨_, rfl, .keep rfl⟩, trivial⟩ ⟨⟨_, rfl, objOne ⟨⟨rfl, .keep rfl⟩, trivial⟩⟩, ⟨_, rfl, objRow _⟩, ⟨_, rfl, objRow _⟩, ⟨_, rfl, objRow _⟩, trivial⟩)
                      · clear h
                        intro k2463 h J2463
                        refine awp_block ?_
                        refine awp_rs ?_
                        refine ro rfl rfl (st_mv rfl) ?_
                        refine ro rfl rfl (st_mv rfl) ?_
                        obtain ⟨x2464, h02464, hx2464, h⟩ := getI_some h
                        refine ro rfl rfl (st_ixRi sl28 rfl rfl rfl h02464 hx2464 rfl) ?_
                        refine ro rfl rfl (st_ldP (v := dI .i64 x2464) ta3 rfl rfl (rowOf_map_get hx2464) rfl) ?_
                        refine ro rfl rfl (st_as rfl) ?_
                        refine rw_nilk ?_
                        refine awp_rs ?_
                        refine ro rfl rfl (st_mv rfl) ?_
                        refine ro rfl rfl (st_mv rfl) ?_
                        refine ri (N := 8) (rs := [.tmp 3]) rfl rfl rfl rfl Try.func54 rfl rfl rfl (by kernel_rfl) rfl (fun _B => ?_)
                        refine awp_rs ?_
                        refine ro rfl rfl (st_as rfl) ?_
                        refine rw_nilk ?_
                        refine awp_rs ?_
                        refine ro rfl rfl (st_ldP (v := dL 1 (eI .i64) a1) ta28 rfl rfl rfl rfl) ?_
                        refine ro rfl rfl (st_mv rfl) ?_
                        refine ro rfl rfl (st_un (v := dI .i64 (IntKind.wrap .i64 (0 - x2464))) rfl rfl) ?_
                        obtain ⟨y2468, hy2468, h⟩ := bind_some_elim h
                        refine rf rfl rfl (ok_slices_Contains_int_int hy2468) rfl rfl ?_
                        refine ro rfl rfl (st_as rfl) ?_
                        refine rw_nilk ?_
                        refine awp_ret ?_
                        refine ret_in (v := dB y2468) (resV_one (resVs_tmp rfl resVs_nil)) ?_
                        show RW _ _ _ _ _ _ _
                        refine ro rfl rfl (st_un (v := dB (!y2468)) rfl rfl) ?_
                        refine rw_nilk ?_
                        refine awp_ite (b := (!y2468)) rfl (fun p2469 => ?_) (fun p2469 => ?_)
                        · replace h := ite_T p2469 h
                          refine awp_rs ?_
                          refine ro rfl rfl (st_mv rfl) ?_
                          refine ro rfl rfl (st_mv rfl) ?_
                          refine ro rfl rfl (st_mv rfl) ?_
                          obtain ⟨x2470, h02470, hx2470, h⟩ := getI_some h
                          refine ro rfl rfl (st_ixRi sl28 rfl rfl rfl h02470 hx2470 rfl) ?_
                          refine rx (L' := [(1001, .row 0 28 [[dL 1 (eI .i64) a1]]), (1004, rw' g119.1 28 (eL 1 (eI .i64)) s118.1), (1006, rw' g119.2 3 (eI .i64) s118.2), (1007, rw' g2214 3 (eI .i64) (s2389.2.2.set s2389.1.toNat x2464))]) rfl rfl (st_stT (z := x2464) ta3 rfl rfl rfl hx2470 rfl rfl rfl rfl rfl) rfl ?_
                          refine rw_nilk ?_
                          refine awp_rw ?_
                          refine ro rfl rfl (st_mv rfl) ?_
                          refine ro rfl rfl (st_bin (v := dI .i64 (IntKind.wrap .i64 (s2389.1 + (1 : Int)))) rfl rfl rfl) ?_
                          refine ro rfl rfl (st_as rfl) ?_
                          refine rw_nil ?_
                          refine nx_block ?_
                          refine nx_then ?_
                          exact J2463 ((IntKind.wrap .i64 (s2389.1 + (1 : Int))), (s2389.2.2.set s2389.1.toNat x2464)) () _ _ h (gh_frz rfl rfl ⟨⟨_, rfl, frzN rfl (by simp)⟩, ⟨_, rfl, .keep rfl⟩, ⟨_, rfl, .keep rfl⟩, ⟨_, rfl, .keep rfl⟩, trivial⟩ ⟨⟨_, rfl, objOne ⟨⟨rfl, .keep rfl⟩, trivial⟩⟩, ⟨_, rfl, objRow _⟩, ⟨_, rfl, objRow _⟩, ⟨_, rfl, objRow _⟩, trivial⟩)
                        · replace h := ite_F p2469 h
                          refine awp_skip ?_
                          refine nx_block ?_
                          refine nx_then ?_
                          exact J2463 (s2389.1, s2389.2.2) () _ _ h (gh_frz rfl rfl ⟨⟨_, rfl, .keep rfl⟩, ⟨_, rfl, .keep rfl⟩, ⟨_, rfl, .keep rfl⟩, ⟨_, rfl, .keep rfl⟩, trivial⟩ ⟨⟨_, rfl, objOne ⟨⟨rfl, .keep rfl⟩, trivial⟩⟩, ⟨_, rfl, objRow _⟩, ⟨_, rfl, objRow _⟩, ⟨_, rfl, objRow _⟩, trivial⟩)
                    · replace h := ite_F p2453 h
                      refine awp_exit ?_
                      refine ex_out ?_
                      refine ex_out ?_
                      refine ex_in ?_
                      refine nx_then ?_
                      refine awp_rs ?_
                      refine ro rfl rfl (st_mv rfl) ?_
                      refine ro rfl rfl (st_mv rfl) ?_
                      obtain ⟨c2471, h⟩ := okI_some h
                      refine ro rfl rfl (st_slRLo sl28 rfl rfl rfl c2471.1 c2471.2) ?_
                      obtain ⟨c2472, h⟩ := okI_some h
                      refine rx_clear (r := 1007) (g := g2214) (f := (eI .i64)) (xs := s2389.2.2) (ys := (s2389.2.2.take s2389.1.toNat ++ List.replicate (s2389.2.2.length - s2389.1.toNat) (0 : Int) ++ s2389.2.2.drop (s2389.1.toNat + (s2389.2.2.length - s2389.1.toNat)))) (n := (s2389.2.2.length - s2389.1.toNat)) (L' := [(1001, .row 0 28 [[dL 1 (eI .i64) a1]]), (1004, rw' g119.1 28 (eL 1 (eI .i64)) s118.1), (1006, rw' g119.2 3 (eI .i64) s118.2), (1007, rw' g2214 3 (eI .i64) (s2389.2.2.take s2389.1.toNat ++ List.replicate (s2389.2.2.length - s2389.1.toNat) (0 : Int) ++ s2389.2.2.drop (s2389.1.toNat + (s2389.2.2.length - s2389.1.toNat))))]) rfl rfl (st_clear (z := (0 : Int)) sl28 zc3 (by first | rfl | (simp only [Nat.zero_add]; rfl)) rfl rfl rfl c2472) (fun h => clear_nil rfl h) rfl ?_
                      refine rw_nilk ?_
                      refine awp_rs ?_
                      refine ro rfl rfl (st_mv rfl) ?_
                      refine ro rfl rfl (st_mv rfl) ?_
                      obtain ⟨c2473, h⟩ := okI_some h
                      refine ro rfl rfl (st_slRHi sl28 rfl rfl rfl c2473.1 c2473.2) ?_
                      refine ro rfl rfl (st_as rfl) ?_
                      refine rw_nilk ?_
                      refine awp_ret ?_
                      refine ret_in (v := .slice 1007 g2214 0 s2389.1.toNat) (resV_one (resVs_tmp rfl resVs_nil)) ?_
                      exact J2357 ((s2389.2.2.take s2389.1.toNat ++ List.replicate (s2389.2.2.length - s2389.1.toNat) (0 : Int) ++ s2389.2.2.drop (s2389.1.toNat + (s2389.2.2.length - s2389.1.toNat))), s2389.1.toNat) () _ _ h (gh_frz rfl rfl ⟨⟨_, rfl, .keep rfl⟩, ⟨_, rfl, .keep rfl⟩, ⟨_, rfl, .keep rfl⟩, ⟨_, rfl, .keep rfl⟩, ⟨_, rfl, .keep rfl⟩, ⟨_, rfl, .keep rfl⟩, ⟨_, rfl, .keep rfl⟩, ⟨_, rfl, .keep rfl⟩, trivial⟩ ⟨⟨_, rfl, objOne ⟨⟨rfl, .keep rfl⟩, trivial⟩⟩, ⟨_, rfl, objRow _⟩, ⟨_, rfl, objRow _⟩, ⟨_, rfl, objRow _⟩, trivial⟩)
                · clear h
                  intro k2387 h J2387
                  refine ri (N := 19) (rs := [.tmp 4]) rfl rfl rfl rfl Try.func82 rfl rfl rfl (by kernel_rfl) rfl (fun _B => ?_)
                  refine awp_rs ?_
                  refine ro rfl rfl (st_as rfl) ?_
                  refine rw_nilk ?_
                  refine awp_seq ?_
                  refine awp_rs ?_
                  refine ro rfl rfl (st_mv rfl) ?_
                  refine ro rfl rfl (st_lenR rfl un28 rfl) ?_
                  refine ro rfl rfl (st_mv rfl) ?_
                  refine rw_nilk ?_
                  refine awp_block ?_
                  refine awp_lenT (r := 1007) rfl (fun hl2477 => ?_)
                  refine awp_range (fun (j2477 : Nat) (s2474 : Unit) (g2475 : Unit) => [(0, .slice 1007 g2214 0 s2213.length), (1, .fn 54 [.ptr 1001 0 0 0]), (7, dI .i64 ((s2213.length : Nat) : Int)), (8, dI .i64 ((j2477 : Nat) : Int))]) (fun (s2474 : Unit) (g2475 : Unit) => [(1001, .row 0 28 [[dL 1 (eI .i64) a1]]), (1004, rw' g119.1 28 (eL 1 (eI .i64)) s118.1), (1006, rw' g119.2 3 (eI .i64) s118.2), (1007, rw' g2214 3 (eI .i64) s2213)]) () (fun _ _ _ h => h) h (gh_frz rfl rfl ⟨⟨_, rfl, .keep rfl⟩, ⟨_, rfl, .keep rfl⟩, ⟨_, rfl, .keep rfl⟩, ⟨_, rfl, .keep rfl⟩, trivial⟩ ⟨⟨_, rfl, objOne ⟨⟨rfl, .keep rfl⟩, trivial⟩⟩, ⟨_, rfl, objRow _⟩, ⟨_, rfl, objRow _⟩, ⟨_, rfl, objRow _⟩, trivial⟩) ?_ ?_
                  · clear h
                    intro j2477 x2478 s2474 g2475 k2476 hj2477 hx2477 h ih2476
                    refine awp_rs ?_
                    refine ro rfl rfl (st_bin (v := dB (decide (((j2477 : Nat) : Int) < ((s2213.length : Nat) : Int)))) rfl rfl rfl) ?_
                    refine rw_nilk ?_
                    refine awp_seq ?_
                    refine awp_ifT rfl (dlt hj2477) ?_
                    refine awp_skip ?_
                    refine nx_then ?_
                    refine awp_seq ?_
                    refine awp_block ?_
                    refine awp_rs ?_
                    refine ro rfl rfl (st_mv rfl) ?_
                    refine ro rfl rfl (st_as rfl) ?_
                    refine rw_nilk ?_
                    refine awp_rs ?_
                    refine ro rfl rfl (st_mv rfl) ?_
                    refine ro rfl rfl (st_mv rfl) ?_
                    refine ro rfl rfl (st_mv rfl) ?_
                    refine ro rfl rfl (st_ixRn sl28 rfl rfl rfl hx2477 rfl) ?_
                    refine ro rfl rfl (st_ldP (v := dI .i64 x2478) ta3 rfl rfl (rowOf_map_get hx2477) rfl) ?_
                    refine ri (N := 8) (rs := [.tmp 3]) rfl rfl rfl rfl Try.func54 rfl rfl rfl (by kernel_rfl) rfl (fun _B => ?_)
                    refine awp_rs ?_
                    refine ro rfl rfl (st_as rfl) ?_
                    refine rw_nilk ?_
                    refine awp_rs ?_
                    refine ro rfl rfl (st_ldP (v := dL 1 (eI .i64) a1) ta28 rfl rfl rfl rfl) ?_
                    refine ro rfl rfl (st_mv rfl) ?_
                    refine ro rfl rfl (st_un (v := dI .i64 (IntKind.wrap .i64 (0 - x2478))) rfl rfl) ?_
                    obtain ⟨y2497, hy2497, h⟩ := bind_some_elim h
                    refine rf rfl rfl (ok_slices_Contains_int_int hy2497) rfl rfl ?_
                    refine ro rfl rfl (st_as rfl) ?_
                    refine rw_nilk ?_
                    refine awp_ret ?_
                    refine ret_in (v := dB y2497) (resV_one (resVs_tmp rfl resVs_nil)) ?_
                    show RW _ _ _ _ _ _ _
                    refine rw_nilk ?_
                    refine awp_ite (b := y2497) rfl (fun p2498 => ?_) (fun p2498 => ?_)
                    · replace h := ite_T p2498 h
                      refine awp_rs ?_
                      refine ro rfl rfl (st_mv rfl) ?_
                      refine ro rfl rfl (st_as rfl) ?_
                      refine rw_nilk ?_
                      refine awp_ret ?_
                      refine rt_block ?_
                      refine rt_then ?_
                      refine rt_then ?_
                      refine rt_block ?_
                      refine rt_then ?_
                      refine ret_in (v := dI .i64 ((j2477 : Nat) : Int)) (resV_one (resVs_tmp rfl resVs_nil)) ?_
                      exact J2387 ((j2477 : Nat) : Int) () _ _ h (gh_frz rfl rfl ⟨⟨_, rfl, .keep rfl⟩, ⟨_, rfl, .keep rfl⟩, ⟨_, rfl, .keep rfl⟩, trivial⟩ ⟨⟨_, rfl, objOne ⟨⟨rfl, .keep rfl⟩, trivial⟩⟩, ⟨_, rfl, objRow _⟩, ⟨_, rfl, objRow _⟩, ⟨_, rfl, objRow _⟩, trivial⟩)
                    · replace h := ite_F p2498 h
                      refine awp_skip ?_
                      refine nx_block ?_
                      refine nx_then ?_
                      refine awp_rw ?_
                      refine ro rfl rfl (st_inc rfl rfl hj2477 hl2477) ?_
                      refine ro rfl rfl (st_mv rfl) ?_
                      refine rw_nil ?_
                      refine nx_then ?_
                      refine awp_gh ?_ (ih2476 () () h)
                      exact (gh_frz rfl rfl ⟨⟨_, rfl, .keep rfl⟩, ⟨_, rfl, .keep rfl⟩, ⟨_, rfl, .keep rfl⟩, ⟨_, rfl, .keep rfl⟩, trivial⟩ ⟨⟨_, rfl, objOne ⟨⟨rfl, .keep rfl⟩, trivial⟩⟩, ⟨_, rfl, objRow _⟩, ⟨_, rfl, objRow _⟩, ⟨_, rfl, objRow _⟩, trivial⟩)
                  · clear h
                    intro s2474 g2475 h
                    refine awp_rs ?_
                    refine ro rfl rfl (st_bin (v := dB (decide (((s2213.length : Nat) : Int) < ((s2213.length : Nat) : Int)))) rfl rfl rfl) ?_
                    refine rw_nilk ?_
                    refine awp_seq ?_
                    refine awp_ifF rfl dge ?_
                    refine awp_exit ?_
                    refine ex_out ?_
                    refine ex_out ?_
                    refine ex_in ?_
                    refine nx_then ?_
                    refine awp_rs ?_
                    refine ro rfl rfl (st_as rfl) ?_
                    refine rw_nilk ?_
                    refine awp_ret ?_
                    refine ret_in (v := dI .i64 (-1 : Int)) (resV_one (resVs_tmp rfl resVs_nil)) ?_
                    exact J2387 (-1 : Int) () _ _ h (gh_frz rfl rfl ⟨⟨_, rfl, .keep rfl⟩, ⟨_, rfl, .keep rfl⟩, ⟨_, rfl, .keep rfl⟩, trivial⟩ ⟨⟨_, rfl, objOne ⟨⟨rfl, .keep rfl⟩, trivial⟩⟩, ⟨_, rfl, objRow _⟩, ⟨_, rfl, objRow _⟩, ⟨_, rfl, objRow _⟩, trivial⟩)
            · clear h
              intro k2215 h J2215
              refine ri (N := 8) (rs := [.tmp 2]) rfl rfl rfl rfl Try.func48 rfl rfl rfl (by kernel_rfl) rfl (fun _B => ?_)
              refine awp_rs ?_
              refine ro rfl rfl (st_as rfl) ?_
              refine rw_nilk ?_
              refine awp_seq ?_
              refine awp_rs ?_
              refine ro rfl rfl (st_mv rfl) ?_
              refine bool_split x122.isEmpty (fun p2499 => ?_) (fun p2499 => ?_)
              · replace h := ite_T p2499 h
                rw [List.isEmpty_iff.1 p2499]
                refine rw_nilcase (t := 3) rfl rfl ?_ (fun wq2500 cq2501 => ?_)
                · refine ro rfl rfl (st_nne rfl rfl un28) ?_
                  refine rw_nilk ?_
                  refine awp_condT rfl ?_
                  refine awp_rs ?_
                  refine ro rfl rfl (st_as rfl) ?_
                  refine rw_nilk ?_
                  refine awp_ret ?_
                  refine rt_then ?_
                  refine ret_in (v := .nilS) (resV_one (resVs_tmp rfl resVs_nil)) ?_
                  exact J2215 ([] : List Int) 0 _ _ h (Gh.trans (gh_nil (r := 1007) (E' := [(3, .ptr 1001 0 0 0), (5, .slice 1006 g119.2 0 s118.2.length), (7, dI .i64 ((j121 : Nat) : Int)), (17, dL 1 (eL 1 (eI .i64)) a0), (18, dI .i64 ((a0.length : Nat) : Int)), (19, dI .i64 ((j121 : Nat) : Int)), (27, .slice 1004 g119.1 0 s118.1.length), (29, .slice 1007 0 0 (([] : List Int).length))]) (L' := [(1001, .row 0 28 [[dL 1 (eI .i64) a1]]), (1004, rw' g119.1 28 (eL 1 (eI .i64)) s118.1), (1006, rw' g119.2 3 (eI .i64) s118.2)]) rfl co3 rfl rfl ⟨⟨_, rfl, .keep _⟩, ⟨_, rfl, .keep _⟩, ⟨_, rfl, .keep _⟩, ⟨_, rfl, .keep _⟩, ⟨_, rfl, .keep _⟩, ⟨_, rfl, .keep _⟩, ⟨_, rfl, .keep _⟩, ⟨_, rfl, .nil⟩, trivial⟩ ⟨⟨_, rfl, .keep _⟩, ⟨_, rfl, .keep _⟩, ⟨_, rfl, .keep _⟩, trivial⟩) (gh_frz rfl rfl ⟨⟨_, rfl, .keep rfl⟩, ⟨_, rfl, .keep rfl⟩, ⟨_, rfl, .keep rfl⟩, ⟨_, rfl, .keep rfl⟩, ⟨_, rfl, .keep rfl⟩, ⟨_, rfl, .keep rfl⟩, ⟨_, rfl, .keep rfl⟩, ⟨_, rfl, .keep rfl⟩, trivial⟩ ⟨⟨_, rfl, objOne ⟨⟨rfl, .keep rfl⟩, trivial⟩⟩, ⟨_, rfl, objRow _⟩, ⟨_, rfl, objRow _⟩, ⟨_, rfl, objRow (List.map (eI .i64) ([] : List Int))⟩, trivial⟩))
                · refine ro rfl rfl (st_rawe rfl rfl un28) ?_
                  refine rw_nilk ?_
                  refine awp_condF rfl ?_
                  refine awp_skip ?_
                  refine nx_then ?_
                  refine awp_rs ?_
                  refine rn (r := 1007) rfl rfl (st_bsl (els := []) sl28 zc3 rfl rfl rfl rfl rfl) rfl ?_
                  refine ro rfl rfl (st_mv rfl) ?_
                  refine rn (r := 0) (L' := [(1001, .row 0 28 [[dL 1 (eI .i64) a1]]), (1004, rw' g119.1 28 (eL 1 (eI .i64)) s118.1), (1006, rw' g119.2 3 (eI .i64) s118.2), (1007, rw' 3 3 (eI .i64) ([] : List Int))]) rfl rfl (st_appR (f := (eI .i64)) (xs := ([] : List Int)) (ys := ([] : List Int)) sl28 zc3 rfl rfl rfl rfl rfl news_dat (by decide)) rfl ?_
                  refine ro rfl rfl (st_as rfl) ?_
                  refine rw_nilk ?_
                  refine awp_ret ?_
                  refine ret_in (v := .slice 1007 3 0 (([] : List Int).length)) (resV_one (resVs_tmp rfl resVs_nil)) ?_
                  exact J2215 ([] : List Int) 3 _ _ h (gh_frz rfl rfl ⟨⟨_, rfl, .keep rfl⟩, ⟨_, rfl, .keep rfl⟩, ⟨_, rfl, .keep rfl⟩, ⟨_, rfl, .keep rfl⟩, ⟨_, rfl, .keep rfl⟩, ⟨_, rfl, .keep rfl⟩, ⟨_, rfl, .keep rfl⟩, ⟨_, rfl, .keep rfl⟩, trivial⟩ ⟨⟨_, rfl, objOne ⟨⟨rfl, .keep rfl⟩, trivial⟩⟩, ⟨_, rfl, objRow _⟩, ⟨_, rfl, objRow _⟩, ⟨_, rfl, objRow (List.map (eI .i64) ([] : List Int))⟩, trivial⟩)
              · replace h := ite_F p2499 h
                refine ro rfl rfl (st_dne rfl rfl p2499 un28) ?_
                refine rw_nilk ?_
                refine awp_condF rfl ?_
                refine awp_skip ?_
                refine nx_then ?_
                refine awp_rs ?_
                refine rn (r := 1007) rfl rfl (st_bsl (els := []) sl28 zc3 rfl rfl rfl rfl rfl) rfl ?_
                refine ro rfl rfl (st_mv rfl) ?_
                obtain ⟨c2502, h⟩ := capN_some h
                refine rn (r := 0) (L' := [(1001, .row 0 28 [[dL 1 (eI .i64) a1]]), (1004, rw' g119.1 28 (eL 1 (eI .i64)) s118.1), (1006, rw' g119.2 3 (eI .i64) s118.2), (1007, rw' 3 3 (eI .i64) (([] : List Int) ++ x122))]) rfl rfl (st_appR (f := (eI .i64)) (xs := ([] : List Int)) (ys := x122) sl28 zc3 rfl rfl rfl rfl rfl news_dat c2502) rfl ?_
                refine ro rfl rfl (st_as rfl) ?_
                refine rw_nilk ?_
                refine awp_ret ?_
                refine ret_in (v := .slice 1007 3 0 ((([] : List Int) ++ x122).length)) (resV_one (resVs_tmp rfl resVs_nil)) ?_
                exact J2215 (([] : List Int) ++ x122) 3 _ _ h (gh_frz rfl rfl ⟨⟨_, rfl, .keep rfl⟩, ⟨_, rfl, .keep rfl⟩, ⟨_, rfl, .keep rfl⟩, ⟨_, rfl, .keep rfl⟩, ⟨_, rfl, .keep rfl⟩, ⟨_, rfl, .keep rfl⟩, ⟨_, rfl, .keep rfl⟩, ⟨_, rfl, .keep rfl⟩, trivial⟩ ⟨⟨_, rfl, objOne ⟨⟨rfl, .keep rfl⟩, trivial⟩⟩, ⟨_, rfl, objRow _⟩, ⟨_, rfl, objRow _⟩, ⟨_, rfl, objRow _⟩, trivial⟩)
      · clear h
        intro s118 g119 h
        refine awp_rs ?_
        refine ro rfl rfl (st_bin (v := dB (decide (((a0.length : Nat) : Int) < ((a0.length : Nat) : Int)))) rfl rfl rfl) ?_
        refine rw_nilk ?_
        refine awp_seq ?_
        refine awp_ifF rfl dge ?_
        refine awp_exit ?_
        refine ex_out ?_
        refine ex_out ?_
        refine ex_in ?_
        refine nx_then ?_
        refine awp_rs ?_
        refine ro rfl rfl (st_mv rfl) ?_
        refine ro rfl rfl (st_mv rfl) ?_
        refine ro rfl rfl (st_as rfl) ?_
        refine ro rfl rfl (st_as rfl) ?_
        refine ro rfl rfl (st_as rfl) ?_
        refine rw_nilk ?_
        refine awp_ret ?_
        injection h with h
        subst h
        exact ret_out (v := .tup [.slice 1004 g119.1 0 s118.1.length, .slice 1006 g119.2 0 s118.2.length, dI .i64 (0 : Int)]) (resV_many (resVs_tmp rfl (resVs_tmp rfl (resVs_tmp rfl resVs_nil)))) (frz_tup ⟨(frzT rfl rfl co28 rfl), (frzT rfl rfl co3 rfl), (.keep rfl), trivial⟩)
  · clear h
    intro k116 h J116
    refine awp_rw ?_
    refine ro rfl rfl (st_mv rfl) ?_
    obtain ⟨y2503, hy2503, h⟩ := bind_some_elim h
    refine rf rfl rfl (ok_proof_cnf hy2503) rfl rfl ?_
    refine ro rfl rfl (st_un (v := dB (!y2503)) rfl rfl) ?_
    refine ro rfl rfl (st_mv rfl) ?_
    refine bool_split (!y2503) (fun p2504 => ?_) (fun p2504 => ?_)
    · replace h := ite_T p2504 h
      rw [p2504]
      refine rz rfl rfl ?_
      refine rz rfl rfl ?_
      refine rz rfl rfl ?_
      refine ro rfl rfl (st_pickT rfl rfl) ?_
      refine rw_nil ?_
      refine nx_then ?_
      exact J116 true () _ _ h (gh_frz rfl rfl ⟨⟨_, rfl, .keep rfl⟩, ⟨_, rfl, .keep rfl⟩, ⟨_, rfl, .keep rfl⟩, ⟨_, rfl, .keep rfl⟩, ⟨_, rfl, .keep rfl⟩, trivial⟩ ⟨⟨_, rfl, objOne ⟨⟨rfl, .keep rfl⟩, trivial⟩⟩, trivial⟩)
    · replace h := ite_F p2504 h
      rw [p2504]
      refine ro rfl rfl (st_ldP (v := dL 1 (eI .i64) a1) ta28 rfl rfl rfl rfl) ?_
      obtain ⟨y2505, hy2505, h⟩ := bind_some_elim h
      refine rf rfl rfl (ok_proof_normal hy2505) rfl rfl ?_
      refine ro rfl rfl (st_un (v := dB (!y2505)) rfl rfl) ?_
      refine ro rfl rfl (st_pickF rfl rfl) ?_
      refine rw_nil ?_
      refine nx_then ?_
      exact J116 (!y2505) () _ _ h (gh_frz rfl rfl ⟨⟨_, rfl, .keep rfl⟩, ⟨_, rfl, .keep rfl⟩, ⟨_, rfl, .keep rfl⟩, ⟨_, rfl, .keep rfl⟩, ⟨_, rfl, .keep rfl⟩, trivial⟩ ⟨⟨_, rfl, objOne ⟨⟨rfl, .keep rfl⟩, trivial⟩⟩, trivial⟩)

theorem ok_proof_fits {a0 : S_api_Proof} {r : Bool} (h : F_proof_fits a0 = some r) : Fn Try.prog 46 [.agg [dB a0.Cubes, dL 5 e_S_api_Line a0.Lines]] (dB r) := by
  unfold F_proof_fits at h
  refine Fn.of_body (N := 18) (rs := [.tmp 2]) Try.func46 (c := _) rfl rfl rfl (by kernel_rfl) (Nat.le_of_ble_eq_true rfl) (fun _B => ?_)
  refine awp_rs ?_
  refine rn (r := 1001) rfl rfl (st_box rfl rfl rfl co25 rfl rfl) rfl ?_
  refine ro rfl rfl (st_as rfl) ?_
  refine rw_nilk ?_
  refine awp_rs ?_
  refine ro rfl rfl (st_faP fo25_0 rfl) ?_
  refine ro rfl rfl (st_ldP (v := dB a0.Cubes) ta4 rfl rfl rfl rfl) ?_
  refine ro rfl rfl (st_un (v := dB (!a0.Cubes)) rfl rfl) ?_
  refine ro rfl rfl (st_mv rfl) ?_
  refine bool_split (!a0.Cubes) (fun p103 => ?_) (fun p103 => ?_)
  · replace h := ite_T p103 h
    rw [p103]
    refine ro rfl rfl (st_faP fo25_1 rfl) ?_
    refine ro rfl rfl (st_ldP (v := dL 5 e_S_api_Line a0.Lines) ta23 rfl rfl rfl rfl) ?_
    refine ro rfl rfl (st_lenD rfl un23) ?_
    refine ro rfl rfl (st_bin (v := dB (decide (((a0.Lines.length : Nat) : Int) > (0 : Int)))) rfl rfl rfl) ?_
    refine ro rfl rfl (st_pickT rfl rfl) ?_
    refine ro rfl rfl (st_mv rfl) ?_
    refine bool_split (decide (((a0.Lines.length : Nat) : Int) > (0 : Int))) (fun p104 => ?_) (fun p104 => ?_)
    · replace h := ite_T p104 h
      rw [p104]
      refine ro rfl rfl (st_faP fo25_1 rfl) ?_
      refine ro rfl rfl (st_ldP (v := dL 5 e_S_api_Line a0.Lines) ta23 rfl rfl rfl rfl) ?_
      refine ro rfl rfl (st_lenD rfl un23) ?_
      refine ro rfl rfl (st_bin (v := dB (decide (((a0.Lines.length : Nat) : Int) ≤ (1000000 : Int)))) rfl rfl rfl) ?_
      refine ro rfl rfl (st_pickT rfl rfl) ?_
      refine ro rfl rfl (st_as rfl) ?_
      refine rw_nilk ?_
      refine awp_ret ?_
      injection h with h
      subst h
      exact ret_out (v := dB (decide (((a0.Lines.length : Nat) : Int) ≤ (1000000 : Int)))) (resV_one (resVs_tmp rfl resVs_nil)) (.keep rfl)
    · replace h := ite_F p104 h
      rw [p104]
      refine rz rfl rfl ?_
      refine rz rfl rfl ?_
      refine rz rfl rfl ?_
      refine rz rfl rfl ?_
      refine ro rfl rfl (st_pickF rfl rfl) ?_
      refine ro rfl rfl (st_as rfl) ?_
      refine rw_nilk ?_
      refine awp_ret ?_
      injection h with h
      subst h
      exact ret_out (v := dB false) (resV_one (resVs_tmp rfl resVs_nil)) (.keep rfl)
  · replace h := ite_F p103 h
    rw [p103]
    refine rz rfl rfl ?_
    refine rz rfl rfl ?_
    refine rz rfl rfl ?_
    refine rz rfl rfl ?_
    refine ro rfl rfl (st_pickF rfl rfl) ?_
    refine ro rfl rfl (st_mv rfl) ?_
    refine rz rfl rfl ?_
    refine rz rfl rfl ?_
    refine rz rfl rfl ?_
    refine rz rfl rfl ?_
    refine ro rfl rfl (st_pickF rfl rfl) ?_
    refine ro rfl rfl (st_as rfl) ?_
    refine rw_nilk ?_
    refine awp_ret ?_
    injection h with h
    subst h
    exact ret_out (v := dB false) (resV_one (resVs_tmp rfl resVs_nil)) (.keep rfl)

theorem ok_proof_resolvent {a0 : (List Int)} {a1 : (List Int)} {a2 : Int} {r : ((List Int) × Bool)} (h : F_proof_resolvent a0 a1 a2 = some r) : Fn Try.prog 60 [dL 1 (eI .i64) a0, dL 1 (eI .i64) a1, dI .i64 a2] (.tup [dL 1 (eI .i64) r.1, dB r.2]) := by
  unfold F_proof_resolvent at h
  refine Fn.of_body (N := 117) (rs := [.tmp 6, .tmp 7]) Try.func60 (c := _) rfl rfl rfl (by kernel_rfl) (Nat.le_of_ble_eq_true rfl) (fun _B => ?_)
  refine awp_rs ?_
  refine ro rfl rfl (st_as rfl) ?_
  refine ro rfl rfl (st_as rfl) ?_
  refine rw_nilk ?_
  refine awp_seq ?_
  refine awp_jn (fun (s117 : Bool) (g118 : Unit) => [(0, dL 1 (eI .i64) a0), (1, dL 1 (eI .i64) a1), (2, dI .i64 a2), (23, dB s117)]) (fun (s117 : Bool) (g118 : Unit) => []) h ?_ ?_
  · clear h
    intro s117 g118 h
    refine awp_ite (b := s117) rfl (fun p120 => ?_) (fun p120 => ?_)
    · replace h := ite_T p120 h
      refine awp_rs ?_
      refine ro rfl rfl (st_as rfl) ?_
      refine ro rfl rfl (st_as rfl) ?_
      refine rw_nilk ?_
      refine awp_ret ?_
      refine rt_then ?_
      injection h with h
      subst h
      exact ret_out (v := .tup [.nilS, dB false]) (resV_many (resVs_tmp rfl (resVs_tmp rfl resVs_nil))) (frz_tup ⟨(.nilS _), (.keep rfl), trivial⟩)
    · replace h := ite_F p120 h
      refine awp_skip ?_
      refine nx_then ?_
      refine awp_rs ?_
      refine ro rfl rfl (st_mv rfl) ?_
      refine ro rfl rfl (st_lenD rfl un28) ?_
      refine ro rfl rfl (st_mv rfl) ?_
      refine ro rfl rfl (st_lenD rfl un28) ?_
      refine ro rfl rfl (st_bin (v := dI .i64 (IntKind.wrap .i64 (((a0.length : Nat) : Int) + ((a1.length : Nat) : Int)))) rfl rfl rfl) ?_
      refine ro rfl rfl (st_bin (v := dI .i64 (IntKind.wrap .i64 ((IntKind.wrap .i64 (((a0.length : Nat) : Int) + ((a1.length : Nat) : Int))) - (2 : Int)))) rfl rfl rfl) ?_
      obtain ⟨c121, h⟩ := okI_some h
      refine rn (r := 1001) rfl rfl (st_mk0I (f := (eI .i64)) sl28 zc3 rfl rfl rfl rfl rfl c121) rfl ?_
      refine ro rfl rfl (st_as rfl) ?_
      refine rw_nilk ?_
      refine awp_seq ?_
      refine awp_block ?_
      refine awp_while (fun (s122 : ((List Int) × (List Int) × (List Int))) (g123 : Nat) => [(0, dL 1 (eI .i64) s122.1), (1, dL 1 (eI .i64) s122.2.1), (2, dI .i64 a2), (8, .slice 1001 g123 0 s122.2.2.length)]) (fun (s122 : ((List Int) × (List Int) × (List Int))) (g123 : Nat) => [(1001, rw' g123 3 (eI .i64) s122.2.2)]) 1 (fun _ _ _ h => h) h (gh_frz rfl rfl ⟨⟨_, rfl, .keep rfl⟩, ⟨_, rfl, .keep rfl⟩, ⟨_, rfl, .keep rfl⟩, ⟨_, rfl, .keep rfl⟩, trivial⟩ ⟨⟨_, rfl, objRow (List.map (eI .i64) ([] : List Int))⟩, trivial⟩) ?_
      clear h
      intro s122 g123 k124 h ih124
      refine awp_seq ?_
      refine awp_rs ?_
      refine ro rfl rfl (st_mv rfl) ?_
      refine ro rfl rfl (st_lenD rfl un28) ?_
      refine ro rfl rfl (st_mv rfl) ?_
      refine ro rfl rfl (st_lenD rfl un28) ?_
      refine ro rfl rfl (st_bin (v := dI .i64 (IntKind.wrap .i64 (((s122.1.length : Nat) : Int) + ((s122.2.1.length : Nat) : Int)))) rfl rfl rfl) ?_
      refine ro rfl rfl (st_bin (v := dB (decide ((IntKind.wrap .i64 (((s122.1.length : Nat) : Int) + ((s122.2.1.length : Nat) : Int))) > (0 : Int)))) rfl rfl rfl) ?_
      refine rw_nilk ?_
      refine awp_ite (b := (decide ((IntKind.wrap .i64 (((s122.1.length : Nat) : Int) + ((s122.2.1.length : Nat) : Int))) > (0 : Int)))) rfl (fun p219 => ?_) (fun p219 => ?_)
      · replace h := ite_T p219 h
        refine awp_skip ?_
        refine nx_then ?_
        refine awp_block ?_
        refine awp_block ?_
        refine awp_jn (fun (s226 : Bool) (g227 : Unit) => [(0, dL 1 (eI .i64) s122.1), (1, dL 1 (eI .i64) s122.2.1), (2, dI .i64 a2), (8, .slice 1001 g123 0 s122.2.2.length), (37, dB s226)]) (fun (s226 : Bool) (g227 : Unit) => [(1001, rw' g123 3 (eI .i64) s122.2.2)]) h ?_ ?_
        · clear h
          intro s226 g227 h
          refine awp_ite (b := s226) rfl (fun p229 => ?_) (fun p229 => ?_)
          · replace h := ite_T p229 h
            refine awp_rd hmix ?_
            refine do_ rfl rfl (st_mv rfl) rfl rfl rfl ?_
            refine do_ rfl rfl (st_mv rfl) rfl rfl rfl ?_
            obtain ⟨x230, h0230, hx230, h⟩ := getI_some h
            refine do_ rfl rfl (st_ixD sl28 rfl rfl h0230 hx230) rfl rfl rfl ?_
            refine do_ rfl rfl (st_ldD (v := dI .i64 x230) ta3 rfl rfl) rfl rfl rfl ?_
            refine dn (r := 1002) rfl rfl (st_bsl (els := [[dI .i64 x230]]) sl28 zc3 rfl rfl rfl rfl rfl) rfl rfl rfl rfl ?_
            obtain ⟨c231, h⟩ := capN_some h
            refine dn (r := 0) (L' := [(1001, rw' (g123 + 2) 3 (eI .i64) (s122.2.2 ++ [x230])), (1002, .row 1 3 [[dI .i64 x230]])]) rfl rfl (st_appR (f := (eI .i64)) (xs := s122.2.2) (ys := [x230]) sl28 zc3 rfl rfl rfl rfl rfl (news_one (a := x230) rfl rfl) c231) rfl rfl rfl rfl ?_
            refine do_ rfl rfl (st_mv rfl) rfl rfl rfl ?_
            obtain ⟨c232, h⟩ := okI_some h
            refine do_ rfl rfl (st_slLo sl28 rfl rfl c232.1 c232.2) rfl rfl rfl ?_
            refine do_ rfl rfl (st_as rfl) rfl rfl rfl ?_
            refine do_ rfl rfl (st_as rfl) rfl rfl rfl ?_
            refine rd_nil (by kernel_rfl) ?_
            refine nx_block ?_
            refine nx_block ?_
            refine nx_then ?_
            refine awp_gh ?_ (ih124 ((s122.1.drop (1 : Int).toNat), s122.2.1, (s122.2.2 ++ [x230])) (g123 + 2) h)
            exact (gh_frz rfl rfl ⟨⟨_, rfl, .keep rfl⟩, ⟨_, rfl, .keep rfl⟩, ⟨_, rfl, .keep rfl⟩, ⟨_, rfl, .keep rfl⟩, trivial⟩ ⟨⟨_, rfl, objRow _⟩, trivial⟩)
          · replace h := ite_F p229 h
            refine awp_jn (fun (s238 : Bool) (g239 : Unit) => [(0, dL 1 (eI .i64) s122.1), (1, dL 1 (eI .i64) s122.2.1), (2, dI .i64 a2), (8, .slice 1001 g123 0 s122.2.2.length), (65, dB s238)]) (fun (s238 : Bool) (g239 : Unit) => [(1001, rw' g123 3 (eI .i64) s122.2.2)]) h ?_ ?_
            · clear h
              intro s238 g239 h
              refine awp_ite (b := s238) rfl (fun p241 => ?_) (fun p241 => ?_)
              · replace h := ite_T p241 h
                refine awp_rd hmix ?_
                refine do_ rfl rfl (st_mv rfl) rfl rfl rfl ?_
                refine do_ rfl rfl (st_mv rfl) rfl rfl rfl ?_
                obtain ⟨x242, h0242, hx242, h⟩ := getI_some h
                refine do_ rfl rfl (st_ixD sl28 rfl rfl h0242 hx242) rfl rfl rfl ?_
                refine do_ rfl rfl (st_ldD (v := dI .i64 x242) ta3 rfl rfl) rfl rfl rfl ?_
                refine dn (r := 1002) rfl rfl (st_bsl (els := [[dI .i64 x242]]) sl28 zc3 rfl rfl rfl rfl rfl) rfl rfl rfl rfl ?_
                obtain ⟨c243, h⟩ := capN_some h
                refine dn (r := 0) (L' := [(1001, rw' (g123 + 2) 3 (eI .i64) (s122.2.2 ++ [x242])), (1002, .row 1 3 [[dI .i64 x242]])]) rfl rfl (st_appR (f := (eI .i64)) (xs := s122.2.2) (ys := [x242]) sl28 zc3 rfl rfl rfl rfl rfl (news_one (a := x242) rfl rfl) c243) rfl rfl rfl rfl ?_
                refine do_ rfl rfl (st_mv rfl) rfl rfl rfl ?_
                obtain ⟨c244, h⟩ := okI_some h
                refine do_ rfl rfl (st_slLo sl28 rfl rfl c244.1 c244.2) rfl rfl rfl ?_
                refine do_ rfl rfl (st_as rfl) rfl rfl rfl ?_
                refine do_ rfl rfl (st_as rfl) rfl rfl rfl ?_
                refine rd_nil (by kernel_rfl) ?_
                refine nx_block ?_
                refine nx_block ?_
                refine nx_then ?_
                refine awp_gh ?_ (ih124 (s122.1, (s122.2.1.drop (1 : Int).toNat), (s122.2.2 ++ [x242])) (g123 + 2) h)
                exact (gh_frz rfl rfl ⟨⟨_, rfl, .keep rfl⟩, ⟨_, rfl, .keep rfl⟩, ⟨_, rfl, .keep rfl⟩, ⟨_, rfl, .keep rfl⟩, trivial⟩ ⟨⟨_, rfl, objRow _⟩, trivial⟩)
              · replace h := ite_F p241 h
                refine awp_rds hmix ?_
                refine do_ rfl rfl (st_mv rfl) rfl rfl rfl ?_
                obtain ⟨x245, h0245, hx245, h⟩ := getI_some h
                refine do_ rfl rfl (st_ixD sl28 rfl rfl h0245 hx245) rfl rfl rfl ?_
                refine do_ rfl rfl (st_ldD (v := dI .i64 x245) ta3 rfl rfl) rfl rfl rfl ?_
                refine do_ rfl rfl (st_mv rfl) rfl rfl rfl ?_
                obtain ⟨x246, h0246, hx246, h⟩ := getI_some h
                refine do_ rfl rfl (st_ixD sl28 rfl rfl h0246 hx246) rfl rfl rfl ?_
                refine do_ rfl rfl (st_ldD (v := dI .i64 x246) ta3 rfl rfl) rfl rfl rfl ?_
                refine do_ rfl rfl (st_bin (v := dB (x245 == x246)) rfl rfl rfl) rfl rfl rfl ?_
                refine do_ rfl rfl (st_as rfl) rfl rfl rfl ?_
                refine rd_nil (by kernel_rfl) ?_
                refine awp_ite (b := (x245 == x246)) rfl (fun p247 => ?_) (fun p247 => ?_)
                · replace h := ite_T p247 h
                  refine awp_rd hmix ?_
                  refine do_ rfl rfl (st_mv rfl) rfl rfl rfl ?_
                  refine do_ rfl rfl (st_mv rfl) rfl rfl rfl ?_
                  refine do_ rfl rfl (st_ixD sl28 rfl rfl h0245 hx245) rfl rfl rfl ?_
                  refine do_ rfl rfl (st_ldD (v := dI .i64 x245) ta3 rfl rfl) rfl rfl rfl ?_
                  refine dn (r := 1002) rfl rfl (st_bsl (els := [[dI .i64 x245]]) sl28 zc3 rfl rfl rfl rfl rfl) rfl rfl rfl rfl ?_
                  obtain ⟨c248, h⟩ := capN_some h
                  refine dn (r := 0) (L' := [(1001, rw' (g123 + 2) 3 (eI .i64) (s122.2.2 ++ [x245])), (1002, .row 1 3 [[dI .i64 x245]])]) rfl rfl (st_appR (f := (eI .i64)) (xs := s122.2.2) (ys := [x245]) sl28 zc3 rfl rfl rfl rfl rfl (news_one (a := x245) rfl rfl) c248) rfl rfl rfl rfl ?_
                  refine do_ rfl rfl (st_mv rfl) rfl rfl rfl ?_
                  obtain ⟨c249, h⟩ := okI_some h
                  refine do_ rfl rfl (st_slLo sl28 rfl rfl c249.1 c249.2) rfl rfl rfl ?_
                  refine do_ rfl rfl (st_mv rfl) rfl rfl rfl ?_
                  obtain ⟨c250, h⟩ := okI_some h
                  refine do_ rfl rfl (st_slLo sl28 rfl rfl c250.1 c250.2) rfl rfl rfl ?_
                  refine do_ rfl rfl (st_as rfl) rfl rfl rfl ?_
                  refine do_ rfl rfl (st_as rfl) rfl rfl rfl ?_
                  refine do_ rfl rfl (st_as rfl) rfl rfl rfl ?_
                  refine rd_nil (by kernel_rfl) ?_
                  refine nx_block ?_
                  refine nx_block ?_
                  refine nx_then ?_
                  refine awp_gh ?_ (ih124 ((s122.1.drop (1 : Int).toNat), (s122.2.1.drop (1 : Int).toNat), (s122.2.2 ++ [x245])) (g123 + 2) h)
                  exact (gh_frz rfl rfl ⟨⟨_, rfl, .keep rfl⟩, ⟨_, rfl, .keep rfl⟩, ⟨_, rfl, .keep rfl⟩, ⟨_, rfl, .keep rfl⟩, trivial⟩ ⟨⟨_, rfl, objRow _⟩, trivial⟩)
                · replace h := ite_F p247 h
                  refine awp_rs ?_
                  refine ro rfl rfl (st_mv rfl) ?_
                  refine ro rfl rfl (st_ixD sl28 rfl rfl h0245 hx245) ?_
                  refine ro rfl rfl (st_ldD (v := dI .i64 x245) ta3 rfl rfl) ?_
                  refine ro rfl rfl (st_mv rfl) ?_
                  refine ro rfl rfl (st_bin (v := dB (x245 == a2)) rfl rfl rfl) ?_
                  refine ro rfl rfl (st_as rfl) ?_
                  refine rw_nilk ?_
                  refine awp_ite (b := (x245 == a2)) rfl (fun p251 => ?_) (fun p251 => ?_)
                  · replace h := ite_T p251 h
                    refine awp_rd hmix ?_
                    refine do_ rfl rfl (st_mv rfl) rfl rfl rfl ?_
                    obtain ⟨c252, h⟩ := okI_some h
                    refine do_ rfl rfl (st_slLo sl28 rfl rfl c252.1 c252.2) rfl rfl rfl ?_
                    refine do_ rfl rfl (st_mv rfl) rfl rfl rfl ?_
                    obtain ⟨c253, h⟩ := okI_some h
                    refine do_ rfl rfl (st_slLo sl28 rfl rfl c253.1 c253.2) rfl rfl rfl ?_
                    refine do_ rfl rfl (st_as rfl) rfl rfl rfl ?_
                    refine do_ rfl rfl (st_as rfl) rfl rfl rfl ?_
                    refine rd_nil (by kernel_rfl) ?_
                    refine nx_block ?_
                    refine nx_block ?_
                    refine nx_then ?_
                    refine awp_gh ?_ (ih124 ((s122.1.drop (1 : Int).toNat), (s122.2.1.drop (1 : Int).toNat), s122.2.2) g123 h)
                    exact (gh_frz rfl rfl ⟨⟨_, rfl, .keep rfl⟩, ⟨_, rfl, .keep rfl⟩, ⟨_, rfl, .keep rfl⟩, ⟨_, rfl, .keep rfl⟩, trivial⟩ ⟨⟨_, rfl, objRow _⟩, trivial⟩)
                  · replace h := ite_F p251 h
                    refine awp_rs ?_
                    refine ro rfl rfl (st_as rfl) ?_
                    refine ro rfl rfl (st_as rfl) ?_
                    refine rw_nilk ?_
                    refine awp_ret ?_
                    refine rt_block ?_
                    refine rt_block ?_
                    refine rt_then ?_
                    refine rt_block ?_
                    refine rt_then ?_
                    injection h with h
                    subst h
                    exact ret_out (v := .tup [.nilS, dB false]) (resV_many (resVs_tmp rfl (resVs_tmp rfl resVs_nil))) (frz_tup ⟨(.nilS _), (.keep rfl), trivial⟩)
            · clear h
              intro k240 h J240
              refine awp_rd hmix ?_
              refine do_ rfl rfl (st_mv rfl) rfl rfl rfl ?_
              refine do_ rfl rfl (st_lenD rfl un28) rfl rfl rfl ?_
              refine do_ rfl rfl (st_bin (v := dB (((s122.1.length : Nat) : Int) == (0 : Int))) rfl rfl rfl) rfl rfl rfl ?_
              refine do_ rfl rfl (st_mv rfl) rfl rfl rfl ?_
              refine bool_split (((s122.1.length : Nat) : Int) == (0 : Int)) (fun p254 => ?_) (fun p254 => ?_)
              · replace h := ite_T p254 h
                rw [p254]
                refine dz rfl rfl ?_
                refine dz rfl rfl ?_
                refine dz rfl rfl ?_
                refine dz rfl rfl ?_
                refine dz rfl rfl ?_
                refine dz rfl rfl ?_
                refine dz rfl rfl ?_
                refine dz rfl rfl ?_
                refine dz rfl rfl ?_
                refine do_ rfl rfl (st_pickT rfl rfl) rfl rfl rfl ?_
                refine do_ rfl rfl (st_as rfl) rfl rfl rfl ?_
                refine rd_nil (by kernel_rfl) ?_
                refine nx_then ?_
                exact J240 true () _ _ h (gh_frz rfl rfl ⟨⟨_, rfl, .keep rfl⟩, ⟨_, rfl, .keep rfl⟩, ⟨_, rfl, .keep rfl⟩, ⟨_, rfl, .keep rfl⟩, ⟨_, rfl, .keep rfl⟩, trivial⟩ ⟨⟨_, rfl, objRow _⟩, trivial⟩)
              · replace h := ite_F p254 h
                rw [p254]
                refine do_ rfl rfl (st_mv rfl) rfl rfl rfl ?_
                obtain ⟨x255, h0255, hx255, h⟩ := getI_some h
                refine do_ rfl rfl (st_ixD sl28 rfl rfl h0255 hx255) rfl rfl rfl ?_
                refine do_ rfl rfl (st_ldD (v := dI .i64 x255) ta3 rfl rfl) rfl rfl rfl ?_
                obtain ⟨y256, hy256, h⟩ := bind_some_elim h
                refine df rfl rfl (ok_proof_abs hy256) rfl rfl ?_
                refine do_ rfl rfl (st_mv rfl) rfl rfl rfl ?_
                obtain ⟨x257, h0257, hx257, h⟩ := getI_some h
                refine do_ rfl rfl (st_ixD sl28 rfl rfl h0257 hx257) rfl rfl rfl ?_
                refine do_ rfl rfl (st_ldD (v := dI .i64 x257) ta3 rfl rfl) rfl rfl rfl ?_
                obtain ⟨y258, hy258, h⟩ := bind_some_elim h
                refine df rfl rfl (ok_proof_abs hy258) rfl rfl ?_
                refine do_ rfl rfl (st_bin (v := dB (decide (y256 < y258))) rfl rfl rfl) rfl rfl rfl ?_
                refine do_ rfl rfl (st_pickF rfl rfl) rfl rfl rfl ?_
                refine do_ rfl rfl (st_as rfl) rfl rfl rfl ?_
                refine rd_nil (by kernel_rfl) ?_
                refine nx_then ?_
                exact J240 (decide (y256 < y258)) () _ _ h (gh_frz rfl rfl ⟨⟨_, rfl, .keep rfl⟩, ⟨_, rfl, .keep rfl⟩, ⟨_, rfl, .keep rfl⟩, ⟨_, rfl, .keep rfl⟩, ⟨_, rfl, .keep rfl⟩, trivial⟩ ⟨⟨_, rfl, objRow _⟩, trivial⟩)
        · clear h
          intro k228 h J228
          refine awp_rd hmix ?_
          refine do_ rfl rfl (st_mv rfl) rfl rfl rfl ?_
          refine do_ rfl rfl (st_lenD rfl un28) rfl rfl rfl ?_
          refine do_ rfl rfl (st_bin (v := dB (((s122.2.1.length : Nat) : Int) == (0 : Int))) rfl rfl rfl) rfl rfl rfl ?_
          refine do_ rfl rfl (st_mv rfl) rfl rfl rfl ?_
          refine bool_split (((s122.2.1.length : Nat) : Int) == (0 : Int)) (fun p259 => ?_) (fun p259 => ?_)
          · replace h := ite_T p259 h
            rw [p259]
            refine dz rfl rfl ?_
            refine dz rfl rfl ?_
            refine dz rfl rfl ?_
            refine dz rfl rfl ?_
            refine dz rfl rfl ?_
            refine dz rfl rfl ?_
            refine dz rfl rfl ?_
            refine dz rfl rfl ?_
            refine dz rfl rfl ?_
            refine dz rfl rfl ?_
            refine dz rfl rfl ?_
            refine dz rfl rfl ?_
            refine dz rfl rfl ?_
            refine dz rfl rfl ?_
            refine do_ rfl rfl (st_pickT rfl rfl) rfl rfl rfl ?_
            refine do_ rfl rfl (st_as rfl) rfl rfl rfl ?_
            refine rd_nil (by kernel_rfl) ?_
            refine nx_then ?_
            exact J228 true () _ _ h (gh_frz rfl rfl ⟨⟨_, rfl, .keep rfl⟩, ⟨_, rfl, .keep rfl⟩, ⟨_, rfl, .keep rfl⟩, ⟨_, rfl, .keep rfl⟩, ⟨_, rfl, .keep rfl⟩, trivial⟩ ⟨⟨_, rfl, objRow _⟩, trivial⟩)
          · replace h := ite_F p259 h
            rw [p259]
            refine do_ rfl rfl (st_mv rfl) rfl rfl rfl ?_
            refine do_ rfl rfl (st_lenD rfl un28) rfl rfl rfl ?_
            refine do_ rfl rfl (st_bin (v := dB (decide (((s122.1.length : Nat) : Int) > (0 : Int)))) rfl rfl rfl) rfl rfl rfl ?_
            refine do_ rfl rfl (st_mv rfl) rfl rfl rfl ?_
            refine bool_split (decide (((s122.1.length : Nat) : Int) > (0 : Int))) (fun p260 => ?_) (fun p260 => ?_)
            · replace h := ite_T p260 h
              rw [p260]
              refine do_ rfl rfl (st_mv rfl) rfl rfl rfl ?_
              obtain ⟨x261, h0261, hx261, h⟩ := getI_some h
              refine do_ rfl rfl (st_ixD sl28 rfl rfl h0261 hx261) rfl rfl rfl ?_
              refine do_ rfl rfl (st_ldD (v := dI .i64 x261) ta3 rfl rfl) rfl rfl rfl ?_
              obtain ⟨y262, hy262, h⟩ := bind_some_elim h
              refine df rfl rfl (ok_proof_abs hy262) rfl rfl ?_
              refine do_ rfl rfl (st_mv rfl) rfl rfl rfl ?_
              obtain ⟨x263, h0263, hx263, h⟩ := getI_some h
              refine do_ rfl rfl (st_ixD sl28 rfl rfl h0263 hx263) rfl rfl rfl ?_
              refine do_ rfl rfl (st_ldD (v := dI .i64 x263) ta3 rfl rfl) rfl rfl rfl ?_
              obtain ⟨y264, hy264, h⟩ := bind_some_elim h
              refine df rfl rfl (ok_proof_abs hy264) rfl rfl ?_
              refine do_ rfl rfl (st_bin (v := dB (decide (y262 < y264))) rfl rfl rfl) rfl rfl rfl ?_
              refine do_ rfl rfl (st_pickT rfl rfl) rfl rfl rfl ?_
              refine do_ rfl rfl (st_pickF rfl rfl) rfl rfl rfl ?_
              refine do_ rfl rfl (st_as rfl) rfl rfl rfl ?_
              refine rd_nil (by kernel_rfl) ?_
              refine nx_then ?_
              exact J228 (decide (y262 < y264)) () _ _ h (gh_frz rfl rfl ⟨⟨_, rfl, .keep rfl⟩, ⟨_, rfl, .keep rfl⟩, ⟨_, rfl, .keep rfl⟩, ⟨_, rfl, .keep rfl⟩, ⟨_, rfl, .keep rfl⟩, trivial⟩ ⟨⟨_, rfl, objRow _⟩, trivial⟩)
            · replace h := ite_F p260 h
              rw [p260]
              refine dz rfl rfl ?_
              refine dz rfl rfl ?_
              refine dz rfl rfl ?_
              refine dz rfl rfl ?_
              refine dz rfl rfl ?_
              refine dz rfl rfl ?_
              refine dz rfl rfl ?_
              refine dz rfl rfl ?_
              refine dz rfl rfl ?_
              refine do_ rfl rfl (st_pickF rfl rfl) rfl rfl rfl ?_
              refine do_ rfl rfl (st_pickF rfl rfl) rfl rfl rfl ?_
              refine do_ rfl rfl (st_as rfl) rfl rfl rfl ?_
              refine rd_nil (by kernel_rfl) ?_
              refine nx_then ?_
              exact J228 false () _ _ h (gh_frz rfl rfl ⟨⟨_, rfl, .keep rfl⟩, ⟨_, rfl, .keep rfl⟩, ⟨_, rfl, .keep rfl⟩, ⟨_, rfl, .keep rfl⟩, ⟨_, rfl, .keep rfl⟩, trivial⟩ ⟨⟨_, rfl, objRow _⟩, trivial⟩)
      · replace h := ite_F p219 h
        refine awp_exit ?_
        refine ex_out ?_
        refine ex_out ?_
        refine ex_in ?_
        refine nx_then ?_
        refine awp_rs ?_
        refine ro rfl rfl (st_mv rfl) ?_
        refine ro rfl rfl (st_as rfl) ?_
        refine ro rfl rfl (st_as rfl) ?_
        refine rw_nilk ?_
        refine awp_ret ?_
        injection h with h
        subst h
        exact ret_out (v := .tup [.slice 1001 g123 0 s122.2.2.length, dB true]) (resV_many (resVs_tmp rfl (resVs_tmp rfl resVs_nil))) (frz_tup ⟨(frzT rfl rfl co3 rfl), (.keep rfl), trivial⟩)
  · clear h
    intro k119 h J119
    refine awp_rw ?_
    refine ro rfl rfl (st_mv rfl) ?_
    refine ro rfl rfl (st_bin (v := dB (decide (a2 < (1 : Int)))) rfl rfl rfl) ?_
    refine ro rfl rfl (st_mv rfl) ?_
    refine bool_split (decide (a2 < (1 : Int))) (fun p265 => ?_) (fun p265 => ?_)
    · replace h := ite_T p265 h
      rw [p265]
      refine rz rfl rfl ?_
      refine rz rfl rfl ?_
      refine rz rfl rfl ?_
      refine rz rfl rfl ?_
      refine ro rfl rfl (st_pickT rfl rfl) ?_
      refine ro rfl rfl (st_mv rfl) ?_
      refine rz rfl rfl ?_
      refine rz rfl rfl ?_
      refine rz rfl rfl ?_
      refine rz rfl rfl ?_
      refine rz rfl rfl ?_
      refine ro rfl rfl (st_pickT rfl rfl) ?_
      refine rw_nil ?_
      refine nx_then ?_
      exact J119 true () _ _ h (gh_frz rfl rfl ⟨⟨_, rfl, .keep rfl⟩, ⟨_, rfl, .keep rfl⟩, ⟨_, rfl, .keep rfl⟩, ⟨_, rfl, .keep rfl⟩, trivial⟩ trivial)
    · replace h := ite_F p265 h
      rw [p265]
      refine ro rfl rfl (st_mv rfl) ?_
      refine ro rfl rfl (st_mv rfl) ?_
      obtain ⟨y266, hy266, h⟩ := bind_some_elim h
      refine rf rfl rfl (ok_slices_Contains_int_int hy266) rfl rfl ?_
      refine ro rfl rfl (st_un (v := dB (!y266)) rfl rfl) ?_
      refine ro rfl rfl (st_pickF rfl rfl) ?_
      refine ro rfl rfl (st_mv rfl) ?_
      refine bool_split (!y266) (fun p267 => ?_) (fun p267 => ?_)
      · replace h := ite_T p267 h
        rw [p267]
        refine rz rfl rfl ?_
        refine rz rfl rfl ?_
        refine rz rfl rfl ?_
        refine rz rfl rfl ?_
        refine rz rfl rfl ?_
        refine ro rfl rfl (st_pickT rfl rfl) ?_
        refine rw_nil ?_
        refine nx_then ?_
        exact J119 true () _ _ h (gh_frz rfl rfl ⟨⟨_, rfl, .keep rfl⟩, ⟨_, rfl, .keep rfl⟩, ⟨_, rfl, .keep rfl⟩, ⟨_, rfl, .keep rfl⟩, trivial⟩ trivial)
      · replace h := ite_F p267 h
        rw [p267]
        refine ro rfl rfl (st_mv rfl) ?_
        refine ro rfl rfl (st_mv rfl) ?_
        refine ro rfl rfl (st_un (v := dI .i64 (IntKind.wrap .i64 (0 - a2))) rfl rfl) ?_
        obtain ⟨y268, hy268, h⟩ := bind_some_elim h
        refine rf rfl rfl (ok_slices_Contains_int_int hy268) rfl rfl ?_
        refine ro rfl rfl (st_un (v := dB (!y268)) rfl rfl) ?_
        refine ro rfl rfl (st_pickF rfl rfl) ?_
        refine rw_nil ?_
        refine nx_then ?_
        exact J119 (!y268) () _ _ h (gh_frz rfl rfl ⟨⟨_, rfl, .keep rfl⟩, ⟨_, rfl, .keep rfl⟩, ⟨_, rfl, .keep rfl⟩, ⟨_, rfl, .keep rfl⟩, trivial⟩ trivial)

theorem ok_slices_Equal_int_int {a0 : (List Int)} {a1 : (List Int)} {r : Bool} (h : F_slices_Equal_int_int a0 a1 = some r) : Fn Try.prog 78 [dL 1 (eI .i64) a0, dL 1 (eI .i64) a1] (dB r) := by
  unfold F_slices_Equal_int_int at h
  refine Fn.of_body (N := 26) (rs := [.tmp 4]) Try.func78 (c := _) rfl rfl rfl (by kernel_rfl) (Nat.le_of_ble_eq_true rfl) (fun _B => ?_)
  refine awp_rs ?_
  refine ro rfl rfl (st_as rfl) ?_
  refine rw_nilk ?_
  refine awp_seq ?_
  refine awp_rs ?_
  refine ro rfl rfl (st_mv rfl) ?_
  refine ro rfl rfl (st_lenD rfl un28) ?_
  refine ro rfl rfl (st_mv rfl) ?_
  refine ro rfl rfl (st_lenD rfl un28) ?_
  refine ro rfl rfl (st_bin (v := dB (((a0.length : Nat) : Int) != ((a1.length : Nat) : Int))) rfl rfl rfl) ?_
  refine rw_nilk ?_
  refine awp_ite (b := (((a0.length : Nat) : Int) != ((a1.length : Nat) : Int))) rfl (fun p101 => ?_) (fun p101 => ?_)
  · replace h := ite_T p101 h
    refine awp_rs ?_
    refine ro rfl rfl (st_as rfl) ?_
    refine rw_nilk ?_
    refine awp_ret ?_
    refine rt_then ?_
    injection h with h
    subst h
    exact ret_out (v := dB false) (resV_one (resVs_tmp rfl resVs_nil)) (.keep rfl)
  · replace h := ite_F p101 h
    refine awp_skip ?_
    refine nx_then ?_
    refine awp_seq ?_
    refine awp_rs ?_
    refine ro rfl rfl (st_mv rfl) ?_
    refine ro rfl rfl (st_lenD rfl un28) ?_
    refine ro rfl rfl (st_mv rfl) ?_
    refine rw_nilk ?_
    refine awp_block ?_
    refine awp_len (t := 0) rfl (fun hl105 => ?_)
    rw [List.length_map] at hl105
    refine awp_range (fun (j105 : Nat) (s102 : Unit) (g103 : Unit) => [(0, dL 1 (eI .i64) a0), (1, dL 1 (eI .i64) a1), (12, dI .i64 ((a0.length : Nat) : Int)), (13, dI .i64 ((j105 : Nat) : Int))]) (fun (s102 : Unit) (g103 : Unit) => []) () (fun _ _ _ h => h) h (gh_frz rfl rfl ⟨⟨_, rfl, .keep rfl⟩, ⟨_, rfl, .keep rfl⟩, ⟨_, rfl, .keep rfl⟩, ⟨_, rfl, .keep rfl⟩, trivial⟩ trivial) ?_ ?_
    · clear h
      intro j105 x106 s102 g103 k104 hj105 hx105 h ih104
      refine awp_rs ?_
      refine ro rfl rfl (st_bin (v := dB (decide (((j105 : Nat) : Int) < ((a0.length : Nat) : Int)))) rfl rfl rfl) ?_
      refine rw_nilk ?_
      refine awp_seq ?_
      refine awp_ifT rfl (dlt hj105) ?_
      refine awp_skip ?_
      refine nx_then ?_
      refine awp_seq ?_
      refine awp_block ?_
      refine awp_rs ?_
      refine ro rfl rfl (st_mv rfl) ?_
      refine ro rfl rfl (st_as rfl) ?_
      refine rw_nilk ?_
      refine awp_rds hmix ?_
      refine do_ rfl rfl (st_mv rfl) rfl rfl rfl ?_
      refine do_ rfl rfl (st_mv rfl) rfl rfl rfl ?_
      refine do_ rfl rfl (st_ixDn sl28 rfl rfl hx105) rfl rfl rfl ?_
      refine do_ rfl rfl (st_ldD (v := dI .i64 x106) ta3 rfl rfl) rfl rfl rfl ?_
      refine do_ rfl rfl (st_mv rfl) rfl rfl rfl ?_
      refine do_ rfl rfl (st_mv rfl) rfl rfl rfl ?_
      obtain ⟨x109, h0109, hx109, h⟩ := getI_some h
      refine do_ rfl rfl (st_ixD sl28 rfl rfl h0109 hx109) rfl rfl rfl ?_
      refine do_ rfl rfl (st_ldD (v := dI .i64 x109) ta3 rfl rfl) rfl rfl rfl ?_
      refine do_ rfl rfl (st_bin (v := dB (x106 != x109)) rfl rfl rfl) rfl rfl rfl ?_
      refine rd_nil (by kernel_rfl) ?_
      refine awp_ite (b := (x106 != x109)) rfl (fun p110 => ?_) (fun p110 => ?_)
      · replace h := ite_T p110 h
        refine awp_rs ?_
        refine ro rfl rfl (st_as rfl) ?_
        refine rw_nilk ?_
        refine awp_ret ?_
        refine rt_block ?_
        refine rt_then ?_
        refine rt_then ?_
        refine rt_block ?_
        refine rt_then ?_
        injection h with h
        subst h
        exact ret_out (v := dB false) (resV_one (resVs_tmp rfl resVs_nil)) (.keep rfl)
      · replace h := ite_F p110 h
        refine awp_skip ?_
        refine nx_block ?_
        refine nx_then ?_
        refine awp_rw ?_
        refine ro rfl rfl (st_inc rfl rfl hj105 hl105) ?_
        refine ro rfl rfl (st_mv rfl) ?_
        refine rw_nil ?_
        refine nx_then ?_
        refine awp_gh ?_ (ih104 () () h)
        exact (gh_frz rfl rfl ⟨⟨_, rfl, .keep rfl⟩, ⟨_, rfl, .keep rfl⟩, ⟨_, rfl, .keep rfl⟩, ⟨_, rfl, .keep rfl⟩, trivial⟩ trivial)
    · clear h
      intro s102 g103 h
      refine awp_rs ?_
      refine ro rfl rfl (st_bin (v := dB (decide (((a0.length : Nat) : Int) < ((a0.length : Nat) : Int)))) rfl rfl rfl) ?_
      refine rw_nilk ?_
      refine awp_seq ?_
      refine awp_ifF rfl dge ?_
      refine awp_exit ?_
      refine ex_out ?_
      refine ex_out ?_
      refine ex_in ?_
      refine nx_then ?_
      refine awp_rs ?_
      refine ro rfl rfl (st_as rfl) ?_
      refine rw_nilk ?_
      refine awp_ret ?_
      injection h with h
      subst h
      exact ret_out (v := dB true) (resV_one (resVs_tmp rfl resVs_nil)) (.keep rfl)

theorem ok_proof_right {a0 : (List (List Int))} {a1 : (List S_api_Line)} {a2 : S_api_Line} {r : Bool} (h : F_proof_right a0 a1 a2 = some r) : Fn Try.prog 47 [dL 1 (eL 1 (eI .i64)) a0, dL 5 e_S_api_Line a1, .agg [dI .u8 a2.Rule, dI .i64 a2.A, dI .i64 a2.B, dI .i64 a2.Piv, dL 1 (eI .i64) a2.Lits]] (dB r) := by
  unfold F_proof_right at h
  refine Fn.of_body (N := 86) (rs := [.tmp 6]) Try.func47 (c := _) rfl rfl rfl (by kernel_rfl) (Nat.le_of_ble_eq_true rfl) (fun _B => ?_)
  refine awp_rs ?_
  refine rn (r := 1001) rfl rfl (st_box rfl rfl rfl co58 rfl rfl) rfl ?_
  refine ro rfl rfl (st_as rfl) ?_
  refine rw_nilk ?_
  refine awp_seq ?_
  refine awp_rs ?_
  refine ro rfl rfl (st_faP fo58_0 rfl) ?_
  refine ro rfl rfl (st_ldP (v := dI .u8 a2.Rule) ta56 rfl rfl rfl rfl) ?_
  refine rw_nilk ?_
  refine awp_block ?_
  refine awp_rs ?_
  refine ro rfl rfl (st_bin (v := dB (a2.Rule == (1 : Int))) rfl rfl rfl) ?_
  refine ro rfl rfl (st_as rfl) ?_
  refine rw_nilk ?_
  refine awp_ite (b := (a2.Rule == (1 : Int))) rfl (fun p101 => ?_) (fun p101 => ?_)
  · replace h := ite_T p101 h
    refine awp_rds hmix ?_
    refine do_ rfl rfl (st_faP fo58_1 rfl) rfl rfl rfl ?_
    refine do_ rfl rfl (st_ldP (v := dI .i64 a2.A) ta3 rfl rfl rfl rfl) rfl rfl rfl ?_
    refine do_ rfl rfl (st_bin (v := dB (decide (a2.A ≥ (0 : Int)))) rfl rfl rfl) rfl rfl rfl ?_
    refine do_ rfl rfl (st_mv rfl) rfl rfl rfl ?_
    refine bool_split (decide (a2.A ≥ (0 : Int))) (fun p108 => ?_) (fun p108 => ?_)
    · replace h := ite_T p108 h
      rw [p108]
      refine do_ rfl rfl (st_faP fo58_1 rfl) rfl rfl rfl ?_
      refine do_ rfl rfl (st_ldP (v := dI .i64 a2.A) ta3 rfl rfl rfl rfl) rfl rfl rfl ?_
      refine do_ rfl rfl (st_mv rfl) rfl rfl rfl ?_
      refine do_ rfl rfl (st_lenD rfl un22) rfl rfl rfl ?_
      refine do_ rfl rfl (st_bin (v := dB (decide (a2.A < ((a0.length : Nat) : Int)))) rfl rfl rfl) rfl rfl rfl ?_
      refine do_ rfl rfl (st_pickT rfl rfl) rfl rfl rfl ?_
      refine do_ rfl rfl (st_mv rfl) rfl rfl rfl ?_
      refine bool_split (decide (a2.A < ((a0.length : Nat) : Int))) (fun p109 => ?_) (fun p109 => ?_)
      · replace h := ite_T p109 h
        rw [p109]
        refine do_ rfl rfl (st_faP fo58_2 rfl) rfl rfl rfl ?_
        refine do_ rfl rfl (st_ldP (v := dI .i64 a2.B) ta3 rfl rfl rfl rfl) rfl rfl rfl ?_
        refine do_ rfl rfl (st_bin (v := dB (a2.B == (0 : Int))) rfl rfl rfl) rfl rfl rfl ?_
        refine do_ rfl rfl (st_pickT rfl rfl) rfl rfl rfl ?_
        refine do_ rfl rfl (st_mv rfl) rfl rfl rfl ?_
        refine bool_split (a2.B == (0 : Int)) (fun p110 => ?_) (fun p110 => ?_)
        · replace h := ite_T p110 h
          rw [p110]
          refine do_ rfl rfl (st_faP fo58_3 rfl) rfl rfl rfl ?_
          refine do_ rfl rfl (st_ldP (v := dI .i64 a2.Piv) ta3 rfl rfl rfl rfl) rfl rfl rfl ?_
          refine do_ rfl rfl (st_bin (v := dB (a2.Piv == (0 : Int))) rfl rfl rfl) rfl rfl rfl ?_
          refine do_ rfl rfl (st_pickT rfl rfl) rfl rfl rfl ?_
          refine do_ rfl rfl (st_mv rfl) rfl rfl rfl ?_
          refine bool_split (a2.Piv == (0 : Int)) (fun p111 => ?_) (fun p111 => ?_)
          · replace h := ite_T p111 h
            rw [p111]
            refine do_ rfl rfl (st_faP fo58_4 rfl) rfl rfl rfl ?_
            refine do_ rfl rfl (st_ldP (v := dL 1 (eI .i64) a2.Lits) ta28 rfl rfl rfl rfl) rfl rfl rfl ?_
            refine do_ rfl rfl (st_mv rfl) rfl rfl rfl ?_
            refine do_ rfl rfl (st_faP fo58_1 rfl) rfl rfl rfl ?_
            refine do_ rfl rfl (st_ldP (v := dI .i64 a2.A) ta3 rfl rfl rfl rfl) rfl rfl rfl ?_
            obtain ⟨x112, h0112, hx112, h⟩ := getI_some h
            refine do_ rfl rfl (st_ixD sl22 rfl rfl h0112 hx112) rfl rfl rfl ?_
            refine do_ rfl rfl (st_ldD (v := dL 1 (eI .i64) x112) ta28 rfl rfl) rfl rfl rfl ?_
            obtain ⟨y113, hy113, h⟩ := bind_some_elim h
            refine df rfl rfl (ok_slices_Equal_int_int hy113) rfl rfl ?_
            refine do_ rfl rfl (st_pickT rfl rfl) rfl rfl rfl ?_
            refine do_ rfl rfl (st_as rfl) rfl rfl rfl ?_
            refine rd_nil (by kernel_rfl) ?_
            refine awp_ret ?_
            refine rt_block ?_
            refine rt_then ?_
            injection h with h
            subst h
            exact ret_out (v := dB y113) (resV_one (resVs_tmp rfl resVs_nil)) (.keep rfl)
          · replace h := ite_F p111 h
            rw [p111]
            refine dz rfl rfl ?_
            refine dz rfl rfl ?_
            refine dz rfl rfl ?_
            refine dz rfl rfl ?_
            refine dz rfl rfl ?_
            refine dz rfl rfl ?_
            refine dz rfl rfl ?_
            refine dz rfl rfl ?_
            refine do_ rfl rfl (st_pickF rfl rfl) rfl rfl rfl ?_
            refine do_ rfl rfl (st_as rfl) rfl rfl rfl ?_
            refine rd_nil (by kernel_rfl) ?_
            refine awp_ret ?_
            refine rt_block ?_
            refine rt_then ?_
            injection h with h
            subst h
            exact ret_out (v := dB false) (resV_one (resVs_tmp rfl resVs_nil)) (.keep rfl)
        · replace h := ite_F p110 h
          rw [p110]
          refine dz rfl rfl ?_
          refine dz rfl rfl ?_
          refine dz rfl rfl ?_
          refine do_ rfl rfl (st_pickF rfl rfl) rfl rfl rfl ?_
          refine do_ rfl rfl (st_mv rfl) rfl rfl rfl ?_
          refine dz rfl rfl ?_
          refine dz rfl rfl ?_
          refine dz rfl rfl ?_
          refine dz rfl rfl ?_
          refine dz rfl rfl ?_
          refine dz rfl rfl ?_
          refine dz rfl rfl ?_
          refine dz rfl rfl ?_
          refine do_ rfl rfl (st_pickF rfl rfl) rfl rfl rfl ?_
          refine do_ rfl rfl (st_as rfl) rfl rfl rfl ?_
          refine rd_nil (by kernel_rfl) ?_
          refine awp_ret ?_
          refine rt_block ?_
          refine rt_then ?_
          injection h with h
          subst h
          exact ret_out (v := dB false) (resV_one (resVs_tmp rfl resVs_nil)) (.keep rfl)
      · replace h := ite_F p109 h
        rw [p109]
        refine dz rfl rfl ?_
        refine dz rfl rfl ?_
        refine dz rfl rfl ?_
        refine do_ rfl rfl (st_pickF rfl rfl) rfl rfl rfl ?_
        refine do_ rfl rfl (st_mv rfl) rfl rfl rfl ?_
        refine dz rfl rfl ?_
        refine dz rfl rfl ?_
        refine dz rfl rfl ?_
        refine do_ rfl rfl (st_pickF rfl rfl) rfl rfl rfl ?_
        refine do_ rfl rfl (st_mv rfl) rfl rfl rfl ?_
        refine dz rfl rfl ?_
        refine dz rfl rfl ?_
        refine dz rfl rfl ?_
        refine dz rfl rfl ?_
        refine dz rfl rfl ?_
        refine dz rfl rfl ?_
        refine dz rfl rfl ?_
        refine dz rfl rfl ?_
        refine do_ rfl rfl (st_pickF rfl rfl) rfl rfl rfl ?_
        refine do_ rfl rfl (st_as rfl) rfl rfl rfl ?_
        refine rd_nil (by kernel_rfl) ?_
        refine awp_ret ?_
        refine rt_block ?_
        refine rt_then ?_
        injection h with h
        subst h
        exact ret_out (v := dB false) (resV_one (resVs_tmp rfl resVs_nil)) (.keep rfl)
    · replace h := ite_F p108 h
      rw [p108]
      refine dz rfl rfl ?_
      refine dz rfl rfl ?_
      refine dz rfl rfl ?_
      refine dz rfl rfl ?_
      refine dz rfl rfl ?_
      refine do_ rfl rfl (st_pickF rfl rfl) rfl rfl rfl ?_
      refine do_ rfl rfl (st_mv rfl) rfl rfl rfl ?_
      refine dz rfl rfl ?_
      refine dz rfl rfl ?_
      refine dz rfl rfl ?_
      refine do_ rfl rfl (st_pickF rfl rfl) rfl rfl rfl ?_
      refine do_ rfl rfl (st_mv rfl) rfl rfl rfl ?_
      refine dz rfl rfl ?_
      refine dz rfl rfl ?_
      refine dz rfl rfl ?_
      refine do_ rfl rfl (st_pickF rfl rfl) rfl rfl rfl ?_
      refine do_ rfl rfl (st_mv rfl) rfl rfl rfl ?_
      refine dz rfl rfl ?_
      refine dz rfl rfl ?_
      refine dz rfl rfl ?_
      refine dz rfl rfl ?_
      refine dz rfl rfl ?_
      refine dz rfl rfl ?_
      refine dz rfl rfl ?_
      refine dz rfl rfl ?_
      refine do_ rfl rfl (st_pickF rfl rfl) rfl rfl rfl ?_
      refine do_ rfl rfl (st_as rfl) rfl rfl rfl ?_
      refine rd_nil (by kernel_rfl) ?_
      refine awp_ret ?_
      refine rt_block ?_
      refine rt_then ?_
      injection h with h
      subst h
      exact ret_out (v := dB false) (resV_one (resVs_tmp rfl resVs_nil)) (.keep rfl)
  · replace h := ite_F p101 h
    refine awp_rs ?_
    refine ro rfl rfl (st_bin (v := dB (a2.Rule == (2 : Int))) rfl rfl rfl) ?_
    refine ro rfl rfl (st_as rfl) ?_
    refine rw_nilk ?_
    refine awp_ite (b := (a2.Rule == (2 : Int))) rfl (fun p114 => ?_) (fun p114 => ?_)
    · replace h := ite_T p114 h
      refine awp_seq ?_
      refine awp_jn (fun (s122 : Bool) (g123 : Unit) => [(1, dL 5 e_S_api_Line a1), (5, .ptr 1001 0 0 0), (60, dB s122)]) (fun (s122 : Bool) (g123 : Unit) => [(1001, .row 0 58 [[dI .u8 a2.Rule, dI .i64 a2.A, dI .i64 a2.B, dI .i64 a2.Piv, dL 1 (eI .i64) a2.Lits]])]) h ?_ ?_
      · clear h
        intro s122 g123 h
        refine awp_ite (b := s122) rfl (fun p125 => ?_) (fun p125 => ?_)
        · replace h := ite_T p125 h
          refine awp_rs ?_
          refine ro rfl rfl (st_as rfl) ?_
          refine rw_nilk ?_
          refine awp_ret ?_
          refine rt_then ?_
          refine rt_block ?_
          refine rt_then ?_
          injection h with h
          subst h
          exact ret_out (v := dB false) (resV_one (resVs_tmp rfl resVs_nil)) (.keep rfl)
        · replace h := ite_F p125 h
          refine awp_skip ?_
          refine nx_then ?_
          refine awp_rds hmix ?_
          refine do_ rfl rfl (st_mv rfl) rfl rfl rfl ?_
          refine do_ rfl rfl (st_faP fo58_1 rfl) rfl rfl rfl ?_
          refine do_ rfl rfl (st_ldP (v := dI .i64 a2.A) ta3 rfl rfl rfl rfl) rfl rfl rfl ?_
          obtain ⟨x126, h0126, hx126, h⟩ := getI_some h
          refine do_ rfl rfl (st_ixD sl23 rfl rfl h0126 hx126) rfl rfl rfl ?_
          refine do_ rfl rfl (st_faD fo58_4 rfl) rfl rfl rfl ?_
          refine do_ rfl rfl (st_ldD (v := dL 1 (eI .i64) x126.Lits) ta28 rfl rfl) rfl rfl rfl ?_
          refine do_ rfl rfl (st_mv rfl) rfl rfl rfl ?_
          refine do_ rfl rfl (st_faP fo58_2 rfl) rfl rfl rfl ?_
          refine do_ rfl rfl (st_ldP (v := dI .i64 a2.B) ta3 rfl rfl rfl rfl) rfl rfl rfl ?_
          obtain ⟨x127, h0127, hx127, h⟩ := getI_some h
          refine do_ rfl rfl (st_ixD sl23 rfl rfl h0127 hx127) rfl rfl rfl ?_
          refine do_ rfl rfl (st_faD fo58_4 rfl) rfl rfl rfl ?_
          refine do_ rfl rfl (st_ldD (v := dL 1 (eI .i64) x127.Lits) ta28 rfl rfl) rfl rfl rfl ?_
          refine do_ rfl rfl (st_faP fo58_3 rfl) rfl rfl rfl ?_
          refine do_ rfl rfl (st_ldP (v := dI .i64 a2.Piv) ta3 rfl rfl rfl rfl) rfl rfl rfl ?_
          obtain ⟨y128, hy128, h⟩ := bind_some_elim h
          refine df rfl rfl (ok_proof_resolvent hy128) rfl rfl ?_
          refine do_ rfl rfl (st_mv rfl) rfl rfl rfl ?_
          refine do_ rfl rfl (st_ext rfl rfl) rfl rfl rfl ?_
          refine do_ rfl rfl (st_ext rfl rfl) rfl rfl rfl ?_
          refine do_ rfl rfl (st_as rfl) rfl rfl rfl ?_
          refine do_ rfl rfl (st_as rfl) rfl rfl rfl ?_
          refine rd_nil (by kernel_rfl) ?_
          refine awp_rs ?_
          refine ro rfl rfl (st_mv rfl) ?_
          refine ro rfl rfl (st_mv rfl) ?_
          refine bool_split y128.2 (fun p131 => ?_) (fun p131 => ?_)
          · replace h := ite_T p131 h
            rw [p131]
            refine ro rfl rfl (st_mv rfl) ?_
            refine ro rfl rfl (st_faP fo58_4 rfl) ?_
            refine ro rfl rfl (st_ldP (v := dL 1 (eI .i64) a2.Lits) ta28 rfl rfl rfl rfl) ?_
            obtain ⟨y132, hy132, h⟩ := bind_some_elim h
            refine rf rfl rfl (ok_slices_Equal_int_int hy132) rfl rfl ?_
            refine ro rfl rfl (st_pickT rfl rfl) ?_
            refine ro rfl rfl (st_as rfl) ?_
            refine rw_nilk ?_
            refine awp_ret ?_
            refine rt_block ?_
            refine rt_then ?_
            injection h with h
            subst h
            exact ret_out (v := dB y132) (resV_one (resVs_tmp rfl resVs_nil)) (.keep rfl)
          · replace h := ite_F p131 h
            rw [p131]
            refine rz rfl rfl ?_
            refine rz rfl rfl ?_
            refine rz rfl rfl ?_
            refine rz rfl rfl ?_
            refine ro rfl rfl (st_pickF rfl rfl) ?_
            refine ro rfl rfl (st_as rfl) ?_
            refine rw_nilk ?_
            refine awp_ret ?_
            refine rt_block ?_
            refine rt_then ?_
            injection h with h
            subst h
            exact ret_out (v := dB false) (resV_one (resVs_tmp rfl resVs_nil)) (.keep rfl)
      · clear h
        intro k124 h J124
        refine awp_rw ?_
        refine ro rfl rfl (st_faP fo58_1 rfl) ?_
        refine ro rfl rfl (st_ldP (v := dI .i64 a2.A) ta3 rfl rfl rfl rfl) ?_
        refine ro rfl rfl (st_faP fo58_2 rfl) ?_
        refine ro rfl rfl (st_ldP (v := dI .i64 a2.B) ta3 rfl rfl rfl rfl) ?_
        refine ro rfl rfl (st_min rfl rfl) ?_
        refine ro rfl rfl (st_bin (v := dB (decide ((imn a2.A a2.B) < (0 : Int)))) rfl rfl rfl) ?_
        refine ro rfl rfl (st_mv rfl) ?_
        refine bool_split (decide ((imn a2.A a2.B) < (0 : Int))) (fun p133 => ?_) (fun p133 => ?_)
        · replace h := ite_T p133 h
          rw [p133]
          refine rz rfl rfl ?_
          refine rz rfl rfl ?_
          refine rz rfl rfl ?_
          refine rz rfl rfl ?_
          refine rz rfl rfl ?_
          refine rz rfl rfl ?_
          refine rz rfl rfl ?_
          refine rz rfl rfl ?_
          refine ro rfl rfl (st_pickT rfl rfl) ?_
          refine rw_nil ?_
          refine nx_then ?_
          exact J124 true () _ _ h (gh_frz rfl rfl ⟨⟨_, rfl, .keep rfl⟩, ⟨_, rfl, .keep rfl⟩, ⟨_, rfl, .keep rfl⟩, trivial⟩ ⟨⟨_, rfl, objOne ⟨⟨rfl, .keep rfl⟩, ⟨rfl, .keep rfl⟩, ⟨rfl, .keep rfl⟩, ⟨rfl, .keep rfl⟩, ⟨rfl, .keep rfl⟩, trivial⟩⟩, trivial⟩)
        · replace h := ite_F p133 h
          rw [p133]
          refine ro rfl rfl (st_faP fo58_1 rfl) ?_
          refine ro rfl rfl (st_ldP (v := dI .i64 a2.A) ta3 rfl rfl rfl rfl) ?_
          refine ro rfl rfl (st_faP fo58_2 rfl) ?_
          refine ro rfl rfl (st_ldP (v := dI .i64 a2.B) ta3 rfl rfl rfl rfl) ?_
          refine ro rfl rfl (st_max rfl rfl) ?_
          refine ro rfl rfl (st_mv rfl) ?_
          refine ro rfl rfl (st_lenD rfl un23) ?_
          refine ro rfl rfl (st_bin (v := dB (decide ((imx a2.A a2.B) ≥ ((a1.length : Nat) : Int)))) rfl rfl rfl) ?_
          refine ro rfl rfl (st_pickF rfl rfl) ?_
          refine rw_nil ?_
          refine nx_then ?_
          exact J124 (decide ((imx a2.A a2.B) ≥ ((a1.length : Nat) : Int))) () _ _ h (gh_frz rfl rfl ⟨⟨_, rfl, .keep rfl⟩, ⟨_, rfl, .keep rfl⟩, ⟨_, rfl, .keep rfl⟩, trivial⟩ ⟨⟨_, rfl, objOne ⟨⟨rfl, .keep rfl⟩, ⟨rfl, .keep rfl⟩, ⟨rfl, .keep rfl⟩, ⟨rfl, .keep rfl⟩, ⟨rfl, .keep rfl⟩, trivial⟩⟩, trivial⟩)
    · replace h := ite_F p114 h
      refine awp_skip ?_
      refine nx_block ?_
      refine nx_then ?_
      refine awp_rs ?_
      refine ro rfl rfl (st_as rfl) ?_
      refine rw_nilk ?_
      refine awp_ret ?_
      injection h with h
      subst h
      exact ret_out (v := dB false) (resV_one (resVs_tmp rfl resVs_nil)) (.keep rfl)

theorem ok_slices_Clone_int_int {a0 : (List Int)} {r : (List Int)} (h : F_slices_Clone_int_int a0 = some r) : Fn Try.prog 48 [dL 1 (eI .i64) a0] (dL 1 (eI .i64) r) := by
  unfold F_slices_Clone_int_int at h
  refine Fn.of_body (N := 8) (rs := [.tmp 2]) Try.func48 (c := _) rfl rfl rfl (by kernel_rfl) (Nat.le_of_ble_eq_true rfl) (fun _B => ?_)
  refine awp_rs ?_
  refine ro rfl rfl (st_as rfl) ?_
  refine rw_nilk ?_
  refine awp_seq ?_
  refine awp_rs ?_
  refine ro rfl rfl (st_mv rfl) ?_
  refine bool_split a0.isEmpty (fun p101 => ?_) (fun p101 => ?_)
  · replace h := ite_T p101 h
    rw [List.isEmpty_iff.1 p101]
    refine rw_nilcase (t := 3) rfl rfl ?_ (fun wq102 cq103 => ?_)
    · refine ro rfl rfl (st_nne rfl rfl un28) ?_
      refine rw_nilk ?_
      refine awp_condT rfl ?_
      refine awp_rs ?_
      refine ro rfl rfl (st_as rfl) ?_
      refine rw_nilk ?_
      refine awp_ret ?_
      refine rt_then ?_
      injection h with h
      subst h
      exact ret_out (v := .nilS) (resV_one (resVs_tmp rfl resVs_nil)) (.nilS _)
    · refine ro rfl rfl (st_rawe rfl rfl un28) ?_
      refine rw_nilk ?_
      refine awp_condF rfl ?_
      refine awp_skip ?_
      refine nx_then ?_
      refine awp_rs ?_
      refine rn (r := 1001) rfl rfl (st_bsl (els := []) sl28 zc3 rfl rfl rfl rfl rfl) rfl ?_
      refine ro rfl rfl (st_mv rfl) ?_
      refine rn (r := 0) (L' := [(1001, rw' 3 3 (eI .i64) ([] : List Int))]) rfl rfl (st_appR (f := (eI .i64)) (xs := ([] : List Int)) (ys := ([] : List Int)) sl28 zc3 rfl rfl rfl rfl rfl news_dat (by decide)) rfl ?_
      refine ro rfl rfl (st_as rfl) ?_
      refine rw_nilk ?_
      refine awp_ret ?_
      injection h with h
      subst h
      exact ret_out (v := .slice 1001 3 0 (([] : List Int).length)) (resV_one (resVs_tmp rfl resVs_nil)) (frzT rfl rfl co3 rfl)
  · replace h := ite_F p101 h
    refine ro rfl rfl (st_dne rfl rfl p101 un28) ?_
    refine rw_nilk ?_
    refine awp_condF rfl ?_
    refine awp_skip ?_
    refine nx_then ?_
    refine awp_rs ?_
    refine rn (r := 1001) rfl rfl (st_bsl (els := []) sl28 zc3 rfl rfl rfl rfl rfl) rfl ?_
    refine ro rfl rfl (st_mv rfl) ?_
    obtain ⟨c104, h⟩ := capN_some h
    refine rn (r := 0) (L' := [(1001, rw' 3 3 (eI .i64) (([] : List Int) ++ a0))]) rfl rfl (st_appR (f := (eI .i64)) (xs := ([] : List Int)) (ys := a0) sl28 zc3 rfl rfl rfl rfl rfl news_dat c104) rfl ?_
    refine ro rfl rfl (st_as rfl) ?_
    refine rw_nilk ?_
    refine awp_ret ?_
    injection h with h
    subst h
    exact ret_out (v := .slice 1001 3 0 ((([] : List Int) ++ a0).length)) (resV_one (resVs_tmp rfl resVs_nil)) (frzT rfl rfl co3 rfl)

theorem ok_proof_Check {a0 : (List (List Int))} {a1 : S_api_Proof} {r : ((List Int) × Int × Int)} (h : F_proof_Check a0 a1 = some r) : Fn Try.prog 14 [dL 1 (eL 1 (eI .i64)) a0, .agg [dB a1.Cubes, dL 5 e_S_api_Line a1.Lines]] (.tup [dL 1 (eI .i64) r.1, dI .i64 r.2.1, dI .i64 r.2.2]) := by
  unfold F_proof_Check at h
  refine Fn.of_body (N := 45) (rs := [.tmp 4, .tmp 5, .tmp 6]) Try.func14 (c := _) rfl rfl rfl (by kernel_rfl) (Nat.le_of_ble_eq_true rfl) (fun _B => ?_)
  refine awp_rs ?_
  refine rn (r := 1001) rfl rfl (st_box rfl rfl rfl co25 rfl rfl) rfl ?_
  refine ro rfl rfl (st_as rfl) ?_
  refine ro rfl rfl (st_as rfl) ?_
  refine ro rfl rfl (st_as rfl) ?_
  refine rw_nilk ?_
  refine awp_seq ?_
  refine awp_block ?_
  refine awp_rs ?_
  refine ro rfl rfl (st_mv rfl) ?_
  obtain ⟨y101, hy101, h⟩ := bind_some_elim h
  refine rf rfl rfl (ok_proof_cnf hy101) rfl rfl ?_
  refine ro rfl rfl (st_un (v := dB (!y101)) rfl rfl) ?_
  refine ro rfl rfl (st_as rfl) ?_
  refine rw_nilk ?_
  refine awp_ite (b := (!y101)) rfl (fun p102 => ?_) (fun p102 => ?_)
  · replace h := ite_T p102 h
    refine awp_rs ?_
    refine ro rfl rfl (st_as rfl) ?_
    refine ro rfl rfl (st_as rfl) ?_
    refine ro rfl rfl (st_as rfl) ?_
    refine rw_nilk ?_
    refine awp_ret ?_
    refine rt_block ?_
    refine rt_then ?_
    injection h with h
    subst h
    exact ret_out (v := .tup [.nilS, dI .i64 (0 : Int), dI .i64 (2 : Int)]) (resV_many (resVs_tmp rfl (resVs_tmp rfl (resVs_tmp rfl resVs_nil)))) (frz_tup ⟨(.nilS _), (.keep rfl), (.keep rfl), trivial⟩)
  · replace h := ite_F p102 h
    refine awp_rs ?_
    refine ro rfl rfl (st_ldP (v := .agg [dB a1.Cubes, dL 5 e_S_api_Line a1.Lines]) ta25 rfl rfl rfl rfl) ?_
    obtain ⟨y103, hy103, h⟩ := bind_some_elim h
    refine rf rfl rfl (ok_proof_fits hy103) rfl rfl ?_
    refine ro rfl rfl (st_un (v := dB (!y103)) rfl rfl) ?_
    refine ro rfl rfl (st_as rfl) ?_
    refine rw_nilk ?_
    refine awp_ite (b := (!y103)) rfl (fun p104 => ?_) (fun p104 => ?_)
    · replace h := ite_T p104 h
      refine awp_rs ?_
      refine ro rfl rfl (st_as rfl) ?_
      refine ro rfl rfl (st_as rfl) ?_
      refine ro rfl rfl (st_as rfl) ?_
      refine rw_nilk ?_
      refine awp_ret ?_
      refine rt_block ?_
      refine rt_then ?_
      injection h with h
      subst h
      exact ret_out (v := .tup [.nilS, dI .i64 (0 : Int), dI .i64 (100 : Int)]) (resV_many (resVs_tmp rfl (resVs_tmp rfl (resVs_tmp rfl resVs_nil)))) (frz_tup ⟨(.nilS _), (.keep rfl), (.keep rfl), trivial⟩)
    · replace h := ite_F p104 h
      refine awp_skip ?_
      refine nx_block ?_
      refine nx_then ?_
      refine awp_seq ?_
      refine awp_rs ?_
      refine ro rfl rfl (st_faP fo25_1 rfl) ?_
      refine ro rfl rfl (st_ldP (v := dL 5 e_S_api_Line a1.Lines) ta23 rfl rfl rfl rfl) ?_
      refine ro rfl rfl (st_lenD rfl un23) ?_
      refine ro rfl rfl (st_mv rfl) ?_
      refine rw_nilk ?_
      refine awp_block ?_
      refine awp_len (t := 18) rfl (fun hl108 => ?_)
      rw [List.length_map] at hl108
      refine awp_range (fun (j108 : Nat) (s105 : Unit) (g106 : Unit) => [(0, dL 1 (eL 1 (eI .i64)) a0), (3, .ptr 1001 0 0 0), (18, dL 5 e_S_api_Line a1.Lines), (19, dI .i64 ((a1.Lines.length : Nat) : Int)), (20, dI .i64 ((j108 : Nat) : Int))]) (fun (s105 : Unit) (g106 : Unit) => [(1001, .row 0 25 [[dB a1.Cubes, dL 5 e_S_api_Line a1.Lines]])]) () (fun _ _ _ h => h) h (gh_frz rfl rfl ⟨⟨_, rfl, .keep rfl⟩, ⟨_, rfl, .keep rfl⟩, ⟨_, rfl, .keep rfl⟩, ⟨_, rfl, .keep rfl⟩, ⟨_, rfl, .keep rfl⟩, trivial⟩ ⟨⟨_, rfl, objOne ⟨⟨rfl, .keep rfl⟩, ⟨rfl, .keep rfl⟩, trivial⟩⟩, trivial⟩) ?_ ?_
      · clear h
        intro j108 x109 s105 g106 k107 hj108 hx108 h ih107
        refine awp_rs ?_
        refine ro rfl rfl (st_bin (v := dB (decide (((j108 : Nat) : Int) < ((a1.Lines.length : Nat) : Int)))) rfl rfl rfl) ?_
        refine rw_nilk ?_
        refine awp_seq ?_
        refine awp_ifT rfl (dlt hj108) ?_
        refine awp_skip ?_
        refine nx_then ?_
        refine awp_seq ?_
        refine awp_block ?_
        refine awp_rs ?_
        refine ro rfl rfl (st_mv rfl) ?_
        refine ro rfl rfl (st_ixDn sl23 rfl rfl hx108) ?_
        refine ro rfl rfl (st_ldD (v := .agg [dI .u8 x109.Rule, dI .i64 x109.A, dI .i64 x109.B, dI .i64 x109.Piv, dL 1 (eI .i64) x109.Lits]) ta58 rfl rfl) ?_
        refine rn (r := 1002) rfl rfl (st_alloc zc58 rfl rfl) rfl ?_
        refine ro rfl rfl (st_as rfl) ?_
        refine rx (L' := [(1001, .row 0 25 [[dB a1.Cubes, dL 5 e_S_api_Line a1.Lines]]), (1002, .row 0 58 [[dI .u8 x109.Rule, dI .i64 x109.A, dI .i64 x109.B, dI .i64 x109.Piv, dL 1 (eI .i64) x109.Lits]])]) rfl rfl (st_stP ta58 rfl rfl rfl rfl rfl rfl rfl rfl) rfl ?_
        refine rw_nilk ?_
        refine awp_rds hmix ?_
        refine do_ rfl rfl (st_mv rfl) rfl rfl rfl ?_
        refine do_ rfl rfl (st_faP fo25_1 rfl) rfl rfl rfl ?_
        refine do_ rfl rfl (st_ldP (v := dL 5 e_S_api_Line a1.Lines) ta23 rfl rfl rfl rfl) rfl rfl rfl ?_
        refine do_ rfl rfl (st_mv rfl) rfl rfl rfl ?_
        obtain ⟨c113, h⟩ := okI_some h
        refine do_ rfl rfl (st_slHi sl23 rfl rfl c113.1 c113.2) rfl rfl rfl ?_
        refine do_ rfl rfl (st_ldP (v := .agg [dI .u8 x109.Rule, dI .i64 x109.A, dI .i64 x109.B, dI .i64 x109.Piv, dL 1 (eI .i64) x109.Lits]) ta58 rfl rfl rfl rfl) rfl rfl rfl ?_
        obtain ⟨y114, hy114, h⟩ := bind_some_elim h
        refine df rfl rfl (ok_proof_right hy114) rfl rfl ?_
        refine do_ rfl rfl (st_un (v := dB (!y114)) rfl rfl) rfl rfl rfl ?_
        refine rd_nil (by kernel_rfl) ?_
        refine awp_ite (b := (!y114)) rfl (fun p115 => ?_) (fun p115 => ?_)
        · replace h := ite_T p115 h
          refine awp_rs ?_
          refine ro rfl rfl (st_mv rfl) ?_
          refine ro rfl rfl (st_as rfl) ?_
          refine ro rfl rfl (st_as rfl) ?_
          refine ro rfl rfl (st_as rfl) ?_
          refine rw_nilk ?_
          refine awp_ret ?_
          refine rt_block ?_
          refine rt_then ?_
          refine rt_then ?_
          refine rt_block ?_
          refine rt_then ?_
          injection h with h
          subst h
          exact ret_out (v := .tup [.nilS, dI .i64 ((j108 : Nat) : Int), dI .i64 (100 : Int)]) (resV_many (resVs_tmp rfl (resVs_tmp rfl (resVs_tmp rfl resVs_nil)))) (frz_tup ⟨(.nilS _), (.keep rfl), (.keep rfl), trivial⟩)
        · replace h := ite_F p115 h
          refine awp_skip ?_
          refine nx_block ?_
          refine nx_then ?_
          refine awp_rw ?_
          refine ro rfl rfl (st_inc rfl rfl hj108 hl108) ?_
          refine ro rfl rfl (st_mv rfl) ?_
          refine rw_nil ?_
          refine nx_then ?_
          refine awp_gh ?_ (ih107 () () h)
          exact (gh_frz rfl rfl ⟨⟨_, rfl, .keep rfl⟩, ⟨_, rfl, .keep rfl⟩, ⟨_, rfl, .keep rfl⟩, ⟨_, rfl, .keep rfl⟩, ⟨_, rfl, .keep rfl⟩, trivial⟩ ⟨⟨_, rfl, objOne ⟨⟨rfl, .keep rfl⟩, ⟨rfl, .keep rfl⟩, trivial⟩⟩, trivial⟩)
      · clear h
        intro s105 g106 h
        refine awp_rs ?_
        refine ro rfl rfl (st_bin (v := dB (decide (((a1.Lines.length : Nat) : Int) < ((a1.Lines.length : Nat) : Int)))) rfl rfl rfl) ?_
        refine rw_nilk ?_
        refine awp_seq ?_
        refine awp_ifF rfl dge ?_
        refine awp_exit ?_
        refine ex_out ?_
        refine ex_out ?_
        refine ex_in ?_
        refine nx_then ?_
        refine awp_rs ?_
        refine ro rfl rfl (st_faP fo25_1 rfl) ?_
        refine ro rfl rfl (st_ldP (v := dL 5 e_S_api_Line a1.Lines) ta23 rfl rfl rfl rfl) ?_
        refine ro rfl rfl (st_faP fo25_1 rfl) ?_
        refine ro rfl rfl (st_ldP (v := dL 5 e_S_api_Line a1.Lines) ta23 rfl rfl rfl rfl) ?_
        refine ro rfl rfl (st_lenD rfl un23) ?_
        refine ro rfl rfl (st_bin (v := dI .i64 (IntKind.wrap .i64 (((a1.Lines.length : Nat) : Int) - (1 : Int)))) rfl rfl rfl) ?_
        obtain ⟨x116, h0116, hx116, h⟩ := getI_some h
        refine ro rfl rfl (st_ixD sl23 rfl rfl h0116 hx116) ?_
        refine ro rfl rfl (st_faD fo58_4 rfl) ?_
        refine ro rfl rfl (st_ldD (v := dL 1 (eI .i64) x116.Lits) ta28 rfl rfl) ?_
        obtain ⟨y117, hy117, h⟩ := bind_some_elim h
        refine rf rfl rfl (ok_slices_Clone_int_int hy117) rfl rfl ?_
        refine ro rfl rfl (st_as rfl) ?_
        refine ro rfl rfl (st_as rfl) ?_
        refine ro rfl rfl (st_as rfl) ?_
        refine rw_nilk ?_
        refine awp_ret ?_
        injection h with h
        subst h
        exact ret_out (v := .tup [dL 1 (eI .i64) y117, dI .i64 (0 : Int), dI .i64 (0 : Int)]) (resV_many (resVs_tmp rfl (resVs_tmp rfl (resVs_tmp rfl resVs_nil)))) (.keep rfl)

theorem ok_cmp_isNaN_int {a0 : Int} {r : Bool} (h : F_cmp_isNaN_int a0 = some r) : Fn Try.prog 94 [dI .i64 a0] (dB r) := by
  unfold F_cmp_isNaN_int at h
  refine Fn.of_body (N := 6) (rs := [.tmp 2]) Try.func94 (c := _) rfl rfl rfl (by kernel_rfl) (Nat.le_of_ble_eq_true rfl) (fun _B => ?_)
  refine awp_rs ?_
  refine ro rfl rfl (st_as rfl) ?_
  refine rw_nilk ?_
  refine awp_rs ?_
  refine ro rfl rfl (st_mv rfl) ?_
  refine ro rfl rfl (st_mv rfl) ?_
  refine ro rfl rfl (st_bin (v := dB (a0 != a0)) rfl rfl rfl) ?_
  refine ro rfl rfl (st_as rfl) ?_
  refine rw_nilk ?_
  refine awp_ret ?_
  injection h with h
  subst h
  exact ret_out (v := dB (a0 != a0)) (resV_one (resVs_tmp rfl resVs_nil)) (.keep rfl)

theorem ok_cmp_Less_int {a0 : Int} {a1 : Int} {r : Bool} (h : F_cmp_Less_int a0 a1 = some r) : Fn Try.prog 84 [dI .i64 a0, dI .i64 a1] (dB r) := by
  unfold F_cmp_Less_int at h
  refine Fn.of_body (N := 17) (rs := [.tmp 4]) Try.func84 (c := _) rfl rfl rfl (by kernel_rfl) (Nat.le_of_ble_eq_true rfl) (fun _B => ?_)
  refine awp_rs ?_
  refine ro rfl rfl (st_as rfl) ?_
  refine rw_nilk ?_
  refine awp_rs ?_
  refine ro rfl rfl (st_mv rfl) ?_
  obtain ⟨y105, hy105, h⟩ := bind_some_elim h
  refine rf rfl rfl (ok_cmp_isNaN_int hy105) rfl rfl ?_
  refine ro rfl rfl (st_mv rfl) ?_
  refine bool_split y105 (fun p106 => ?_) (fun p106 => ?_)
  · replace h := ite_T p106 h
    rw [p106]
    refine ro rfl rfl (st_mv rfl) ?_
    obtain ⟨y107, hy107, h⟩ := bind_some_elim h
    refine rf rfl rfl (ok_cmp_isNaN_int hy107) rfl rfl ?_
    refine ro rfl rfl (st_un (v := dB (!y107)) rfl rfl) ?_
    refine ro rfl rfl (st_pickT rfl rfl) ?_
    refine ro rfl rfl (st_mv rfl) ?_
    refine bool_split (!y107) (fun p108 => ?_) (fun p108 => ?_)
    · replace h := ite_T p108 h
      rw [p108]
      refine rz rfl rfl ?_
      refine rz rfl rfl ?_
      refine rz rfl rfl ?_
      refine ro rfl rfl (st_pickT rfl rfl) ?_
      refine ro rfl rfl (st_as rfl) ?_
      refine rw_nilk ?_
      refine awp_ret ?_
      injection h with h
      subst h
      exact ret_out (v := dB true) (resV_one (resVs_tmp rfl resVs_nil)) (.keep rfl)
    · replace h := ite_F p108 h
      rw [p108]
      refine ro rfl rfl (st_mv rfl) ?_
      refine ro rfl rfl (st_mv rfl) ?_
      refine ro rfl rfl (st_bin (v := dB (decide (a0 < a1))) rfl rfl rfl) ?_
      refine ro rfl rfl (st_pickF rfl rfl) ?_
      refine ro rfl rfl (st_as rfl) ?_
      refine rw_nilk ?_
      refine awp_ret ?_
      injection h with h
      subst h
      exact ret_out (v := dB (decide (a0 < a1))) (resV_one (resVs_tmp rfl resVs_nil)) (.keep rfl)
  · replace h := ite_F p106 h
    rw [p106]
    refine rz rfl rfl ?_
    refine rz rfl rfl ?_
    refine rz rfl rfl ?_
    refine ro rfl rfl (st_pickF rfl rfl) ?_
    refine ro rfl rfl (st_mv rfl) ?_
    refine ro rfl rfl (st_mv rfl) ?_
    refine ro rfl rfl (st_mv rfl) ?_
    refine ro rfl rfl (st_bin (v := dB (decide (a0 < a1))) rfl rfl rfl) ?_
    refine ro rfl rfl (st_pickF rfl rfl) ?_
    refine ro rfl rfl (st_as rfl) ?_
    refine rw_nilk ?_
    refine awp_ret ?_
    injection h with h
    subst h
    exact ret_out (v := dB (decide (a0 < a1))) (resV_one (resVs_tmp rfl resVs_nil)) (.keep rfl)

theorem ok_slices_isNaN_int {a0 : Int} {r : Bool} (h : F_slices_isNaN_int a0 = some r) : Fn Try.prog 85 [dI .i64 a0] (dB r) := by
  unfold F_slices_isNaN_int at h
  refine Fn.of_body (N := 6) (rs := [.tmp 2]) Try.func85 (c := _) rfl rfl rfl (by kernel_rfl) (Nat.le_of_ble_eq_true rfl) (fun _B => ?_)
  refine awp_rs ?_
  refine ro rfl rfl (st_as rfl) ?_
  refine rw_nilk ?_
  refine awp_rs ?_
  refine ro rfl rfl (st_mv rfl) ?_
  refine ro rfl rfl (st_mv rfl) ?_
  refine ro rfl rfl (st_bin (v := dB (a0 != a0)) rfl rfl rfl) ?_
  refine ro rfl rfl (st_as rfl) ?_
  refine rw_nilk ?_
  refine awp_ret ?_
  injection h with h
  subst h
  exact ret_out (v := dB (a0 != a0)) (resV_one (resVs_tmp rfl resVs_nil)) (.keep rfl)

theorem ok_slices_BinarySearch_int_int {a0 : (List Int)} {a1 : Int} {r : (Int × Bool)} (h : F_slices_BinarySearch_int_int a0 a1 = some r) : Fn Try.prog 59 [dL 1 (eI .i64) a0, dI .i64 a1] (.tup [dI .i64 r.1, dB r.2]) := by
  unfold F_slices_BinarySearch_int_int at h
  refine Fn.of_body (N := 54) (rs := [.tmp 4, .tmp 5]) Try.func59 (c := _) rfl rfl rfl (by kernel_rfl) (Nat.le_of_ble_eq_true rfl) (fun _B => ?_)
  refine awp_rs ?_
  refine ro rfl rfl (st_as rfl) ?_
  refine ro rfl rfl (st_as rfl) ?_
  refine rw_nilk ?_
  refine awp_rs ?_
  refine ro rfl rfl (st_mv rfl) ?_
  refine ro rfl rfl (st_lenD rfl un28) ?_
  refine ro rfl rfl (st_as rfl) ?_
  refine rw_nilk ?_
  refine awp_rs ?_
  refine ro rfl rfl (st_mv rfl) ?_
  refine ro rfl rfl (st_as rfl) ?_
  refine ro rfl rfl (st_as rfl) ?_
  refine rw_nilk ?_
  refine awp_seq ?_
  refine awp_block ?_
  refine awp_while (fun (s101 : (Int × Int)) (g102 : Unit) => [(0, dL 1 (eI .i64) a0), (1, dI .i64 a1), (6, dI .i64 ((a0.length : Nat) : Int)), (7, dI .i64 s101.1), (8, dI .i64 s101.2)]) (fun (s101 : (Int × Int)) (g102 : Unit) => []) () (fun _ _ _ h => h) h (gh_frz rfl rfl ⟨⟨_, rfl, .keep rfl⟩, ⟨_, rfl, .keep rfl⟩, ⟨_, rfl, .keep rfl⟩, ⟨_, rfl, .keep rfl⟩, ⟨_, rfl, .keep rfl⟩, trivial⟩ trivial) ?_
  clear h
  intro s101 g102 k103 h ih103
  refine awp_seq ?_
  refine awp_rs ?_
  refine ro rfl rfl (st_mv rfl) ?_
  refine ro rfl rfl (st_mv rfl) ?_
  refine ro rfl rfl (st_bin (v := dB (decide (s101.1 < s101.2))) rfl rfl rfl) ?_
  refine rw_nilk ?_
  refine awp_ite (b := (decide (s101.1 < s101.2))) rfl (fun p140 => ?_) (fun p140 => ?_)
  · replace h := ite_T p140 h
    refine awp_skip ?_
    refine nx_then ?_
    refine awp_block ?_
    refine awp_rs ?_
    refine ro rfl rfl (st_mv rfl) ?_
    refine ro rfl rfl (st_mv rfl) ?_
    refine ro rfl rfl (st_bin (v := dI .i64 (IntKind.wrap .i64 (s101.1 + s101.2))) rfl rfl rfl) ?_
    refine ro rfl rfl (st_conv rfl un3 un98) ?_
    obtain ⟨c141, h⟩ := okI_some h
    refine ro rfl rfl (st_shr rfl rfl c141) ?_
    refine ro rfl rfl (st_conv rfl un98 un3) ?_
    refine ro rfl rfl (st_as rfl) ?_
    refine rw_nilk ?_
    refine awp_rs ?_
    refine ro rfl rfl (st_mv rfl) ?_
    refine ro rfl rfl (st_mv rfl) ?_
    obtain ⟨x142, h0142, hx142, h⟩ := getI_some h
    refine ro rfl rfl (st_ixD sl28 rfl rfl h0142 hx142) ?_
    refine ro rfl rfl (st_ldD (v := dI .i64 x142) ta3 rfl rfl) ?_
    refine ro rfl rfl (st_mv rfl) ?_
    obtain ⟨y143, hy143, h⟩ := bind_some_elim h
    refine rf rfl rfl (ok_cmp_Less_int hy143) rfl rfl ?_
    refine rw_nilk ?_
    refine awp_ite (b := y143) rfl (fun p144 => ?_) (fun p144 => ?_)
    · replace h := ite_T p144 h
      refine awp_rw ?_
      refine ro rfl rfl (st_mv rfl) ?_
      refine ro rfl rfl (st_bin (v := dI .i64 (IntKind.wrap .i64 ((IntKind.wrap .i64 (Int.fdiv (IntKind.wrap .u64 (IntKind.wrap .i64 (s101.1 + s101.2))) (2 ^ (min (1 : Int).toNat (IntKind.bits .u64))))) + (1 : Int)))) rfl rfl rfl) ?_
      refine ro rfl rfl (st_as rfl) ?_
      refine rw_nil ?_
      refine nx_block ?_
      refine nx_then ?_
      refine awp_gh ?_ (ih103 ((IntKind.wrap .i64 ((IntKind.wrap .i64 (Int.fdiv (IntKind.wrap .u64 (IntKind.wrap .i64 (s101.1 + s101.2))) (2 ^ (min (1 : Int).toNat (IntKind.bits .u64))))) + (1 : Int))), s101.2) () h)
      exact (gh_frz rfl rfl ⟨⟨_, rfl, .keep rfl⟩, ⟨_, rfl, .keep rfl⟩, ⟨_, rfl, .keep rfl⟩, ⟨_, rfl, .keep rfl⟩, ⟨_, rfl, .keep rfl⟩, trivial⟩ trivial)
    · replace h := ite_F p144 h
      refine awp_rw ?_
      refine ro rfl rfl (st_mv rfl) ?_
      refine ro rfl rfl (st_as rfl) ?_
      refine rw_nil ?_
      refine nx_block ?_
      refine nx_then ?_
      refine awp_gh ?_ (ih103 (s101.1, (IntKind.wrap .i64 (Int.fdiv (IntKind.wrap .u64 (IntKind.wrap .i64 (s101.1 + s101.2))) (2 ^ (min (1 : Int).toNat (IntKind.bits .u64)))))) () h)
      exact (gh_frz rfl rfl ⟨⟨_, rfl, .keep rfl⟩, ⟨_, rfl, .keep rfl⟩, ⟨_, rfl, .keep rfl⟩, ⟨_, rfl, .keep rfl⟩, ⟨_, rfl, .keep rfl⟩, trivial⟩ trivial)
  · replace h := ite_F p140 h
    refine awp_exit ?_
    refine ex_out ?_
    refine ex_out ?_
    refine ex_in ?_
    refine nx_then ?_
    refine awp_rs ?_
    refine ro rfl rfl (st_mv rfl) ?_
    refine ro rfl rfl (st_mv rfl) ?_
    refine ro rfl rfl (st_mv rfl) ?_
    refine ro rfl rfl (st_bin (v := dB (decide (s101.1 < ((a0.length : Nat) : Int)))) rfl rfl rfl) ?_
    refine ro rfl rfl (st_mv rfl) ?_
    refine bool_split (decide (s101.1 < ((a0.length : Nat) : Int))) (fun p151 => ?_) (fun p151 => ?_)
    · replace h := ite_T p151 h
      rw [p151]
      refine ro rfl rfl (st_mv rfl) ?_
      refine ro rfl rfl (st_mv rfl) ?_
      obtain ⟨x152, h0152, hx152, h⟩ := getI_some h
      refine ro rfl rfl (st_ixD sl28 rfl rfl h0152 hx152) ?_
      refine ro rfl rfl (st_ldD (v := dI .i64 x152) ta3 rfl rfl) ?_
      refine ro rfl rfl (st_mv rfl) ?_
      refine ro rfl rfl (st_bin (v := dB (x152 == a1)) rfl rfl rfl) ?_
      refine ro rfl rfl (st_mv rfl) ?_
      refine bool_split (x152 == a1) (fun p153 => ?_) (fun p153 => ?_)
      · replace h := ite_T p153 h
        rw [p153]
        refine rz rfl rfl ?_
        refine rz rfl rfl ?_
        refine rz rfl rfl ?_
        refine rz rfl rfl ?_
        refine rz rfl rfl ?_
        refine rz rfl rfl ?_
        refine rz rfl rfl ?_
        refine rz rfl rfl ?_
        refine rz rfl rfl ?_
        refine ro rfl rfl (st_pickT rfl rfl) ?_
        refine ro rfl rfl (st_pickT rfl rfl) ?_
        refine ro rfl rfl (st_as rfl) ?_
        refine ro rfl rfl (st_as rfl) ?_
        refine rw_nilk ?_
        refine awp_ret ?_
        injection h with h
        subst h
        exact ret_out (v := .tup [dI .i64 s101.1, dB true]) (resV_many (resVs_tmp rfl (resVs_tmp rfl resVs_nil))) (.keep rfl)
      · replace h := ite_F p153 h
        rw [p153]
        refine ro rfl rfl (st_mv rfl) ?_
        refine ro rfl rfl (st_mv rfl) ?_
        refine ro rfl rfl (st_ixD sl28 rfl rfl h0152 hx152) ?_
        refine ro rfl rfl (st_ldD (v := dI .i64 x152) ta3 rfl rfl) ?_
        obtain ⟨y154, hy154, h⟩ := bind_some_elim h
        refine rf rfl rfl (ok_slices_isNaN_int hy154) rfl rfl ?_
        refine ro rfl rfl (st_mv rfl) ?_
        refine bool_split y154 (fun p155 => ?_) (fun p155 => ?_)
        · replace h := ite_T p155 h
          rw [p155]
          refine ro rfl rfl (st_mv rfl) ?_
          obtain ⟨y156, hy156, h⟩ := bind_some_elim h
          refine rf rfl rfl (ok_slices_isNaN_int hy156) rfl rfl ?_
          refine ro rfl rfl (st_pickT rfl rfl) ?_
          refine ro rfl rfl (st_pickF rfl rfl) ?_
          refine ro rfl rfl (st_pickT rfl rfl) ?_
          refine ro rfl rfl (st_as rfl) ?_
          refine ro rfl rfl (st_as rfl) ?_
          refine rw_nilk ?_
          refine awp_ret ?_
          injection h with h
          subst h
          exact ret_out (v := .tup [dI .i64 s101.1, dB y156]) (resV_many (resVs_tmp rfl (resVs_tmp rfl resVs_nil))) (.keep rfl)
        · replace h := ite_F p155 h
          rw [p155]
          refine rz rfl rfl ?_
          refine rz rfl rfl ?_
          refine ro rfl rfl (st_pickF rfl rfl) ?_
          refine ro rfl rfl (st_pickF rfl rfl) ?_
          refine ro rfl rfl (st_pickT rfl rfl) ?_
          refine ro rfl rfl (st_as rfl) ?_
          refine ro rfl rfl (st_as rfl) ?_
          refine rw_nilk ?_
          refine awp_ret ?_
          injection h with h
          subst h
          exact ret_out (v := .tup [dI .i64 s101.1, dB false]) (resV_many (resVs_tmp rfl (resVs_tmp rfl resVs_nil))) (.keep rfl)
    · replace h := ite_F p151 h
      rw [p151]
      refine rz rfl rfl ?_
      refine rz rfl rfl ?_
      refine rz rfl rfl ?_
      refine rz rfl rfl ?_
      refine rz rfl rfl ?_
      refine rz rfl rfl ?_
      refine rz rfl rfl ?_
      refine rz rfl rfl ?_
      refine rz rfl rfl ?_
      refine rz rfl rfl ?_
      refine rz rfl rfl ?_
      refine rz rfl rfl ?_
      refine rz rfl rfl ?_
      refine rz rfl rfl ?_
      refine rz rfl rfl ?_
      refine rz rfl rfl ?_
      refine rz rfl rfl ?_
      refine ro rfl rfl (st_pickF rfl rfl) ?_
      refine ro rfl rfl (st_as rfl) ?_
      refine ro rfl rfl (st_as rfl) ?_
      refine rw_nilk ?_
      refine awp_ret ?_
      injection h with h
      subst h
      exact ret_out (v := .tup [dI .i64 s101.1, dB false]) (resV_many (resVs_tmp rfl (resVs_tmp rfl resVs_nil))) (.keep rfl)

theorem ok_proof_needed {a0 : (List S_api_Line)} {a1 : Int} {r : (List Bool)} (h : F_proof_needed a0 a1 = some r) : Fn Try.prog 67 [dL 5 e_S_api_Line a0, dI .i64 a1] (dL 1 eB r) := by
  unfold F_proof_needed at h
  refine Fn.of_body (N := 39) (rs := [.tmp 4]) Try.func67 (c := _) rfl rfl rfl (by kernel_rfl) (Nat.le_of_ble_eq_true rfl) (fun _B => ?_)
  refine awp_rs ?_
  refine ro rfl rfl (st_as rfl) ?_
  refine rw_nilk ?_
  refine awp_rs ?_
  refine ro rfl rfl (st_mv rfl) ?_
  refine ro rfl rfl (st_lenD rfl un23) ?_
  obtain ⟨c101, h⟩ := okI_some h
  refine rn (r := 1001) rfl rfl (st_mkN (f := eB) (z := false) sl94 zc4 rfl rfl rfl rfl rfl c101) rfl ?_
  refine rn (r := 1002) rfl rfl (st_alloc zc94 rfl rfl) rfl ?_
  refine rx (L' := [(1001, rw' 1 4 eB (List.replicate a0.length false)), (1002, .row 0 94 [[.slice 1001 1 0 a0.length]])]) rfl rfl (st_stP ta94 rfl rfl rfl rfl rfl rfl rfl rfl) rfl ?_
  refine rw_nilk ?_
  refine awp_rs ?_
  refine ro rfl rfl (st_ldP (v := .slice 1001 1 0 a0.length) ta94 rfl rfl rfl rfl) ?_
  refine ro rfl rfl (st_mv rfl) ?_
  obtain ⟨x102, h0102, hx102, h⟩ := getI_some h
  refine ro rfl rfl (st_ixRi sl94 rfl rfl rfl h0102 hx102 (by simp)) ?_
  refine rx (L' := [(1001, rw' 1 4 eB ((List.replicate a0.length false).set a1.toNat true)), (1002, .row 0 94 [[.slice 1001 1 0 a0.length]])]) rfl rfl (st_stT (z := true) ta4 rfl rfl rfl hx102 rfl rfl rfl rfl rfl) rfl ?_
  refine rw_nilk ?_
  refine awp_seq ?_
  refine awp_rs ?_
  refine ro rfl rfl (st_mv rfl) ?_
  refine ro rfl rfl (st_mv rfl) ?_
  refine ro rfl rfl (st_bin (v := dI .i64 (IntKind.wrap .i64 (a1 + (1 : Int)))) rfl rfl rfl) ?_
  obtain ⟨c401, h⟩ := okI_some h
  refine ro rfl rfl (st_slHi sl23 rfl rfl c401.1 c401.2) ?_
  refine ri (N := 4) (rs := [.tmp 2]) rfl rfl rfl rfl Try.func88 rfl rfl rfl (by kernel_rfl) rfl (fun _B => ?_)
  refine awp_rs ?_
  refine rn (r := 1003) rfl rfl (st_box rfl rfl rfl co23 rfl rfl) rfl ?_
  refine ro rfl rfl (st_as rfl) ?_
  refine rw_nilk ?_
  refine awp_rs ?_
  refine ro rfl rfl (st_fn rfl) ?_
  refine ro rfl rfl (st_as rfl) ?_
  refine rw_nilk ?_
  refine awp_ret ?_
  refine ret_in (v := .fn 95 [.ptr 1003 0 0 0]) (resV_one (resVs_tmp rfl resVs_nil)) ?_
  show RW _ _ _ _ _ _ _
  refine rw_nilk ?_
  refine awp_block ?_
  refine awp_rangeFuncR 1004 [(5, .ptr 1002 0 0 0)] rfl rfl rfl ⟨rfl, trivial⟩ Try.func95 rfl rfl (N' := 19) rfl (by kernel_rfl) rfl (fun O402 hO402 _B => ?_)
  refine awp_rs ?_
  refine ro rfl rfl (st_ldP (v := dL 5 e_S_api_Line (a0.take (IntKind.wrap .i64 (a1 + (1 : Int))).toNat)) ta23 rfl rfl rfl rfl) ?_
  refine ro rfl rfl (st_lenD rfl un23) ?_
  refine ro rfl rfl (st_bin (v := dI .i64 (IntKind.wrap .i64 ((((a0.take (IntKind.wrap .i64 (a1 + (1 : Int))).toNat).length : Nat) : Int) - (1 : Int)))) rfl rfl rfl) ?_
  refine ro rfl rfl (st_as rfl) ?_
  refine rw_nilk ?_
  refine awp_block ?_
  refine awp_while (fun (s403 : (Int × (List Bool))) (g404 : Unit) => [(0, .yld 1004), (1, .ptr 1003 0 0 0), (3, dI .i64 s403.1)]) (fun (s403 : (Int × (List Bool))) (g404 : Unit) => [(1001, rw' 1 4 eB s403.2), (1002, .row 0 94 [[.slice 1001 1 0 s403.2.length]]), (1003, .row 0 23 [[dL 5 e_S_api_Line (a0.take (IntKind.wrap .i64 (a1 + (1 : Int))).toNat)]]), (1004, O402 .ready none)]) () (fun _ _ _ h => h) h (gh_frz rfl rfl ⟨⟨_, rfl, .keep rfl⟩, ⟨_, rfl, .keep rfl⟩, ⟨_, rfl, .keep rfl⟩, trivial⟩ ⟨⟨_, rfl, objRow _⟩, ⟨_, rfl, objOne ⟨⟨rfl, frzN rfl (by simp)⟩, trivial⟩⟩, ⟨_, rfl, objOne ⟨⟨rfl, .keep rfl⟩, trivial⟩⟩, ⟨_, rfl, objLoop (hO402 _ _) rfl⟩, trivial⟩) ?_
  clear h
  intro s403 g404 k405 h ih405
  refine awp_seq ?_
  refine awp_rs ?_
  refine ro rfl rfl (st_mv rfl) ?_
  refine ro rfl rfl (st_bin (v := dB (decide (s403.1 ≥ (0 : Int)))) rfl rfl rfl) ?_
  refine rw_nilk ?_
  refine awp_ite (b := (decide (s403.1 ≥ (0 : Int)))) rfl (fun p602 => ?_) (fun p602 => ?_)
  · replace h := ite_T p602 h
    refine awp_skip ?_
    refine nx_then ?_
    refine awp_seq ?_
    refine awp_block ?_
    refine awp_rs ?_
    refine ro rfl rfl (st_mv rfl) ?_
    refine ro rfl rfl (st_mv rfl) ?_
    refine ro rfl rfl (st_ldP (v := dL 5 e_S_api_Line (a0.take (IntKind.wrap .i64 (a1 + (1 : Int))).toNat)) ta23 rfl rfl rfl rfl) ?_
    refine ro rfl rfl (st_mv rfl) ?_
    obtain ⟨x675, h0675, hx675, h⟩ := getI_some h
    refine ro rfl rfl (st_ixD sl23 rfl rfl h0675 hx675) ?_
    refine ro rfl rfl (st_ldD (v := .agg [dI .u8 x675.Rule, dI .i64 x675.A, dI .i64 x675.B, dI .i64 x675.Piv, dL 1 (eI .i64) x675.Lits]) ta58 rfl rfl) ?_
    refine rw_jn (fun (s686 : (List Bool)) (g687 : Unit) => [(0, .yld 1004), (1, .ptr 1003 0 0 0), (3, dI .i64 s403.1), (17, dB true)]) (fun (s686 : (List Bool)) (g687 : Unit) => [(1001, rw' 1 4 eB s686), (1002, .row 0 94 [[.slice 1001 1 0 s686.length]]), (1003, .row 0 23 [[dL 5 e_S_api_Line (a0.take (IntKind.wrap .i64 (a1 + (1 : Int))).toNat)]]), (1004, O402 .ready none)]) h ?_ ?_
    · clear h
      intro s686 g687 h
      refine ro rfl rfl (st_un (v := dB false) rfl rfl) ?_
      refine rw_nilk ?_
      refine awp_condF rfl ?_
      refine awp_skip ?_
      refine nx_block ?_
      refine nx_then ?_
      refine awp_rw ?_
      refine ro rfl rfl (st_mv rfl) ?_
      refine ro rfl rfl (st_bin (v := dI .i64 (IntKind.wrap .i64 (s403.1 - (1 : Int)))) rfl rfl rfl) ?_
      refine ro rfl rfl (st_as rfl) ?_
      refine rw_nil ?_
      refine nx_then ?_
      refine awp_gh ?_ (ih405 ((IntKind.wrap .i64 (s403.1 - (1 : Int))), s686) () h)
      exact (gh_frz rfl rfl ⟨⟨_, rfl, .keep rfl⟩, ⟨_, rfl, .keep rfl⟩, ⟨_, rfl, .keep rfl⟩, trivial⟩ ⟨⟨_, rfl, objRow _⟩, ⟨_, rfl, objOne ⟨⟨rfl, .keep rfl⟩, trivial⟩⟩, ⟨_, rfl, objOne ⟨⟨rfl, .keep rfl⟩, trivial⟩⟩, ⟨_, rfl, objLoop (hO402 _ _) rfl⟩, trivial⟩)
    · clear h
      intro k688 h J688
      refine rw_yld (N := 39) rfl rfl rfl rfl hO402 rfl rfl rfl (fun _B _F _hF => ?_)
      refine awp_rs ?_
      refine ro rfl rfl (st_as rfl) ?_
      refine rw_nilk ?_
      refine awp_rw ?_
      refine rn (r := 1005) rfl rfl (st_alloc zc58 rfl rfl) rfl ?_
      refine rx (L' := [(1001, rw' 1 4 eB s403.2), (1002, .row 0 94 [[.slice 1001 1 0 s403.2.length]]), (1003, .row 0 23 [[dL 5 e_S_api_Line (a0.take (IntKind.wrap .i64 (a1 + (1 : Int))).toNat)]]), (1004, O402 .ready none), (1005, .row 0 58 [[dI .u8 x675.Rule, dI .i64 x675.A, dI .i64 x675.B, dI .i64 x675.Piv, dL 1 (eI .i64) x675.Lits]])]) rfl rfl (st_stP ta58 rfl rfl rfl rfl rfl rfl rfl rfl) rfl ?_
      refine rw_nil ?_
      refine as_n rfl ?_
      refine awp_block ?_
      refine awp_jn (fun (s691 : Bool) (g692 : Unit) => [(5, .ptr 1002 0 0 0), (7, .ptr 1005 0 0 0), (29, dB s691)]) (fun (s691 : Bool) (g692 : Unit) => [(1001, rw' 1 4 eB s403.2), (1002, .row 0 94 [[.slice 1001 1 0 s403.2.length]]), (1003, .row 0 23 [[dL 5 e_S_api_Line (a0.take (IntKind.wrap .i64 (a1 + (1 : Int))).toNat)]]), (1004, O402 .busy none), (1005, .row 0 58 [[dI .u8 x675.Rule, dI .i64 x675.A, dI .i64 x675.B, dI .i64 x675.Piv, dL 1 (eI .i64) x675.Lits]])]) h ?_ ?_
      · clear h
        intro s691 g692 h
        refine awp_ite (b := s691) rfl (fun p694 => ?_) (fun p694 => ?_)
        · replace h := ite_T p694 h
          refine awp_rd hmix ?_
          refine do_ rfl rfl (st_ldP (v := .slice 1001 1 0 s403.2.length) ta94 rfl rfl rfl rfl) rfl rfl rfl ?_
          refine do_ rfl rfl (st_faP fo58_1 rfl) rfl rfl rfl ?_
          refine do_ rfl rfl (st_ldP (v := dI .i64 x675.A) ta3 rfl rfl rfl rfl) rfl rfl rfl ?_
          refine do_ rfl rfl (st_ldP (v := .slice 1001 1 0 s403.2.length) ta94 rfl rfl rfl rfl) rfl rfl rfl ?_
          refine do_ rfl rfl (st_faP fo58_2 rfl) rfl rfl rfl ?_
          refine do_ rfl rfl (st_ldP (v := dI .i64 x675.B) ta3 rfl rfl rfl rfl) rfl rfl rfl ?_
          obtain ⟨x695, h0695, hx695, h⟩ := getI_some h
          refine do_ rfl rfl (st_ixRi sl94 rfl rfl rfl h0695 hx695 rfl) rfl rfl rfl ?_
          refine dx (L' := [(1001, rw' 1 4 eB (s403.2.set x675.A.toNat true)), (1002, .row 0 94 [[.slice 1001 1 0 s403.2.length]]), (1003, .row 0 23 [[dL 5 e_S_api_Line (a0.take (IntKind.wrap .i64 (a1 + (1 : Int))).toNat)]]), (1004, O402 .busy none), (1005, .row 0 58 [[dI .u8 x675.Rule, dI .i64 x675.A, dI .i64 x675.B, dI .i64 x675.Piv, dL 1 (eI .i64) x675.Lits]])]) rfl rfl (st_stT (z := true) ta4 rfl rfl rfl hx695 rfl rfl rfl rfl rfl) rfl rfl rfl rfl ?_
          obtain ⟨x696, h0696, hx696, h⟩ := getI_some h
          refine do_ rfl rfl (st_ixRi sl94 rfl rfl rfl h0696 hx696 (by simp)) rfl rfl rfl ?_
          refine dx (L' := [(1001, rw' 1 4 eB ((s403.2.set x675.A.toNat true).set x675.B.toNat true)), (1002, .row 0 94 [[.slice 1001 1 0 s403.2.length]]), (1003, .row 0 23 [[dL 5 e_S_api_Line (a0.take (IntKind.wrap .i64 (a1 + (1 : Int))).toNat)]]), (1004, O402 .busy none), (1005, .row 0 58 [[dI .u8 x675.Rule, dI .i64 x675.A, dI .i64 x675.B, dI .i64 x675.Piv, dL 1 (eI .i64) x675.Lits]])]) rfl rfl (st_stT (z := true) ta4 rfl rfl rfl hx696 rfl rfl rfl rfl rfl) rfl rfl rfl rfl ?_
          refine rd_nil (by kernel_rfl) ?_
          refine nx_block ?_
          refine rk_n rfl ?_
          exact J688 ((s403.2.set x675.A.toNat true).set x675.B.toNat true) () _ _ h (gh_frz rfl rfl ⟨⟨_, rfl, .keep rfl⟩, ⟨_, rfl, .keep rfl⟩, ⟨_, rfl, .keep rfl⟩, ⟨_, rfl, .keep rfl⟩, trivial⟩ ⟨⟨_, rfl, objRow _⟩, ⟨_, rfl, objOne ⟨⟨rfl, frzN rfl (by simp)⟩, trivial⟩⟩, ⟨_, rfl, objOne ⟨⟨rfl, .keep rfl⟩, trivial⟩⟩, ⟨_, rfl, objLoop (hO402 _ _) rfl⟩, trivial⟩)
        · replace h := ite_F p694 h
          refine awp_skip ?_
          refine nx_block ?_
          refine rk_n rfl ?_
          exact J688 s403.2 () _ _ h (gh_frz rfl rfl ⟨⟨_, rfl, .keep rfl⟩, ⟨_, rfl, .keep rfl⟩, ⟨_, rfl, .keep rfl⟩, ⟨_, rfl, .keep rfl⟩, trivial⟩ ⟨⟨_, rfl, objRow _⟩, ⟨_, rfl, objOne ⟨⟨rfl, .keep rfl⟩, trivial⟩⟩, ⟨_, rfl, objOne ⟨⟨rfl, .keep rfl⟩, trivial⟩⟩, ⟨_, rfl, objLoop (hO402 _ _) rfl⟩, trivial⟩)
      · clear h
        intro k693 h J693
        refine awp_rw ?_
        refine ro rfl rfl (st_ldP (v := .slice 1001 1 0 s403.2.length) ta94 rfl rfl rfl rfl) ?_
        refine ro rfl rfl (st_mv rfl) ?_
        obtain ⟨x697, h0697, hx697, h⟩ := getI_some h
        refine ro rfl rfl (st_ixRi sl94 rfl rfl rfl h0697 hx697 rfl) ?_
        refine ro rfl rfl (st_ldP (v := dB x697) ta4 rfl rfl (rowOf_map_get hx697) rfl) ?_
        refine ro rfl rfl (st_mv rfl) ?_
        refine bool_split x697 (fun p698 => ?_) (fun p698 => ?_)
        · replace h := ite_T p698 h
          rw [p698]
          refine ro rfl rfl (st_faP fo58_0 rfl) ?_
          refine ro rfl rfl (st_ldP (v := dI .u8 x675.Rule) ta56 rfl rfl rfl rfl) ?_
          refine ro rfl rfl (st_bin (v := dB (x675.Rule == (2 : Int))) rfl rfl rfl) ?_
          refine ro rfl rfl (st_pickT rfl rfl) ?_
          refine rw_nil ?_
          refine nx_then ?_
          exact J693 (x675.Rule == (2 : Int)) () _ _ h (gh_frz rfl rfl ⟨⟨_, rfl, .keep rfl⟩, ⟨_, rfl, .keep rfl⟩, ⟨_, rfl, .keep rfl⟩, trivial⟩ ⟨⟨_, rfl, objRow _⟩, ⟨_, rfl, objOne ⟨⟨rfl, .keep rfl⟩, trivial⟩⟩, ⟨_, rfl, objOne ⟨⟨rfl, .keep rfl⟩, trivial⟩⟩, ⟨_, rfl, objLoop (hO402 _ _) rfl⟩, ⟨_, rfl, objOne ⟨⟨rfl, .keep rfl⟩, ⟨rfl, .keep rfl⟩, ⟨rfl, .keep rfl⟩, ⟨rfl, .keep rfl⟩, ⟨rfl, .keep rfl⟩, trivial⟩⟩, trivial⟩)
        · replace h := ite_F p698 h
          rw [p698]
          refine rz rfl rfl ?_
          refine rz rfl rfl ?_
          refine rz rfl rfl ?_
          refine ro rfl rfl (st_pickF rfl rfl) ?_
          refine rw_nil ?_
          refine nx_then ?_
          exact J693 false () _ _ h (gh_frz rfl rfl ⟨⟨_, rfl, .keep rfl⟩, ⟨_, rfl, .keep rfl⟩, ⟨_, rfl, .keep rfl⟩, trivial⟩ ⟨⟨_, rfl, objRow _⟩, ⟨_, rfl, objOne ⟨⟨rfl, .keep rfl⟩, trivial⟩⟩, ⟨_, rfl, objOne ⟨⟨rfl, .keep rfl⟩, trivial⟩⟩, ⟨_, rfl, objLoop (hO402 _ _) rfl⟩, ⟨_, rfl, objOne ⟨⟨rfl, .keep rfl⟩, ⟨rfl, .keep rfl⟩, ⟨rfl, .keep rfl⟩, ⟨rfl, .keep rfl⟩, ⟨rfl, .keep rfl⟩, trivial⟩⟩, trivial⟩)
  · replace h := ite_F p602 h
    refine awp_exit ?_
    refine ex_out ?_
    refine ex_out ?_
    refine ex_in ?_
    refine ret_inN (v := .tup []) (resV_none resVs_nil) ?_
    refine ⟨_, _, _, rfl, rfl, (by intro h; cases h), ?_⟩
    refine bh_0 ?_
    refine nx_block ?_
    refine nx_then ?_
    refine awp_rs ?_
    refine ro rfl rfl (st_ldP (v := .slice 1001 1 0 s403.2.length) ta94 rfl rfl rfl rfl) ?_
    refine ro rfl rfl (st_as rfl) ?_
    refine rw_nilk ?_
    refine awp_ret ?_
    injection h with h
    subst h
    exact ret_out (v := .slice 1001 1 0 s403.2.length) (resV_one (resVs_tmp rfl resVs_nil)) (frzT rfl rfl co4 rfl)

theorem ok_proof_kept {a0 : (List S_api_Line)} {a1 : Int} {r : S_api_Proof} (h : F_proof_kept a0 a1 = some r) : Fn Try.prog 61 [dL 5 e_S_api_Line a0, dI .i64 a1] (.agg [dB r.Cubes, dL 5 e_S_api_Line r.Lines]) := by
  unfold F_proof_kept at h
  refine Fn.of_body (N := 60) (rs := [.cell 4 25]) Try.func61 (c := _) rfl rfl rfl (by kernel_rfl) (Nat.le_of_ble_eq_true rfl) (fun _B => ?_)
  refine awp_rs ?_
  refine rn (r := 1001) rfl rfl (st_alloc zc25 rfl rfl) rfl ?_
  refine rw_nilk ?_
  refine awp_rs ?_
  refine ro rfl rfl (st_mv rfl) ?_
  refine ro rfl rfl (st_lenD rfl un23) ?_
  obtain ⟨c101, h⟩ := okI_some h
  refine rn (r := 1002) rfl rfl (st_mkN (f := (eI .i64)) (z := (0 : Int)) sl28 zc3 rfl rfl rfl rfl rfl c101) rfl ?_
  refine ro rfl rfl (st_as rfl) ?_
  refine rw_nilk ?_
  refine awp_seq ?_
  refine awp_rs ?_
  refine ro rfl rfl (st_mv rfl) ?_
  refine ro rfl rfl (st_mv rfl) ?_
  obtain ⟨y102, hy102, h⟩ := bind_some_elim h
  refine rf rfl rfl (ok_proof_needed hy102) rfl rfl ?_
  refine ro rfl rfl (st_lenD rfl un94) ?_
  refine ro rfl rfl (st_mv rfl) ?_
  refine rw_nilk ?_
  refine awp_block ?_
  refine awp_len (t := 14) rfl (fun hl106 => ?_)
  rw [List.length_map] at hl106
  refine awp_range (fun (j106 : Nat) (s103 : ((List Int) × (List S_api_Line))) (g104 : Nat) => [(0, dL 5 e_S_api_Line a0), (4, .ptr 1001 0 0 0), (5, .slice 1002 1 0 s103.1.length), (14, dL 1 eB y102), (15, dI .i64 ((y102.length : Nat) : Int)), (16, dI .i64 ((j106 : Nat) : Int))]) (fun (s103 : ((List Int) × (List S_api_Line))) (g104 : Nat) => [(1001, .row 0 25 [[dB false, .slice 1005 g104 0 s103.2.length]]), (1002, rw' 1 3 (eI .i64) s103.1), (1005, rw' g104 58 e_S_api_Line s103.2)]) 0 (fun _ _ _ h => h) h (Gh.trans (gh_nil (r := 1005) (E' := [(0, dL 5 e_S_api_Line a0), (4, .ptr 1001 0 0 0), (5, .slice 1002 1 0 a0.length), (14, dL 1 eB y102), (15, dI .i64 ((y102.length : Nat) : Int)), (16, dI .i64 (0 : Int))]) (L' := [(1001, .row 0 25 [[dB false, .slice 1005 0 0 (([] : List S_api_Line).length)]]), (1002, rw' 1 3 (eI .i64) (List.replicate a0.length (0 : Int)))]) rfl co58 rfl rfl ⟨⟨_, rfl, .keep _⟩, ⟨_, rfl, .keep _⟩, ⟨_, rfl, .keep _⟩, ⟨_, rfl, .keep _⟩, ⟨_, rfl, .keep _⟩, ⟨_, rfl, .keep _⟩, trivial⟩ ⟨⟨_, rfl, nilOne ⟨.keep _, .nil, trivial⟩⟩, ⟨_, rfl, .keep _⟩, trivial⟩) (gh_frz rfl rfl ⟨⟨_, rfl, .keep rfl⟩, ⟨_, rfl, .keep rfl⟩, ⟨_, rfl, frzN rfl (by simp)⟩, ⟨_, rfl, .keep rfl⟩, ⟨_, rfl, .keep rfl⟩, ⟨_, rfl, .keep rfl⟩, trivial⟩ ⟨⟨_, rfl, objOne ⟨⟨rfl, .keep rfl⟩, ⟨rfl, .keep rfl⟩, trivial⟩⟩, ⟨_, rfl, objRow _⟩, ⟨_, rfl, objRow (List.map e_S_api_Line ([] : List S_api_Line))⟩, trivial⟩)) ?_ ?_
  · clear h
    intro j106 x107 s103 g104 k105 hj106 hx106 h ih105
    refine awp_rs ?_
    refine ro rfl rfl (st_bin (v := dB (decide (((j106 : Nat) : Int) < ((y102.length : Nat) : Int)))) rfl rfl rfl) ?_
    refine rw_nilk ?_
    refine awp_seq ?_
    refine awp_ifT rfl (dlt hj106) ?_
    refine awp_skip ?_
    refine nx_then ?_
    refine awp_jn (fun (s215 : ((List Int) × (List S_api_Line))) (g216 : Nat) => [(0, dL 5 e_S_api_Line a0), (4, .ptr 1001 0 0 0), (5, .slice 1002 1 0 s215.1.length), (14, dL 1 eB y102), (15, dI .i64 ((y102.length : Nat) : Int)), (16, dI .i64 ((j106 : Nat) : Int))]) (fun (s215 : ((List Int) × (List S_api_Line))) (g216 : Nat) => [(1001, .row 0 25 [[dB false, .slice 1005 g216 0 s215.2.length]]), (1002, rw' 1 3 (eI .i64) s215.1), (1005, rw' g216 58 e_S_api_Line s215.2)]) h ?_ ?_
    · clear h
      intro s215 g216 h
      refine awp_rw ?_
      refine ro rfl rfl (st_inc rfl rfl hj106 hl106) ?_
      refine ro rfl rfl (st_mv rfl) ?_
      refine rw_nil ?_
      refine nx_then ?_
      refine awp_gh ?_ (ih105 (s215.1, s215.2) g216 h)
      exact (gh_frz rfl rfl ⟨⟨_, rfl, .keep rfl⟩, ⟨_, rfl, .keep rfl⟩, ⟨_, rfl, .keep rfl⟩, ⟨_, rfl, .keep rfl⟩, ⟨_, rfl, .keep rfl⟩, ⟨_, rfl, .keep rfl⟩, trivial⟩ ⟨⟨_, rfl, objOne ⟨⟨rfl, .keep rfl⟩, ⟨rfl, .keep rfl⟩, trivial⟩⟩, ⟨_, rfl, objRow _⟩, ⟨_, rfl, objRow _⟩, trivial⟩)
    · clear h
      intro k217 h J217
      refine awp_block ?_
      refine awp_rs ?_
      refine ro rfl rfl (st_mv rfl) ?_
      refine ro rfl rfl (st_ixDn sl94 rfl rfl hx106) ?_
      refine ro rfl rfl (st_ldD (v := dB x107) ta4 rfl rfl) ?_
      refine ro rfl rfl (st_as rfl) ?_
      refine ro rfl rfl (st_as rfl) ?_
      refine rw_nilk ?_
      refine awp_seq ?_
      refine awp_rs ?_
      refine ro rfl rfl (st_mv rfl) ?_
      refine ro rfl rfl (st_un (v := dB (!x107)) rfl rfl) ?_
      refine rw_nilk ?_
      refine awp_ite (b := (!x107)) rfl (fun p218 => ?_) (fun p218 => ?_)
      · replace h := ite_T p218 h
        refine awp_exit ?_
        refine ex_out ?_
        refine ex_in ?_
        refine nx_then ?_
        exact J217 (s103.1, s103.2) g104 _ _ h (gh_frz rfl rfl ⟨⟨_, rfl, .keep rfl⟩, ⟨_, rfl, .keep rfl⟩, ⟨_, rfl, .keep rfl⟩, ⟨_, rfl, .keep rfl⟩, ⟨_, rfl, .keep rfl⟩, ⟨_, rfl, .keep rfl⟩, trivial⟩ ⟨⟨_, rfl, objOne ⟨⟨rfl, .keep rfl⟩, ⟨rfl, .keep rfl⟩, trivial⟩⟩, ⟨_, rfl, objRow _⟩, ⟨_, rfl, objRow _⟩, trivial⟩)
      · replace h := ite_F p218 h
        refine awp_skip ?_
        refine nx_then ?_
        refine awp_rs ?_
        refine ro rfl rfl (st_mv rfl) ?_
        refine ro rfl rfl (st_mv rfl) ?_
        obtain ⟨x219, h0219, hx219, h⟩ := getI_some h
        refine ro rfl rfl (st_ixD sl23 rfl rfl h0219 hx219) ?_
        refine ro rfl rfl (st_ldD (v := .agg [dI .u8 x219.Rule, dI .i64 x219.A, dI .i64 x219.B, dI .i64 x219.Piv, dL 1 (eI .i64) x219.Lits]) ta58 rfl rfl) ?_
        refine rn (r := 1006) rfl rfl (st_alloc zc58 rfl rfl) rfl ?_
        refine rx (L' := [(1001, .row 0 25 [[dB false, .slice 1005 g104 0 s103.2.length]]), (1002, rw' 1 3 (eI .i64) s103.1), (1005, rw' g104 58 e_S_api_Line s103.2), (1006, .row 0 58 [[dI .u8 x219.Rule, dI .i64 x219.A, dI .i64 x219.B, dI .i64 x219.Piv, dL 1 (eI .i64) x219.Lits]])]) rfl rfl (st_stP ta58 rfl rfl rfl rfl rfl rfl rfl rfl) rfl ?_
        refine rw_nilk ?_
        refine awp_rs ?_
        refine ro rfl rfl (st_faP fo58_4 rfl) ?_
        refine ro rfl rfl (st_ldP (v := dL 1 (eI .i64) x219.Lits) ta28 rfl rfl rfl rfl) ?_
        obtain ⟨y220, hy220, h⟩ := bind_some_elim h
        refine rf rfl rfl (ok_slices_Clone_int_int hy220) rfl rfl ?_
        refine ro rfl rfl (st_faP fo58_4 rfl) ?_
        refine rx (L' := [(1001, .row 0 25 [[dB false, .slice 1005 g104 0 s103.2.length]]), (1002, rw' 1 3 (eI .i64) s103.1), (1005, rw' g104 58 e_S_api_Line s103.2), (1006, .row 0 58 [[dI .u8 x219.Rule, dI .i64 x219.A, dI .i64 x219.B, dI .i64 x219.Piv, dL 1 (eI .i64) y220]])]) rfl rfl (st_stP ta28 rfl rfl rfl rfl rfl rfl rfl rfl) rfl ?_
        refine rw_nilk ?_
        refine awp_jn (fun (s224 : (Int × Int)) (g225 : Unit) => [(0, dL 5 e_S_api_Line a0), (4, .ptr 1001 0 0 0), (5, .slice 1002 1 0 s103.1.length), (6, dI .i64 ((j106 : Nat) : Int)), (8, .ptr 1006 0 0 0), (14, dL 1 eB y102), (15, dI .i64 ((y102.length : Nat) : Int)), (16, dI .i64 ((j106 : Nat) : Int))]) (fun (s224 : (Int × Int)) (g225 : Unit) => [(1001, .row 0 25 [[dB false, .slice 1005 g104 0 s103.2.length]]), (1002, rw' 1 3 (eI .i64) s103.1), (1005, rw' g104 58 e_S_api_Line s103.2), (1006, .row 0 58 [[dI .u8 x219.Rule, dI .i64 s224.1, dI .i64 s224.2, dI .i64 x219.Piv, dL 1 (eI .i64) y220]])]) h ?_ ?_
        · clear h
          intro s224 g225 h
          refine awp_rs ?_
          refine ro rfl rfl (st_mv rfl) ?_
          refine ro rfl rfl (st_mv rfl) ?_
          refine ro rfl rfl (st_faP fo25_1 rfl) ?_
          refine ro rfl rfl (st_ldP (v := .slice 1005 g104 0 s103.2.length) ta23 rfl rfl rfl rfl) ?_
          refine ro rfl rfl (st_lenR rfl un23 rfl) ?_
          obtain ⟨x227, h0227, hx227, h⟩ := getI_some h
          refine ro rfl rfl (st_ixRi sl28 rfl rfl rfl h0227 hx227 rfl) ?_
          refine rx (L' := [(1001, .row 0 25 [[dB false, .slice 1005 g104 0 s103.2.length]]), (1002, rw' 1 3 (eI .i64) (s103.1.set (((j106 : Nat) : Int).toNat) ((s103.2.length : Nat) : Int))), (1005, rw' g104 58 e_S_api_Line s103.2), (1006, .row 0 58 [[dI .u8 x219.Rule, dI .i64 s224.1, dI .i64 s224.2, dI .i64 x219.Piv, dL 1 (eI .i64) y220]])]) rfl rfl (st_stT (z := ((s103.2.length : Nat) : Int)) ta3 rfl rfl rfl hx227 rfl rfl rfl rfl rfl) rfl ?_
          refine rw_nilk ?_
          refine awp_rw ?_
          refine ro rfl rfl (st_faP fo25_1 rfl) ?_
          refine ro rfl rfl (st_ldP (v := .slice 1005 g104 0 s103.2.length) ta23 rfl rfl rfl rfl) ?_
          refine ro rfl rfl (st_ldP (v := .agg [dI .u8 x219.Rule, dI .i64 s224.1, dI .i64 s224.2, dI .i64 x219.Piv, dL 1 (eI .i64) y220]) ta58 rfl rfl rfl rfl) ?_
          refine rn (r := 1007) rfl rfl (st_bsl (els := [[dI .u8 x219.Rule, dI .i64 s224.1, dI .i64 s224.2, dI .i64 x219.Piv, dL 1 (eI .i64) y220]]) sl23 zc58 rfl rfl rfl rfl rfl) rfl ?_
          obtain ⟨c228, h⟩ := capN_some h
          refine rn (r := 0) (L' := [(1001, .row 0 25 [[dB false, .slice 1005 g104 0 s103.2.length]]), (1002, rw' 1 3 (eI .i64) (s103.1.set (((j106 : Nat) : Int).toNat) ((s103.2.length : Nat) : Int))), (1005, rw' (g104 + 2) 58 e_S_api_Line (s103.2 ++ [(S_api_Line.mk x219.Rule s224.1 s224.2 x219.Piv y220)])), (1006, .row 0 58 [[dI .u8 x219.Rule, dI .i64 s224.1, dI .i64 s224.2, dI .i64 x219.Piv, dL 1 (eI .i64) y220]]), (1007, .row 1 58 [[dI .u8 x219.Rule, dI .i64 s224.1, dI .i64 s224.2, dI .i64 x219.Piv, dL 1 (eI .i64) y220]])]) rfl rfl (st_appR (f := e_S_api_Line) (xs := s103.2) (ys := [(S_api_Line.mk x219.Rule s224.1 s224.2 x219.Piv y220)]) sl23 zc58 rfl rfl rfl rfl rfl (news_one (a := (S_api_Line.mk x219.Rule s224.1 s224.2 x219.Piv y220)) rfl rfl) c228) rfl ?_
          refine ro rfl rfl (st_faP fo25_1 rfl) ?_
          refine rx (L' := [(1001, .row 0 25 [[dB false, .slice 1005 (g104 + 2) 0 ((s103.2 ++ [(S_api_Line.mk x219.Rule s224.1 s224.2 x219.Piv y220)]).length)]]), (1002, rw' 1 3 (eI .i64) (s103.1.set (((j106 : Nat) : Int).toNat) ((s103.2.length : Nat) : Int))), (1005, rw' (g104 + 2) 58 e_S_api_Line (s103.2 ++ [(S_api_Line.mk x219.Rule s224.1 s224.2 x219.Piv y220)])), (1006, .row 0 58 [[dI .u8 x219.Rule, dI .i64 s224.1, dI .i64 s224.2, dI .i64 x219.Piv, dL 1 (eI .i64) y220]]), (1007, .row 1 58 [[dI .u8 x219.Rule, dI .i64 s224.1, dI .i64 s224.2, dI .i64 x219.Piv, dL 1 (eI .i64) y220]])]) rfl rfl (st_stP ta23 rfl rfl rfl rfl rfl rfl rfl rfl) rfl ?_
          refine rw_nil ?_
          refine nx_block ?_
          refine nx_then ?_
          exact J217 ((s103.1.set (((j106 : Nat) : Int).toNat) ((s103.2.length : Nat) : Int)), (s103.2 ++ [(S_api_Line.mk x219.Rule s224.1 s224.2 x219.Piv y220)])) (g104 + 2) _ _ h (gh_frz rfl rfl ⟨⟨_, rfl, .keep rfl⟩, ⟨_, rfl, .keep rfl⟩, ⟨_, rfl, frzN rfl (by simp)⟩, ⟨_, rfl, .keep rfl⟩, ⟨_, rfl, .keep rfl⟩, ⟨_, rfl, .keep rfl⟩, trivial⟩ ⟨⟨_, rfl, objOne ⟨⟨rfl, .keep rfl⟩, ⟨rfl, .keep rfl⟩, trivial⟩⟩, ⟨_, rfl, objRow _⟩, ⟨_, rfl, objRow _⟩, trivial⟩)
        · clear h
          intro k226 h J226
          refine awp_rs ?_
          refine ro rfl rfl (st_faP fo58_0 rfl) ?_
          refine ro rfl rfl (st_ldP (v := dI .u8 x219.Rule) ta56 rfl rfl rfl rfl) ?_
          refine ro rfl rfl (st_bin (v := dB (x219.Rule == (2 : Int))) rfl rfl rfl) ?_
          refine rw_nilk ?_
          refine awp_ite (b := (x219.Rule == (2 : Int))) rfl (fun p229 => ?_) (fun p229 => ?_)
          · replace h := ite_T p229 h
            refine awp_rd hmix ?_
            refine do_ rfl rfl (st_mv rfl) rfl rfl rfl ?_
            refine do_ rfl rfl (st_faP fo58_1 rfl) rfl rfl rfl ?_
            refine do_ rfl rfl (st_ldP (v := dI .i64 x219.A) ta3 rfl rfl rfl rfl) rfl rfl rfl ?_
            obtain ⟨x230, h0230, hx230, h⟩ := getI_some h
            refine do_ rfl rfl (st_ixRi sl28 rfl rfl rfl h0230 hx230 rfl) rfl rfl rfl ?_
            refine do_ rfl rfl (st_ldP (v := dI .i64 x230) ta3 rfl rfl (rowOf_map_get hx230) rfl) rfl rfl rfl ?_
            refine do_ rfl rfl (st_mv rfl) rfl rfl rfl ?_
            refine do_ rfl rfl (st_faP fo58_2 rfl) rfl rfl rfl ?_
            refine do_ rfl rfl (st_ldP (v := dI .i64 x219.B) ta3 rfl rfl rfl rfl) rfl rfl rfl ?_
            obtain ⟨x231, h0231, hx231, h⟩ := getI_some h
            refine do_ rfl rfl (st_ixRi sl28 rfl rfl rfl h0231 hx231 rfl) rfl rfl rfl ?_
            refine do_ rfl rfl (st_ldP (v := dI .i64 x231) ta3 rfl rfl (rowOf_map_get hx231) rfl) rfl rfl rfl ?_
            refine do_ rfl rfl (st_faP fo58_1 rfl) rfl rfl rfl ?_
            refine dx (L' := [(1001, .row 0 25 [[dB false, .slice 1005 g104 0 s103.2.length]]), (1002, rw' 1 3 (eI .i64) s103.1), (1005, rw' g104 58 e_S_api_Line s103.2), (1006, .row 0 58 [[dI .u8 x219.Rule, dI .i64 x230, dI .i64 x219.B, dI .i64 x219.Piv, dL 1 (eI .i64) y220]])]) rfl rfl (st_stP ta3 rfl rfl rfl rfl rfl rfl rfl rfl) rfl rfl rfl rfl ?_
            refine do_ rfl rfl (st_faP fo58_2 rfl) rfl rfl rfl ?_
            refine dx (L' := [(1001, .row 0 25 [[dB false, .slice 1005 g104 0 s103.2.length]]), (1002, rw' 1 3 (eI .i64) s103.1), (1005, rw' g104 58 e_S_api_Line s103.2), (1006, .row 0 58 [[dI .u8 x219.Rule, dI .i64 x230, dI .i64 x231, dI .i64 x219.Piv, dL 1 (eI .i64) y220]])]) rfl rfl (st_stP ta3 rfl rfl rfl rfl rfl rfl rfl rfl) rfl rfl rfl rfl ?_
            refine rd_nil (by kernel_rfl) ?_
            refine nx_then ?_
            exact J226 (x230, x231) () _ _ h (gh_frz rfl rfl ⟨⟨_, rfl, .keep rfl⟩, ⟨_, rfl, .keep rfl⟩, ⟨_, rfl, .keep rfl⟩, ⟨_, rfl, .keep rfl⟩, ⟨_, rfl, .keep rfl⟩, ⟨_, rfl, .keep rfl⟩, ⟨_, rfl, .keep rfl⟩, ⟨_, rfl, .keep rfl⟩, trivial⟩ ⟨⟨_, rfl, objOne ⟨⟨rfl, .keep rfl⟩, ⟨rfl, .keep rfl⟩, trivial⟩⟩, ⟨_, rfl, objRow _⟩, ⟨_, rfl, objRow _⟩, ⟨_, rfl, objOne ⟨⟨rfl, .keep rfl⟩, ⟨rfl, .keep rfl⟩, ⟨rfl, .keep rfl⟩, ⟨rfl, .keep rfl⟩, ⟨rfl, .keep rfl⟩, trivial⟩⟩, trivial⟩)
          · replace h := ite_F p229 h
            refine awp_skip ?_
            refine nx_then ?_
            exact J226 (x219.A, x219.B) () _ _ h (gh_frz rfl rfl ⟨⟨_, rfl, .keep rfl⟩, ⟨_, rfl, .keep rfl⟩, ⟨_, rfl, .keep rfl⟩, ⟨_, rfl, .keep rfl⟩, ⟨_, rfl, .keep rfl⟩, ⟨_, rfl, .keep rfl⟩, ⟨_, rfl, .keep rfl⟩, ⟨_, rfl, .keep rfl⟩, trivial⟩ ⟨⟨_, rfl, objOne ⟨⟨rfl, .keep rfl⟩, ⟨rfl, .keep rfl⟩, trivial⟩⟩, ⟨_, rfl, objRow _⟩, ⟨_, rfl, objRow _⟩, ⟨_, rfl, objOne ⟨⟨rfl, .keep rfl⟩, ⟨rfl, .keep rfl⟩, ⟨rfl, .keep rfl⟩, ⟨rfl, .keep rfl⟩, ⟨rfl, .keep rfl⟩, trivial⟩⟩, trivial⟩)
  · clear h
    intro s103 g104 h
    refine awp_rs ?_
    refine ro rfl rfl (st_bin (v := dB (decide (((y102.length : Nat) : Int) < ((y102.length : Nat) : Int)))) rfl rfl rfl) ?_
    refine rw_nilk ?_
    refine awp_seq ?_
    refine awp_ifF rfl dge ?_
    refine awp_exit ?_
    refine ex_out ?_
    refine ex_out ?_
    refine ex_in ?_
    refine nx_then ?_
    refine awp_rs ?_
    refine ro rfl rfl (st_ldP (v := .agg [dB false, .slice 1005 g104 0 s103.2.length]) ta25 rfl rfl rfl rfl) ?_
    refine rx (L' := [(1001, .row 0 25 [[dB false, .slice 1005 g104 0 s103.2.length]]), (1002, rw' 1 3 (eI .i64) s103.1), (1005, rw' g104 58 e_S_api_Line s103.2)]) rfl rfl (st_stP ta25 rfl rfl rfl rfl rfl rfl rfl rfl) rfl ?_
    refine rw_nilk ?_
    refine awp_ret ?_
    injection h with h
    subst h
    exact ret_out (v := .agg [dB false, .slice 1005 g104 0 s103.2.length]) (resV_one (resVs_cell (v := .agg [dB false, .slice 1005 g104 0 s103.2.length]) ta25 rfl rfl rfl rfl resVs_nil)) (frz_agg ⟨(.keep rfl), (frzT rfl rfl co58 rfl), trivial⟩)

theorem ok_proof_Restrict {a0 : (List (List Int))} {a1 : S_api_Proof} {a2 : (List Int)} {r : (S_api_Proof × Int)} (h : F_proof_Restrict a0 a1 a2 = some r) : Fn Try.prog 21 [dL 1 (eL 1 (eI .i64)) a0, .agg [dB a1.Cubes, dL 5 e_S_api_Line a1.Lines], dL 1 (eI .i64) a2] (.tup [.agg [dB r.1.Cubes, dL 5 e_S_api_Line r.1.Lines], dI .i64 r.2]) := by
  unfold F_proof_Restrict at h
  refine Fn.of_body (N := 176) (rs := [.cell 6 25, .tmp 7]) Try.func21 (c := _) rfl rfl rfl (by kernel_rfl) (Nat.le_of_ble_eq_true rfl) (fun _B => ?_)
  refine awp_rs ?_
  refine rn (r := 1001) rfl rfl (st_box rfl rfl rfl co25 rfl rfl) rfl ?_
  refine rn (r := 1002) rfl rfl (st_alloc zc25 rfl rfl) rfl ?_
  refine ro rfl rfl (st_as rfl) ?_
  refine rw_nilk ?_
  refine awp_rs ?_
  refine ro rfl rfl (st_mv rfl) ?_
  refine ro rfl rfl (st_mv rfl) ?_
  obtain ⟨y101, hy101, h⟩ := bind_some_elim h
  refine rf rfl rfl (ok_proof_Under hy101) rfl rfl ?_
  refine ro rfl rfl (st_mv rfl) ?_
  refine ro rfl rfl (st_ext rfl rfl) ?_
  refine ro rfl rfl (st_ext rfl rfl) ?_
  refine ro rfl rfl (st_ext rfl rfl) ?_
  refine ro rfl rfl (st_as rfl) ?_
  refine ro rfl rfl (st_as rfl) ?_
  refine ro rfl rfl (st_as rfl) ?_
  refine rw_nilk ?_
  refine awp_seq ?_
  refine awp_rs ?_
  refine ro rfl rfl (st_mv rfl) ?_
  refine ro rfl rfl (st_bin (v := dB (y101.2.2 != (0 : Int))) rfl rfl rfl) ?_
  refine rw_nilk ?_
  refine awp_ite (b := (y101.2.2 != (0 : Int))) rfl (fun p102 => ?_) (fun p102 => ?_)
  · replace h := ite_T p102 h
    refine awp_rs ?_
    refine ro rfl rfl (st_build (vs := [dB false, .nilS]) bl25 rfl rfl) ?_
    refine ro rfl rfl (st_mv rfl) ?_
    refine rx (L' := [(1001, .row 0 25 [[dB a1.Cubes, dL 5 e_S_api_Line a1.Lines]]), (1002, .row 0 25 [[dB false, .nilS]])]) rfl rfl (st_stP ta25 rfl rfl rfl rfl rfl rfl rfl rfl) rfl ?_
    refine ro rfl rfl (st_as rfl) ?_
    refine rw_nilk ?_
    refine awp_ret ?_
    refine rt_then ?_
    injection h with h
    subst h
    exact ret_out (v := .tup [.agg [dB false, .nilS], dI .i64 y101.2.2]) (resV_many (resVs_cell (v := .agg [dB false, .nilS]) ta25 rfl rfl rfl rfl (resVs_tmp rfl resVs_nil))) (frz_tup ⟨(frz_agg ⟨(.keep rfl), (.nilS _), trivial⟩), (.keep rfl), trivial⟩)
  · replace h := ite_F p102 h
    refine awp_skip ?_
    refine nx_then ?_
    refine awp_rs ?_
    refine ro rfl rfl (st_mv rfl) ?_
    refine ro rfl rfl (st_ldP (v := .agg [dB a1.Cubes, dL 5 e_S_api_Line a1.Lines]) ta25 rfl rfl rfl rfl) ?_
    obtain ⟨y103, hy103, h⟩ := bind_some_elim h
    refine rf rfl rfl (ok_proof_Check hy103) rfl rfl ?_
    refine ro rfl rfl (st_mv rfl) ?_
    refine ro rfl rfl (st_ext rfl rfl) ?_
    refine ro rfl rfl (st_ext rfl rfl) ?_
    refine ro rfl rfl (st_ext rfl rfl) ?_
    refine ro rfl rfl (st_as rfl) ?_
    refine ro rfl rfl (st_as rfl) ?_
    refine ro rfl rfl (st_as rfl) ?_
    refine rw_nilk ?_
    refine awp_seq ?_
    refine awp_block ?_
    refine awp_rs ?_
    refine ro rfl rfl (st_mv rfl) ?_
    refine ro rfl rfl (st_bin (v := dB (y103.2.2 != (0 : Int))) rfl rfl rfl) ?_
    refine ro rfl rfl (st_as rfl) ?_
    refine rw_nilk ?_
    refine awp_ite (b := (y103.2.2 != (0 : Int))) rfl (fun p104 => ?_) (fun p104 => ?_)
    · replace h := ite_T p104 h
      refine awp_rs ?_
      refine ro rfl rfl (st_build (vs := [dB false, .nilS]) bl25 rfl rfl) ?_
      refine ro rfl rfl (st_mv rfl) ?_
      refine rx (L' := [(1001, .row 0 25 [[dB a1.Cubes, dL 5 e_S_api_Line a1.Lines]]), (1002, .row 0 25 [[dB false, .nilS]])]) rfl rfl (st_stP ta25 rfl rfl rfl rfl rfl rfl rfl rfl) rfl ?_
      refine ro rfl rfl (st_as rfl) ?_
      refine rw_nilk ?_
      refine awp_ret ?_
      refine rt_block ?_
      refine rt_then ?_
      injection h with h
      subst h
      exact ret_out (v := .tup [.agg [dB false, .nilS], dI .i64 y103.2.2]) (resV_many (resVs_cell (v := .agg [dB false, .nilS]) ta25 rfl rfl rfl rfl (resVs_tmp rfl resVs_nil))) (frz_tup ⟨(frz_agg ⟨(.keep rfl), (.nilS _), trivial⟩), (.keep rfl), trivial⟩)
    · replace h := ite_F p104 h
      refine awp_rs ?_
      refine ro rfl rfl (st_mv rfl) ?_
      refine ro rfl rfl (st_mv rfl) ?_
      obtain ⟨y105, hy105, h⟩ := bind_some_elim h
      refine rf rfl rfl (ok_proof_hits hy105) rfl rfl ?_
      refine ro rfl rfl (st_as rfl) ?_
      refine rw_nilk ?_
      refine awp_ite (b := y105) rfl (fun p106 => ?_) (fun p106 => ?_)
      · replace h := ite_T p106 h
        refine awp_rs ?_
        refine ro rfl rfl (st_build (vs := [dB false, .nilS]) bl25 rfl rfl) ?_
        refine rx (L' := [(1001, .row 0 25 [[dB a1.Cubes, dL 5 e_S_api_Line a1.Lines]]), (1002, .row 0 25 [[dB false, .nilS]])]) rfl rfl (st_stP ta25 rfl rfl rfl rfl rfl rfl rfl rfl) rfl ?_
        refine ro rfl rfl (st_as rfl) ?_
        refine rw_nilk ?_
        refine awp_ret ?_
        refine rt_block ?_
        refine rt_then ?_
        injection h with h
        subst h
        exact ret_out (v := .tup [.agg [dB false, .nilS], dI .i64 (8 : Int)]) (resV_many (resVs_cell (v := .agg [dB false, .nilS]) ta25 rfl rfl rfl rfl (resVs_tmp rfl resVs_nil))) (frz_tup ⟨(frz_agg ⟨(.keep rfl), (.nilS _), trivial⟩), (.keep rfl), trivial⟩)
      · replace h := ite_F p106 h
        refine awp_skip ?_
        refine nx_block ?_
        refine nx_then ?_
        refine awp_rs ?_
        refine rn (r := 1003) rfl rfl (st_alloc zc23 rfl rfl) rfl ?_
        refine rw_nilk ?_
        refine awp_rs ?_
        refine ro rfl rfl (st_faP fo25_1 rfl) ?_
        refine ro rfl rfl (st_ldP (v := dL 5 e_S_api_Line a1.Lines) ta23 rfl rfl rfl rfl) ?_
        refine ro rfl rfl (st_lenD rfl un23) ?_
        obtain ⟨c107, h⟩ := okI_some h
        refine rn (r := 1004) rfl rfl (st_mkN (f := (eI .i64)) (z := (0 : Int)) sl28 zc3 rfl rfl rfl rfl rfl c107) rfl ?_
        refine rn (r := 1005) rfl rfl (st_alloc zc28 rfl rfl) rfl ?_
        refine rx (L' := [(1001, .row 0 25 [[dB a1.Cubes, dL 5 e_S_api_Line a1.Lines]]), (1002, .row 0 25 [[dB false, .nilS]]), (1003, .row 0 23 [[.nilS]]), (1004, rw' 1 3 (eI .i64) (List.replicate a1.Lines.length (0 : Int))), (1005, .row 0 28 [[.slice 1004 1 0 a1.Lines.length]])]) rfl rfl (st_stP ta28 rfl rfl rfl rfl rfl rfl rfl rfl) rfl ?_
        refine rw_nilk ?_
        refine awp_rs ?_
        refine ro rfl rfl (st_fn rfl) ?_
        refine ro rfl rfl (st_as rfl) ?_
        refine rw_nilk ?_
        refine awp_seq ?_
        refine awp_rs ?_
        refine ro rfl rfl (st_faP fo25_1 rfl) ?_
        refine ro rfl rfl (st_ldP (v := dL 5 e_S_api_Line a1.Lines) ta23 rfl rfl rfl rfl) ?_
        refine ro rfl rfl (st_lenD rfl un23) ?_
        refine ro rfl rfl (st_mv rfl) ?_
        refine rw_nilk ?_
        refine awp_block ?_
        refine awp_len (t := 53) rfl (fun hl111 => ?_)
        rw [List.length_map] at hl111
        refine awp_range (fun (j111 : Nat) (s108 : ((List Int) × (List S_api_Line))) (g109 : Nat) => [(2, dL 1 (eI .i64) a2), (4, .ptr 1001 0 0 0), (6, .ptr 1002 0 0 0), (8, dL 1 (eL 1 (eI .i64)) y101.1), (9, dL 1 (eI .i64) y101.2.1), (13, .ptr 1003 0 0 0), (14, .ptr 1005 0 0 0), (15, .fn 58 [.ptr 1003 0 0 0, .ptr 1005 0 0 0]), (58, dL 5 e_S_api_Line a1.Lines), (59, dI .i64 ((a1.Lines.length : Nat) : Int)), (60, dI .i64 ((j111 : Nat) : Int))]) (fun (s108 : ((List Int) × (List S_api_Line))) (g109 : Nat) => [(1001, .row 0 25 [[dB a1.Cubes, dL 5 e_S_api_Line a1.Lines]]), (1002, .row 0 25 [[dB false, .nilS]]), (1003, .row 0 23 [[.slice 1009 g109 0 s108.2.length]]), (1004, rw' 1 3 (eI .i64) s108.1), (1005, .row 0 28 [[.slice 1004 1 0 s108.1.length]]), (1009, rw' g109 58 e_S_api_Line s108.2)]) 0 (fun _ _ _ h => h) h (Gh.trans (gh_nil (r := 1009) (E' := [(2, dL 1 (eI .i64) a2), (4, .ptr 1001 0 0 0), (6, .ptr 1002 0 0 0), (8, dL 1 (eL 1 (eI .i64)) y101.1), (9, dL 1 (eI .i64) y101.2.1), (13, .ptr 1003 0 0 0), (14, .ptr 1005 0 0 0), (15, .fn 58 [.ptr 1003 0 0 0, .ptr 1005 0 0 0]), (58, dL 5 e_S_api_Line a1.Lines), (59, dI .i64 ((a1.Lines.length : Nat) : Int)), (60, dI .i64 (0 : Int))]) (L' := [(1001, .row 0 25 [[dB a1.Cubes, dL 5 e_S_api_Line a1.Lines]]), (1002, .row 0 25 [[dB false, .nilS]]), (1003, .row 0 23 [[.slice 1009 0 0 (([] : List S_api_Line).length)]]), (1004, rw' 1 3 (eI .i64) (List.replicate a1.Lines.length (0 : Int))), (1005, .row 0 28 [[.slice 1004 1 0 a1.Lines.length]])]) rfl co58 rfl rfl ⟨⟨_, rfl, .keep _⟩, ⟨_, rfl, .keep _⟩, ⟨_, rfl, .keep _⟩, ⟨_, rfl, .keep _⟩, ⟨_, rfl, .keep _⟩, ⟨_, rfl, .keep _⟩, ⟨_, rfl, .keep _⟩, ⟨_, rfl, .keep _⟩, ⟨_, rfl, .keep _⟩, ⟨_, rfl, .keep _⟩, ⟨_, rfl, .keep _⟩, trivial⟩ ⟨⟨_, rfl, .keep _⟩, ⟨_, rfl, .keep _⟩, ⟨_, rfl, nilOne ⟨.nil, trivial⟩⟩, ⟨_, rfl, .keep _⟩, ⟨_, rfl, .keep _⟩, trivial⟩) (gh_frz rfl rfl ⟨⟨_, rfl, .keep rfl⟩, ⟨_, rfl, .keep rfl⟩, ⟨_, rfl, .keep rfl⟩, ⟨_, rfl, .keep rfl⟩, ⟨_, rfl, .keep rfl⟩, ⟨_, rfl, .keep rfl⟩, ⟨_, rfl, .keep rfl⟩, ⟨_, rfl, .keep rfl⟩, ⟨_, rfl, .keep rfl⟩, ⟨_, rfl, .keep rfl⟩, ⟨_, rfl, .keep rfl⟩, trivial⟩ ⟨⟨_, rfl, objOne ⟨⟨rfl, .keep rfl⟩, ⟨rfl, .keep rfl⟩, trivial⟩⟩, ⟨_, rfl, objOne ⟨⟨rfl, .keep rfl⟩, ⟨rfl, .keep rfl⟩, trivial⟩⟩, ⟨_, rfl, objOne ⟨⟨rfl, .keep rfl⟩, trivial⟩⟩, ⟨_, rfl, objRow _⟩, ⟨_, rfl, objOne ⟨⟨rfl, frzN rfl (by simp)⟩, trivial⟩⟩, ⟨_, rfl, objRow (List.map e_S_api_Line ([] : List S_api_Line))⟩, trivial⟩)) ?_ ?_
        · clear h
          intro j111 x112 s108 g109 k110 hj111 hx111 h ih110
          refine awp_rs ?_
          refine ro rfl rfl (st_bin (v := dB (decide (((j111 : Nat) : Int) < ((a1.Lines.length : Nat) : Int)))) rfl rfl rfl) ?_
          refine rw_nilk ?_
          refine awp_seq ?_
          refine awp_ifT rfl (dlt hj111) ?_
          refine awp_skip ?_
          refine nx_then ?_
          refine awp_jn (fun (s382 : ((List Int) × (List S_api_Line))) (g383 : Nat) => [(2, dL 1 (eI .i64) a2), (4, .ptr 1001 0 0 0), (6, .ptr 1002 0 0 0), (8, dL 1 (eL 1 (eI .i64)) y101.1), (9, dL 1 (eI .i64) y101.2.1), (13, .ptr 1003 0 0 0), (14, .ptr 1005 0 0 0), (15, .fn 58 [.ptr 1003 0 0 0, .ptr 1005 0 0 0]), (58, dL 5 e_S_api_Line a1.Lines), (59, dI .i64 ((a1.Lines.length : Nat) : Int)), (60, dI .i64 ((j111 : Nat) : Int))]) (fun (s382 : ((List Int) × (List S_api_Line))) (g383 : Nat) => [(1001, .row 0 25 [[dB a1.Cubes, dL 5 e_S_api_Line a1.Lines]]), (1002, .row 0 25 [[dB false, .nilS]]), (1003, .row 0 23 [[.slice 1009 g383 0 s382.2.length]]), (1004, rw' 1 3 (eI .i64) s382.1), (1005, .row 0 28 [[.slice 1004 1 0 s382.1.length]]), (1009, rw' g383 58 e_S_api_Line s382.2)]) h ?_ ?_
          · clear h
            intro s382 g383 h
            refine awp_rw ?_
            refine ro rfl rfl (st_inc rfl rfl hj111 hl111) ?_
            refine ro rfl rfl (st_mv rfl) ?_
            refine rw_nil ?_
            refine nx_then ?_
            refine awp_gh ?_ (ih110 (s382.1, s382.2) g383 h)
            exact (gh_frz rfl rfl ⟨⟨_, rfl, .keep rfl⟩, ⟨_, rfl, .keep rfl⟩, ⟨_, rfl, .keep rfl⟩, ⟨_, rfl, .keep rfl⟩, ⟨_, rfl, .keep rfl⟩, ⟨_, rfl, .keep rfl⟩, ⟨_, rfl, .keep rfl⟩, ⟨_, rfl, .keep rfl⟩, ⟨_, rfl, .keep rfl⟩, ⟨_, rfl, .keep rfl⟩, ⟨_, rfl, .keep rfl⟩, trivial⟩ ⟨⟨_, rfl, objOne ⟨⟨rfl, .keep rfl⟩, ⟨rfl, .keep rfl⟩, trivial⟩⟩, ⟨_, rfl, objOne ⟨⟨rfl, .keep rfl⟩, ⟨rfl, .keep rfl⟩, trivial⟩⟩, ⟨_, rfl, objOne ⟨⟨rfl, .keep rfl⟩, trivial⟩⟩, ⟨_, rfl, objRow _⟩, ⟨_, rfl, objOne ⟨⟨rfl, .keep rfl⟩, trivial⟩⟩, ⟨_, rfl, objRow _⟩, trivial⟩)
          · clear h
            intro k384 h J384
            refine awp_block ?_
            refine awp_rs ?_
            refine ro rfl rfl (st_mv rfl) ?_
            refine ro rfl rfl (st_ixDn sl23 rfl rfl hx111) ?_
            refine ro rfl rfl (st_ldD (v := .agg [dI .u8 x112.Rule, dI .i64 x112.A, dI .i64 x112.B, dI .i64 x112.Piv, dL 1 (eI .i64) x112.Lits]) ta58 rfl rfl) ?_
            refine rn (r := 1010) rfl rfl (st_alloc zc58 rfl rfl) rfl ?_
            refine ro rfl rfl (st_as rfl) ?_
            refine rx (L' := [(1001, .row 0 25 [[dB a1.Cubes, dL 5 e_S_api_Line a1.Lines]]), (1002, .row 0 25 [[dB false, .nilS]]), (1003, .row 0 23 [[.slice 1009 g109 0 s108.2.length]]), (1004, rw' 1 3 (eI .i64) s108.1), (1005, .row 0 28 [[.slice 1004 1 0 s108.1.length]]), (1009, rw' g109 58 e_S_api_Line s108.2), (1010, .row 0 58 [[dI .u8 x112.Rule, dI .i64 x112.A, dI .i64 x112.B, dI .i64 x112.Piv, dL 1 (eI .i64) x112.Lits]])]) rfl rfl (st_stP ta58 rfl rfl rfl rfl rfl rfl rfl rfl) rfl ?_
            refine rw_nilk ?_
            refine awp_seq ?_
            refine awp_rs ?_
            refine ro rfl rfl (st_faP fo58_4 rfl) ?_
            refine ro rfl rfl (st_ldP (v := dL 1 (eI .i64) x112.Lits) ta28 rfl rfl rfl rfl) ?_
            refine ro rfl rfl (st_mv rfl) ?_
            obtain ⟨y385, hy385, h⟩ := bind_some_elim h
            refine rf rfl rfl (ok_proof_hits hy385) rfl rfl ?_
            refine rw_nilk ?_
            refine awp_ite (b := y385) rfl (fun p386 => ?_) (fun p386 => ?_)
            · replace h := ite_T p386 h
              refine awp_exit ?_
              refine ex_out ?_
              refine ex_in ?_
              refine nx_then ?_
              exact J384 (s108.1, s108.2) g109 _ _ h (gh_frz rfl rfl ⟨⟨_, rfl, .keep rfl⟩, ⟨_, rfl, .keep rfl⟩, ⟨_, rfl, .keep rfl⟩, ⟨_, rfl, .keep rfl⟩, ⟨_, rfl, .keep rfl⟩, ⟨_, rfl, .keep rfl⟩, ⟨_, rfl, .keep rfl⟩, ⟨_, rfl, .keep rfl⟩, ⟨_, rfl, .keep rfl⟩, ⟨_, rfl, .keep rfl⟩, ⟨_, rfl, .keep rfl⟩, trivial⟩ ⟨⟨_, rfl, objOne ⟨⟨rfl, .keep rfl⟩, ⟨rfl, .keep rfl⟩, trivial⟩⟩, ⟨_, rfl, objOne ⟨⟨rfl, .keep rfl⟩, ⟨rfl, .keep rfl⟩, trivial⟩⟩, ⟨_, rfl, objOne ⟨⟨rfl, .keep rfl⟩, trivial⟩⟩, ⟨_, rfl, objRow _⟩, ⟨_, rfl, objOne ⟨⟨rfl, .keep rfl⟩, trivial⟩⟩, ⟨_, rfl, objRow _⟩, trivial⟩)
            · replace h := ite_F p386 h
              refine awp_skip ?_
              refine nx_then ?_
              refine awp_seq ?_
              refine awp_rs ?_
              refine ro rfl rfl (st_faP fo58_0 rfl) ?_
              refine ro rfl rfl (st_ldP (v := dI .u8 x112.Rule) ta56 rfl rfl rfl rfl) ?_
              refine ro rfl rfl (st_bin (v := dB (x112.Rule == (1 : Int))) rfl rfl rfl) ?_
              refine rw_nilk ?_
              refine awp_ite (b := (x112.Rule == (1 : Int))) rfl (fun p387 => ?_) (fun p387 => ?_)
              · replace h := ite_T p387 h
                refine awp_rs ?_
                refine ro rfl rfl (st_mv rfl) ?_
                refine ro rfl rfl (st_faP fo58_1 rfl) ?_
                refine ro rfl rfl (st_ldP (v := dI .i64 x112.A) ta3 rfl rfl rfl rfl) ?_
                obtain ⟨y388, hy388, h⟩ := bind_some_elim h
                refine rf rfl rfl (ok_slices_BinarySearch_int_int hy388) rfl rfl ?_
                refine ro rfl rfl (st_mv rfl) ?_
                refine ro rfl rfl (st_ext rfl rfl) ?_
                refine ro rfl rfl (st_ext rfl rfl) ?_
                refine ro rfl rfl (st_as rfl) ?_
                refine ro rfl rfl (st_as rfl) ?_
                refine rw_nilk ?_
                refine awp_rs ?_
                refine ro rfl rfl (st_mv rfl) ?_
                refine ro rfl rfl (st_mv rfl) ?_
                refine ro rfl rfl (st_mv rfl) ?_
                refine ro rfl rfl (st_mv rfl) ?_
                refine ro rfl rfl (st_mv rfl) ?_
                obtain ⟨x394, h0394, hx394, h⟩ := getI_some h
                refine ro rfl rfl (st_ixD sl22 rfl rfl h0394 hx394) ?_
                refine ro rfl rfl (st_ldD (v := dL 1 (eI .i64) x394) ta28 rfl rfl) ?_
                refine ro rfl rfl (st_build (vs := [dI .u8 (1 : Int), dI .i64 y388.1, dI .i64 (0 : Int), dI .i64 (0 : Int), dL 1 (eI .i64) x394]) bl58 rfl rfl) ?_
                refine ri (N := 15) (rs := []) rfl rfl rfl rfl Try.func58 rfl rfl rfl (by kernel_rfl) rfl (fun _B => ?_)
                refine awp_rs ?_
                refine rn (r := 1011) rfl rfl (st_box rfl rfl rfl co58 rfl rfl) rfl ?_
                refine rw_nilk ?_
                refine awp_rs ?_
                refine ro rfl rfl (st_ldP (v := .slice 1004 1 0 s108.1.length) ta28 rfl rfl rfl rfl) ?_
                refine ro rfl rfl (st_mv rfl) ?_
                refine ro rfl rfl (st_ldP (v := .slice 1009 g109 0 s108.2.length) ta23 rfl rfl rfl rfl) ?_
                refine ro rfl rfl (st_lenR rfl un23 rfl) ?_
                obtain ⟨x397, h0397, hx397, h⟩ := getI_some h
                refine ro rfl rfl (st_ixRi sl28 rfl rfl rfl h0397 hx397 rfl) ?_
                refine rx (L' := [(1001, .row 0 25 [[dB a1.Cubes, dL 5 e_S_api_Line a1.Lines]]), (1002, .row 0 25 [[dB false, .nilS]]), (1003, .row 0 23 [[.slice 1009 g109 0 s108.2.length]]), (1004, rw' 1 3 (eI .i64) (s108.1.set (((j111 : Nat) : Int).toNat) ((s108.2.length : Nat) : Int))), (1005, .row 0 28 [[.slice 1004 1 0 s108.1.length]]), (1009, rw' g109 58 e_S_api_Line s108.2), (1010, .row 0 58 [[dI .u8 x112.Rule, dI .i64 x112.A, dI .i64 x112.B, dI .i64 x112.Piv, dL 1 (eI .i64) x112.Lits]]), (1011, .row 0 58 [[dI .u8 (1 : Int), dI .i64 y388.1, dI .i64 (0 : Int), dI .i64 (0 : Int), dL 1 (eI .i64) x394]])]) rfl rfl (st_stT (z := ((s108.2.length : Nat) : Int)) ta3 rfl rfl rfl hx397 rfl rfl rfl rfl rfl) rfl ?_
                refine rw_nilk ?_
                refine awp_rw ?_
                refine ro rfl rfl (st_ldP (v := .slice 1009 g109 0 s108.2.length) ta23 rfl rfl rfl rfl) ?_
                refine ro rfl rfl (st_ldP (v := .agg [dI .u8 (1 : Int), dI .i64 y388.1, dI .i64 (0 : Int), dI .i64 (0 : Int), dL 1 (eI .i64) x394]) ta58 rfl rfl rfl rfl) ?_
                refine rn (r := 1012) rfl rfl (st_bsl (els := [[dI .u8 (1 : Int), dI .i64 y388.1, dI .i64 (0 : Int), dI .i64 (0 : Int), dL 1 (eI .i64) x394]]) sl23 zc58 rfl rfl rfl rfl rfl) rfl ?_
                obtain ⟨c398, h⟩ := capN_some h
                refine rn (r := 0) (L' := [(1001, .row 0 25 [[dB a1.Cubes, dL 5 e_S_api_Line a1.Lines]]), (1002, .row 0 25 [[dB false, .nilS]]), (1003, .row 0 23 [[.slice 1009 g109 0 s108.2.length]]), (1004, rw' 1 3 (eI .i64) (s108.1.set (((j111 : Nat) : Int).toNat) ((s108.2.length : Nat) : Int))), (1005, .row 0 28 [[.slice 1004 1 0 s108.1.length]]), (1009, rw' (g109 + 2) 58 e_S_api_Line (s108.2 ++ [(S_api_Line.mk (1 : Int) y388.1 (0 : Int) (0 : Int) x394)])), (1010, .row 0 58 [[dI .u8 x112.Rule, dI .i64 x112.A, dI .i64 x112.B, dI .i64 x112.Piv, dL 1 (eI .i64) x112.Lits]]), (1011, .row 0 58 [[dI .u8 (1 : Int), dI .i64 y388.1, dI .i64 (0 : Int), dI .i64 (0 : Int), dL 1 (eI .i64) x394]]), (1012, .row 1 58 [[dI .u8 (1 : Int), dI .i64 y388.1, dI .i64 (0 : Int), dI .i64 (0 : Int), dL 1 (eI .i64) x394]])]) rfl rfl (st_appR (f := e_S_api_Line) (xs := s108.2) (ys := [(S_api_Line.mk (1 : Int) y388.1 (0 : Int) (0 : Int) x394)]) sl23 zc58 rfl rfl rfl rfl rfl (news_one (a := (S_api_Line.mk (1 : Int) y388.1 (0 : Int) (0 : Int) x394)) rfl rfl) c398) rfl ?_
                refine rx (L' := [(1001, .row 0 25 [[dB a1.Cubes, dL 5 e_S_api_Line a1.Lines]]), (1002, .row 0 25 [[dB false, .nilS]]), (1003, .row 0 23 [[.slice 1009 (g109 + 2) 0 ((s108.2 ++ [(S_api_Line.mk (1 : Int) y388.1 (0 : Int) (0 : Int) x394)]).length)]]), (1004, rw' 1 3 (eI .i64) (s108.1.set (((j111 : Nat) : Int).toNat) ((s108.2.length : Nat) : Int))), (1005, .row 0 28 [[.slice 1004 1 0 s108.1.length]]), (1009, rw' (g109 + 2) 58 e_S_api_Line (s108.2 ++ [(S_api_Line.mk (1 : Int) y388.1 (0 : Int) (0 : Int) x394)])), (1010, .row 0 58 [[dI .u8 x112.Rule, dI .i64 x112.A, dI .i64 x112.B, dI .i64 x112.Piv, dL 1 (eI .i64) x112.Lits]]), (1011, .row 0 58 [[dI .u8 (1 : Int), dI .i64 y388.1, dI .i64 (0 : Int), dI .i64 (0 : Int), dL 1 (eI .i64) x394]]), (1012, .row 1 58 [[dI .u8 (1 : Int), dI .i64 y388.1, dI .i64 (0 : Int), dI .i64 (0 : Int), dL 1 (eI .i64) x394]])]) rfl rfl (st_stP ta23 rfl rfl rfl rfl rfl rfl rfl rfl) rfl ?_
                refine rw_nil ?_
                refine ret_inN (v := .tup []) (resV_none resVs_nil) ?_
                show RW _ _ _ _ _ _ _
                refine rw_nilk ?_
                refine awp_exit ?_
                refine ex_out ?_
                refine ex_in ?_
                refine nx_then ?_
                exact J384 ((s108.1.set (((j111 : Nat) : Int).toNat) ((s108.2.length : Nat) : Int)), (s108.2 ++ [(S_api_Line.mk (1 : Int) y388.1 (0 : Int) (0 : Int) x394)])) (g109 + 2) _ _ h (gh_frz rfl rfl ⟨⟨_, rfl, .keep rfl⟩, ⟨_, rfl, .keep rfl⟩, ⟨_, rfl, .keep rfl⟩, ⟨_, rfl, .keep rfl⟩, ⟨_, rfl, .keep rfl⟩, ⟨_, rfl, .keep rfl⟩, ⟨_, rfl, .keep rfl⟩, ⟨_, rfl, .keep rfl⟩, ⟨_, rfl, .keep rfl⟩, ⟨_, rfl, .keep rfl⟩, ⟨_, rfl, .keep rfl⟩, trivial⟩ ⟨⟨_, rfl, objOne ⟨⟨rfl, .keep rfl⟩, ⟨rfl, .keep rfl⟩, trivial⟩⟩, ⟨_, rfl, objOne ⟨⟨rfl, .keep rfl⟩, ⟨rfl, .keep rfl⟩, trivial⟩⟩, ⟨_, rfl, objOne ⟨⟨rfl, .keep rfl⟩, trivial⟩⟩, ⟨_, rfl, objRow _⟩, ⟨_, rfl, objOne ⟨⟨rfl, frzN rfl (by simp)⟩, trivial⟩⟩, ⟨_, rfl, objRow _⟩, trivial⟩)
              · replace h := ite_F p387 h
                refine awp_skip ?_
                refine nx_then ?_
                refine awp_rds hmix ?_
                refine do_ rfl rfl (st_ldP (v := .slice 1004 1 0 s108.1.length) ta28 rfl rfl rfl rfl) rfl rfl rfl ?_
                refine do_ rfl rfl (st_faP fo58_1 rfl) rfl rfl rfl ?_
                refine do_ rfl rfl (st_ldP (v := dI .i64 x112.A) ta3 rfl rfl rfl rfl) rfl rfl rfl ?_
                obtain ⟨x399, h0399, hx399, h⟩ := getI_some h
                refine do_ rfl rfl (st_ixRi sl28 rfl rfl rfl h0399 hx399 rfl) rfl rfl rfl ?_
                refine do_ rfl rfl (st_ldP (v := dI .i64 x399) ta3 rfl rfl (rowOf_map_get hx399) rfl) rfl rfl rfl ?_
                refine do_ rfl rfl (st_ldP (v := .slice 1004 1 0 s108.1.length) ta28 rfl rfl rfl rfl) rfl rfl rfl ?_
                refine do_ rfl rfl (st_faP fo58_2 rfl) rfl rfl rfl ?_
                refine do_ rfl rfl (st_ldP (v := dI .i64 x112.B) ta3 rfl rfl rfl rfl) rfl rfl rfl ?_
                obtain ⟨x400, h0400, hx400, h⟩ := getI_some h
                refine do_ rfl rfl (st_ixRi sl28 rfl rfl rfl h0400 hx400 rfl) rfl rfl rfl ?_
                refine do_ rfl rfl (st_ldP (v := dI .i64 x400) ta3 rfl rfl (rowOf_map_get hx400) rfl) rfl rfl rfl ?_
                refine do_ rfl rfl (st_as rfl) rfl rfl rfl ?_
                refine do_ rfl rfl (st_as rfl) rfl rfl rfl ?_
                refine rd_nil (by kernel_rfl) ?_
                refine awp_block ?_
                refine awp_rs ?_
                refine ro rfl rfl (st_mv rfl) ?_
                refine ro rfl rfl (st_faP fo58_3 rfl) ?_
                refine ro rfl rfl (st_ldP (v := dI .i64 x112.Piv) ta3 rfl rfl rfl rfl) ?_
                obtain ⟨y401, hy401, h⟩ := bind_some_elim h
                refine rf rfl rfl (ok_slices_Contains_int_int hy401) rfl rfl ?_
                refine ro rfl rfl (st_as rfl) ?_
                refine rw_nilk ?_
                refine awp_ite (b := y401) rfl (fun p402 => ?_) (fun p402 => ?_)
                · replace h := ite_T p402 h
                  refine awp_rw ?_
                  refine ro rfl rfl (st_ldP (v := .slice 1004 1 0 s108.1.length) ta28 rfl rfl rfl rfl) ?_
                  refine ro rfl rfl (st_mv rfl) ?_
                  refine ro rfl rfl (st_mv rfl) ?_
                  obtain ⟨x403, h0403, hx403, h⟩ := getI_some h
                  refine ro rfl rfl (st_ixRi sl28 rfl rfl rfl h0403 hx403 rfl) ?_
                  refine rx (L' := [(1001, .row 0 25 [[dB a1.Cubes, dL 5 e_S_api_Line a1.Lines]]), (1002, .row 0 25 [[dB false, .nilS]]), (1003, .row 0 23 [[.slice 1009 g109 0 s108.2.length]]), (1004, rw' 1 3 (eI .i64) (s108.1.set (((j111 : Nat) : Int).toNat) x400)), (1005, .row 0 28 [[.slice 1004 1 0 s108.1.length]]), (1009, rw' g109 58 e_S_api_Line s108.2), (1010, .row 0 58 [[dI .u8 x112.Rule, dI .i64 x112.A, dI .i64 x112.B, dI .i64 x112.Piv, dL 1 (eI .i64) x112.Lits]])]) rfl rfl (st_stT (z := x400) ta3 rfl rfl rfl hx403 rfl rfl rfl rfl rfl) rfl ?_
                  refine rw_nil ?_
                  refine nx_block ?_
                  refine nx_block ?_
                  refine nx_then ?_
                  exact J384 ((s108.1.set (((j111 : Nat) : Int).toNat) x400), s108.2) g109 _ _ h (gh_frz rfl rfl ⟨⟨_, rfl, .keep rfl⟩, ⟨_, rfl, .keep rfl⟩, ⟨_, rfl, .keep rfl⟩, ⟨_, rfl, .keep rfl⟩, ⟨_, rfl, .keep rfl⟩, ⟨_, rfl, .keep rfl⟩, ⟨_, rfl, .keep rfl⟩, ⟨_, rfl, .keep rfl⟩, ⟨_, rfl, .keep rfl⟩, ⟨_, rfl, .keep rfl⟩, ⟨_, rfl, .keep rfl⟩, trivial⟩ ⟨⟨_, rfl, objOne ⟨⟨rfl, .keep rfl⟩, ⟨rfl, .keep rfl⟩, trivial⟩⟩, ⟨_, rfl, objOne ⟨⟨rfl, .keep rfl⟩, ⟨rfl, .keep rfl⟩, trivial⟩⟩, ⟨_, rfl, objOne ⟨⟨rfl, .keep rfl⟩, trivial⟩⟩, ⟨_, rfl, objRow _⟩, ⟨_, rfl, objOne ⟨⟨rfl, frzN rfl (by simp)⟩, trivial⟩⟩, ⟨_, rfl, objRow _⟩, trivial⟩)
                · replace h := ite_F p402 h
                  refine awp_jn (fun (s408 : Bool) (g409 : Unit) => [(2, dL 1 (eI .i64) a2), (4, .ptr 1001 0 0 0), (6, .ptr 1002 0 0 0), (8, dL 1 (eL 1 (eI .i64)) y101.1), (9, dL 1 (eI .i64) y101.2.1), (13, .ptr 1003 0 0 0), (14, .ptr 1005 0 0 0), (15, .fn 58 [.ptr 1003 0 0 0, .ptr 1005 0 0 0]), (16, dI .i64 ((j111 : Nat) : Int)), (17, .ptr 1010 0 0 0), (20, dI .i64 x399), (21, dI .i64 x400), (58, dL 5 e_S_api_Line a1.Lines), (59, dI .i64 ((a1.Lines.length : Nat) : Int)), (60, dI .i64 ((j111 : Nat) : Int)), (132, dB s408)]) (fun (s408 : Bool) (g409 : Unit) => [(1001, .row 0 25 [[dB a1.Cubes, dL 5 e_S_api_Line a1.Lines]]), (1002, .row 0 25 [[dB false, .nilS]]), (1003, .row 0 23 [[.slice 1009 g109 0 s108.2.length]]), (1004, rw' 1 3 (eI .i64) s108.1), (1005, .row 0 28 [[.slice 1004 1 0 s108.1.length]]), (1009, rw' g109 58 e_S_api_Line s108.2), (1010, .row 0 58 [[dI .u8 x112.Rule, dI .i64 x112.A, dI .i64 x112.B, dI .i64 x112.Piv, dL 1 (eI .i64) x112.Lits]])]) h ?_ ?_
                  · clear h
                    intro s408 g409 h
                    refine awp_ite (b := s408) rfl (fun p411 => ?_) (fun p411 => ?_)
                    · replace h := ite_T p411 h
                      refine awp_rw ?_
                      refine ro rfl rfl (st_ldP (v := .slice 1004 1 0 s108.1.length) ta28 rfl rfl rfl rfl) ?_
                      refine ro rfl rfl (st_mv rfl) ?_
                      refine ro rfl rfl (st_mv rfl) ?_
                      obtain ⟨x412, h0412, hx412, h⟩ := getI_some h
                      refine ro rfl rfl (st_ixRi sl28 rfl rfl rfl h0412 hx412 rfl) ?_
                      refine rx (L' := [(1001, .row 0 25 [[dB a1.Cubes, dL 5 e_S_api_Line a1.Lines]]), (1002, .row 0 25 [[dB false, .nilS]]), (1003, .row 0 23 [[.slice 1009 g109 0 s108.2.length]]), (1004, rw' 1 3 (eI .i64) (s108.1.set (((j111 : Nat) : Int).toNat) x399)), (1005, .row 0 28 [[.slice 1004 1 0 s108.1.length]]), (1009, rw' g109 58 e_S_api_Line s108.2), (1010, .row 0 58 [[dI .u8 x112.Rule, dI .i64 x112.A, dI .i64 x112.B, dI .i64 x112.Piv, dL 1 (eI .i64) x112.Lits]])]) rfl rfl (st_stT (z := x399) ta3 rfl rfl rfl hx412 rfl rfl rfl rfl rfl) rfl ?_
                      refine rw_nil ?_
                      refine nx_block ?_
                      refine nx_block ?_
                      refine nx_then ?_
                      exact J384 ((s108.1.set (((j111 : Nat) : Int).toNat) x399), s108.2) g109 _ _ h (gh_frz rfl rfl ⟨⟨_, rfl, .keep rfl⟩, ⟨_, rfl, .keep rfl⟩, ⟨_, rfl, .keep rfl⟩, ⟨_, rfl, .keep rfl⟩, ⟨_, rfl, .keep rfl⟩, ⟨_, rfl, .keep rfl⟩, ⟨_, rfl, .keep rfl⟩, ⟨_, rfl, .keep rfl⟩, ⟨_, rfl, .keep rfl⟩, ⟨_, rfl, .keep rfl⟩, ⟨_, rfl, .keep rfl⟩, trivial⟩ ⟨⟨_, rfl, objOne ⟨⟨rfl, .keep rfl⟩, ⟨rfl, .keep rfl⟩, trivial⟩⟩, ⟨_, rfl, objOne ⟨⟨rfl, .keep rfl⟩, ⟨rfl, .keep rfl⟩, trivial⟩⟩, ⟨_, rfl, objOne ⟨⟨rfl, .keep rfl⟩, trivial⟩⟩, ⟨_, rfl, objRow _⟩, ⟨_, rfl, objOne ⟨⟨rfl, frzN rfl (by simp)⟩, trivial⟩⟩, ⟨_, rfl, objRow _⟩, trivial⟩)
                    · replace h := ite_F p411 h
                      refine awp_rds hmix ?_
                      refine do_ rfl rfl (st_ldP (v := .slice 1009 g109 0 s108.2.length) ta23 rfl rfl rfl rfl) rfl rfl rfl ?_
                      refine do_ rfl rfl (st_mv rfl) rfl rfl rfl ?_
                      obtain ⟨x413, h0413, hx413, h⟩ := getI_some h
                      refine do_ rfl rfl (st_ixRi sl23 rfl rfl rfl h0413 hx413 rfl) rfl rfl rfl ?_
                      refine do_ rfl rfl (st_faP fo58_4 rfl) rfl rfl rfl ?_
                      refine do_ rfl rfl (st_ldP (v := dL 1 (eI .i64) x413.Lits) ta28 rfl rfl (rowOf_map_get hx413) rfl) rfl rfl rfl ?_
                      refine do_ rfl rfl (st_faP fo58_3 rfl) rfl rfl rfl ?_
                      refine do_ rfl rfl (st_ldP (v := dI .i64 x112.Piv) ta3 rfl rfl rfl rfl) rfl rfl rfl ?_
                      refine do_ rfl rfl (st_un (v := dI .i64 (IntKind.wrap .i64 (0 - x112.Piv))) rfl rfl) rfl rfl rfl ?_
                      obtain ⟨y414, hy414, h⟩ := bind_some_elim h
                      refine df rfl rfl (ok_slices_Contains_int_int hy414) rfl rfl ?_
                      refine do_ rfl rfl (st_un (v := dB (!y414)) rfl rfl) rfl rfl rfl ?_
                      refine do_ rfl rfl (st_as rfl) rfl rfl rfl ?_
                      refine rd_nil (by kernel_rfl) ?_
                      refine awp_ite (b := (!y414)) rfl (fun p415 => ?_) (fun p415 => ?_)
                      · replace h := ite_T p415 h
                        refine awp_rw ?_
                        refine ro rfl rfl (st_ldP (v := .slice 1004 1 0 s108.1.length) ta28 rfl rfl rfl rfl) ?_
                        refine ro rfl rfl (st_mv rfl) ?_
                        refine ro rfl rfl (st_mv rfl) ?_
                        obtain ⟨x416, h0416, hx416, h⟩ := getI_some h
                        refine ro rfl rfl (st_ixRi sl28 rfl rfl rfl h0416 hx416 rfl) ?_
                        refine rx (L' := [(1001, .row 0 25 [[dB a1.Cubes, dL 5 e_S_api_Line a1.Lines]]), (1002, .row 0 25 [[dB false, .nilS]]), (1003, .row 0 23 [[.slice 1009 g109 0 s108.2.length]]), (1004, rw' 1 3 (eI .i64) (s108.1.set (((j111 : Nat) : Int).toNat) x400)), (1005, .row 0 28 [[.slice 1004 1 0 s108.1.length]]), (1009, rw' g109 58 e_S_api_Line s108.2), (1010, .row 0 58 [[dI .u8 x112.Rule, dI .i64 x112.A, dI .i64 x112.B, dI .i64 x112.Piv, dL 1 (eI .i64) x112.Lits]])]) rfl rfl (st_stT (z := x400) ta3 rfl rfl rfl hx416 rfl rfl rfl rfl rfl) rfl ?_
                        refine rw_nil ?_
                        refine nx_block ?_
                        refine nx_block ?_
                        refine nx_then ?_
                        exact J384 ((s108.1.set (((j111 : Nat) : Int).toNat) x400), s108.2) g109 _ _ h (gh_frz rfl rfl ⟨⟨_, rfl, .keep rfl⟩, ⟨_, rfl, .keep rfl⟩, ⟨_, rfl, .keep rfl⟩, ⟨_, rfl, .keep rfl⟩, ⟨_, rfl, .keep rfl⟩, ⟨_, rfl, .keep rfl⟩, ⟨_, rfl, .keep rfl⟩, ⟨_, rfl, .keep rfl⟩, ⟨_, rfl, .keep rfl⟩, ⟨_, rfl, .keep rfl⟩, ⟨_, rfl, .keep rfl⟩, trivial⟩ ⟨⟨_, rfl, objOne ⟨⟨rfl, .keep rfl⟩, ⟨rfl, .keep rfl⟩, trivial⟩⟩, ⟨_, rfl, objOne ⟨⟨rfl, .keep rfl⟩, ⟨rfl, .keep rfl⟩, trivial⟩⟩, ⟨_, rfl, objOne ⟨⟨rfl, .keep rfl⟩, trivial⟩⟩, ⟨_, rfl, objRow _⟩, ⟨_, rfl, objOne ⟨⟨rfl, frzN rfl (by simp)⟩, trivial⟩⟩, ⟨_, rfl, objRow _⟩, trivial⟩)
                      · replace h := ite_F p415 h
                        refine awp_rds hmix ?_
                        refine do_ rfl rfl (st_ldP (v := .slice 1009 g109 0 s108.2.length) ta23 rfl rfl rfl rfl) rfl rfl rfl ?_
                        refine do_ rfl rfl (st_mv rfl) rfl rfl rfl ?_
                        obtain ⟨x417, h0417, hx417, h⟩ := getI_some h
                        refine do_ rfl rfl (st_ixRi sl23 rfl rfl rfl h0417 hx417 rfl) rfl rfl rfl ?_
                        refine do_ rfl rfl (st_faP fo58_4 rfl) rfl rfl rfl ?_
                        refine do_ rfl rfl (st_ldP (v := dL 1 (eI .i64) x417.Lits) ta28 rfl rfl (rowOf_map_get hx417) rfl) rfl rfl rfl ?_
                        refine do_ rfl rfl (st_ldP (v := .slice 1009 g109 0 s108.2.length) ta23 rfl rfl rfl rfl) rfl rfl rfl ?_
                        refine do_ rfl rfl (st_mv rfl) rfl rfl rfl ?_
                        refine do_ rfl rfl (st_ixRi sl23 rfl rfl rfl h0413 hx413 rfl) rfl rfl rfl ?_
                        refine do_ rfl rfl (st_faP fo58_4 rfl) rfl rfl rfl ?_
                        refine do_ rfl rfl (st_ldP (v := dL 1 (eI .i64) x413.Lits) ta28 rfl rfl (rowOf_map_get hx413) rfl) rfl rfl rfl ?_
                        refine do_ rfl rfl (st_faP fo58_3 rfl) rfl rfl rfl ?_
                        refine do_ rfl rfl (st_ldP (v := dI .i64 x112.Piv) ta3 rfl rfl rfl rfl) rfl rfl rfl ?_
                        obtain ⟨y418, hy418, h⟩ := bind_some_elim h
                        refine df rfl rfl (ok_proof_resolvent hy418) rfl rfl ?_
                        refine do_ rfl rfl (st_mv rfl) rfl rfl rfl ?_
                        refine do_ rfl rfl (st_ext rfl rfl) rfl rfl rfl ?_
                        refine do_ rfl rfl (st_ext rfl rfl) rfl rfl rfl ?_
                        refine do_ rfl rfl (st_as rfl) rfl rfl rfl ?_
                        refine do_ rfl rfl (st_as rfl) rfl rfl rfl ?_
                        refine rd_nil (by kernel_rfl) ?_
                        refine awp_rw ?_
                        refine ro rfl rfl (st_mv rfl) ?_
                        refine ro rfl rfl (st_mv rfl) ?_
                        refine ro rfl rfl (st_mv rfl) ?_
                        refine ro rfl rfl (st_mv rfl) ?_
                        refine ro rfl rfl (st_faP fo58_3 rfl) ?_
                        refine ro rfl rfl (st_ldP (v := dI .i64 x112.Piv) ta3 rfl rfl rfl rfl) ?_
                        refine ro rfl rfl (st_mv rfl) ?_
                        refine ro rfl rfl (st_build (vs := [dI .u8 (2 : Int), dI .i64 x399, dI .i64 x400, dI .i64 x112.Piv, dL 1 (eI .i64) y418.1]) bl58 rfl rfl) ?_
                        refine ri (N := 15) (rs := []) rfl rfl rfl rfl Try.func58 rfl rfl rfl (by kernel_rfl) rfl (fun _B => ?_)
                        refine awp_rs ?_
                        refine rn (r := 1011) rfl rfl (st_box rfl rfl rfl co58 rfl rfl) rfl ?_
                        refine rw_nilk ?_
                        refine awp_rs ?_
                        refine ro rfl rfl (st_ldP (v := .slice 1004 1 0 s108.1.length) ta28 rfl rfl rfl rfl) ?_
                        refine ro rfl rfl (st_mv rfl) ?_
                        refine ro rfl rfl (st_ldP (v := .slice 1009 g109 0 s108.2.length) ta23 rfl rfl rfl rfl) ?_
                        refine ro rfl rfl (st_lenR rfl un23 rfl) ?_
                        obtain ⟨x421, h0421, hx421, h⟩ := getI_some h
                        refine ro rfl rfl (st_ixRi sl28 rfl rfl rfl h0421 hx421 rfl) ?_
                        refine rx (L' := [(1001, .row 0 25 [[dB a1.Cubes, dL 5 e_S_api_Line a1.Lines]]), (1002, .row 0 25 [[dB false, .nilS]]), (1003, .row 0 23 [[.slice 1009 g109 0 s108.2.length]]), (1004, rw' 1 3 (eI .i64) (s108.1.set (((j111 : Nat) : Int).toNat) ((s108.2.length : Nat) : Int))), (1005, .row 0 28 [[.slice 1004 1 0 s108.1.length]]), (1009, rw' g109 58 e_S_api_Line s108.2), (1010, .row 0 58 [[dI .u8 x112.Rule, dI .i64 x112.A, dI .i64 x112.B, dI .i64 x112.Piv, dL 1 (eI .i64) x112.Lits]]), (1011, .row 0 58 [[dI .u8 (2 : Int), dI .i64 x399, dI .i64 x400, dI .i64 x112.Piv, dL 1 (eI .i64) y418.1]])]) rfl rfl (st_stT (z := ((s108.2.length : Nat) : Int)) ta3 rfl rfl rfl hx421 rfl rfl rfl rfl rfl) rfl ?_
                        refine rw_nilk ?_
                        refine awp_rw ?_
                        refine ro rfl rfl (st_ldP (v := .slice 1009 g109 0 s108.2.length) ta23 rfl rfl rfl rfl) ?_
                        refine ro rfl rfl (st_ldP (v := .agg [dI .u8 (2 : Int), dI .i64 x399, dI .i64 x400, dI .i64 x112.Piv, dL 1 (eI .i64) y418.1]) ta58 rfl rfl rfl rfl) ?_
                        refine rn (r := 1012) rfl rfl (st_bsl (els := [[dI .u8 (2 : Int), dI .i64 x399, dI .i64 x400, dI .i64 x112.Piv, dL 1 (eI .i64) y418.1]]) sl23 zc58 rfl rfl rfl rfl rfl) rfl ?_
                        obtain ⟨c422, h⟩ := capN_some h
                        refine rn (r := 0) (L' := [(1001, .row 0 25 [[dB a1.Cubes, dL 5 e_S_api_Line a1.Lines]]), (1002, .row 0 25 [[dB false, .nilS]]), (1003, .row 0 23 [[.slice 1009 g109 0 s108.2.length]]), (1004, rw' 1 3 (eI .i64) (s108.1.set (((j111 : Nat) : Int).toNat) ((s108.2.length : Nat) : Int))), (1005, .row 0 28 [[.slice 1004 1 0 s108.1.length]]), (1009, rw' (g109 + 2) 58 e_S_api_Line (s108.2 ++ [(S_api_Line.mk (2 : Int) x399 x400 x112.Piv y418.1)])), (1010, .row 0 58 [[dI .u8 x112.Rule, dI .i64 x112.A, dI .i64 x112.B, dI .i64 x112.Piv, dL 1 (eI .i64) x112.Lits]]), (1011, .row 0 58 [[dI .u8 (2 : Int), dI .i64 x399, dI .i64 x400, dI .i64 x112.Piv, dL 1 (eI .i64) y418.1]]), (1012, .row 1 58 [[dI .u8 (2 : Int), dI .i64 x399, dI .i64 x400, dI .i64 x112.Piv, dL 1 (eI .i64) y418.1]])]) rfl rfl (st_appR (f := e_S_api_Line) (xs := s108.2) (ys := [(S_api_Line.mk (2 : Int) x399 x400 x112.Piv y418.1)]) sl23 zc58 rfl rfl rfl rfl rfl (news_one (a := (S_api_Line.mk (2 : Int) x399 x400 x112.Piv y418.1)) rfl rfl) c422) rfl ?_
                        refine rx (L' := [(1001, .row 0 25 [[dB a1.Cubes, dL 5 e_S_api_Line a1.Lines]]), (1002, .row 0 25 [[dB false, .nilS]]), (1003, .row 0 23 [[.slice 1009 (g109 + 2) 0 ((s108.2 ++ [(S_api_Line.mk (2 : Int) x399 x400 x112.Piv y418.1)]).length)]]), (1004, rw' 1 3 (eI .i64) (s108.1.set (((j111 : Nat) : Int).toNat) ((s108.2.length : Nat) : Int))), (1005, .row 0 28 [[.slice 1004 1 0 s108.1.length]]), (1009, rw' (g109 + 2) 58 e_S_api_Line (s108.2 ++ [(S_api_Line.mk (2 : Int) x399 x400 x112.Piv y418.1)])), (1010, .row 0 58 [[dI .u8 x112.Rule, dI .i64 x112.A, dI .i64 x112.B, dI .i64 x112.Piv, dL 1 (eI .i64) x112.Lits]]), (1011, .row 0 58 [[dI .u8 (2 : Int), dI .i64 x399, dI .i64 x400, dI .i64 x112.Piv, dL 1 (eI .i64) y418.1]]), (1012, .row 1 58 [[dI .u8 (2 : Int), dI .i64 x399, dI .i64 x400, dI .i64 x112.Piv, dL 1 (eI .i64) y418.1]])]) rfl rfl (st_stP ta23 rfl rfl rfl rfl rfl rfl rfl rfl) rfl ?_
                        refine rw_nil ?_
                        refine ret_inN (v := .tup []) (resV_none resVs_nil) ?_
                        show RW _ _ _ _ _ _ _
                        refine rw_nil ?_
                        refine nx_block ?_
                        refine nx_block ?_
                        refine nx_then ?_
                        exact J384 ((s108.1.set (((j111 : Nat) : Int).toNat) ((s108.2.length : Nat) : Int)), (s108.2 ++ [(S_api_Line.mk (2 : Int) x399 x400 x112.Piv y418.1)])) (g109 + 2) _ _ h (gh_frz rfl rfl ⟨⟨_, rfl, .keep rfl⟩, ⟨_, rfl, .keep rfl⟩, ⟨_, rfl, .keep rfl⟩, ⟨_, rfl, .keep rfl⟩, ⟨_, rfl, .keep rfl⟩, ⟨_, rfl, .keep rfl⟩, ⟨_, rfl, .keep rfl⟩, ⟨_, rfl, .keep rfl⟩, ⟨_, rfl, .keep rfl⟩, ⟨_, rfl, .keep rfl⟩, ⟨_, rfl, .keep rfl⟩, trivial⟩ ⟨⟨_, rfl, objOne ⟨⟨rfl, .keep rfl⟩, ⟨rfl, .keep rfl⟩, trivial⟩⟩, ⟨_, rfl, objOne ⟨⟨rfl, .keep rfl⟩, ⟨rfl, .keep rfl⟩, trivial⟩⟩, ⟨_, rfl, objOne ⟨⟨rfl, .keep rfl⟩, trivial⟩⟩, ⟨_, rfl, objRow _⟩, ⟨_, rfl, objOne ⟨⟨rfl, frzN rfl (by simp)⟩, trivial⟩⟩, ⟨_, rfl, objRow _⟩, trivial⟩)
                  · clear h
                    intro k410 h J410
                    refine awp_rs ?_
                    refine ro rfl rfl (st_mv rfl) ?_
                    refine ro rfl rfl (st_faP fo58_3 rfl) ?_
                    refine ro rfl rfl (st_ldP (v := dI .i64 x112.Piv) ta3 rfl rfl rfl rfl) ?_
                    refine ro rfl rfl (st_un (v := dI .i64 (IntKind.wrap .i64 (0 - x112.Piv))) rfl rfl) ?_
                    obtain ⟨y423, hy423, h⟩ := bind_some_elim h
                    refine rf rfl rfl (ok_slices_Contains_int_int hy423) rfl rfl ?_
                    refine ro rfl rfl (st_as rfl) ?_
                    refine rw_nilk ?_
                    refine awp_ite (b := y423) rfl (fun p424 => ?_) (fun p424 => ?_)
                    · replace h := ite_T p424 h
                      refine awp_skip ?_
                      refine nx_then ?_
                      exact J410 y423 () _ _ h (gh_frz rfl rfl ⟨⟨_, rfl, .keep rfl⟩, ⟨_, rfl, .keep rfl⟩, ⟨_, rfl, .keep rfl⟩, ⟨_, rfl, .keep rfl⟩, ⟨_, rfl, .keep rfl⟩, ⟨_, rfl, .keep rfl⟩, ⟨_, rfl, .keep rfl⟩, ⟨_, rfl, .keep rfl⟩, ⟨_, rfl, .keep rfl⟩, ⟨_, rfl, .keep rfl⟩, ⟨_, rfl, .keep rfl⟩, ⟨_, rfl, .keep rfl⟩, ⟨_, rfl, .keep rfl⟩, ⟨_, rfl, .keep rfl⟩, ⟨_, rfl, .keep rfl⟩, ⟨_, rfl, .keep rfl⟩, trivial⟩ ⟨⟨_, rfl, objOne ⟨⟨rfl, .keep rfl⟩, ⟨rfl, .keep rfl⟩, trivial⟩⟩, ⟨_, rfl, objOne ⟨⟨rfl, .keep rfl⟩, ⟨rfl, .keep rfl⟩, trivial⟩⟩, ⟨_, rfl, objOne ⟨⟨rfl, .keep rfl⟩, trivial⟩⟩, ⟨_, rfl, objRow _⟩, ⟨_, rfl, objOne ⟨⟨rfl, .keep rfl⟩, trivial⟩⟩, ⟨_, rfl, objRow _⟩, ⟨_, rfl, objOne ⟨⟨rfl, .keep rfl⟩, ⟨rfl, .keep rfl⟩, ⟨rfl, .keep rfl⟩, ⟨rfl, .keep rfl⟩, ⟨rfl, .keep rfl⟩, trivial⟩⟩, trivial⟩)
                    · replace h := ite_F p424 h
                      refine awp_rd hmix ?_
                      refine do_ rfl rfl (st_ldP (v := .slice 1009 g109 0 s108.2.length) ta23 rfl rfl rfl rfl) rfl rfl rfl ?_
                      refine do_ rfl rfl (st_mv rfl) rfl rfl rfl ?_
                      obtain ⟨x425, h0425, hx425, h⟩ := getI_some h
                      refine do_ rfl rfl (st_ixRi sl23 rfl rfl rfl h0425 hx425 rfl) rfl rfl rfl ?_
                      refine do_ rfl rfl (st_faP fo58_4 rfl) rfl rfl rfl ?_
                      refine do_ rfl rfl (st_ldP (v := dL 1 (eI .i64) x425.Lits) ta28 rfl rfl (rowOf_map_get hx425) rfl) rfl rfl rfl ?_
                      refine do_ rfl rfl (st_faP fo58_3 rfl) rfl rfl rfl ?_
                      refine do_ rfl rfl (st_ldP (v := dI .i64 x112.Piv) ta3 rfl rfl rfl rfl) rfl rfl rfl ?_
                      obtain ⟨y426, hy426, h⟩ := bind_some_elim h
                      refine df rfl rfl (ok_slices_Contains_int_int hy426) rfl rfl ?_
                      refine do_ rfl rfl (st_un (v := dB (!y426)) rfl rfl) rfl rfl rfl ?_
                      refine do_ rfl rfl (st_as rfl) rfl rfl rfl ?_
                      refine rd_nil (by kernel_rfl) ?_
                      refine nx_then ?_
                      exact J410 (!y426) () _ _ h (gh_frz rfl rfl ⟨⟨_, rfl, .keep rfl⟩, ⟨_, rfl, .keep rfl⟩, ⟨_, rfl, .keep rfl⟩, ⟨_, rfl, .keep rfl⟩, ⟨_, rfl, .keep rfl⟩, ⟨_, rfl, .keep rfl⟩, ⟨_, rfl, .keep rfl⟩, ⟨_, rfl, .keep rfl⟩, ⟨_, rfl, .keep rfl⟩, ⟨_, rfl, .keep rfl⟩, ⟨_, rfl, .keep rfl⟩, ⟨_, rfl, .keep rfl⟩, ⟨_, rfl, .keep rfl⟩, ⟨_, rfl, .keep rfl⟩, ⟨_, rfl, .keep rfl⟩, ⟨_, rfl, .keep rfl⟩, trivial⟩ ⟨⟨_, rfl, objOne ⟨⟨rfl, .keep rfl⟩, ⟨rfl, .keep rfl⟩, trivial⟩⟩, ⟨_, rfl, objOne ⟨⟨rfl, .keep rfl⟩, ⟨rfl, .keep rfl⟩, trivial⟩⟩, ⟨_, rfl, objOne ⟨⟨rfl, .keep rfl⟩, trivial⟩⟩, ⟨_, rfl, objRow _⟩, ⟨_, rfl, objOne ⟨⟨rfl, .keep rfl⟩, trivial⟩⟩, ⟨_, rfl, objRow _⟩, ⟨_, rfl, objOne ⟨⟨rfl, .keep rfl⟩, ⟨rfl, .keep rfl⟩, ⟨rfl, .keep rfl⟩, ⟨rfl, .keep rfl⟩, ⟨rfl, .keep rfl⟩, trivial⟩⟩, trivial⟩)
        · clear h
          intro s108 g109 h
          refine awp_rs ?_
          refine ro rfl rfl (st_bin (v := dB (decide (((a1.Lines.length : Nat) : Int) < ((a1.Lines.length : Nat) : Int)))) rfl rfl rfl) ?_
          refine rw_nilk ?_
          refine awp_seq ?_
          refine awp_ifF rfl dge ?_
          refine awp_exit ?_
          refine ex_out ?_
          refine ex_out ?_
          refine ex_in ?_
          refine nx_then ?_
          refine awp_gh (gh_frz (E' := [(4, .ptr 1001 0 0 0), (6, .ptr 1002 0 0 0), (13, .ptr 1003 0 0 0), (14, .ptr 1005 0 0 0)]) (L' := [(1001, .row 0 25 [[dB a1.Cubes, dL 5 e_S_api_Line a1.Lines]]), (1002, .row 0 25 [[dB false, .nilS]]), (1003, .row 0 23 [[dL 5 e_S_api_Line s108.2]]), (1004, rw' 1 3 (eI .i64) s108.1), (1005, .row 0 28 [[.slice 1004 1 0 s108.1.length]])]) rfl rfl ⟨⟨_, rfl, .keep rfl⟩, ⟨_, rfl, .keep rfl⟩, ⟨_, rfl, .keep rfl⟩, ⟨_, rfl, .keep rfl⟩, trivial⟩ ⟨⟨_, rfl, objOne ⟨⟨rfl, .keep rfl⟩, ⟨rfl, .keep rfl⟩, trivial⟩⟩, ⟨_, rfl, objOne ⟨⟨rfl, .keep rfl⟩, ⟨rfl, .keep rfl⟩, trivial⟩⟩, ⟨_, rfl, objOne ⟨⟨rfl, frzT rfl rfl co58 rfl⟩, trivial⟩⟩, ⟨_, rfl, objRow _⟩, ⟨_, rfl, objOne ⟨⟨rfl, .keep rfl⟩, trivial⟩⟩, trivial⟩) ?_
          refine awp_rds hmix ?_
          refine do_ rfl rfl (st_ldP (v := dL 5 e_S_api_Line s108.2) ta23 rfl rfl rfl rfl) rfl rfl rfl ?_
          refine do_ rfl rfl (st_ldP (v := .slice 1004 1 0 s108.1.length) ta28 rfl rfl rfl rfl) rfl rfl rfl ?_
          refine do_ rfl rfl (st_faP fo25_1 rfl) rfl rfl rfl ?_
          refine do_ rfl rfl (st_ldP (v := dL 5 e_S_api_Line a1.Lines) ta23 rfl rfl rfl rfl) rfl rfl rfl ?_
          refine do_ rfl rfl (st_lenD rfl un23) rfl rfl rfl ?_
          refine do_ rfl rfl (st_bin (v := dI .i64 (IntKind.wrap .i64 (((a1.Lines.length : Nat) : Int) - (1 : Int)))) rfl rfl rfl) rfl rfl rfl ?_
          obtain ⟨x428, h0428, hx428, h⟩ := getI_some h
          refine do_ rfl rfl (st_ixRi sl28 rfl rfl rfl h0428 hx428 rfl) rfl rfl rfl ?_
          refine do_ rfl rfl (st_ldP (v := dI .i64 x428) ta3 rfl rfl (rowOf_map_get hx428) rfl) rfl rfl rfl ?_
          obtain ⟨y429, hy429, h⟩ := bind_some_elim h
          refine df rfl rfl (ok_proof_kept hy429) rfl rfl ?_
          refine dx (L' := [(1001, .row 0 25 [[dB a1.Cubes, dL 5 e_S_api_Line a1.Lines]]), (1002, .row 0 25 [[dB y429.Cubes, dL 5 e_S_api_Line y429.Lines]]), (1003, .row 0 23 [[dL 5 e_S_api_Line s108.2]]), (1004, rw' 1 3 (eI .i64) s108.1), (1005, .row 0 28 [[.slice 1004 1 0 s108.1.length]])]) rfl rfl (st_stP ta25 rfl rfl rfl rfl rfl rfl rfl rfl) rfl rfl rfl rfl ?_
          refine do_ rfl rfl (st_as rfl) rfl rfl rfl ?_
          refine rd_nil (by kernel_rfl) ?_
          refine awp_ret ?_
          injection h with h
          subst h
          exact ret_out (v := .tup [.agg [dB y429.Cubes, dL 5 e_S_api_Line y429.Lines], dI .i64 (0 : Int)]) (resV_many (resVs_cell (v := .agg [dB y429.Cubes, dL 5 e_S_api_Line y429.Lines]) ta25 rfl rfl rfl rfl (resVs_tmp rfl resVs_nil))) (.keep rfl)

theorem ok_skolemref09_Same {a0 : (List Int)} {a1 : (List Int)} {r : Bool} (h : F_skolemref09_Same a0 a1 = some r) : Fn Try.prog 16 [dL 1 (eI .i64) a0, dL 1 (eI .i64) a1] (dB r) := by
  unfold F_skolemref09_Same at h
  refine Fn.of_body (N := 26) (rs := [.tmp 4]) Try.func16 (c := _) rfl rfl rfl (by kernel_rfl) (Nat.le_of_ble_eq_true rfl) (fun _B => ?_)
  refine awp_rs ?_
  refine ro rfl rfl (st_as rfl) ?_
  refine rw_nilk ?_
  refine awp_seq ?_
  refine awp_rs ?_
  refine ro rfl rfl (st_mv rfl) ?_
  refine ro rfl rfl (st_lenD rfl un28) ?_
  refine ro rfl rfl (st_mv rfl) ?_
  refine ro rfl rfl (st_lenD rfl un28) ?_
  refine ro rfl rfl (st_bin (v := dB (((a0.length : Nat) : Int) != ((a1.length : Nat) : Int))) rfl rfl rfl) ?_
  refine rw_nilk ?_
  refine awp_ite (b := (((a0.length : Nat) : Int) != ((a1.length : Nat) : Int))) rfl (fun p101 => ?_) (fun p101 => ?_)
  · replace h := ite_T p101 h
    refine awp_rs ?_
    refine ro rfl rfl (st_as rfl) ?_
    refine rw_nilk ?_
    refine awp_ret ?_
    refine rt_then ?_
    injection h with h
    subst h
    exact ret_out (v := dB false) (resV_one (resVs_tmp rfl resVs_nil)) (.keep rfl)
  · replace h := ite_F p101 h
    refine awp_skip ?_
    refine nx_then ?_
    refine awp_seq ?_
    refine awp_rs ?_
    refine ro rfl rfl (st_as rfl) ?_
    refine rw_nilk ?_
    refine awp_block ?_
    refine awp_len (t := 0) rfl (fun hl105 => ?_)
    rw [List.length_map] at hl105
    refine awp_range (fun (j105 : Nat) (s102 : Unit) (g103 : Unit) => [(0, dL 1 (eI .i64) a0), (1, dL 1 (eI .i64) a1), (5, dI .i64 ((j105 : Nat) : Int))]) (fun (s102 : Unit) (g103 : Unit) => []) () (fun _ _ _ h => h) h (gh_frz rfl rfl ⟨⟨_, rfl, .keep rfl⟩, ⟨_, rfl, .keep rfl⟩, ⟨_, rfl, .keep rfl⟩, trivial⟩ trivial) ?_ ?_
    · clear h
      intro j105 x106 s102 g103 k104 hj105 hx105 h ih104
      refine awp_seq ?_
      refine awp_rs ?_
      refine ro rfl rfl (st_mv rfl) ?_
      refine ro rfl rfl (st_mv rfl) ?_
      refine ro rfl rfl (st_lenD rfl un28) ?_
      refine ro rfl rfl (st_bin (v := dB (decide (((j105 : Nat) : Int) < ((a0.length : Nat) : Int)))) rfl rfl rfl) ?_
      refine rw_nilk ?_
      refine awp_ifT rfl (dlt hj105) ?_
      refine awp_skip ?_
      refine nx_then ?_
      refine awp_seq ?_
      refine awp_block ?_
      refine awp_rds hmix ?_
      refine do_ rfl rfl (st_mv rfl) rfl rfl rfl ?_
      refine do_ rfl rfl (st_mv rfl) rfl rfl rfl ?_
      refine do_ rfl rfl (st_ixDn sl28 rfl rfl hx105) rfl rfl rfl ?_
      refine do_ rfl rfl (st_ldD (v := dI .i64 x106) ta3 rfl rfl) rfl rfl rfl ?_
      refine do_ rfl rfl (st_mv rfl) rfl rfl rfl ?_
      refine do_ rfl rfl (st_mv rfl) rfl rfl rfl ?_
      obtain ⟨x109, h0109, hx109, h⟩ := getI_some h
      refine do_ rfl rfl (st_ixD sl28 rfl rfl h0109 hx109) rfl rfl rfl ?_
      refine do_ rfl rfl (st_ldD (v := dI .i64 x109) ta3 rfl rfl) rfl rfl rfl ?_
      refine do_ rfl rfl (st_bin (v := dB (x106 != x109)) rfl rfl rfl) rfl rfl rfl ?_
      refine rd_nil (by kernel_rfl) ?_
      refine awp_ite (b := (x106 != x109)) rfl (fun p110 => ?_) (fun p110 => ?_)
      · replace h := ite_T p110 h
        refine awp_rs ?_
        refine ro rfl rfl (st_as rfl) ?_
        refine rw_nilk ?_
        refine awp_ret ?_
        refine rt_block ?_
        refine rt_then ?_
        refine rt_then ?_
        refine rt_block ?_
        refine rt_then ?_
        injection h with h
        subst h
        exact ret_out (v := dB false) (resV_one (resVs_tmp rfl resVs_nil)) (.keep rfl)
      · replace h := ite_F p110 h
        refine awp_skip ?_
        refine nx_block ?_
        refine nx_then ?_
        refine awp_rw ?_
        refine ro rfl rfl (st_mv rfl) ?_
        refine ro rfl rfl (st_inc rfl rfl hj105 hl105) ?_
        refine ro rfl rfl (st_as rfl) ?_
        refine rw_nil ?_
        refine nx_then ?_
        refine awp_gh ?_ (ih104 () () h)
        exact (gh_frz rfl rfl ⟨⟨_, rfl, .keep rfl⟩, ⟨_, rfl, .keep rfl⟩, ⟨_, rfl, .keep rfl⟩, trivial⟩ trivial)
    · clear h
      intro s102 g103 h
      refine awp_seq ?_
      refine awp_rs ?_
      refine ro rfl rfl (st_mv rfl) ?_
      refine ro rfl rfl (st_mv rfl) ?_
      refine ro rfl rfl (st_lenD rfl un28) ?_
      refine ro rfl rfl (st_bin (v := dB (decide (((a0.length : Nat) : Int) < ((a0.length : Nat) : Int)))) rfl rfl rfl) ?_
      refine rw_nilk ?_
      refine awp_ifF rfl dge ?_
      refine awp_exit ?_
      refine ex_out ?_
      refine ex_out ?_
      refine ex_in ?_
      refine nx_then ?_
      refine awp_rs ?_
      refine ro rfl rfl (st_as rfl) ?_
      refine rw_nilk ?_
      refine awp_ret ?_
      injection h with h
      subst h
      exact ret_out (v := dB true) (resV_one (resVs_tmp rfl resVs_nil)) (.keep rfl)

theorem ok_skolemref09_Abs {a0 : Int} {r : Int} (h : F_skolemref09_Abs a0 = some r) : Fn Try.prog 65 [dI .i64 a0] (dI .i64 r) := by
  unfold F_skolemref09_Abs at h
  refine Fn.of_body (N := 8) (rs := [.tmp 2]) Try.func65 (c := _) rfl rfl rfl (by kernel_rfl) (Nat.le_of_ble_eq_true rfl) (fun _B => ?_)
  refine awp_rs ?_
  refine ro rfl rfl (st_as rfl) ?_
  refine rw_nilk ?_
  refine awp_seq ?_
  refine awp_rs ?_
  refine ro rfl rfl (st_mv rfl) ?_
  refine ro rfl rfl (st_bin (v := dB (decide (a0 < (0 : Int)))) rfl rfl rfl) ?_
  refine rw_nilk ?_
  refine awp_ite (b := (decide (a0 < (0 : Int)))) rfl (fun p101 => ?_) (fun p101 => ?_)
  · replace h := ite_T p101 h
    refine awp_rs ?_
    refine ro rfl rfl (st_mv rfl) ?_
    refine ro rfl rfl (st_un (v := dI .i64 (IntKind.wrap .i64 (0 - a0))) rfl rfl) ?_
    refine ro rfl rfl (st_as rfl) ?_
    refine rw_nilk ?_
    refine awp_ret ?_
    refine rt_then ?_
    injection h with h
    subst h
    exact ret_out (v := dI .i64 (IntKind.wrap .i64 (0 - a0))) (resV_one (resVs_tmp rfl resVs_nil)) (.keep rfl)
  · replace h := ite_F p101 h
    refine awp_skip ?_
    refine nx_then ?_
    refine awp_rs ?_
    refine ro rfl rfl (st_mv rfl) ?_
    refine ro rfl rfl (st_as rfl) ?_
    refine rw_nilk ?_
    refine awp_ret ?_
    injection h with h
    subst h
    exact ret_out (v := dI .i64 a0) (resV_one (resVs_tmp rfl resVs_nil)) (.keep rfl)

theorem ok_skolemref09_Normal {a0 : (List Int)} {r : Bool} (h : F_skolemref09_Normal a0 = some r) : Fn Try.prog 33 [dL 1 (eI .i64) a0] (dB r) := by
  unfold F_skolemref09_Normal at h
  refine Fn.of_body (N := 47) (rs := [.tmp 2]) Try.func33 (c := _) rfl rfl rfl (by kernel_rfl) (Nat.le_of_ble_eq_true rfl) (fun _B => ?_)
  refine awp_rs ?_
  refine ro rfl rfl (st_as rfl) ?_
  refine rw_nilk ?_
  refine awp_seq ?_
  refine awp_rs ?_
  refine ro rfl rfl (st_as rfl) ?_
  refine rw_nilk ?_
  refine awp_block ?_
  refine awp_len (t := 0) rfl (fun hl104 => ?_)
  rw [List.length_map] at hl104
  refine awp_range (fun (j104 : Nat) (s101 : Unit) (g102 : Unit) => [(0, dL 1 (eI .i64) a0), (3, dI .i64 ((j104 : Nat) : Int))]) (fun (s101 : Unit) (g102 : Unit) => []) () (fun _ _ _ h => h) h (gh_frz rfl rfl ⟨⟨_, rfl, .keep rfl⟩, ⟨_, rfl, .keep rfl⟩, trivial⟩ trivial) ?_ ?_
  · clear h
    intro j104 x105 s101 g102 k103 hj104 hx104 h ih103
    refine awp_seq ?_
    refine awp_rs ?_
    refine ro rfl rfl (st_mv rfl) ?_
    refine ro rfl rfl (st_mv rfl) ?_
    refine ro rfl rfl (st_lenD rfl un28) ?_
    refine ro rfl rfl (st_bin (v := dB (decide (((j104 : Nat) : Int) < ((a0.length : Nat) : Int)))) rfl rfl rfl) ?_
    refine rw_nilk ?_
    refine awp_ifT rfl (dlt hj104) ?_
    refine awp_skip ?_
    refine nx_then ?_
    refine awp_seq ?_
    refine awp_block ?_
    refine awp_jn (fun (s167 : Bool) (g168 : Unit) => [(0, dL 1 (eI .i64) a0), (3, dI .i64 ((j104 : Nat) : Int)), (46, dB s167)]) (fun (s167 : Bool) (g168 : Unit) => []) h ?_ ?_
    · clear h
      intro s167 g168 h
      refine awp_ite (b := s167) rfl (fun p170 => ?_) (fun p170 => ?_)
      · replace h := ite_T p170 h
        refine awp_rs ?_
        refine ro rfl rfl (st_as rfl) ?_
        refine rw_nilk ?_
        refine awp_ret ?_
        refine rt_block ?_
        refine rt_then ?_
        refine rt_then ?_
        refine rt_block ?_
        refine rt_then ?_
        injection h with h
        subst h
        exact ret_out (v := dB false) (resV_one (resVs_tmp rfl resVs_nil)) (.keep rfl)
      · replace h := ite_F p170 h
        refine awp_skip ?_
        refine nx_block ?_
        refine nx_then ?_
        refine awp_rw ?_
        refine ro rfl rfl (st_mv rfl) ?_
        refine ro rfl rfl (st_inc rfl rfl hj104 hl104) ?_
        refine ro rfl rfl (st_as rfl) ?_
        refine rw_nil ?_
        refine nx_then ?_
        refine awp_gh ?_ (ih103 () () h)
        exact (gh_frz rfl rfl ⟨⟨_, rfl, .keep rfl⟩, ⟨_, rfl, .keep rfl⟩, trivial⟩ trivial)
    · clear h
      intro k169 h J169
      refine awp_rd hmix ?_
      refine do_ rfl rfl (st_mv rfl) rfl rfl rfl ?_
      refine do_ rfl rfl (st_mv rfl) rfl rfl rfl ?_
      refine do_ rfl rfl (st_ixDn sl28 rfl rfl hx104) rfl rfl rfl ?_
      refine do_ rfl rfl (st_ldD (v := dI .i64 x105) ta3 rfl rfl) rfl rfl rfl ?_
      refine do_ rfl rfl (st_bin (v := dB (decide (x105 < (-65536 : Int)))) rfl rfl rfl) rfl rfl rfl ?_
      refine do_ rfl rfl (st_mv rfl) rfl rfl rfl ?_
      refine bool_split (decide (x105 < (-65536 : Int))) (fun p171 => ?_) (fun p171 => ?_)
      · replace h := ite_T p171 h
        rw [p171]
        refine dz rfl rfl ?_
        refine dz rfl rfl ?_
        refine dz rfl rfl ?_
        refine dz rfl rfl ?_
        refine dz rfl rfl ?_
        refine do_ rfl rfl (st_pickT rfl rfl) rfl rfl rfl ?_
        refine do_ rfl rfl (st_mv rfl) rfl rfl rfl ?_
        refine dz rfl rfl ?_
        refine dz rfl rfl ?_
        refine dz rfl rfl ?_
        refine dz rfl rfl ?_
        refine dz rfl rfl ?_
        refine do_ rfl rfl (st_pickT rfl rfl) rfl rfl rfl ?_
        refine do_ rfl rfl (st_mv rfl) rfl rfl rfl ?_
        refine dz rfl rfl ?_
        refine dz rfl rfl ?_
        refine dz rfl rfl ?_
        refine dz rfl rfl ?_
        refine dz rfl rfl ?_
        refine dz rfl rfl ?_
        refine dz rfl rfl ?_
        refine dz rfl rfl ?_
        refine dz rfl rfl ?_
        refine dz rfl rfl ?_
        refine dz rfl rfl ?_
        refine dz rfl rfl ?_
        refine dz rfl rfl ?_
        refine dz rfl rfl ?_
        refine dz rfl rfl ?_
        refine dz rfl rfl ?_
        refine do_ rfl rfl (st_pickT rfl rfl) rfl rfl rfl ?_
        refine rd_nil (by kernel_rfl) ?_
        refine nx_then ?_
        exact J169 true () _ _ h (gh_frz rfl rfl ⟨⟨_, rfl, .keep rfl⟩, ⟨_, rfl, .keep rfl⟩, ⟨_, rfl, .keep rfl⟩, trivial⟩ trivial)
      · replace h := ite_F p171 h
        rw [p171]
        refine do_ rfl rfl (st_mv rfl) rfl rfl rfl ?_
        refine do_ rfl rfl (st_mv rfl) rfl rfl rfl ?_
        refine do_ rfl rfl (st_ixDn sl28 rfl rfl hx104) rfl rfl rfl ?_
        refine do_ rfl rfl (st_ldD (v := dI .i64 x105) ta3 rfl rfl) rfl rfl rfl ?_
        refine do_ rfl rfl (st_bin (v := dB (decide (x105 > (65536 : Int)))) rfl rfl rfl) rfl rfl rfl ?_
        refine do_ rfl rfl (st_pickF rfl rfl) rfl rfl rfl ?_
        refine do_ rfl rfl (st_mv rfl) rfl rfl rfl ?_
        refine bool_split (decide (x105 > (65536 : Int))) (fun p172 => ?_) (fun p172 => ?_)
        · replace h := ite_T p172 h
          rw [p172]
          refine dz rfl rfl ?_
          refine dz rfl rfl ?_
          refine dz rfl rfl ?_
          refine dz rfl rfl ?_
          refine dz rfl rfl ?_
          refine do_ rfl rfl (st_pickT rfl rfl) rfl rfl rfl ?_
          refine do_ rfl rfl (st_mv rfl) rfl rfl rfl ?_
          refine dz rfl rfl ?_
          refine dz rfl rfl ?_
          refine dz rfl rfl ?_
          refine dz rfl rfl ?_
          refine dz rfl rfl ?_
          refine dz rfl rfl ?_
          refine dz rfl rfl ?_
          refine dz rfl rfl ?_
          refine dz rfl rfl ?_
          refine dz rfl rfl ?_
          refine dz rfl rfl ?_
          refine dz rfl rfl ?_
          refine dz rfl rfl ?_
          refine dz rfl rfl ?_
          refine dz rfl rfl ?_
          refine dz rfl rfl ?_
          refine do_ rfl rfl (st_pickT rfl rfl) rfl rfl rfl ?_
          refine rd_nil (by kernel_rfl) ?_
          refine nx_then ?_
          exact J169 true () _ _ h (gh_frz rfl rfl ⟨⟨_, rfl, .keep rfl⟩, ⟨_, rfl, .keep rfl⟩, ⟨_, rfl, .keep rfl⟩, trivial⟩ trivial)
        · replace h := ite_F p172 h
          rw [p172]
          refine do_ rfl rfl (st_mv rfl) rfl rfl rfl ?_
          refine do_ rfl rfl (st_mv rfl) rfl rfl rfl ?_
          refine do_ rfl rfl (st_ixDn sl28 rfl rfl hx104) rfl rfl rfl ?_
          refine do_ rfl rfl (st_ldD (v := dI .i64 x105) ta3 rfl rfl) rfl rfl rfl ?_
          refine do_ rfl rfl (st_bin (v := dB (x105 == (0 : Int))) rfl rfl rfl) rfl rfl rfl ?_
          refine do_ rfl rfl (st_pickF rfl rfl) rfl rfl rfl ?_
          refine do_ rfl rfl (st_mv rfl) rfl rfl rfl ?_
          refine bool_split (x105 == (0 : Int)) (fun p173 => ?_) (fun p173 => ?_)
          · replace h := ite_T p173 h
            rw [p173]
            refine dz rfl rfl ?_
            refine dz rfl rfl ?_
            refine dz rfl rfl ?_
            refine dz rfl rfl ?_
            refine dz rfl rfl ?_
            refine dz rfl rfl ?_
            refine dz rfl rfl ?_
            refine dz rfl rfl ?_
            refine dz rfl rfl ?_
            refine dz rfl rfl ?_
            refine dz rfl rfl ?_
            refine dz rfl rfl ?_
            refine dz rfl rfl ?_
            refine dz rfl rfl ?_
            refine dz rfl rfl ?_
            refine dz rfl rfl ?_
            refine do_ rfl rfl (st_pickT rfl rfl) rfl rfl rfl ?_
            refine rd_nil (by kernel_rfl) ?_
            refine nx_then ?_
            exact J169 true () _ _ h (gh_frz rfl rfl ⟨⟨_, rfl, .keep rfl⟩, ⟨_, rfl, .keep rfl⟩, ⟨_, rfl, .keep rfl⟩, trivial⟩ trivial)
          · replace h := ite_F p173 h
            rw [p173]
            refine do_ rfl rfl (st_mv rfl) rfl rfl rfl ?_
            refine do_ rfl rfl (st_bin (v := dB (decide (((j104 : Nat) : Int) > (0 : Int)))) rfl rfl rfl) rfl rfl rfl ?_
            refine do_ rfl rfl (st_mv rfl) rfl rfl rfl ?_
            refine bool_split (decide (((j104 : Nat) : Int) > (0 : Int))) (fun p174 => ?_) (fun p174 => ?_)
            · replace h := ite_T p174 h
              rw [p174]
              refine do_ rfl rfl (st_mv rfl) rfl rfl rfl ?_
              refine do_ rfl rfl (st_mv rfl) rfl rfl rfl ?_
              refine do_ rfl rfl (st_bin (v := dI .i64 (IntKind.wrap .i64 (((j104 : Nat) : Int) - (1 : Int)))) rfl rfl rfl) rfl rfl rfl ?_
              obtain ⟨x175, h0175, hx175, h⟩ := getI_some h
              refine do_ rfl rfl (st_ixD sl28 rfl rfl h0175 hx175) rfl rfl rfl ?_
              refine do_ rfl rfl (st_ldD (v := dI .i64 x175) ta3 rfl rfl) rfl rfl rfl ?_
              obtain ⟨y176, hy176, h⟩ := bind_some_elim h
              refine df rfl rfl (ok_skolemref09_Abs hy176) rfl rfl ?_
              refine do_ rfl rfl (st_mv rfl) rfl rfl rfl ?_
              refine do_ rfl rfl (st_mv rfl) rfl rfl rfl ?_
              refine do_ rfl rfl (st_ixDn sl28 rfl rfl hx104) rfl rfl rfl ?_
              refine do_ rfl rfl (st_ldD (v := dI .i64 x105) ta3 rfl rfl) rfl rfl rfl ?_
              obtain ⟨y177, hy177, h⟩ := bind_some_elim h
              refine df rfl rfl (ok_skolemref09_Abs hy177) rfl rfl ?_
              refine do_ rfl rfl (st_bin (v := dB (decide (y176 ≥ y177))) rfl rfl rfl) rfl rfl rfl ?_
              refine do_ rfl rfl (st_pickT rfl rfl) rfl rfl rfl ?_
              refine do_ rfl rfl (st_pickF rfl rfl) rfl rfl rfl ?_
              refine rd_nil (by kernel_rfl) ?_
              refine nx_then ?_
              exact J169 (decide (y176 ≥ y177)) () _ _ h (gh_frz rfl rfl ⟨⟨_, rfl, .keep rfl⟩, ⟨_, rfl, .keep rfl⟩, ⟨_, rfl, .keep rfl⟩, trivial⟩ trivial)
            · replace h := ite_F p174 h
              rw [p174]
              refine dz rfl rfl ?_
              refine dz rfl rfl ?_
              refine dz rfl rfl ?_
              refine dz rfl rfl ?_
              refine dz rfl rfl ?_
              refine dz rfl rfl ?_
              refine dz rfl rfl ?_
              refine dz rfl rfl ?_
              refine dz rfl rfl ?_
              refine dz rfl rfl ?_
              refine dz rfl rfl ?_
              refine dz rfl rfl ?_
              refine do_ rfl rfl (st_pickF rfl rfl) rfl rfl rfl ?_
              refine do_ rfl rfl (st_pickF rfl rfl) rfl rfl rfl ?_
              refine rd_nil (by kernel_rfl) ?_
              refine nx_then ?_
              exact J169 false () _ _ h (gh_frz rfl rfl ⟨⟨_, rfl, .keep rfl⟩, ⟨_, rfl, .keep rfl⟩, ⟨_, rfl, .keep rfl⟩, trivial⟩ trivial)
  · clear h
    intro s101 g102 h
    refine awp_seq ?_
    refine awp_rs ?_
    refine ro rfl rfl (st_mv rfl) ?_
    refine ro rfl rfl (st_mv rfl) ?_
    refine ro rfl rfl (st_lenD rfl un28) ?_
    refine ro rfl rfl (st_bin (v := dB (decide (((a0.length : Nat) : Int) < ((a0.length : Nat) : Int)))) rfl rfl rfl) ?_
    refine rw_nilk ?_
    refine awp_ifF rfl dge ?_
    refine awp_exit ?_
    refine ex_out ?_
    refine ex_out ?_
    refine ex_in ?_
    refine nx_then ?_
    refine awp_rs ?_
    refine ro rfl rfl (st_as rfl) ?_
    refine rw_nilk ?_
    refine awp_ret ?_
    injection h with h
    subst h
    exact ret_out (v := dB true) (resV_one (resVs_tmp rfl resVs_nil)) (.keep rfl)

theorem ok_skolemref09_Cnf {a0 : (List (List Int))} {r : Bool} (h : F_skolemref09_Cnf a0 = some r) : Fn Try.prog 49 [dL 1 (eL 1 (eI .i64)) a0] (dB r) := by
  unfold F_skolemref09_Cnf at h
  refine Fn.of_body (N := 31) (rs := [.tmp 2]) Try.func49 (c := _) rfl rfl rfl (by kernel_rfl) (Nat.le_of_ble_eq_true rfl) (fun _B => ?_)
  refine awp_rs ?_
  refine ro rfl rfl (st_as rfl) ?_
  refine rw_nilk ?_
  refine awp_seq ?_
  refine awp_rs ?_
  refine ro rfl rfl (st_mv rfl) ?_
  refine ro rfl rfl (st_lenD rfl un22) ?_
  refine ro rfl rfl (st_bin (v := dB (decide (((a0.length : Nat) : Int) > (20000 : Int)))) rfl rfl rfl) ?_
  refine rw_nilk ?_
  refine awp_ite (b := (decide (((a0.length : Nat) : Int) > (20000 : Int)))) rfl (fun p101 => ?_) (fun p101 => ?_)
  · replace h := ite_T p101 h
    refine awp_rs ?_
    refine ro rfl rfl (st_as rfl) ?_
    refine rw_nilk ?_
    refine awp_ret ?_
    refine rt_then ?_
    injection h with h
    subst h
    exact ret_out (v := dB false) (resV_one (resVs_tmp rfl resVs_nil)) (.keep rfl)
  · replace h := ite_F p101 h
    refine awp_skip ?_
    refine nx_then ?_
    refine awp_rs ?_
    refine ro rfl rfl (st_as rfl) ?_
    refine rw_nilk ?_
    refine awp_seq ?_
    refine awp_rs ?_
    refine ro rfl rfl (st_as rfl) ?_
    refine rw_nilk ?_
    refine awp_block ?_
    refine awp_len (t := 0) rfl (fun hl105 => ?_)
    rw [List.length_map] at hl105
    refine awp_range (fun (j105 : Nat) (s102 : Int) (g103 : Unit) => [(0, dL 1 (eL 1 (eI .i64)) a0), (3, dI .i64 s102), (4, dI .i64 ((j105 : Nat) : Int))]) (fun (s102 : Int) (g103 : Unit) => []) () (fun _ _ _ h => h) h (gh_frz rfl rfl ⟨⟨_, rfl, .keep rfl⟩, ⟨_, rfl, .keep rfl⟩, ⟨_, rfl, .keep rfl⟩, trivial⟩ trivial) ?_ ?_
    · clear h
      intro j105 x106 s102 g103 k104 hj105 hx105 h ih104
      refine awp_seq ?_
      refine awp_rs ?_
      refine ro rfl rfl (st_mv rfl) ?_
      refine ro rfl rfl (st_mv rfl) ?_
      refine ro rfl rfl (st_lenD rfl un22) ?_
      refine ro rfl rfl (st_bin (v := dB (decide (((j105 : Nat) : Int) < ((a0.length : Nat) : Int)))) rfl rfl rfl) ?_
      refine rw_nilk ?_
      refine awp_ifT rfl (dlt hj105) ?_
      refine awp_skip ?_
      refine nx_then ?_
      refine awp_seq ?_
      refine awp_block ?_
      refine awp_rs ?_
      refine ro rfl rfl (st_mv rfl) ?_
      refine ro rfl rfl (st_mv rfl) ?_
      refine ro rfl rfl (st_mv rfl) ?_
      refine ro rfl rfl (st_ixDn sl22 rfl rfl hx105) ?_
      refine ro rfl rfl (st_ldD (v := dL 1 (eI .i64) x106) ta28 rfl rfl) ?_
      refine ro rfl rfl (st_lenD rfl un28) ?_
      refine ro rfl rfl (st_bin (v := dI .i64 (IntKind.wrap .i64 (s102 + ((x106.length : Nat) : Int)))) rfl rfl rfl) ?_
      refine ro rfl rfl (st_as rfl) ?_
      refine rw_nilk ?_
      refine awp_jn (fun (s149 : Bool) (g150 : Unit) => [(0, dL 1 (eL 1 (eI .i64)) a0), (3, dI .i64 (IntKind.wrap .i64 (s102 + ((x106.length : Nat) : Int)))), (4, dI .i64 ((j105 : Nat) : Int)), (30, dB s149)]) (fun (s149 : Bool) (g150 : Unit) => []) h ?_ ?_
      · clear h
        intro s149 g150 h
        refine awp_ite (b := s149) rfl (fun p152 => ?_) (fun p152 => ?_)
        · replace h := ite_T p152 h
          refine awp_rs ?_
          refine ro rfl rfl (st_as rfl) ?_
          refine rw_nilk ?_
          refine awp_ret ?_
          refine rt_block ?_
          refine rt_then ?_
          refine rt_then ?_
          refine rt_block ?_
          refine rt_then ?_
          injection h with h
          subst h
          exact ret_out (v := dB false) (resV_one (resVs_tmp rfl resVs_nil)) (.keep rfl)
        · replace h := ite_F p152 h
          refine awp_skip ?_
          refine nx_block ?_
          refine nx_then ?_
          refine awp_rw ?_
          refine ro rfl rfl (st_mv rfl) ?_
          refine ro rfl rfl (st_inc rfl rfl hj105 hl105) ?_
          refine ro rfl rfl (st_as rfl) ?_
          refine rw_nil ?_
          refine nx_then ?_
          refine awp_gh ?_ (ih104 (IntKind.wrap .i64 (s102 + ((x106.length : Nat) : Int))) () h)
          exact (gh_frz rfl rfl ⟨⟨_, rfl, .keep rfl⟩, ⟨_, rfl, .keep rfl⟩, ⟨_, rfl, .keep rfl⟩, trivial⟩ trivial)
      · clear h
        intro k151 h J151
        refine awp_rw ?_
        refine ro rfl rfl (st_mv rfl) ?_
        refine ro rfl rfl (st_bin (v := dB (decide ((IntKind.wrap .i64 (s102 + ((x106.length : Nat) : Int))) > (200000 : Int)))) rfl rfl rfl) ?_
        refine ro rfl rfl (st_mv rfl) ?_
        refine bool_split (decide ((IntKind.wrap .i64 (s102 + ((x106.length : Nat) : Int))) > (200000 : Int))) (fun p153 => ?_) (fun p153 => ?_)
        · replace h := ite_T p153 h
          rw [p153]
          refine rz rfl rfl ?_
          refine rz rfl rfl ?_
          refine rz rfl rfl ?_
          refine rz rfl rfl ?_
          refine rz rfl rfl ?_
          refine rz rfl rfl ?_
          refine ro rfl rfl (st_pickT rfl rfl) ?_
          refine rw_nil ?_
          refine nx_then ?_
          exact J151 true () _ _ h (gh_frz rfl rfl ⟨⟨_, rfl, .keep rfl⟩, ⟨_, rfl, .keep rfl⟩, ⟨_, rfl, .keep rfl⟩, ⟨_, rfl, .keep rfl⟩, trivial⟩ trivial)
        · replace h := ite_F p153 h
          rw [p153]
          refine ro rfl rfl (st_mv rfl) ?_
          refine ro rfl rfl (st_mv rfl) ?_
          refine ro rfl rfl (st_ixDn sl22 rfl rfl hx105) ?_
          refine ro rfl rfl (st_ldD (v := dL 1 (eI .i64) x106) ta28 rfl rfl) ?_
          obtain ⟨y154, hy154, h⟩ := bind_some_elim h
          refine rf rfl rfl (ok_skolemref09_Normal hy154) rfl rfl ?_
          refine ro rfl rfl (st_un (v := dB (!y154)) rfl rfl) ?_
          refine ro rfl rfl (st_pickF rfl rfl) ?_
          refine rw_nil ?_
          refine nx_then ?_
          exact J151 (!y154) () _ _ h (gh_frz rfl rfl ⟨⟨_, rfl, .keep rfl⟩, ⟨_, rfl, .keep rfl⟩, ⟨_, rfl, .keep rfl⟩, ⟨_, rfl, .keep rfl⟩, trivial⟩ trivial)
    · clear h
      intro s102 g103 h
      refine awp_seq ?_
      refine awp_rs ?_
      refine ro rfl rfl (st_mv rfl) ?_
      refine ro rfl rfl (st_mv rfl) ?_
      refine ro rfl rfl (st_lenD rfl un22) ?_
      refine ro rfl rfl (st_bin (v := dB (decide (((a0.length : Nat) : Int) < ((a0.length : Nat) : Int)))) rfl rfl rfl) ?_
      refine rw_nilk ?_
      refine awp_ifF rfl dge ?_
      refine awp_exit ?_
      refine ex_out ?_
      refine ex_out ?_
      refine ex_in ?_
      refine nx_then ?_
      refine awp_rs ?_
      refine ro rfl rfl (st_as rfl) ?_
      refine rw_nilk ?_
      refine awp_ret ?_
      injection h with h
      subst h
      exact ret_out (v := dB true) (resV_one (resVs_tmp rfl resVs_nil)) (.keep rfl)

theorem ok_skolemref09_Has {a0 : (List Int)} {a1 : Int} {r : Bool} (h : F_skolemref09_Has a0 a1 = some r) : Fn Try.prog 30 [dL 1 (eI .i64) a0, dI .i64 a1] (dB r) := by
  unfold F_skolemref09_Has at h
  refine Fn.of_body (N := 18) (rs := [.tmp 4]) Try.func30 (c := _) rfl rfl rfl (by kernel_rfl) (Nat.le_of_ble_eq_true rfl) (fun _B => ?_)
  refine awp_rs ?_
  refine ro rfl rfl (st_as rfl) ?_
  refine rw_nilk ?_
  refine awp_seq ?_
  refine awp_rs ?_
  refine ro rfl rfl (st_as rfl) ?_
  refine rw_nilk ?_
  refine awp_block ?_
  refine awp_len (t := 0) rfl (fun hl104 => ?_)
  rw [List.length_map] at hl104
  refine awp_range (fun (j104 : Nat) (s101 : Unit) (g102 : Unit) => [(0, dL 1 (eI .i64) a0), (1, dI .i64 a1), (5, dI .i64 ((j104 : Nat) : Int))]) (fun (s101 : Unit) (g102 : Unit) => []) () (fun _ _ _ h => h) h (gh_frz rfl rfl ⟨⟨_, rfl, .keep rfl⟩, ⟨_, rfl, .keep rfl⟩, ⟨_, rfl, .keep rfl⟩, trivial⟩ trivial) ?_ ?_
  · clear h
    intro j104 x105 s101 g102 k103 hj104 hx104 h ih103
    refine awp_seq ?_
    refine awp_rs ?_
    refine ro rfl rfl (st_mv rfl) ?_
    refine ro rfl rfl (st_mv rfl) ?_
    refine ro rfl rfl (st_lenD rfl un28) ?_
    refine ro rfl rfl (st_bin (v := dB (decide (((j104 : Nat) : Int) < ((a0.length : Nat) : Int)))) rfl rfl rfl) ?_
    refine rw_nilk ?_
    refine awp_ifT rfl (dlt hj104) ?_
    refine awp_skip ?_
    refine nx_then ?_
    refine awp_seq ?_
    refine awp_block ?_
    refine awp_rs ?_
    refine ro rfl rfl (st_mv rfl) ?_
    refine ro rfl rfl (st_mv rfl) ?_
    refine ro rfl rfl (st_ixDn sl28 rfl rfl hx104) ?_
    refine ro rfl rfl (st_ldD (v := dI .i64 x105) ta3 rfl rfl) ?_
    refine ro rfl rfl (st_mv rfl) ?_
    refine ro rfl rfl (st_bin (v := dB (x105 == a1)) rfl rfl rfl) ?_
    refine rw_nilk ?_
    refine awp_ite (b := (x105 == a1)) rfl (fun p107 => ?_) (fun p107 => ?_)
    · replace h := ite_T p107 h
      refine awp_rs ?_
      refine ro rfl rfl (st_as rfl) ?_
      refine rw_nilk ?_
      refine awp_ret ?_
      refine rt_block ?_
      refine rt_then ?_
      refine rt_then ?_
      refine rt_block ?_
      refine rt_then ?_
      injection h with h
      subst h
      exact ret_out (v := dB true) (resV_one (resVs_tmp rfl resVs_nil)) (.keep rfl)
    · replace h := ite_F p107 h
      refine awp_skip ?_
      refine nx_block ?_
      refine nx_then ?_
      refine awp_rw ?_
      refine ro rfl rfl (st_mv rfl) ?_
      refine ro rfl rfl (st_inc rfl rfl hj104 hl104) ?_
      refine ro rfl rfl (st_as rfl) ?_
      refine rw_nil ?_
      refine nx_then ?_
      refine awp_gh ?_ (ih103 () () h)
      exact (gh_frz rfl rfl ⟨⟨_, rfl, .keep rfl⟩, ⟨_, rfl, .keep rfl⟩, ⟨_, rfl, .keep rfl⟩, trivial⟩ trivial)
  · clear h
    intro s101 g102 h
    refine awp_seq ?_
    refine awp_rs ?_
    refine ro rfl rfl (st_mv rfl) ?_
    refine ro rfl rfl (st_mv rfl) ?_
    refine ro rfl rfl (st_lenD rfl un28) ?_
    refine ro rfl rfl (st_bin (v := dB (decide (((a0.length : Nat) : Int) < ((a0.length : Nat) : Int)))) rfl rfl rfl) ?_
    refine rw_nilk ?_
    refine awp_ifF rfl dge ?_
    refine awp_exit ?_
    refine ex_out ?_
    refine ex_out ?_
    refine ex_in ?_
    refine nx_then ?_
    refine awp_rs ?_
    refine ro rfl rfl (st_as rfl) ?_
    refine rw_nilk ?_
    refine awp_ret ?_
    injection h with h
    subst h
    exact ret_out (v := dB false) (resV_one (resVs_tmp rfl resVs_nil)) (.keep rfl)

theorem ok_skolemref09_Put {a0 : (List Int)} {a1 : Int} {r : (List Int)} (h : F_skolemref09_Put a0 a1 = some r) : Fn Try.prog 86 [dL 1 (eI .i64) a0, dI .i64 a1] (dL 1 (eI .i64) r) := by
  unfold F_skolemref09_Put at h
  refine Fn.of_body (N := 53) (rs := [.tmp 4]) Try.func86 (c := _) rfl rfl rfl (by kernel_rfl) (Nat.le_of_ble_eq_true rfl) (fun _B => ?_)
  refine awp_rs ?_
  refine ro rfl rfl (st_as rfl) ?_
  refine rw_nilk ?_
  refine awp_rs ?_
  refine ro rfl rfl (st_as rfl) ?_
  refine rw_nilk ?_
  refine awp_rs ?_
  refine ro rfl rfl (st_as rfl) ?_
  refine rw_nilk ?_
  refine awp_seq ?_
  refine awp_rs ?_
  refine ro rfl rfl (st_as rfl) ?_
  refine rw_nilk ?_
  refine awp_block ?_
  refine awp_len (t := 0) rfl (fun hl104 => ?_)
  rw [List.length_map] at hl104
  refine awp_range (fun (j104 : Nat) (s101 : (Bool × (List Int))) (g102 : Nat) => [(0, dL 1 (eI .i64) a0), (1, dI .i64 a1), (5, .slice 1002 g102 0 s101.2.length), (6, dB s101.1), (7, dI .i64 ((j104 : Nat) : Int))]) (fun (s101 : (Bool × (List Int))) (g102 : Nat) => [(1002, rw' g102 3 (eI .i64) s101.2)]) 0 (fun _ _ _ h => h) h (Gh.trans (gh_nil (r := 1002) (E' := [(0, dL 1 (eI .i64) a0), (1, dI .i64 a1), (5, .slice 1002 0 0 (([] : List Int).length)), (6, dB false), (7, dI .i64 (0 : Int))]) (L' := []) rfl co3 rfl rfl ⟨⟨_, rfl, .keep _⟩, ⟨_, rfl, .keep _⟩, ⟨_, rfl, .nil⟩, ⟨_, rfl, .keep _⟩, ⟨_, rfl, .keep _⟩, trivial⟩ trivial) (gh_frz rfl rfl ⟨⟨_, rfl, .keep rfl⟩, ⟨_, rfl, .keep rfl⟩, ⟨_, rfl, .keep rfl⟩, ⟨_, rfl, .keep rfl⟩, ⟨_, rfl, .keep rfl⟩, trivial⟩ ⟨⟨_, rfl, objRow (List.map (eI .i64) ([] : List Int))⟩, trivial⟩)) ?_ ?_
  · clear h
    intro j104 x105 s101 g102 k103 hj104 hx104 h ih103
    refine awp_seq ?_
    refine awp_rs ?_
    refine ro rfl rfl (st_mv rfl) ?_
    refine ro rfl rfl (st_mv rfl) ?_
    refine ro rfl rfl (st_lenD rfl un28) ?_
    refine ro rfl rfl (st_bin (v := dB (decide (((j104 : Nat) : Int) < ((a0.length : Nat) : Int)))) rfl rfl rfl) ?_
    refine rw_nilk ?_
    refine awp_ifT rfl (dlt hj104) ?_
    refine awp_skip ?_
    refine nx_then ?_
    refine awp_seq ?_
    refine awp_block ?_
    refine awp_seq ?_
    refine awp_rs ?_
    refine ro rfl rfl (st_mv rfl) ?_
    refine ro rfl rfl (st_mv rfl) ?_
    refine ro rfl rfl (st_ixDn sl28 rfl rfl hx104) ?_
    refine ro rfl rfl (st_ldD (v := dI .i64 x105) ta3 rfl rfl) ?_
    obtain ⟨y269, hy269, h⟩ := bind_some_elim h
    refine rf rfl rfl (ok_skolemref09_Abs hy269) rfl rfl ?_
    refine ro rfl rfl (st_mv rfl) ?_
    obtain ⟨y270, hy270, h⟩ := bind_some_elim h
    refine rf rfl rfl (ok_skolemref09_Abs hy270) rfl rfl ?_
    refine ro rfl rfl (st_bin (v := dB (y269 == y270)) rfl rfl rfl) ?_
    refine rw_nilk ?_
    refine awp_ite (b := (y269 == y270)) rfl (fun p271 => ?_) (fun p271 => ?_)
    · replace h := ite_T p271 h
      refine awp_rs ?_
      refine ro rfl rfl (st_mv rfl) ?_
      refine ro rfl rfl (st_as rfl) ?_
      refine rw_nilk ?_
      refine awp_ret ?_
      refine rt_then ?_
      refine rt_block ?_
      refine rt_then ?_
      refine rt_then ?_
      refine rt_block ?_
      refine rt_then ?_
      injection h with h
      subst h
      exact ret_out (v := dL 1 (eI .i64) a0) (resV_one (resVs_tmp rfl resVs_nil)) (.keep rfl)
    · replace h := ite_F p271 h
      refine awp_skip ?_
      refine nx_then ?_
      refine awp_jn (fun (s283 : (Bool × (List Int))) (g284 : Nat) => [(0, dL 1 (eI .i64) a0), (1, dI .i64 a1), (5, .slice 1002 g284 0 s283.2.length), (6, dB s283.1), (7, dI .i64 ((j104 : Nat) : Int))]) (fun (s283 : (Bool × (List Int))) (g284 : Nat) => [(1002, rw' g284 3 (eI .i64) s283.2)]) h ?_ ?_
      · clear h
        intro s283 g284 h
        refine awp_rw ?_
        refine ro rfl rfl (st_mv rfl) ?_
        refine ro rfl rfl (st_mv rfl) ?_
        refine ro rfl rfl (st_mv rfl) ?_
        refine ro rfl rfl (st_ixDn sl28 rfl rfl hx104) ?_
        refine ro rfl rfl (st_ldD (v := dI .i64 x105) ta3 rfl rfl) ?_
        refine rn (r := 1004) rfl rfl (st_bsl (els := [[dI .i64 x105]]) sl28 zc3 rfl rfl rfl rfl rfl) rfl ?_
        obtain ⟨c286, h⟩ := capN_some h
        refine rn (r := 0) (L' := [(1002, rw' (g284 + 2) 3 (eI .i64) (s283.2 ++ [x105])), (1004, .row 1 3 [[dI .i64 x105]])]) rfl rfl (st_appR (f := (eI .i64)) (xs := s283.2) (ys := [x105]) sl28 zc3 rfl rfl rfl rfl rfl (news_one (a := x105) rfl rfl) c286) rfl ?_
        refine ro rfl rfl (st_as rfl) ?_
        refine rw_nil ?_
        refine nx_block ?_
        refine nx_then ?_
        refine awp_rw ?_
        refine ro rfl rfl (st_mv rfl) ?_
        refine ro rfl rfl (st_inc rfl rfl hj104 hl104) ?_
        refine ro rfl rfl (st_as rfl) ?_
        refine rw_nil ?_
        refine nx_then ?_
        refine awp_gh ?_ (ih103 (s283.1, (s283.2 ++ [x105])) (g284 + 2) h)
        exact (gh_frz rfl rfl ⟨⟨_, rfl, .keep rfl⟩, ⟨_, rfl, .keep rfl⟩, ⟨_, rfl, .keep rfl⟩, ⟨_, rfl, .keep rfl⟩, ⟨_, rfl, .keep rfl⟩, trivial⟩ ⟨⟨_, rfl, objRow _⟩, trivial⟩)
      · clear h
        intro k285 h J285
        refine awp_jn (fun (s290 : Bool) (g291 : Unit) => [(0, dL 1 (eI .i64) a0), (1, dI .i64 a1), (5, .slice 1002 g102 0 s101.2.length), (6, dB s101.1), (7, dI .i64 ((j104 : Nat) : Int)), (34, dB s290)]) (fun (s290 : Bool) (g291 : Unit) => [(1002, rw' g102 3 (eI .i64) s101.2)]) h ?_ ?_
        · clear h
          intro s290 g291 h
          refine awp_ite (b := s290) rfl (fun p293 => ?_) (fun p293 => ?_)
          · replace h := ite_T p293 h
            refine awp_rs ?_
            refine ro rfl rfl (st_mv rfl) ?_
            refine ro rfl rfl (st_mv rfl) ?_
            refine rn (r := 1003) rfl rfl (st_bsl (els := [[dI .i64 a1]]) sl28 zc3 rfl rfl rfl rfl rfl) rfl ?_
            obtain ⟨c294, h⟩ := capN_some h
            refine rn (r := 0) (L' := [(1002, rw' (g102 + 2) 3 (eI .i64) (s101.2 ++ [a1])), (1003, .row 1 3 [[dI .i64 a1]])]) rfl rfl (st_appR (f := (eI .i64)) (xs := s101.2) (ys := [a1]) sl28 zc3 rfl rfl rfl rfl rfl (news_one (a := a1) rfl rfl) c294) rfl ?_
            refine ro rfl rfl (st_as rfl) ?_
            refine rw_nilk ?_
            refine awp_rw ?_
            refine ro rfl rfl (st_as rfl) ?_
            refine rw_nil ?_
            refine nx_then ?_
            exact J285 (true, (s101.2 ++ [a1])) (g102 + 2) _ _ h (gh_frz rfl rfl ⟨⟨_, rfl, .keep rfl⟩, ⟨_, rfl, .keep rfl⟩, ⟨_, rfl, .keep rfl⟩, ⟨_, rfl, .keep rfl⟩, ⟨_, rfl, .keep rfl⟩, trivial⟩ ⟨⟨_, rfl, objRow _⟩, trivial⟩)
          · replace h := ite_F p293 h
            refine awp_skip ?_
            refine nx_then ?_
            exact J285 (s101.1, s101.2) g102 _ _ h (gh_frz rfl rfl ⟨⟨_, rfl, .keep rfl⟩, ⟨_, rfl, .keep rfl⟩, ⟨_, rfl, .keep rfl⟩, ⟨_, rfl, .keep rfl⟩, ⟨_, rfl, .keep rfl⟩, trivial⟩ ⟨⟨_, rfl, objRow _⟩, trivial⟩)
        · clear h
          intro k292 h J292
          refine awp_rw ?_
          refine ro rfl rfl (st_mv rfl) ?_
          refine ro rfl rfl (st_un (v := dB (!s101.1)) rfl rfl) ?_
          refine ro rfl rfl (st_mv rfl) ?_
          refine bool_split (!s101.1) (fun p295 => ?_) (fun p295 => ?_)
          · replace h := ite_T p295 h
            rw [p295]
            refine ro rfl rfl (st_mv rfl) ?_
            refine ro rfl rfl (st_mv rfl) ?_
            refine ro rfl rfl (st_ixDn sl28 rfl rfl hx104) ?_
            refine ro rfl rfl (st_ldD (v := dI .i64 x105) ta3 rfl rfl) ?_
            obtain ⟨y296, hy296, h⟩ := bind_some_elim h
            refine rf rfl rfl (ok_skolemref09_Abs hy296) rfl rfl ?_
            refine ro rfl rfl (st_mv rfl) ?_
            obtain ⟨y297, hy297, h⟩ := bind_some_elim h
            refine rf rfl rfl (ok_skolemref09_Abs hy297) rfl rfl ?_
            refine ro rfl rfl (st_bin (v := dB (decide (y296 > y297))) rfl rfl rfl) ?_
            refine ro rfl rfl (st_pickT rfl rfl) ?_
            refine rw_nil ?_
            refine nx_then ?_
            exact J292 (decide (y296 > y297)) () _ _ h (gh_frz rfl rfl ⟨⟨_, rfl, .keep rfl⟩, ⟨_, rfl, .keep rfl⟩, ⟨_, rfl, .keep rfl⟩, ⟨_, rfl, .keep rfl⟩, ⟨_, rfl, .keep rfl⟩, ⟨_, rfl, .keep rfl⟩, trivial⟩ ⟨⟨_, rfl, objRow _⟩, trivial⟩)
          · replace h := ite_F p295 h
            rw [p295]
            refine rz rfl rfl ?_
            refine rz rfl rfl ?_
            refine rz rfl rfl ?_
            refine rz rfl rfl ?_
            refine rz rfl rfl ?_
            refine rz rfl rfl ?_
            refine rz rfl rfl ?_
            refine rz rfl rfl ?_
            refine ro rfl rfl (st_pickF rfl rfl) ?_
            refine rw_nil ?_
            refine nx_then ?_
            exact J292 false () _ _ h (gh_frz rfl rfl ⟨⟨_, rfl, .keep rfl⟩, ⟨_, rfl, .keep rfl⟩, ⟨_, rfl, .keep rfl⟩, ⟨_, rfl, .keep rfl⟩, ⟨_, rfl, .keep rfl⟩, ⟨_, rfl, .keep rfl⟩, trivial⟩ ⟨⟨_, rfl, objRow _⟩, trivial⟩)
  · clear h
    intro s101 g102 h
    refine awp_seq ?_
    refine awp_rs ?_
    refine ro rfl rfl (st_mv rfl) ?_
    refine ro rfl rfl (st_mv rfl) ?_
    refine ro rfl rfl (st_lenD rfl un28) ?_
    refine ro rfl rfl (st_bin (v := dB (decide (((a0.length : Nat) : Int) < ((a0.length : Nat) : Int)))) rfl rfl rfl) ?_
    refine rw_nilk ?_
    refine awp_ifF rfl dge ?_
    refine awp_exit ?_
    refine ex_out ?_
    refine ex_out ?_
    refine ex_in ?_
    refine nx_then ?_
    refine awp_seq ?_
    refine awp_rs ?_
    refine ro rfl rfl (st_mv rfl) ?_
    refine ro rfl rfl (st_un (v := dB (!s101.1)) rfl rfl) ?_
    refine rw_nilk ?_
    refine awp_ite (b := (!s101.1)) rfl (fun p300 => ?_) (fun p300 => ?_)
    · replace h := ite_T p300 h
      refine awp_rw ?_
      refine ro rfl rfl (st_mv rfl) ?_
      refine ro rfl rfl (st_mv rfl) ?_
      refine rn (r := 1005) rfl rfl (st_bsl (els := [[dI .i64 a1]]) sl28 zc3 rfl rfl rfl rfl rfl) rfl ?_
      obtain ⟨c301, h⟩ := capN_some h
      refine rn (r := 0) (L' := [(1002, rw' (g102 + 2) 3 (eI .i64) (s101.2 ++ [a1])), (1005, .row 1 3 [[dI .i64 a1]])]) rfl rfl (st_appR (f := (eI .i64)) (xs := s101.2) (ys := [a1]) sl28 zc3 rfl rfl rfl rfl rfl (news_one (a := a1) rfl rfl) c301) rfl ?_
      refine ro rfl rfl (st_as rfl) ?_
      refine rw_nil ?_
      refine nx_then ?_
      refine awp_rs ?_
      refine ro rfl rfl (st_mv rfl) ?_
      refine ro rfl rfl (st_as rfl) ?_
      refine rw_nilk ?_
      refine awp_ret ?_
      injection h with h
      subst h
      exact ret_out (v := .slice 1002 (g102 + 2) 0 ((s101.2 ++ [a1]).length)) (resV_one (resVs_tmp rfl resVs_nil)) (frzT rfl rfl co3 rfl)
    · replace h := ite_F p300 h
      refine awp_skip ?_
      refine nx_then ?_
      refine awp_rs ?_
      refine ro rfl rfl (st_mv rfl) ?_
      refine ro rfl rfl (st_as rfl) ?_
      refine rw_nilk ?_
      refine awp_ret ?_
      injection h with h
      subst h
      exact ret_out (v := .slice 1002 g102 0 s101.2.length) (resV_one (resVs_tmp rfl resVs_nil)) (frzT rfl rfl co3 rfl)
end Go.Sk.X
