/- The program computes these plain functions (law ProofLess, part 1). It has no conditions. -/
import Derived.Test.YtehfobeocanbfaaProg
import Derived.Test.YtehfobeocanbfaaSk7
import Derived.Test.YtehfobeocanbfaaSk5
import Derived.Test.YtehfobeocanbfaaXProofLessF
import Derived.KernelRfl
import Derived.Test.YtehfobeocanbfaaShelf
set_option linter.unusedVariables false
set_option linter.unusedSimpArgs false
set_option maxRecDepth 100000
set_option maxHeartbeats 4000000
namespace Go.Sk.X
open Go Go.Sk Go.Proofs
abbrev e_S_api_Line (x : S_api_Line) : List Dat := [.int .u8 x.Rule, .int .i64 x.A, .int .i64 x.B, .int .i64 x.Piv, .sl 1 (x.Lits.map (eI .i64))]
abbrev e_S_api_Proof (x : S_api_Proof) : List Dat := [.bool x.Cubes, .sl 5 (x.Lines.map e_S_api_Line)]
theorem hmix : (Go.Proofs.Try.prog).follows .mixedOrders = true := by kernel_rfl
theorem ta3 : tAgg Go.Proofs.Try.prog 3 = some (false, 1) := by kernel_rfl
theorem co3 : Program.cellsOf Go.Proofs.Try.prog 3 = 1 := by kernel_rfl
theorem zc3 : zCells Go.Proofs.Try.prog 3 = some [.dat (.int .i64 0)] := by kernel_rfl
theorem ta4 : tAgg Go.Proofs.Try.prog 4 = some (false, 1) := by kernel_rfl
theorem co4 : Program.cellsOf Go.Proofs.Try.prog 4 = 1 := by kernel_rfl
theorem zc4 : zCells Go.Proofs.Try.prog 4 = some [.dat (.bool false)] := by kernel_rfl
theorem un22 : Program.underlying Go.Proofs.Try.prog 22 = some (.slice 28) := Go.Proofs.Try.underlying22
theorem sl22 : slE Go.Proofs.Try.prog 22 = some (28, 1, 24) := by kernel_rfl
theorem ta23 : tAgg Go.Proofs.Try.prog 23 = some (false, 1) := by kernel_rfl
theorem co23 : Program.cellsOf Go.Proofs.Try.prog 23 = 1 := by kernel_rfl
theorem un23 : Program.underlying Go.Proofs.Try.prog 23 = some (.slice 58) := Go.Proofs.Try.underlying23
theorem sl23 : slE Go.Proofs.Try.prog 23 = some (58, 5, 56) := by kernel_rfl
theorem ta25 : tAgg Go.Proofs.Try.prog 25 = some (true, 2) := by kernel_rfl
theorem co25 : Program.cellsOf Go.Proofs.Try.prog 25 = 2 := by kernel_rfl
theorem fo25_0 : fOff Go.Proofs.Try.prog 25 0 = some (0, 1, false) := by kernel_rfl
theorem fo25_1 : fOff Go.Proofs.Try.prog 25 1 = some (1, 1, false) := by kernel_rfl
theorem zc25 : zCells Go.Proofs.Try.prog 25 = some [.dat (.bool false), .nilS] := by kernel_rfl
theorem bl25 : bLay Go.Proofs.Try.prog 25 = some ([.dat (.bool false), .nilS], .list [(0, 1), (1, 1)]) := by kernel_rfl
theorem ta28 : tAgg Go.Proofs.Try.prog 28 = some (false, 1) := by kernel_rfl
theorem un28 : Program.underlying Go.Proofs.Try.prog 28 = some (.slice 3) := Go.Proofs.Try.underlying28
theorem sl28 : slE Go.Proofs.Try.prog 28 = some (3, 1, 8) := by kernel_rfl
theorem ta56 : tAgg Go.Proofs.Try.prog 56 = some (false, 1) := by kernel_rfl
theorem ta58 : tAgg Go.Proofs.Try.prog 58 = some (true, 5) := by kernel_rfl
theorem co58 : Program.cellsOf Go.Proofs.Try.prog 58 = 5 := by kernel_rfl
theorem fo58_0 : fOff Go.Proofs.Try.prog 58 0 = some (0, 1, false) := by kernel_rfl
theorem fo58_1 : fOff Go.Proofs.Try.prog 58 1 = some (1, 1, false) := by kernel_rfl
theorem fo58_2 : fOff Go.Proofs.Try.prog 58 2 = some (2, 1, false) := by kernel_rfl
theorem fo58_3 : fOff Go.Proofs.Try.prog 58 3 = some (3, 1, false) := by kernel_rfl
theorem fo58_4 : fOff Go.Proofs.Try.prog 58 4 = some (4, 1, false) := by kernel_rfl
theorem zc58 : zCells Go.Proofs.Try.prog 58 = some [.dat (.int .u8 0), .dat (.int .i64 0), .dat (.int .i64 0), .dat (.int .i64 0), .nilS] := by kernel_rfl
theorem ta94 : tAgg Go.Proofs.Try.prog 94 = some (false, 1) := by kernel_rfl
theorem un94 : Program.underlying Go.Proofs.Try.prog 94 = some (.slice 4) := Go.Proofs.Try.underlying94
theorem sl94 : slE Go.Proofs.Try.prog 94 = some (4, 1, 1) := by kernel_rfl
theorem zc94 : zCells Go.Proofs.Try.prog 94 = some [.nilS] := by kernel_rfl

theorem ok_skolemlaw10_large {a0 : (List (List Int))} {a1 : S_api_Proof} {r : Bool} (h : F_skolemlaw10_large a0 a1 = some r) : Fn Try.prog 12 [dL 1 (eL 1 (eI .i64)) a0, .agg [dB a1.Cubes, dL 5 e_S_api_Line a1.Lines]] (dB r) := by
  unfold F_skolemlaw10_large at h
  refine Fn.of_body (N := 55) (rs := [.tmp 4]) Try.func12 (c := _) rfl rfl rfl (by kernel_rfl) (Nat.le_of_ble_eq_true rfl) (fun _B => ?_)
  refine awp_rs ?_
  refine rn (r := 1001) rfl rfl (st_box rfl rfl rfl co25 rfl rfl) rfl ?_
  refine ro rfl rfl (st_as rfl) ?_
  refine rw_nilk ?_
  refine awp_rs ?_
  refine ro rfl rfl (st_as rfl) ?_
  refine ro rfl rfl (st_as rfl) ?_
  refine rw_nilk ?_
  refine awp_seq ?_
  refine awp_rs ?_
  refine ro rfl rfl (st_as rfl) ?_
  refine rw_nilk ?_
  refine awp_block ?_
  refine awp_len (t := 0) rfl (fun hl104 => ?_)
  rw [List.length_map] at hl104
  refine awp_range (fun (j104 : Nat) (s101 : Int) (g102 : Unit) => [(0, dL 1 (eL 1 (eI .i64)) a0), (3, .ptr 1001 0 0 0), (5, dI .i64 s101), (6, dI .i64 (0 : Int)), (7, dI .i64 ((j104 : Nat) : Int))]) (fun (s101 : Int) (g102 : Unit) => [(1001, .row 0 25 [[dB a1.Cubes, dL 5 e_S_api_Line a1.Lines]])]) () (fun _ _ _ h => h) h (gh_frz rfl rfl ⟨⟨_, rfl, .keep rfl⟩, ⟨_, rfl, .keep rfl⟩, ⟨_, rfl, .keep rfl⟩, ⟨_, rfl, .keep rfl⟩, ⟨_, rfl, .keep rfl⟩, trivial⟩ ⟨⟨_, rfl, objOne ⟨⟨rfl, .keep rfl⟩, ⟨rfl, .keep rfl⟩, trivial⟩⟩, trivial⟩) ?_ ?_
  · clear h
    intro j104 x105 s101 g102 k103 hj104 hx104 h ih103
    refine awp_seq ?_
    refine awp_rs ?_
    refine ro rfl rfl (st_mv rfl) ?_
    refine ro rfl rfl (st_mv rfl) ?_
    refine ro rfl rfl (st_lenD rfl un22) ?_
    refine ro rfl rfl (st_bin (v := dB (decide (((j104 : Nat) : Int) < ((a0.length : Nat) : Int)))) rfl rfl rfl) ?_
    refine rw_nilk ?_
    refine awp_ifT rfl (dlt hj104) ?_
    refine awp_skip ?_
    refine nx_then ?_
    refine awp_seq ?_
    refine awp_block ?_
    refine awp_rw ?_
    refine ro rfl rfl (st_mv rfl) ?_
    refine ro rfl rfl (st_mv rfl) ?_
    refine ro rfl rfl (st_mv rfl) ?_
    refine ro rfl rfl (st_ixDn sl22 rfl rfl hx104) ?_
    refine ro rfl rfl (st_ldD (v := dL 1 (eI .i64) x105) ta28 rfl rfl) ?_
    refine ro rfl rfl (st_lenD rfl un28) ?_
    refine ro rfl rfl (st_bin (v := dI .i64 (IntKind.wrap .i64 (s101 + ((x105.length : Nat) : Int)))) rfl rfl rfl) ?_
    refine ro rfl rfl (st_as rfl) ?_
    refine rw_nil ?_
    refine nx_block ?_
    refine nx_then ?_
    refine awp_rw ?_
    refine ro rfl rfl (st_mv rfl) ?_
    refine ro rfl rfl (st_inc rfl rfl hj104 hl104) ?_
    refine ro rfl rfl (st_as rfl) ?_
    refine rw_nil ?_
    refine nx_then ?_
    refine awp_gh ?_ (ih103 (IntKind.wrap .i64 (s101 + ((x105.length : Nat) : Int))) () h)
    exact (gh_frz rfl rfl ⟨⟨_, rfl, .keep rfl⟩, ⟨_, rfl, .keep rfl⟩, ⟨_, rfl, .keep rfl⟩, ⟨_, rfl, .keep rfl⟩, ⟨_, rfl, .keep rfl⟩, trivial⟩ ⟨⟨_, rfl, objOne ⟨⟨rfl, .keep rfl⟩, ⟨rfl, .keep rfl⟩, trivial⟩⟩, trivial⟩)
  · clear h
    intro s101 g102 h
    refine awp_seq ?_
    refine awp_rs ?_
    refine ro rfl rfl (st_mv rfl) ?_
    refine ro rfl rfl (st_mv rfl) ?_
    refine ro rfl rfl (st_lenD rfl un22) ?_
    refine ro rfl rfl (st_bin (v := dB (decide (((a0.length : Nat) : Int) < ((a0.length : Nat) : Int)))) rfl rfl rfl) ?_
    refine rw_nilk ?_
    refine awp_ifF rfl dge ?_
    refine awp_exit ?_
    refine ex_out ?_
    refine ex_out ?_
    refine ex_in ?_
    refine nx_then ?_
    refine awp_seq ?_
    refine awp_rs ?_
    refine ro rfl rfl (st_as rfl) ?_
    refine rw_nilk ?_
    refine awp_block ?_
    refine awp_lenC (r := 1001) (i := 1) rfl rfl (fun hl109 => ?_)
    rw [List.length_map] at hl109
    refine awp_range (fun (j109 : Nat) (s106 : Int) (g107 : Unit) => [(0, dL 1 (eL 1 (eI .i64)) a0), (3, .ptr 1001 0 0 0), (5, dI .i64 s101), (6, dI .i64 s106), (8, dI .i64 ((j109 : Nat) : Int))]) (fun (s106 : Int) (g107 : Unit) => [(1001, .row 0 25 [[dB a1.Cubes, dL 5 e_S_api_Line a1.Lines]])]) () (fun _ _ _ h => h) h (gh_frz rfl rfl ⟨⟨_, rfl, .keep rfl⟩, ⟨_, rfl, .keep rfl⟩, ⟨_, rfl, .keep rfl⟩, ⟨_, rfl, .keep rfl⟩, ⟨_, rfl, .keep rfl⟩, trivial⟩ ⟨⟨_, rfl, objOne ⟨⟨rfl, .keep rfl⟩, ⟨rfl, .keep rfl⟩, trivial⟩⟩, trivial⟩) ?_ ?_
    · clear h
      intro j109 x110 s106 g107 k108 hj109 hx109 h ih108
      refine awp_seq ?_
      refine awp_rs ?_
      refine ro rfl rfl (st_mv rfl) ?_
      refine ro rfl rfl (st_faP fo25_1 rfl) ?_
      refine ro rfl rfl (st_ldP (v := dL 5 e_S_api_Line a1.Lines) ta23 rfl rfl rfl rfl) ?_
      refine ro rfl rfl (st_lenD rfl un23) ?_
      refine ro rfl rfl (st_bin (v := dB (decide (((j109 : Nat) : Int) < ((a1.Lines.length : Nat) : Int)))) rfl rfl rfl) ?_
      refine rw_nilk ?_
      refine awp_ifT rfl (dlt hj109) ?_
      refine awp_skip ?_
      refine nx_then ?_
      refine awp_seq ?_
      refine awp_block ?_
      refine awp_rw ?_
      refine ro rfl rfl (st_mv rfl) ?_
      refine ro rfl rfl (st_faP fo25_1 rfl) ?_
      refine ro rfl rfl (st_ldP (v := dL 5 e_S_api_Line a1.Lines) ta23 rfl rfl rfl rfl) ?_
      refine ro rfl rfl (st_mv rfl) ?_
      refine ro rfl rfl (st_ixDn sl23 rfl rfl hx109) ?_
      refine ro rfl rfl (st_faD fo58_4 rfl) ?_
      refine ro rfl rfl (st_ldD (v := dL 1 (eI .i64) x110.Lits) ta28 rfl rfl) ?_
      refine ro rfl rfl (st_lenD rfl un28) ?_
      refine ro rfl rfl (st_bin (v := dI .i64 (IntKind.wrap .i64 (s106 + ((x110.Lits.length : Nat) : Int)))) rfl rfl rfl) ?_
      refine ro rfl rfl (st_as rfl) ?_
      refine rw_nil ?_
      refine nx_block ?_
      refine nx_then ?_
      refine awp_rw ?_
      refine ro rfl rfl (st_mv rfl) ?_
      refine ro rfl rfl (st_inc rfl rfl hj109 hl109) ?_
      refine ro rfl rfl (st_as rfl) ?_
      refine rw_nil ?_
      refine nx_then ?_
      refine awp_gh ?_ (ih108 (IntKind.wrap .i64 (s106 + ((x110.Lits.length : Nat) : Int))) () h)
      exact (gh_frz rfl rfl ⟨⟨_, rfl, .keep rfl⟩, ⟨_, rfl, .keep rfl⟩, ⟨_, rfl, .keep rfl⟩, ⟨_, rfl, .keep rfl⟩, ⟨_, rfl, .keep rfl⟩, trivial⟩ ⟨⟨_, rfl, objOne ⟨⟨rfl, .keep rfl⟩, ⟨rfl, .keep rfl⟩, trivial⟩⟩, trivial⟩)
    · clear h
      intro s106 g107 h
      refine awp_seq ?_
      refine awp_rs ?_
      refine ro rfl rfl (st_mv rfl) ?_
      refine ro rfl rfl (st_faP fo25_1 rfl) ?_
      refine ro rfl rfl (st_ldP (v := dL 5 e_S_api_Line a1.Lines) ta23 rfl rfl rfl rfl) ?_
      refine ro rfl rfl (st_lenD rfl un23) ?_
      refine ro rfl rfl (st_bin (v := dB (decide (((a1.Lines.length : Nat) : Int) < ((a1.Lines.length : Nat) : Int)))) rfl rfl rfl) ?_
      refine rw_nilk ?_
      refine awp_ifF rfl dge ?_
      refine awp_exit ?_
      refine ex_out ?_
      refine ex_out ?_
      refine ex_in ?_
      refine nx_then ?_
      refine awp_rs ?_
      refine ro rfl rfl (st_mv rfl) ?_
      refine ro rfl rfl (st_lenD rfl un22) ?_
      refine ro rfl rfl (st_bin (v := dB (decide (((a0.length : Nat) : Int) > (200 : Int)))) rfl rfl rfl) ?_
      refine ro rfl rfl (st_mv rfl) ?_
      refine bool_split (decide (((a0.length : Nat) : Int) > (200 : Int))) (fun p114 => ?_) (fun p114 => ?_)
      · replace h := ite_T p114 h
        rw [p114]
        refine rz rfl rfl ?_
        refine rz rfl rfl ?_
        refine ro rfl rfl (st_pickT rfl rfl) ?_
        refine ro rfl rfl (st_mv rfl) ?_
        refine rz rfl rfl ?_
        refine rz rfl rfl ?_
        refine rz rfl rfl ?_
        refine rz rfl rfl ?_
        refine ro rfl rfl (st_pickT rfl rfl) ?_
        refine ro rfl rfl (st_mv rfl) ?_
        refine rz rfl rfl ?_
        refine rz rfl rfl ?_
        refine ro rfl rfl (st_pickT rfl rfl) ?_
        refine ro rfl rfl (st_as rfl) ?_
        refine rw_nilk ?_
        refine awp_ret ?_
        injection h with h
        subst h
        exact ret_out (v := dB true) (resV_one (resVs_tmp rfl resVs_nil)) (.keep rfl)
      · replace h := ite_F p114 h
        rw [p114]
        refine ro rfl rfl (st_mv rfl) ?_
        refine ro rfl rfl (st_bin (v := dB (decide (s101 > (1000 : Int)))) rfl rfl rfl) ?_
        refine ro rfl rfl (st_pickF rfl rfl) ?_
        refine ro rfl rfl (st_mv rfl) ?_
        refine bool_split (decide (s101 > (1000 : Int))) (fun p115 => ?_) (fun p115 => ?_)
        · replace h := ite_T p115 h
          rw [p115]
          refine rz rfl rfl ?_
          refine rz rfl rfl ?_
          refine rz rfl rfl ?_
          refine rz rfl rfl ?_
          refine ro rfl rfl (st_pickT rfl rfl) ?_
          refine ro rfl rfl (st_mv rfl) ?_
          refine rz rfl rfl ?_
          refine rz rfl rfl ?_
          refine ro rfl rfl (st_pickT rfl rfl) ?_
          refine ro rfl rfl (st_as rfl) ?_
          refine rw_nilk ?_
          refine awp_ret ?_
          injection h with h
          subst h
          exact ret_out (v := dB true) (resV_one (resVs_tmp rfl resVs_nil)) (.keep rfl)
        · replace h := ite_F p115 h
          rw [p115]
          refine ro rfl rfl (st_faP fo25_1 rfl) ?_
          refine ro rfl rfl (st_ldP (v := dL 5 e_S_api_Line a1.Lines) ta23 rfl rfl rfl rfl) ?_
          refine ro rfl rfl (st_lenD rfl un23) ?_
          refine ro rfl rfl (st_bin (v := dB (decide (((a1.Lines.length : Nat) : Int) > (300 : Int)))) rfl rfl rfl) ?_
          refine ro rfl rfl (st_pickF rfl rfl) ?_
          refine ro rfl rfl (st_mv rfl) ?_
          refine bool_split (decide (((a1.Lines.length : Nat) : Int) > (300 : Int))) (fun p116 => ?_) (fun p116 => ?_)
          · replace h := ite_T p116 h
            rw [p116]
            refine rz rfl rfl ?_
            refine rz rfl rfl ?_
            refine ro rfl rfl (st_pickT rfl rfl) ?_
            refine ro rfl rfl (st_as rfl) ?_
            refine rw_nilk ?_
            refine awp_ret ?_
            injection h with h
            subst h
            exact ret_out (v := dB true) (resV_one (resVs_tmp rfl resVs_nil)) (.keep rfl)
          · replace h := ite_F p116 h
            rw [p116]
            refine ro rfl rfl (st_mv rfl) ?_
            refine ro rfl rfl (st_bin (v := dB (decide (s106 > (2000 : Int)))) rfl rfl rfl) ?_
            refine ro rfl rfl (st_pickF rfl rfl) ?_
            refine ro rfl rfl (st_as rfl) ?_
            refine rw_nilk ?_
            refine awp_ret ?_
            injection h with h
            subst h
            exact ret_out (v := dB (decide (s106 > (2000 : Int)))) (resV_one (resVs_tmp rfl resVs_nil)) (.keep rfl)

theorem ok_skolemlaw10_head {r : Bool} (h : F_skolemlaw10_head = some r) : Fn Try.prog 13 [] (dB r) := by
  unfold F_skolemlaw10_head at h
  injection h with h
  subst h
  exact fn_eval (n := 5000) (by kernel_rfl) (by kernel_rfl)

theorem ok_proof_abs {a0 : Int} {r : Int} (h : F_proof_abs a0 = some r) : Fn Try.prog 79 [dI .i64 a0] (dI .i64 r) := by
  unfold F_proof_abs at h
  refine Fn.of_body (N := 7) (rs := [.tmp 2]) Try.func79 (c := _) rfl rfl rfl (by kernel_rfl) (Nat.le_of_ble_eq_true rfl) (fun _B => ?_)
  refine awp_rs ?_
  refine ro rfl rfl (st_as rfl) ?_
  refine rw_nilk ?_
  refine awp_rs ?_
  refine ro rfl rfl (st_mv rfl) ?_
  refine ro rfl rfl (st_mv rfl) ?_
  refine ro rfl rfl (st_un (v := dI .i64 (IntKind.wrap .i64 (0 - a0))) rfl rfl) ?_
  refine ro rfl rfl (st_max rfl rfl) ?_
  refine ro rfl rfl (st_as rfl) ?_
  refine rw_nilk ?_
  refine awp_ret ?_
  injection h with h
  subst h
  exact ret_out (v := dI .i64 (imx a0 (IntKind.wrap .i64 (0 - a0)))) (resV_one (resVs_tmp rfl resVs_nil)) (.keep rfl)

theorem ok_proof_normal {a0 : (List Int)} {r : Bool} (h : F_proof_normal a0 = some r) : Fn Try.prog 51 [dL 1 (eI .i64) a0] (dB r) := by
  unfold F_proof_normal at h
  refine Fn.of_body (N := 27) (rs := [.tmp 2]) Try.func51 (c := _) rfl rfl rfl (by kernel_rfl) (Nat.le_of_ble_eq_true rfl) (fun _B => ?_)
  refine awp_rs ?_
  refine ro rfl rfl (st_as rfl) ?_
  refine rw_nilk ?_
  refine awp_rs ?_
  refine ro rfl rfl (st_as rfl) ?_
  refine rw_nilk ?_
  refine awp_seq ?_
  refine awp_rs ?_
  refine ro rfl rfl (st_mv rfl) ?_
  refine ro rfl rfl (st_lenD rfl un28) ?_
  refine ro rfl rfl (st_mv rfl) ?_
  refine rw_nilk ?_
  refine awp_block ?_
  refine awp_len (t := 0) rfl (fun hl104 => ?_)
  rw [List.length_map] at hl104
  refine awp_range (fun (j104 : Nat) (s101 : Int) (g102 : Unit) => [(3, dI .i64 s101), (6, dL 1 (eI .i64) a0), (7, dI .i64 ((a0.length : Nat) : Int)), (8, dI .i64 ((j104 : Nat) : Int))]) (fun (s101 : Int) (g102 : Unit) => []) () (fun _ _ _ h => h) h (gh_frz rfl rfl ⟨⟨_, rfl, .keep rfl⟩, ⟨_, rfl, .keep rfl⟩, ⟨_, rfl, .keep rfl⟩, ⟨_, rfl, .keep rfl⟩, trivial⟩ trivial) ?_ ?_
  · clear h
    intro j104 x105 s101 g102 k103 hj104 hx104 h ih103
    refine awp_rs ?_
    refine ro rfl rfl (st_bin (v := dB (decide (((j104 : Nat) : Int) < ((a0.length : Nat) : Int)))) rfl rfl rfl) ?_
    refine rw_nilk ?_
    refine awp_seq ?_
    refine awp_ifT rfl (dlt hj104) ?_
    refine awp_skip ?_
    refine nx_then ?_
    refine awp_seq ?_
    refine awp_block ?_
    refine awp_rs ?_
    refine ro rfl rfl (st_ixDn sl28 rfl rfl hx104) ?_
    refine ro rfl rfl (st_ldD (v := dI .i64 x105) ta3 rfl rfl) ?_
    refine ro rfl rfl (st_as rfl) ?_
    refine rw_nilk ?_
    refine awp_seq ?_
    refine awp_jn (fun (s224 : Bool) (g225 : Unit) => [(5, dI .i64 x105), (6, dL 1 (eI .i64) a0), (7, dI .i64 ((a0.length : Nat) : Int)), (8, dI .i64 ((j104 : Nat) : Int)), (23, dB s224)]) (fun (s224 : Bool) (g225 : Unit) => []) h ?_ ?_
    · clear h
      intro s224 g225 h
      refine awp_ite (b := s224) rfl (fun p227 => ?_) (fun p227 => ?_)
      · replace h := ite_T p227 h
        refine awp_rs ?_
        refine ro rfl rfl (st_as rfl) ?_
        refine rw_nilk ?_
        refine awp_ret ?_
        refine rt_then ?_
        refine rt_block ?_
        refine rt_then ?_
        refine rt_then ?_
        refine rt_block ?_
        refine rt_then ?_
        injection h with h
        subst h
        exact ret_out (v := dB false) (resV_one (resVs_tmp rfl resVs_nil)) (.keep rfl)
      · replace h := ite_F p227 h
        refine awp_skip ?_
        refine nx_then ?_
        refine awp_rw ?_
        refine ro rfl rfl (st_mv rfl) ?_
        obtain ⟨y228, hy228, h⟩ := bind_some_elim h
        refine rf rfl rfl (ok_proof_abs hy228) rfl rfl ?_
        refine ro rfl rfl (st_as rfl) ?_
        refine rw_nil ?_
        refine nx_block ?_
        refine nx_then ?_
        refine awp_rw ?_
        refine ro rfl rfl (st_inc rfl rfl hj104 hl104) ?_
        refine ro rfl rfl (st_mv rfl) ?_
        refine rw_nil ?_
        refine nx_then ?_
        refine awp_gh ?_ (ih103 y228 () h)
        exact (gh_frz rfl rfl ⟨⟨_, rfl, .keep rfl⟩, ⟨_, rfl, .keep rfl⟩, ⟨_, rfl, .keep rfl⟩, ⟨_, rfl, .keep rfl⟩, trivial⟩ trivial)
    · clear h
      intro k226 h J226
      refine awp_rw ?_
      refine ro rfl rfl (st_mv rfl) ?_
      refine ro rfl rfl (st_bin (v := dB (decide (x105 < (-65536 : Int)))) rfl rfl rfl) ?_
      refine ro rfl rfl (st_mv rfl) ?_
      refine bool_split (decide (x105 < (-65536 : Int))) (fun p229 => ?_) (fun p229 => ?_)
      · replace h := ite_T p229 h
        rw [p229]
        refine rz rfl rfl ?_
        refine rz rfl rfl ?_
        refine ro rfl rfl (st_pickT rfl rfl) ?_
        refine ro rfl rfl (st_mv rfl) ?_
        refine rz rfl rfl ?_
        refine rz rfl rfl ?_
        refine rz rfl rfl ?_
        refine rz rfl rfl ?_
        refine ro rfl rfl (st_pickT rfl rfl) ?_
        refine rw_nil ?_
        refine nx_then ?_
        exact J226 true () _ _ h (gh_frz rfl rfl ⟨⟨_, rfl, .keep rfl⟩, ⟨_, rfl, .keep rfl⟩, ⟨_, rfl, .keep rfl⟩, ⟨_, rfl, .keep rfl⟩, ⟨_, rfl, .keep rfl⟩, trivial⟩ trivial)
      · replace h := ite_F p229 h
        rw [p229]
        refine ro rfl rfl (st_mv rfl) ?_
        refine ro rfl rfl (st_bin (v := dB (decide (x105 > (65536 : Int)))) rfl rfl rfl) ?_
        refine ro rfl rfl (st_pickF rfl rfl) ?_
        refine ro rfl rfl (st_mv rfl) ?_
        refine bool_split (decide (x105 > (65536 : Int))) (fun p230 => ?_) (fun p230 => ?_)
        · replace h := ite_T p230 h
          rw [p230]
          refine rz rfl rfl ?_
          refine rz rfl rfl ?_
          refine rz rfl rfl ?_
          refine rz rfl rfl ?_
          refine ro rfl rfl (st_pickT rfl rfl) ?_
          refine rw_nil ?_
          refine nx_then ?_
          exact J226 true () _ _ h (gh_frz rfl rfl ⟨⟨_, rfl, .keep rfl⟩, ⟨_, rfl, .keep rfl⟩, ⟨_, rfl, .keep rfl⟩, ⟨_, rfl, .keep rfl⟩, ⟨_, rfl, .keep rfl⟩, trivial⟩ trivial)
        · replace h := ite_F p230 h
          rw [p230]
          refine ro rfl rfl (st_mv rfl) ?_
          obtain ⟨y231, hy231, h⟩ := bind_some_elim h
          refine rf rfl rfl (ok_proof_abs hy231) rfl rfl ?_
          refine ro rfl rfl (st_mv rfl) ?_
          refine ro rfl rfl (st_bin (v := dB (decide (y231 ≤ s101))) rfl rfl rfl) ?_
          refine ro rfl rfl (st_pickF rfl rfl) ?_
          refine rw_nil ?_
          refine nx_then ?_
          exact J226 (decide (y231 ≤ s101)) () _ _ h (gh_frz rfl rfl ⟨⟨_, rfl, .keep rfl⟩, ⟨_, rfl, .keep rfl⟩, ⟨_, rfl, .keep rfl⟩, ⟨_, rfl, .keep rfl⟩, ⟨_, rfl, .keep rfl⟩, trivial⟩ trivial)
  · clear h
    intro s101 g102 h
    refine awp_rs ?_
    refine ro rfl rfl (st_bin (v := dB (decide (((a0.length : Nat) : Int) < ((a0.length : Nat) : Int)))) rfl rfl rfl) ?_
    refine rw_nilk ?_
    refine awp_seq ?_
    refine awp_ifF rfl dge ?_
    refine awp_exit ?_
    refine ex_out ?_
    refine ex_out ?_
    refine ex_in ?_
    refine nx_then ?_
    refine awp_rs ?_
    refine ro rfl rfl (st_as rfl) ?_
    refine rw_nilk ?_
    refine awp_ret ?_
    injection h with h
    subst h
    exact ret_out (v := dB true) (resV_one (resVs_tmp rfl resVs_nil)) (.keep rfl)

theorem ok_proof_cnf {a0 : (List (List Int))} {r : Bool} (h : F_proof_cnf a0 = some r) : Fn Try.prog 45 [dL 1 (eL 1 (eI .i64)) a0] (dB r) := by
  unfold F_proof_cnf at h
  refine Fn.of_body (N := 27) (rs := [.tmp 2]) Try.func45 (c := _) rfl rfl rfl (by kernel_rfl) (Nat.le_of_ble_eq_true rfl) (fun _B => ?_)
  refine awp_rs ?_
  refine ro rfl rfl (st_as rfl) ?_
  refine rw_nilk ?_
  refine awp_seq ?_
  refine awp_rs ?_
  refine ro rfl rfl (st_mv rfl) ?_
  refine ro rfl rfl (st_lenD rfl un22) ?_
  refine ro rfl rfl (st_bin (v := dB (decide (((a0.length : Nat) : Int) > (20000 : Int)))) rfl rfl rfl) ?_
  refine rw_nilk ?_
  refine awp_ite (b := (decide (((a0.length : Nat) : Int) > (20000 : Int)))) rfl (fun p101 => ?_) (fun p101 => ?_)
  · replace h := ite_T p101 h
    refine awp_rs ?_
    refine ro rfl rfl (st_as rfl) ?_
    refine rw_nilk ?_
    refine awp_ret ?_
    refine rt_then ?_
    injection h with h
    subst h
    exact ret_out (v := dB false) (resV_one (resVs_tmp rfl resVs_nil)) (.keep rfl)
  · replace h := ite_F p101 h
    refine awp_skip ?_
    refine nx_then ?_
    refine awp_rs ?_
    refine ro rfl rfl (st_as rfl) ?_
    refine rw_nilk ?_
    refine awp_seq ?_
    refine awp_rs ?_
    refine ro rfl rfl (st_mv rfl) ?_
    refine ro rfl rfl (st_lenD rfl un22) ?_
    refine ro rfl rfl (st_mv rfl) ?_
    refine rw_nilk ?_
    refine awp_block ?_
    refine awp_len (t := 0) rfl (fun hl105 => ?_)
    rw [List.length_map] at hl105
    refine awp_range (fun (j105 : Nat) (s102 : Int) (g103 : Unit) => [(3, dI .i64 s102), (9, dL 1 (eL 1 (eI .i64)) a0), (10, dI .i64 ((a0.length : Nat) : Int)), (11, dI .i64 ((j105 : Nat) : Int))]) (fun (s102 : Int) (g103 : Unit) => []) () (fun _ _ _ h => h) h (gh_frz rfl rfl ⟨⟨_, rfl, .keep rfl⟩, ⟨_, rfl, .keep rfl⟩, ⟨_, rfl, .keep rfl⟩, ⟨_, rfl, .keep rfl⟩, trivial⟩ trivial) ?_ ?_
    · clear h
      intro j105 x106 s102 g103 k104 hj105 hx105 h ih104
      refine awp_rs ?_
      refine ro rfl rfl (st_bin (v := dB (decide (((j105 : Nat) : Int) < ((a0.length : Nat) : Int)))) rfl rfl rfl) ?_
      refine rw_nilk ?_
      refine awp_seq ?_
      refine awp_ifT rfl (dlt hj105) ?_
      refine awp_skip ?_
      refine nx_then ?_
      refine awp_seq ?_
      refine awp_block ?_
      refine awp_rs ?_
      refine ro rfl rfl (st_ixDn sl22 rfl rfl hx105) ?_
      refine ro rfl rfl (st_ldD (v := dL 1 (eI .i64) x106) ta28 rfl rfl) ?_
      refine ro rfl rfl (st_as rfl) ?_
      refine rw_nilk ?_
      refine awp_rs ?_
      refine ro rfl rfl (st_mv rfl) ?_
      refine ro rfl rfl (st_mv rfl) ?_
      refine ro rfl rfl (st_lenD rfl un28) ?_
      refine ro rfl rfl (st_bin (v := dI .i64 (IntKind.wrap .i64 (s102 + ((x106.length : Nat) : Int)))) rfl rfl rfl) ?_
      refine ro rfl rfl (st_as rfl) ?_
      refine rw_nilk ?_
      refine awp_jn (fun (s149 : Bool) (g150 : Unit) => [(3, dI .i64 (IntKind.wrap .i64 (s102 + ((x106.length : Nat) : Int)))), (9, dL 1 (eL 1 (eI .i64)) a0), (10, dI .i64 ((a0.length : Nat) : Int)), (11, dI .i64 ((j105 : Nat) : Int)), (25, dB s149)]) (fun (s149 : Bool) (g150 : Unit) => []) h ?_ ?_
      · clear h
        intro s149 g150 h
        refine awp_ite (b := s149) rfl (fun p152 => ?_) (fun p152 => ?_)
        · replace h := ite_T p152 h
          refine awp_rs ?_
          refine ro rfl rfl (st_as rfl) ?_
          refine rw_nilk ?_
          refine awp_ret ?_
          refine rt_block ?_
          refine rt_then ?_
          refine rt_then ?_
          refine rt_block ?_
          refine rt_then ?_
          injection h with h
          subst h
          exact ret_out (v := dB false) (resV_one (resVs_tmp rfl resVs_nil)) (.keep rfl)
        · replace h := ite_F p152 h
          refine awp_skip ?_
          refine nx_block ?_
          refine nx_then ?_
          refine awp_rw ?_
          refine ro rfl rfl (st_inc rfl rfl hj105 hl105) ?_
          refine ro rfl rfl (st_mv rfl) ?_
          refine rw_nil ?_
          refine nx_then ?_
          refine awp_gh ?_ (ih104 (IntKind.wrap .i64 (s102 + ((x106.length : Nat) : Int))) () h)
          exact (gh_frz rfl rfl ⟨⟨_, rfl, .keep rfl⟩, ⟨_, rfl, .keep rfl⟩, ⟨_, rfl, .keep rfl⟩, ⟨_, rfl, .keep rfl⟩, trivial⟩ trivial)
      · clear h
        intro k151 h J151
        refine awp_rw ?_
        refine ro rfl rfl (st_mv rfl) ?_
        refine ro rfl rfl (st_bin (v := dB (decide ((IntKind.wrap .i64 (s102 + ((x106.length : Nat) : Int))) > (200000 : Int)))) rfl rfl rfl) ?_
        refine ro rfl rfl (st_mv rfl) ?_
        refine bool_split (decide ((IntKind.wrap .i64 (s102 + ((x106.length : Nat) : Int))) > (200000 : Int))) (fun p153 => ?_) (fun p153 => ?_)
        · replace h := ite_T p153 h
          rw [p153]
          refine rz rfl rfl ?_
          refine rz rfl rfl ?_
          refine rz rfl rfl ?_
          refine ro rfl rfl (st_pickT rfl rfl) ?_
          refine rw_nil ?_
          refine nx_then ?_
          exact J151 true () _ _ h (gh_frz rfl rfl ⟨⟨_, rfl, .keep rfl⟩, ⟨_, rfl, .keep rfl⟩, ⟨_, rfl, .keep rfl⟩, ⟨_, rfl, .keep rfl⟩, ⟨_, rfl, .keep rfl⟩, trivial⟩ trivial)
        · replace h := ite_F p153 h
          rw [p153]
          refine ro rfl rfl (st_mv rfl) ?_
          obtain ⟨y154, hy154, h⟩ := bind_some_elim h
          refine rf rfl rfl (ok_proof_normal hy154) rfl rfl ?_
          refine ro rfl rfl (st_un (v := dB (!y154)) rfl rfl) ?_
          refine ro rfl rfl (st_pickF rfl rfl) ?_
          refine rw_nil ?_
          refine nx_then ?_
          exact J151 (!y154) () _ _ h (gh_frz rfl rfl ⟨⟨_, rfl, .keep rfl⟩, ⟨_, rfl, .keep rfl⟩, ⟨_, rfl, .keep rfl⟩, ⟨_, rfl, .keep rfl⟩, ⟨_, rfl, .keep rfl⟩, trivial⟩ trivial)
    · clear h
      intro s102 g103 h
      refine awp_rs ?_
      refine ro rfl rfl (st_bin (v := dB (decide (((a0.length : Nat) : Int) < ((a0.length : Nat) : Int)))) rfl rfl rfl) ?_
      refine rw_nilk ?_
      refine awp_seq ?_
      refine awp_ifF rfl dge ?_
      refine awp_exit ?_
      refine ex_out ?_
      refine ex_out ?_
      refine ex_in ?_
      refine nx_then ?_
      refine awp_rs ?_
      refine ro rfl rfl (st_as rfl) ?_
      refine rw_nilk ?_
      refine awp_ret ?_
      injection h with h
      subst h
      exact ret_out (v := dB true) (resV_one (resVs_tmp rfl resVs_nil)) (.keep rfl)

theorem ok_proof_fits {a0 : S_api_Proof} {r : Bool} (h : F_proof_fits a0 = some r) : Fn Try.prog 46 [.agg [dB a0.Cubes, dL 5 e_S_api_Line a0.Lines]] (dB r) := by
  unfold F_proof_fits at h
  refine Fn.of_body (N := 18) (rs := [.tmp 2]) Try.func46 (c := _) rfl rfl rfl (by kernel_rfl) (Nat.le_of_ble_eq_true rfl) (fun _B => ?_)
  refine awp_rs ?_
  refine rn (r := 1001) rfl rfl (st_box rfl rfl rfl co25 rfl rfl) rfl ?_
  refine ro rfl rfl (st_as rfl) ?_
  refine rw_nilk ?_
  refine awp_rs ?_
  refine ro rfl rfl (st_faP fo25_0 rfl) ?_
  refine ro rfl rfl (st_ldP (v := dB a0.Cubes) ta4 rfl rfl rfl rfl) ?_
  refine ro rfl rfl (st_un (v := dB (!a0.Cubes)) rfl rfl) ?_
  refine ro rfl rfl (st_mv rfl) ?_
  refine bool_split (!a0.Cubes) (fun p103 => ?_) (fun p103 => ?_)
  · replace h := ite_T p103 h
    rw [p103]
    refine ro rfl rfl (st_faP fo25_1 rfl) ?_
    refine ro rfl rfl (st_ldP (v := dL 5 e_S_api_Line a0.Lines) ta23 rfl rfl rfl rfl) ?_
    refine ro rfl rfl (st_lenD rfl un23) ?_
    refine ro rfl rfl (st_bin (v := dB (decide (((a0.Lines.length : Nat) : Int) > (0 : Int)))) rfl rfl rfl) ?_
    refine ro rfl rfl (st_pickT rfl rfl) ?_
    refine ro rfl rfl (st_mv rfl) ?_
    refine bool_split (decide (((a0.Lines.length : Nat) : Int) > (0 : Int))) (fun p104 => ?_) (fun p104 => ?_)
    · replace h := ite_T p104 h
      rw [p104]
      refine ro rfl rfl (st_faP fo25_1 rfl) ?_
      refine ro rfl rfl (st_ldP (v := dL 5 e_S_api_Line a0.Lines) ta23 rfl rfl rfl rfl) ?_
      refine ro rfl rfl (st_lenD rfl un23) ?_
      refine ro rfl rfl (st_bin (v := dB (decide (((a0.Lines.length : Nat) : Int) ≤ (1000000 : Int)))) rfl rfl rfl) ?_
      refine ro rfl rfl (st_pickT rfl rfl) ?_
      refine ro rfl rfl (st_as rfl) ?_
      refine rw_nilk ?_
      refine awp_ret ?_
      injection h with h
      subst h
      exact ret_out (v := dB (decide (((a0.Lines.length : Nat) : Int) ≤ (1000000 : Int)))) (resV_one (resVs_tmp rfl resVs_nil)) (.keep rfl)
    · replace h := ite_F p104 h
      rw [p104]
      refine rz rfl rfl ?_
      refine rz rfl rfl ?_
      refine rz rfl rfl ?_
      refine rz rfl rfl ?_
      refine ro rfl rfl (st_pickF rfl rfl) ?_
      refine ro rfl rfl (st_as rfl) ?_
      refine rw_nilk ?_
      refine awp_ret ?_
      injection h with h
      subst h
      exact ret_out (v := dB false) (resV_one (resVs_tmp rfl resVs_nil)) (.keep rfl)
  · replace h := ite_F p103 h
    rw [p103]
    refine rz rfl rfl ?_
    refine rz rfl rfl ?_
    refine rz rfl rfl ?_
    refine rz rfl rfl ?_
    refine ro rfl rfl (st_pickF rfl rfl) ?_
    refine ro rfl rfl (st_mv rfl) ?_
    refine rz rfl rfl ?_
    refine rz rfl rfl ?_
    refine rz rfl rfl ?_
    refine rz rfl rfl ?_
    refine ro rfl rfl (st_pickF rfl rfl) ?_
    refine ro rfl rfl (st_as rfl) ?_
    refine rw_nilk ?_
    refine awp_ret ?_
    injection h with h
    subst h
    exact ret_out (v := dB false) (resV_one (resVs_tmp rfl resVs_nil)) (.keep rfl)

theorem ok_slices_Index_int_int {a0 : (List Int)} {a1 : Int} {r : Int} (h : F_slices_Index_int_int a0 a1 = some r) : Fn Try.prog 83 [dL 1 (eI .i64) a0, dI .i64 a1] (dI .i64 r) := by
  unfold F_slices_Index_int_int at h
  refine Fn.of_body (N := 19) (rs := [.tmp 4]) Try.func83 (c := _) rfl rfl rfl (by kernel_rfl) (Nat.le_of_ble_eq_true rfl) (fun _B => ?_)
  refine awp_rs ?_
  refine ro rfl rfl (st_as rfl) ?_
  refine rw_nilk ?_
  refine awp_seq ?_
  refine awp_rs ?_
  refine ro rfl rfl (st_mv rfl) ?_
  refine ro rfl rfl (st_lenD rfl un28) ?_
  refine ro rfl rfl (st_mv rfl) ?_
  refine rw_nilk ?_
  refine awp_block ?_
  refine awp_len (t := 0) rfl (fun hl104 => ?_)
  rw [List.length_map] at hl104
  refine awp_range (fun (j104 : Nat) (s101 : Unit) (g102 : Unit) => [(0, dL 1 (eI .i64) a0), (1, dI .i64 a1), (7, dI .i64 ((a0.length : Nat) : Int)), (8, dI .i64 ((j104 : Nat) : Int))]) (fun (s101 : Unit) (g102 : Unit) => []) () (fun _ _ _ h => h) h (gh_frz rfl rfl ⟨⟨_, rfl, .keep rfl⟩, ⟨_, rfl, .keep rfl⟩, ⟨_, rfl, .keep rfl⟩, ⟨_, rfl, .keep rfl⟩, trivial⟩ trivial) ?_ ?_
  · clear h
    intro j104 x105 s101 g102 k103 hj104 hx104 h ih103
    refine awp_rs ?_
    refine ro rfl rfl (st_bin (v := dB (decide (((j104 : Nat) : Int) < ((a0.length : Nat) : Int)))) rfl rfl rfl) ?_
    refine rw_nilk ?_
    refine awp_seq ?_
    refine awp_ifT rfl (dlt hj104) ?_
    refine awp_skip ?_
    refine nx_then ?_
    refine awp_seq ?_
    refine awp_block ?_
    refine awp_rs ?_
    refine ro rfl rfl (st_mv rfl) ?_
    refine ro rfl rfl (st_as rfl) ?_
    refine rw_nilk ?_
    refine awp_rs ?_
    refine ro rfl rfl (st_mv rfl) ?_
    refine ro rfl rfl (st_mv rfl) ?_
    refine ro rfl rfl (st_mv rfl) ?_
    refine ro rfl rfl (st_ixDn sl28 rfl rfl hx104) ?_
    refine ro rfl rfl (st_ldD (v := dI .i64 x105) ta3 rfl rfl) ?_
    refine ro rfl rfl (st_bin (v := dB (a1 == x105)) rfl rfl rfl) ?_
    refine rw_nilk ?_
    refine awp_ite (b := (a1 == x105)) rfl (fun p107 => ?_) (fun p107 => ?_)
    · replace h := ite_T p107 h
      refine awp_rs ?_
      refine ro rfl rfl (st_mv rfl) ?_
      refine ro rfl rfl (st_as rfl) ?_
      refine rw_nilk ?_
      refine awp_ret ?_
      refine rt_block ?_
      refine rt_then ?_
      refine rt_then ?_
      refine rt_block ?_
      refine rt_then ?_
      injection h with h
      subst h
      exact ret_out (v := dI .i64 ((j104 : Nat) : Int)) (resV_one (resVs_tmp rfl resVs_nil)) (.keep rfl)
    · replace h := ite_F p107 h
      refine awp_skip ?_
      refine nx_block ?_
      refine nx_then ?_
      refine awp_rw ?_
      refine ro rfl rfl (st_inc rfl rfl hj104 hl104) ?_
      refine ro rfl rfl (st_mv rfl) ?_
      refine rw_nil ?_
      refine nx_then ?_
      refine awp_gh ?_ (ih103 () () h)
      exact (gh_frz rfl rfl ⟨⟨_, rfl, .keep rfl⟩, ⟨_, rfl, .keep rfl⟩, ⟨_, rfl, .keep rfl⟩, ⟨_, rfl, .keep rfl⟩, trivial⟩ trivial)
  · clear h
    intro s101 g102 h
    refine awp_rs ?_
    refine ro rfl rfl (st_bin (v := dB (decide (((a0.length : Nat) : Int) < ((a0.length : Nat) : Int)))) rfl rfl rfl) ?_
    refine rw_nilk ?_
    refine awp_seq ?_
    refine awp_ifF rfl dge ?_
    refine awp_exit ?_
    refine ex_out ?_
    refine ex_out ?_
    refine ex_in ?_
    refine nx_then ?_
    refine awp_rs ?_
    refine ro rfl rfl (st_as rfl) ?_
    refine rw_nilk ?_
    refine awp_ret ?_
    injection h with h
    subst h
    exact ret_out (v := dI .i64 (-1 : Int)) (resV_one (resVs_tmp rfl resVs_nil)) (.keep rfl)

theorem ok_slices_Contains_int_int {a0 : (List Int)} {a1 : Int} {r : Bool} (h : F_slices_Contains_int_int a0 a1 = some r) : Fn Try.prog 55 [dL 1 (eI .i64) a0, dI .i64 a1] (dB r) := by
  unfold F_slices_Contains_int_int at h
  refine Fn.of_body (N := 9) (rs := [.tmp 4]) Try.func55 (c := _) rfl rfl rfl (by kernel_rfl) (Nat.le_of_ble_eq_true rfl) (fun _B => ?_)
  refine awp_rs ?_
  refine ro rfl rfl (st_as rfl) ?_
  refine rw_nilk ?_
  refine awp_rs ?_
  refine ro rfl rfl (st_mv rfl) ?_
  refine ro rfl rfl (st_mv rfl) ?_
  obtain ⟨y101, hy101, h⟩ := bind_some_elim h
  refine rf rfl rfl (ok_slices_Index_int_int hy101) rfl rfl ?_
  refine ro rfl rfl (st_bin (v := dB (decide (y101 ≥ (0 : Int)))) rfl rfl rfl) ?_
  refine ro rfl rfl (st_as rfl) ?_
  refine rw_nilk ?_
  refine awp_ret ?_
  injection h with h
  subst h
  exact ret_out (v := dB (decide (y101 ≥ (0 : Int)))) (resV_one (resVs_tmp rfl resVs_nil)) (.keep rfl)

theorem ok_proof_resolvent {a0 : (List Int)} {a1 : (List Int)} {a2 : Int} {r : ((List Int) × Bool)} (h : F_proof_resolvent a0 a1 a2 = some r) : Fn Try.prog 60 [dL 1 (eI .i64) a0, dL 1 (eI .i64) a1, dI .i64 a2] (.tup [dL 1 (eI .i64) r.1, dB r.2]) := by
  unfold F_proof_resolvent at h
  refine Fn.of_body (N := 117) (rs := [.tmp 6, .tmp 7]) Try.func60 (c := _) rfl rfl rfl (by kernel_rfl) (Nat.le_of_ble_eq_true rfl) (fun _B => ?_)
  refine awp_rs ?_
  refine ro rfl rfl (st_as rfl) ?_
  refine ro rfl rfl (st_as rfl) ?_
  refine rw_nilk ?_
  refine awp_seq ?_
  refine awp_jn (fun (s117 : Bool) (g118 : Unit) => [(0, dL 1 (eI .i64) a0), (1, dL 1 (eI .i64) a1), (2, dI .i64 a2), (23, dB s117)]) (fun (s117 : Bool) (g118 : Unit) => []) h ?_ ?_
  · clear h
    intro s117 g118 h
    refine awp_ite (b := s117) rfl (fun p120 => ?_) (fun p120 => ?_)
    · replace h := ite_T p120 h
      refine awp_rs ?_
      refine ro rfl rfl (st_as rfl) ?_
      refine ro rfl rfl (st_as rfl) ?_
      refine rw_nilk ?_
      refine awp_ret ?_
      refine rt_then ?_
      injection h with h
      subst h
      exact ret_out (v := .tup [.nilS, dB false]) (resV_many (resVs_tmp rfl (resVs_tmp rfl resVs_nil))) (frz_tup ⟨(.nilS _), (.keep rfl), trivial⟩)
    · replace h := ite_F p120 h
      refine awp_skip ?_
      refine nx_then ?_
      refine awp_rs ?_
      refine ro rfl rfl (st_mv rfl) ?_
      refine ro rfl rfl (st_lenD rfl un28) ?_
      refine ro rfl rfl (st_mv rfl) ?_
      refine ro rfl rfl (st_lenD rfl un28) ?_
      refine ro rfl rfl (st_bin (v := dI .i64 (IntKind.wrap .i64 (((a0.length : Nat) : Int) + ((a1.length : Nat) : Int)))) rfl rfl rfl) ?_
      refine ro rfl rfl (st_bin (v := dI .i64 (IntKind.wrap .i64 ((IntKind.wrap .i64 (((a0.length : Nat) : Int) + ((a1.length : Nat) : Int))) - (2 : Int)))) rfl rfl rfl) ?_
      obtain ⟨c121, h⟩ := okI_some h
      refine rn (r := 1001) rfl rfl (st_mk0I (f := (eI .i64)) sl28 zc3 rfl rfl rfl rfl rfl c121) rfl ?_
      refine ro rfl rfl (st_as rfl) ?_
      refine rw_nilk ?_
      refine awp_seq ?_
      refine awp_block ?_
      refine awp_while (fun (s122 : ((List Int) × (List Int) × (List Int))) (g123 : Nat) => [(0, dL 1 (eI .i64) s122.1), (1, dL 1 (eI .i64) s122.2.1), (2, dI .i64 a2), (8, .slice 1001 g123 0 s122.2.2.length)]) (fun (s122 : ((List Int) × (List Int) × (List Int))) (g123 : Nat) => [(1001, rw' g123 3 (eI .i64) s122.2.2)]) 1 (fun _ _ _ h => h) h (gh_frz rfl rfl ⟨⟨_, rfl, .keep rfl⟩, ⟨_, rfl, .keep rfl⟩, ⟨_, rfl, .keep rfl⟩, ⟨_, rfl, .keep rfl⟩, trivial⟩ ⟨⟨_, rfl, objRow (List.map (eI .i64) ([] : List Int))⟩, trivial⟩) ?_
      clear h
      intro s122 g123 k124 h ih124
      refine awp_seq ?_
      refine awp_rs ?_
      refine ro rfl rfl (st_mv rfl) ?_
      refine ro rfl rfl (st_lenD rfl un28) ?_
      refine ro rfl rfl (st_mv rfl) ?_
      refine ro rfl rfl (st_lenD rfl un28) ?_
      refine ro rfl rfl (st_bin (v := dI .i64 (IntKind.wrap .i64 (((s122.1.length : Nat) : Int) + ((s122.2.1.length : Nat) : Int)))) rfl rfl rfl) ?_
      refine ro rfl rfl (st_bin (v := dB (decide ((IntKind.wrap .i64 (((s122.1.length : Nat) : Int) + ((s122.2.1.length : Nat) : Int))) > (0 : Int)))) rfl rfl rfl) ?_
      refine rw_nilk ?_
      refine awp_ite (b := (decide ((IntKind.wrap .i64 (((s122.1.length : Nat) : Int) + ((s122.2.1.length : Nat) : Int))) > (0 : Int)))) rfl (fun p219 => ?_) (fun p219 => ?_)
      · replace h := ite_T p219 h
        refine awp_skip ?_
        refine nx_then ?_
        refine awp_block ?_
        refine awp_block ?_
        refine awp_jn (fun (s226 : Bool) (g227 : Unit) => [(0, dL 1 (eI .i64) s122.1), (1, dL 1 (eI .i64) s122.2.1), (2, dI .i64 a2), (8, .slice 1001 g123 0 s122.2.2.length), (37, dB s226)]) (fun (s226 : Bool) (g227 : Unit) => [(1001, rw' g123 3 (eI .i64) s122.2.2)]) h ?_ ?_
        · clear h
          intro s226 g227 h
          refine awp_ite (b := s226) rfl (fun p229 => ?_) (fun p229 => ?_)
          · replace h := ite_T p229 h
            refine awp_rd hmix ?_
            refine do_ rfl rfl (st_mv rfl) rfl rfl rfl ?_
            refine do_ rfl rfl (st_mv rfl) rfl rfl rfl ?_
            obtain ⟨x230, h0230, hx230, h⟩ := getI_some h
            refine do_ rfl rfl (st_ixD sl28 rfl rfl h0230 hx230) rfl rfl rfl ?_
            refine do_ rfl rfl (st_ldD (v := dI .i64 x230) ta3 rfl rfl) rfl rfl rfl ?_
            refine dn (r := 1002) rfl rfl (st_bsl (els := [[dI .i64 x230]]) sl28 zc3 rfl rfl rfl rfl rfl) rfl rfl rfl rfl ?_
            obtain ⟨c231, h⟩ := capN_some h
            refine dn (r := 0) (L' := [(1001, rw' (g123 + 2) 3 (eI .i64) (s122.2.2 ++ [x230])), (1002, .row 1 3 [[dI .i64 x230]])]) rfl rfl (st_appR (f := (eI .i64)) (xs := s122.2.2) (ys := [x230]) sl28 zc3 rfl rfl rfl rfl rfl (news_one (a := x230) rfl rfl) c231) rfl rfl rfl rfl ?_
            refine do_ rfl rfl (st_mv rfl) rfl rfl rfl ?_
            obtain ⟨c232, h⟩ := okI_some h
            refine do_ rfl rfl (st_slLo sl28 rfl rfl c232.1 c232.2) rfl rfl rfl ?_
            refine do_ rfl rfl (st_as rfl) rfl rfl rfl ?_
            refine do_ rfl rfl (st_as rfl) rfl rfl rfl ?_
            refine rd_nil (by kernel_rfl) ?_
            refine nx_block ?_
            refine nx_block ?_
            refine nx_then ?_
            refine awp_gh ?_ (ih124 ((s122.1.drop (1 : Int).toNat), s122.2.1, (s122.2.2 ++ [x230])) (g123 + 2) h)
            exact (gh_frz rfl rfl ⟨⟨_, rfl, .keep rfl⟩, ⟨_, rfl, .keep rfl⟩, ⟨_, rfl, .keep rfl⟩, ⟨_, rfl, .keep rfl⟩, trivial⟩ ⟨⟨_, rfl, objRow _⟩, trivial⟩)
          · replace h := ite_F p229 h
            refine awp_jn (fun (s238 : Bool) (g239 : Unit) => [(0, dL 1 (eI .i64) s122.1), (1, dL 1 (eI .i64) s122.2.1), (2, dI .i64 a2), (8, .slice 1001 g123 0 s122.2.2.length), (65, dB s238)]) (fun (s238 : Bool) (g239 : Unit) => [(1001, rw' g123 3 (eI .i64) s122.2.2)]) h ?_ ?_
            · clear h
              intro s238 g239 h
              refine awp_ite (b := s238) rfl (fun p241 => ?_) (fun p241 => ?_)
              · replace h := ite_T p241 h
                refine awp_rd hmix ?_
                refine do_ rfl rfl (st_mv rfl) rfl rfl rfl ?_
                refine do_ rfl rfl (st_mv rfl) rfl rfl rfl ?_
                obtain ⟨x242, h0242, hx242, h⟩ := getI_some h
                refine do_ rfl rfl (st_ixD sl28 rfl rfl h0242 hx242) rfl rfl rfl ?_
                refine do_ rfl rfl (st_ldD (v := dI .i64 x242) ta3 rfl rfl) rfl rfl rfl ?_
                refine dn (r := 1002) rfl rfl (st_bsl (els := [[dI .i64 x242]]) sl28 zc3 rfl rfl rfl rfl rfl) rfl rfl rfl rfl ?_
                obtain ⟨c243, h⟩ := capN_some h
                refine dn (r := 0) (L' := [(1001, rw' (g123 + 2) 3 (eI .i64) (s122.2.2 ++ [x242])), (1002, .row 1 3 [[dI .i64 x242]])]) rfl rfl (st_appR (f := (eI .i64)) (xs := s122.2.2) (ys := [x242]) sl28 zc3 rfl rfl rfl rfl rfl (news_one (a := x242) rfl rfl) c243) rfl rfl rfl rfl ?_
                refine do_ rfl rfl (st_mv rfl) rfl rfl rfl ?_
                obtain ⟨c244, h⟩ := okI_some h
                refine do_ rfl rfl (st_slLo sl28 rfl rfl c244.1 c244.2) rfl rfl rfl ?_
                refine do_ rfl rfl (st_as rfl) rfl rfl rfl ?_
                refine do_ rfl rfl (st_as rfl) rfl rfl rfl ?_
                refine rd_nil (by kernel_rfl) ?_
                refine nx_block ?_
                refine nx_block ?_
                refine nx_then ?_
                refine awp_gh ?_ (ih124 (s122.1, (s122.2.1.drop (1 : Int).toNat), (s122.2.2 ++ [x242])) (g123 + 2) h)
                exact (gh_frz rfl rfl ⟨⟨_, rfl, .keep rfl⟩, ⟨_, rfl, .keep rfl⟩, ⟨_, rfl, .keep rfl⟩, ⟨_, rfl, .keep rfl⟩, trivial⟩ ⟨⟨_, rfl, objRow _⟩, trivial⟩)
              · replace h := ite_F p241 h
                refine awp_rds hmix ?_
                refine do_ rfl rfl (st_mv rfl) rfl rfl rfl ?_
                obtain ⟨x245, h0245, hx245, h⟩ := getI_some h
                refine do_ rfl rfl (st_ixD sl28 rfl rfl h0245 hx245) rfl rfl rfl ?_
                refine do_ rfl rfl (st_ldD (v := dI .i64 x245) ta3 rfl rfl) rfl rfl rfl ?_
                refine do_ rfl rfl (st_mv rfl) rfl rfl rfl ?_
                obtain ⟨x246, h0246, hx246, h⟩ := getI_some h
                refine do_ rfl rfl (st_ixD sl28 rfl rfl h0246 hx246) rfl rfl rfl ?_
                refine do_ rfl rfl (st_ldD (v := dI .i64 x246) ta3 rfl rfl) rfl rfl rfl ?_
                refine do_ rfl rfl (st_bin (v := dB (x245 == x246)) rfl rfl rfl) rfl rfl rfl ?_
                refine do_ rfl rfl (st_as rfl) rfl rfl rfl ?_
                refine rd_nil (by kernel_rfl) ?_
                refine awp_ite (b := (x245 == x246)) rfl (fun p247 => ?_) (fun p247 => ?_)
                · replace h := ite_T p247 h
                  refine awp_rd hmix ?_
                  refine do_ rfl rfl (st_mv rfl) rfl rfl rfl ?_
                  refine do_ rfl rfl (st_mv rfl) rfl rfl rfl ?_
                  refine do_ rfl rfl (st_ixD sl28 rfl rfl h0245 hx245) rfl rfl rfl ?_
                  refine do_ rfl rfl (st_ldD (v := dI .i64 x245) ta3 rfl rfl) rfl rfl rfl ?_
                  refine dn (r := 1002) rfl rfl (st_bsl (els := [[dI .i64 x245]]) sl28 zc3 rfl rfl rfl rfl rfl) rfl rfl rfl rfl ?_
                  obtain ⟨c248, h⟩ := capN_some h
                  refine dn (r := 0) (L' := [(1001, rw' (g123 + 2) 3 (eI .i64) (s122.2.2 ++ [x245])), (1002, .row 1 3 [[dI .i64 x245]])]) rfl rfl (st_appR (f := (eI .i64)) (xs := s122.2.2) (ys := [x245]) sl28 zc3 rfl rfl rfl rfl rfl (news_one (a := x245) rfl rfl) c248) rfl rfl rfl rfl ?_
                  refine do_ rfl rfl (st_mv rfl) rfl rfl rfl ?_
                  obtain ⟨c249, h⟩ := okI_some h
                  refine do_ rfl rfl (st_slLo sl28 rfl rfl c249.1 c249.2) rfl rfl rfl ?_
                  refine do_ rfl rfl (st_mv rfl) rfl rfl rfl ?_
                  obtain ⟨c250, h⟩ := okI_some h
                  refine do_ rfl rfl (st_slLo sl28 rfl rfl c250.1 c250.2) rfl rfl rfl ?_
                  refine do_ rfl rfl (st_as rfl) rfl rfl rfl ?_
                  refine do_ rfl rfl (st_as rfl) rfl rfl rfl ?_
                  refine do_ rfl rfl (st_as rfl) rfl rfl rfl ?_
                  refine rd_nil (by kernel_rfl) ?_
                  refine nx_block ?_
                  refine nx_block ?_
                  refine nx_then ?_
                  refine awp_gh ?_ (ih124 ((s122.1.drop (1 : Int).toNat), (s122.2.1.drop (1 : Int).toNat), (s122.2.2 ++ [x245])) (g123 + 2) h)
                  exact (gh_frz rfl rfl ⟨⟨_, rfl, .keep rfl⟩, ⟨_, rfl, .keep rfl⟩, ⟨_, rfl, .keep rfl⟩, ⟨_, rfl, .keep rfl⟩, trivial⟩ ⟨⟨_, rfl, objRow _⟩, trivial⟩)
                · replace h := ite_F p247 h
                  refine awp_rs ?_
                  refine ro rfl rfl (st_mv rfl) ?_
                  refine ro rfl rfl (st_ixD sl28 rfl rfl h0245 hx245) ?_
                  refine ro rfl rfl (st_ldD (v := dI .i64 x245) ta3 rfl rfl) ?_
                  refine ro rfl rfl (st_mv rfl) ?_
                  refine ro rfl rfl (st_bin (v := dB (x245 == a2)) rfl rfl rfl) ?_
                  refine ro rfl rfl (st_as rfl) ?_
                  refine rw_nilk ?_
                  refine awp_ite (b := (x245 == a2)) rfl (fun p251 => ?_) (fun p251 => ?_)
                  · replace h := ite_T p251 h
                    refine awp_rd hmix ?_
                    refine do_ rfl rfl (st_mv rfl) rfl rfl rfl ?_
                    obtain ⟨c252, h⟩ := okI_some h
                    refine do_ rfl rfl (st_slLo sl28 rfl rfl c252.1 c252.2) rfl rfl rfl ?_
                    refine do_ rfl rfl (st_mv rfl) rfl rfl rfl ?_
                    obtain ⟨c253, h⟩ := okI_some h
                    refine do_ rfl rfl (st_slLo sl28 rfl rfl c253.1 c253.2) rfl rfl rfl ?_
                    refine do_ rfl rfl (st_as rfl) rfl rfl rfl ?_
                    refine do_ rfl rfl (st_as rfl) rfl rfl rfl ?_
                    refine rd_nil (by kernel_rfl) ?_
                    refine nx_block ?_
                    refine nx_block ?_
                    refine nx_then ?_
                    refine awp_gh ?_ (ih124 ((s122.1.drop (1 : Int).toNat), (s122.2.1.drop (1 : Int).toNat), s122.2.2) g123 h)
                    exact (gh_frz rfl rfl ⟨⟨_, rfl, .keep rfl⟩, ⟨_, rfl, .keep rfl⟩, ⟨_, rfl, .keep rfl⟩, ⟨_, rfl, .keep rfl⟩, trivial⟩ ⟨⟨_, rfl, objRow _⟩, trivial⟩)
                  · replace h := ite_F p251 h
                    refine awp_rs ?_
                    refine ro rfl rfl (st_as rfl) ?_
                    refine ro rfl rfl (st_as rfl) ?_
                    refine rw_nilk ?_
                    refine awp_ret ?_
                    refine rt_block ?_
                    refine rt_block ?_
                    refine rt_then ?_
                    refine rt_block ?_
                    refine rt_then ?_
                    injection h with h
                    subst h
                    exact ret_out (v := .tup [.nilS, dB false]) (resV_many (resVs_tmp rfl (resVs_tmp rfl resVs_nil))) (frz_tup ⟨(.nilS _), (.keep rfl), trivial⟩)
            · clear h
              intro k240 h J240
              refine awp_rd hmix ?_
              refine do_ rfl rfl (st_mv rfl) rfl rfl rfl ?_
              refine do_ rfl rfl (st_lenD rfl un28) rfl rfl rfl ?_
              refine do_ rfl rfl (st_bin (v := dB (((s122.1.length : Nat) : Int) == (0 : Int))) rfl rfl rfl) rfl rfl rfl ?_
              refine do_ rfl rfl (st_mv rfl) rfl rfl rfl ?_
              refine bool_split (((s122.1.length : Nat) : Int) == (0 : Int)) (fun p254 => ?_) (fun p254 => ?_)
              · replace h := ite_T p254 h
                rw [p254]
                refine dz rfl rfl ?_
                refine dz rfl rfl ?_
                refine dz rfl rfl ?_
                refine dz rfl rfl ?_
                refine dz rfl rfl ?_
                refine dz rfl rfl ?_
                refine dz rfl rfl ?_
                refine dz rfl rfl ?_
                refine dz rfl rfl ?_
                refine do_ rfl rfl (st_pickT rfl rfl) rfl rfl rfl ?_
                refine do_ rfl rfl (st_as rfl) rfl rfl rfl ?_
                refine rd_nil (by kernel_rfl) ?_
                refine nx_then ?_
                exact J240 true () _ _ h (gh_frz rfl rfl ⟨⟨_, rfl, .keep rfl⟩, ⟨_, rfl, .keep rfl⟩, ⟨_, rfl, .keep rfl⟩, ⟨_, rfl, .keep rfl⟩, ⟨_, rfl, .keep rfl⟩, trivial⟩ ⟨⟨_, rfl, objRow _⟩, trivial⟩)
              · replace h := ite_F p254 h
                rw [p254]
                refine do_ rfl rfl (st_mv rfl) rfl rfl rfl ?_
                obtain ⟨x255, h0255, hx255, h⟩ := getI_some h
                refine do_ rfl rfl (st_ixD sl28 rfl rfl h0255 hx255) rfl rfl rfl ?_
                refine do_ rfl rfl (st_ldD (v := dI .i64 x255) ta3 rfl rfl) rfl rfl rfl ?_
                obtain ⟨y256, hy256, h⟩ := bind_some_elim h
                refine df rfl rfl (ok_proof_abs hy256) rfl rfl ?_
                refine do_ rfl rfl (st_mv rfl) rfl rfl rfl ?_
                obtain ⟨x257, h0257, hx257, h⟩ := getI_some h
                refine do_ rfl rfl (st_ixD sl28 rfl rfl h0257 hx257) rfl rfl rfl ?_
                refine do_ rfl rfl (st_ldD (v := dI .i64 x257) ta3 rfl rfl) rfl rfl rfl ?_
                obtain ⟨y258, hy258, h⟩ := bind_some_elim h
                refine df rfl rfl (ok_proof_abs hy258) rfl rfl ?_
                refine do_ rfl rfl (st_bin (v := dB (decide (y256 < y258))) rfl rfl rfl) rfl rfl rfl ?_
                refine do_ rfl rfl (st_pickF rfl rfl) rfl rfl rfl ?_
                refine do_ rfl rfl (st_as rfl) rfl rfl rfl ?_
                refine rd_nil (by kernel_rfl) ?_
                refine nx_then ?_
                exact J240 (decide (y256 < y258)) () _ _ h (gh_frz rfl rfl ⟨⟨_, rfl, .keep rfl⟩, ⟨_, rfl, .keep rfl⟩, ⟨_, rfl, .keep rfl⟩, ⟨_, rfl, .keep rfl⟩, ⟨_, rfl, .keep rfl⟩, trivial⟩ ⟨⟨_, rfl, objRow _⟩, trivial⟩)
        · clear h
          intro k228 h J228
          refine awp_rd hmix ?_
          refine do_ rfl rfl (st_mv rfl) rfl rfl rfl ?_
          refine do_ rfl rfl (st_lenD rfl un28) rfl rfl rfl ?_
          refine do_ rfl rfl (st_bin (v := dB (((s122.2.1.length : Nat) : Int) == (0 : Int))) rfl rfl rfl) rfl rfl rfl ?_
          refine do_ rfl rfl (st_mv rfl) rfl rfl rfl ?_
          refine bool_split (((s122.2.1.length : Nat) : Int) == (0 : Int)) (fun p259 => ?_) (fun p259 => ?_)
          · replace h := ite_T p259 h
            rw [p259]
            refine dz rfl rfl ?_
            refine dz rfl rfl ?_
            refine dz rfl rfl ?_
            refine dz rfl rfl ?_
            refine dz rfl rfl ?_
            refine dz rfl rfl ?_
            refine dz rfl rfl ?_
            refine dz rfl rfl ?_
            refine dz rfl rfl ?_
            refine dz rfl rfl ?_
            refine dz rfl rfl ?_
            refine dz rfl rfl ?_
            refine dz rfl rfl ?_
            refine dz rfl rfl ?_
            refine do_ rfl rfl (st_pickT rfl rfl) rfl rfl rfl ?_
            refine do_ rfl rfl (st_as rfl) rfl rfl rfl ?_
            refine rd_nil (by kernel_rfl) ?_
            refine nx_then ?_
            exact J228 true () _ _ h (gh_frz rfl rfl ⟨⟨_, rfl, .keep rfl⟩, ⟨_, rfl, .keep rfl⟩, ⟨_, rfl, .keep rfl⟩, ⟨_, rfl, .keep rfl⟩, ⟨_, rfl, .keep rfl⟩, trivial⟩ ⟨⟨_, rfl, objRow _⟩, trivial⟩)
          · replace h := ite_F p259 h
            rw [p259]
            refine do_ rfl rfl (st_mv rfl) rfl rfl rfl ?_
            refine do_ rfl rfl (st_lenD rfl un28) rfl rfl rfl ?_
            refine do_ rfl rfl (st_bin (v := dB (decide (((s122.1.length : Nat) : Int) > (0 : Int)))) rfl rfl rfl) rfl rfl rfl ?_
            refine do_ rfl rfl (st_mv rfl) rfl rfl rfl ?_
            refine bool_split (decide (((s122.1.length : Nat) : Int) > (0 : Int))) (fun p260 => ?_) (fun p260 => ?_)
            · replace h := ite_T p260 h
              rw [p260]
              refine do_ rfl rfl (st_mv rfl) rfl rfl rfl ?_
              obtain ⟨x261, h0261, hx261, h⟩ := getI_some h
              refine do_ rfl rfl (st_ixD sl28 rfl rfl h0261 hx261) rfl rfl rfl ?_
              refine do_ rfl rfl (st_ldD (v := dI .i64 x261) ta3 rfl rfl) rfl rfl rfl ?_
              obtain ⟨y262, hy262, h⟩ := bind_some_elim h
              refine df rfl rfl (ok_proof_abs hy262) rfl rfl ?_
              refine do_ rfl rfl (st_mv rfl) rfl rfl rfl ?_
              obtain ⟨x263, h0263, hx263, h⟩ := getI_some h
              refine do_ rfl rfl (st_ixD sl28 rfl rfl h0263 hx263) rfl rfl rfl ?_
              refine do_ rfl rfl (st_ldD (v := dI .i64 x263) ta3 rfl rfl) rfl rfl rfl ?_
              obtain ⟨y264, hy264, h⟩ := bind_some_elim h
              refine df rfl rfl (ok_proof_abs hy264) rfl rfl ?_
              refine do_ rfl rfl (st_bin (v := dB (decide (y262 < y264))) rfl rfl rfl) rfl rfl rfl ?_
              refine do_ rfl rfl (st_pickT rfl rfl) rfl rfl rfl ?_
              refine do_ rfl rfl (st_pickF rfl rfl) rfl rfl rfl ?_
              refine do_ rfl rfl (st_as rfl) rfl rfl rfl ?_
              refine rd_nil (by kernel_rfl) ?_
              refine nx_then ?_
              exact J228 (decide (y262 < y264)) () _ _ h (gh_frz rfl rfl ⟨⟨_, rfl, .keep rfl⟩, ⟨_, rfl, .keep rfl⟩, ⟨_, rfl, .keep rfl⟩, ⟨_, rfl, .keep rfl⟩, ⟨_, rfl, .keep rfl⟩, trivial⟩ ⟨⟨_, rfl, objRow _⟩, trivial⟩)
            · replace h := ite_F p260 h
              rw [p260]
              refine dz rfl rfl ?_
              refine dz rfl rfl ?_
              refine dz rfl rfl ?_
              refine dz rfl rfl ?_
              refine dz rfl rfl ?_
              refine dz rfl rfl ?_
              refine dz rfl rfl ?_
              refine dz rfl rfl ?_
              refine dz rfl rfl ?_
              refine do_ rfl rfl (st_pickF rfl rfl) rfl rfl rfl ?_
              refine do_ rfl rfl (st_pickF rfl rfl) rfl rfl rfl ?_
              refine do_ rfl rfl (st_as rfl) rfl rfl rfl ?_
              refine rd_nil (by kernel_rfl) ?_
              refine nx_then ?_
              exact J228 false () _ _ h (gh_frz rfl rfl ⟨⟨_, rfl, .keep rfl⟩, ⟨_, rfl, .keep rfl⟩, ⟨_, rfl, .keep rfl⟩, ⟨_, rfl, .keep rfl⟩, ⟨_, rfl, .keep rfl⟩, trivial⟩ ⟨⟨_, rfl, objRow _⟩, trivial⟩)
      · replace h := ite_F p219 h
        refine awp_exit ?_
        refine ex_out ?_
        refine ex_out ?_
        refine ex_in ?_
        refine nx_then ?_
        refine awp_rs ?_
        refine ro rfl rfl (st_mv rfl) ?_
        refine ro rfl rfl (st_as rfl) ?_
        refine ro rfl rfl (st_as rfl) ?_
        refine rw_nilk ?_
        refine awp_ret ?_
        injection h with h
        subst h
        exact ret_out (v := .tup [.slice 1001 g123 0 s122.2.2.length, dB true]) (resV_many (resVs_tmp rfl (resVs_tmp rfl resVs_nil))) (frz_tup ⟨(frzT rfl rfl co3 rfl), (.keep rfl), trivial⟩)
  · clear h
    intro k119 h J119
    refine awp_rw ?_
    refine ro rfl rfl (st_mv rfl) ?_
    refine ro rfl rfl (st_bin (v := dB (decide (a2 < (1 : Int)))) rfl rfl rfl) ?_
    refine ro rfl rfl (st_mv rfl) ?_
    refine bool_split (decide (a2 < (1 : Int))) (fun p265 => ?_) (fun p265 => ?_)
    · replace h := ite_T p265 h
      rw [p265]
      refine rz rfl rfl ?_
      refine rz rfl rfl ?_
      refine rz rfl rfl ?_
      refine rz rfl rfl ?_
      refine ro rfl rfl (st_pickT rfl rfl) ?_
      refine ro rfl rfl (st_mv rfl) ?_
      refine rz rfl rfl ?_
      refine rz rfl rfl ?_
      refine rz rfl rfl ?_
      refine rz rfl rfl ?_
      refine rz rfl rfl ?_
      refine ro rfl rfl (st_pickT rfl rfl) ?_
      refine rw_nil ?_
      refine nx_then ?_
      exact J119 true () _ _ h (gh_frz rfl rfl ⟨⟨_, rfl, .keep rfl⟩, ⟨_, rfl, .keep rfl⟩, ⟨_, rfl, .keep rfl⟩, ⟨_, rfl, .keep rfl⟩, trivial⟩ trivial)
    · replace h := ite_F p265 h
      rw [p265]
      refine ro rfl rfl (st_mv rfl) ?_
      refine ro rfl rfl (st_mv rfl) ?_
      obtain ⟨y266, hy266, h⟩ := bind_some_elim h
      refine rf rfl rfl (ok_slices_Contains_int_int hy266) rfl rfl ?_
      refine ro rfl rfl (st_un (v := dB (!y266)) rfl rfl) ?_
      refine ro rfl rfl (st_pickF rfl rfl) ?_
      refine ro rfl rfl (st_mv rfl) ?_
      refine bool_split (!y266) (fun p267 => ?_) (fun p267 => ?_)
      · replace h := ite_T p267 h
        rw [p267]
        refine rz rfl rfl ?_
        refine rz rfl rfl ?_
        refine rz rfl rfl ?_
        refine rz rfl rfl ?_
        refine rz rfl rfl ?_
        refine ro rfl rfl (st_pickT rfl rfl) ?_
        refine rw_nil ?_
        refine nx_then ?_
        exact J119 true () _ _ h (gh_frz rfl rfl ⟨⟨_, rfl, .keep rfl⟩, ⟨_, rfl, .keep rfl⟩, ⟨_, rfl, .keep rfl⟩, ⟨_, rfl, .keep rfl⟩, trivial⟩ trivial)
      · replace h := ite_F p267 h
        rw [p267]
        refine ro rfl rfl (st_mv rfl) ?_
        refine ro rfl rfl (st_mv rfl) ?_
        refine ro rfl rfl (st_un (v := dI .i64 (IntKind.wrap .i64 (0 - a2))) rfl rfl) ?_
        obtain ⟨y268, hy268, h⟩ := bind_some_elim h
        refine rf rfl rfl (ok_slices_Contains_int_int hy268) rfl rfl ?_
        refine ro rfl rfl (st_un (v := dB (!y268)) rfl rfl) ?_
        refine ro rfl rfl (st_pickF rfl rfl) ?_
        refine rw_nil ?_
        refine nx_then ?_
        exact J119 (!y268) () _ _ h (gh_frz rfl rfl ⟨⟨_, rfl, .keep rfl⟩, ⟨_, rfl, .keep rfl⟩, ⟨_, rfl, .keep rfl⟩, ⟨_, rfl, .keep rfl⟩, trivial⟩ trivial)

theorem ok_slices_Equal_int_int {a0 : (List Int)} {a1 : (List Int)} {r : Bool} (h : F_slices_Equal_int_int a0 a1 = some r) : Fn Try.prog 78 [dL 1 (eI .i64) a0, dL 1 (eI .i64) a1] (dB r) := by
  unfold F_slices_Equal_int_int at h
  refine Fn.of_body (N := 26) (rs := [.tmp 4]) Try.func78 (c := _) rfl rfl rfl (by kernel_rfl) (Nat.le_of_ble_eq_true rfl) (fun _B => ?_)
  refine awp_rs ?_
  refine ro rfl rfl (st_as rfl) ?_
  refine rw_nilk ?_
  refine awp_seq ?_
  refine awp_rs ?_
  refine ro rfl rfl (st_mv rfl) ?_
  refine ro rfl rfl (st_lenD rfl un28) ?_
  refine ro rfl rfl (st_mv rfl) ?_
  refine ro rfl rfl (st_lenD rfl un28) ?_
  refine ro rfl rfl (st_bin (v := dB (((a0.length : Nat) : Int) != ((a1.length : Nat) : Int))) rfl rfl rfl) ?_
  refine rw_nilk ?_
  refine awp_ite (b := (((a0.length : Nat) : Int) != ((a1.length : Nat) : Int))) rfl (fun p101 => ?_) (fun p101 => ?_)
  · replace h := ite_T p101 h
    refine awp_rs ?_
    refine ro rfl rfl (st_as rfl) ?_
    refine rw_nilk ?_
    refine awp_ret ?_
    refine rt_then ?_
    injection h with h
    subst h
    exact ret_out (v := dB false) (resV_one (resVs_tmp rfl resVs_nil)) (.keep rfl)
  · replace h := ite_F p101 h
    refine awp_skip ?_
    refine nx_then ?_
    refine awp_seq ?_
    refine awp_rs ?_
    refine ro rfl rfl (st_mv rfl) ?_
    refine ro rfl rfl (st_lenD rfl un28) ?_
    refine ro rfl rfl (st_mv rfl) ?_
    refine rw_nilk ?_
    refine awp_block ?_
    refine awp_len (t := 0) rfl (fun hl105 => ?_)
    rw [List.length_map] at hl105
    refine awp_range (fun (j105 : Nat) (s102 : Unit) (g103 : Unit) => [(0, dL 1 (eI .i64) a0), (1, dL 1 (eI .i64) a1), (12, dI .i64 ((a0.length : Nat) : Int)), (13, dI .i64 ((j105 : Nat) : Int))]) (fun (s102 : Unit) (g103 : Unit) => []) () (fun _ _ _ h => h) h (gh_frz rfl rfl ⟨⟨_, rfl, .keep rfl⟩, ⟨_, rfl, .keep rfl⟩, ⟨_, rfl, .keep rfl⟩, ⟨_, rfl, .keep rfl⟩, trivial⟩ trivial) ?_ ?_
    · clear h
      intro j105 x106 s102 g103 k104 hj105 hx105 h ih104
      refine awp_rs ?_
      refine ro rfl rfl (st_bin (v := dB (decide (((j105 : Nat) : Int) < ((a0.length : Nat) : Int)))) rfl rfl rfl) ?_
      refine rw_nilk ?_
      refine awp_seq ?_
      refine awp_ifT rfl (dlt hj105) ?_
      refine awp_skip ?_
      refine nx_then ?_
      refine awp_seq ?_
      refine awp_block ?_
      refine awp_rs ?_
      refine ro rfl rfl (st_mv rfl) ?_
      refine ro rfl rfl (st_as rfl) ?_
      refine rw_nilk ?_
      refine awp_rds hmix ?_
      refine do_ rfl rfl (st_mv rfl) rfl rfl rfl ?_
      refine do_ rfl rfl (st_mv rfl) rfl rfl rfl ?_
      refine do_ rfl rfl (st_ixDn sl28 rfl rfl hx105) rfl rfl rfl ?_
      refine do_ rfl rfl (st_ldD (v := dI .i64 x106) ta3 rfl rfl) rfl rfl rfl ?_
      refine do_ rfl rfl (st_mv rfl) rfl rfl rfl ?_
      refine do_ rfl rfl (st_mv rfl) rfl rfl rfl ?_
      obtain ⟨x109, h0109, hx109, h⟩ := getI_some h
      refine do_ rfl rfl (st_ixD sl28 rfl rfl h0109 hx109) rfl rfl rfl ?_
      refine do_ rfl rfl (st_ldD (v := dI .i64 x109) ta3 rfl rfl) rfl rfl rfl ?_
      refine do_ rfl rfl (st_bin (v := dB (x106 != x109)) rfl rfl rfl) rfl rfl rfl ?_
      refine rd_nil (by kernel_rfl) ?_
      refine awp_ite (b := (x106 != x109)) rfl (fun p110 => ?_) (fun p110 => ?_)
      · replace h := ite_T p110 h
        refine awp_rs ?_
        refine ro rfl rfl (st_as rfl) ?_
        refine rw_nilk ?_
        refine awp_ret ?_
        refine rt_block ?_
        refine rt_then ?_
        refine rt_then ?_
        refine rt_block ?_
        refine rt_then ?_
        injection h with h
        subst h
        exact ret_out (v := dB false) (resV_one (resVs_tmp rfl resVs_nil)) (.keep rfl)
      · replace h := ite_F p110 h
        refine awp_skip ?_
        refine nx_block ?_
        refine nx_then ?_
        refine awp_rw ?_
        refine ro rfl rfl (st_inc rfl rfl hj105 hl105) ?_
        refine ro rfl rfl (st_mv rfl) ?_
        refine rw_nil ?_
        refine nx_then ?_
        refine awp_gh ?_ (ih104 () () h)
        exact (gh_frz rfl rfl ⟨⟨_, rfl, .keep rfl⟩, ⟨_, rfl, .keep rfl⟩, ⟨_, rfl, .keep rfl⟩, ⟨_, rfl, .keep rfl⟩, trivial⟩ trivial)
    · clear h
      intro s102 g103 h
      refine awp_rs ?_
      refine ro rfl rfl (st_bin (v := dB (decide (((a0.length : Nat) : Int) < ((a0.length : Nat) : Int)))) rfl rfl rfl) ?_
      refine rw_nilk ?_
      refine awp_seq ?_
      refine awp_ifF rfl dge ?_
      refine awp_exit ?_
      refine ex_out ?_
      refine ex_out ?_
      refine ex_in ?_
      refine nx_then ?_
      refine awp_rs ?_
      refine ro rfl rfl (st_as rfl) ?_
      refine rw_nilk ?_
      refine awp_ret ?_
      injection h with h
      subst h
      exact ret_out (v := dB true) (resV_one (resVs_tmp rfl resVs_nil)) (.keep rfl)

theorem ok_proof_right {a0 : (List (List Int))} {a1 : (List S_api_Line)} {a2 : S_api_Line} {r : Bool} (h : F_proof_right a0 a1 a2 = some r) : Fn Try.prog 47 [dL 1 (eL 1 (eI .i64)) a0, dL 5 e_S_api_Line a1, .agg [dI .u8 a2.Rule, dI .i64 a2.A, dI .i64 a2.B, dI .i64 a2.Piv, dL 1 (eI .i64) a2.Lits]] (dB r) := by
  unfold F_proof_right at h
  refine Fn.of_body (N := 86) (rs := [.tmp 6]) Try.func47 (c := _) rfl rfl rfl (by kernel_rfl) (Nat.le_of_ble_eq_true rfl) (fun _B => ?_)
  refine awp_rs ?_
  refine rn (r := 1001) rfl rfl (st_box rfl rfl rfl co58 rfl rfl) rfl ?_
  refine ro rfl rfl (st_as rfl) ?_
  refine rw_nilk ?_
  refine awp_seq ?_
  refine awp_rs ?_
  refine ro rfl rfl (st_faP fo58_0 rfl) ?_
  refine ro rfl rfl (st_ldP (v := dI .u8 a2.Rule) ta56 rfl rfl rfl rfl) ?_
  refine rw_nilk ?_
  refine awp_block ?_
  refine awp_rs ?_
  refine ro rfl rfl (st_bin (v := dB (a2.Rule == (1 : Int))) rfl rfl rfl) ?_
  refine ro rfl rfl (st_as rfl) ?_
  refine rw_nilk ?_
  refine awp_ite (b := (a2.Rule == (1 : Int))) rfl (fun p101 => ?_) (fun p101 => ?_)
  · replace h := ite_T p101 h
    refine awp_rds hmix ?_
    refine do_ rfl rfl (st_faP fo58_1 rfl) rfl rfl rfl ?_
    refine do_ rfl rfl (st_ldP (v := dI .i64 a2.A) ta3 rfl rfl rfl rfl) rfl rfl rfl ?_
    refine do_ rfl rfl (st_bin (v := dB (decide (a2.A ≥ (0 : Int)))) rfl rfl rfl) rfl rfl rfl ?_
    refine do_ rfl rfl (st_mv rfl) rfl rfl rfl ?_
    refine bool_split (decide (a2.A ≥ (0 : Int))) (fun p108 => ?_) (fun p108 => ?_)
    · replace h := ite_T p108 h
      rw [p108]
      refine do_ rfl rfl (st_faP fo58_1 rfl) rfl rfl rfl ?_
      refine do_ rfl rfl (st_ldP (v := dI .i64 a2.A) ta3 rfl rfl rfl rfl) rfl rfl rfl ?_
      refine do_ rfl rfl (st_mv rfl) rfl rfl rfl ?_
      refine do_ rfl rfl (st_lenD rfl un22) rfl rfl rfl ?_
      refine do_ rfl rfl (st_bin (v := dB (decide (a2.A < ((a0.length : Nat) : Int)))) rfl rfl rfl) rfl rfl rfl ?_
      refine do_ rfl rfl (st_pickT rfl rfl) rfl rfl rfl ?_
      refine do_ rfl rfl (st_mv rfl) rfl rfl rfl ?_
      refine bool_split (decide (a2.A < ((a0.length : Nat) : Int))) (fun p109 => ?_) (fun p109 => ?_)
      · replace h := ite_T p109 h
        rw [p109]
        refine do_ rfl rfl (st_faP fo58_2 rfl) rfl rfl rfl ?_
        refine do_ rfl rfl (st_ldP (v := dI .i64 a2.B) ta3 rfl rfl rfl rfl) rfl rfl rfl ?_
        refine do_ rfl rfl (st_bin (v := dB (a2.B == (0 : Int))) rfl rfl rfl) rfl rfl rfl ?_
        refine do_ rfl rfl (st_pickT rfl rfl) rfl rfl rfl ?_
        refine do_ rfl rfl (st_mv rfl) rfl rfl rfl ?_
        refine bool_split (a2.B == (0 : Int)) (fun p110 => ?_) (fun p110 => ?_)
        · replace h := ite_T p110 h
          rw [p110]
          refine do_ rfl rfl (st_faP fo58_3 rfl) rfl rfl rfl ?_
          refine do_ rfl rfl (st_ldP (v := dI .i64 a2.Piv) ta3 rfl rfl rfl rfl) rfl rfl rfl ?_
          refine do_ rfl rfl (st_bin (v := dB (a2.Piv == (0 : Int))) rfl rfl rfl) rfl rfl rfl ?_
          refine do_ rfl rfl (st_pickT rfl rfl) rfl rfl rfl ?_
          refine do_ rfl rfl (st_mv rfl) rfl rfl rfl ?_
          refine bool_split (a2.Piv == (0 : Int)) (fun p111 => ?_) (fun p111 => ?_)
          · replace h := ite_T p111 h
            rw [p111]
            refine do_ rfl rfl (st_faP fo58_4 rfl) rfl rfl rfl ?_
            refine do_ rfl rfl (st_ldP (v := dL 1 (eI .i64) a2.Lits) ta28 rfl rfl rfl rfl) rfl rfl rfl ?_
            refine do_ rfl rfl (st_mv rfl) rfl rfl rfl ?_
            refine do_ rfl rfl (st_faP fo58_1 rfl) rfl rfl rfl ?_
            refine do_ rfl rfl (st_ldP (v := dI .i64 a2.A) ta3 rfl rfl rfl rfl) rfl rfl rfl ?_
            obtain ⟨x112, h0112, hx112, h⟩ := getI_some h
            refine do_ rfl rfl (st_ixD sl22 rfl rfl h0112 hx112) rfl rfl rfl ?_
            refine do_ rfl rfl (st_ldD (v := dL 1 (eI .i64) x112) ta28 rfl rfl) rfl rfl rfl ?_
            obtain ⟨y113, hy113, h⟩ := bind_some_elim h
            refine df rfl rfl (ok_slices_Equal_int_int hy113) rfl rfl ?_
            refine do_ rfl rfl (st_pickT rfl rfl) rfl rfl rfl ?_
            refine do_ rfl rfl (st_as rfl) rfl rfl rfl ?_
            refine rd_nil (by kernel_rfl) ?_
            refine awp_ret ?_
            refine rt_block ?_
            refine rt_then ?_
            injection h with h
            subst h
            exact ret_out (v := dB y113) (resV_one (resVs_tmp rfl resVs_nil)) (.keep rfl)
          · replace h := ite_F p111 h
            rw [p111]
            refine dz rfl rfl ?_
            refine dz rfl rfl ?_
            refine dz rfl rfl ?_
            refine dz rfl rfl ?_
            refine dz rfl rfl ?_
            refine dz rfl rfl ?_
            refine dz rfl rfl ?_
            refine dz rfl rfl ?_
            refine do_ rfl rfl (st_pickF rfl rfl) rfl rfl rfl ?_
            refine do_ rfl rfl (st_as rfl) rfl rfl rfl ?_
            refine rd_nil (by kernel_rfl) ?_
            refine awp_ret ?_
            refine rt_block ?_
            refine rt_then ?_
            injection h with h
            subst h
            exact ret_out (v := dB false) (resV_one (resVs_tmp rfl resVs_nil)) (.keep rfl)
        · replace h := ite_F p110 h
          rw [p110]
          refine dz rfl rfl ?_
          refine dz rfl rfl ?_
          refine dz rfl rfl ?_
          refine do_ rfl rfl (st_pickF rfl rfl) rfl rfl rfl ?_
          refine do_ rfl rfl (st_mv rfl) rfl rfl rfl ?_
          refine dz rfl rfl ?_
          refine dz rfl rfl ?_
          refine dz rfl rfl ?_
          refine dz rfl rfl ?_
          refine dz rfl rfl ?_
          refine dz rfl rfl ?_
          refine dz rfl rfl ?_
          refine dz rfl rfl ?_
          refine do_ rfl rfl (st_pickF rfl rfl) rfl rfl rfl ?_
          refine do_ rfl rfl (st_as rfl) rfl rfl rfl ?_
          refine rd_nil (by kernel_rfl) ?_
          refine awp_ret ?_
          refine rt_block ?_
          refine rt_then ?_
          injection h with h
          subst h
          exact ret_out (v := dB false) (resV_one (resVs_tmp rfl resVs_nil)) (.keep rfl)
      · replace h := ite_F p109 h
        rw [p109]
        refine dz rfl rfl ?_
        refine dz rfl rfl ?_
        refine dz rfl rfl ?_
        refine do_ rfl rfl (st_pickF rfl rfl) rfl rfl rfl ?_
        refine do_ rfl rfl (st_mv rfl) rfl rfl rfl ?_
        refine dz rfl rfl ?_
        refine dz rfl rfl ?_
        refine dz rfl rfl ?_
        refine do_ rfl rfl (st_pickF rfl rfl) rfl rfl rfl ?_
        refine do_ rfl rfl (st_mv rfl) rfl rfl rfl ?_
        refine dz rfl rfl ?_
        refine dz rfl rfl ?_
        refine dz rfl rfl ?_
        refine dz rfl rfl ?_
        refine dz rfl rfl ?_
        refine dz rfl rfl ?_
        refine dz rfl rfl ?_
        refine dz rfl rfl ?_
        refine do_ rfl rfl (st_pickF rfl rfl) rfl rfl rfl ?_
        refine do_ rfl rfl (st_as rfl) rfl rfl rfl ?_
        refine rd_nil (by kernel_rfl) ?_
        refine awp_ret ?_
        refine rt_block ?_
        refine rt_then ?_
        injection h with h
        subst h
        exact ret_out (v := dB false) (resV_one (resVs_tmp rfl resVs_nil)) (.keep rfl)
    · replace h := ite_F p108 h
      rw [p108]
      refine dz rfl rfl ?_
      refine dz rfl rfl ?_
      refine dz rfl rfl ?_
      refine dz rfl rfl ?_
      refine dz rfl rfl ?_
      refine do_ rfl rfl (st_pickF rfl rfl) rfl rfl rfl ?_
      refine do_ rfl rfl (st_mv rfl) rfl rfl rfl ?_
      refine dz rfl rfl ?_
      refine dz rfl rfl ?_
      refine dz rfl rfl ?_
      refine do_ rfl rfl (st_pickF rfl rfl) rfl rfl rfl ?_
      refine do_ rfl rfl (st_mv rfl) rfl rfl rfl ?_
      refine dz rfl rfl ?_
      refine dz rfl rfl ?_
      refine dz rfl rfl ?_
      refine do_ rfl rfl (st_pickF rfl rfl) rfl rfl rfl ?_
      refine do_ rfl rfl (st_mv rfl) rfl rfl rfl ?_
      refine dz rfl rfl ?_
      refine dz rfl rfl ?_
      refine dz rfl rfl ?_
      refine dz rfl rfl ?_
      refine dz rfl rfl ?_
      refine dz rfl rfl ?_
      refine dz rfl rfl ?_
      refine dz rfl rfl ?_
      refine do_ rfl rfl (st_pickF rfl rfl) rfl rfl rfl ?_
      refine do_ rfl rfl (st_as rfl) rfl rfl rfl ?_
      refine rd_nil (by kernel_rfl) ?_
      refine awp_ret ?_
      refine rt_block ?_
      refine rt_then ?_
      injection h with h
      subst h
      exact ret_out (v := dB false) (resV_one (resVs_tmp rfl resVs_nil)) (.keep rfl)
  · replace h := ite_F p101 h
    refine awp_rs ?_
    refine ro rfl rfl (st_bin (v := dB (a2.Rule == (2 : Int))) rfl rfl rfl) ?_
    refine ro rfl rfl (st_as rfl) ?_
    refine rw_nilk ?_
    refine awp_ite (b := (a2.Rule == (2 : Int))) rfl (fun p114 => ?_) (fun p114 => ?_)
    · replace h := ite_T p114 h
      refine awp_seq ?_
      refine awp_jn (fun (s122 : Bool) (g123 : Unit) => [(1, dL 5 e_S_api_Line a1), (5, .ptr 1001 0 0 0), (60, dB s122)]) (fun (s122 : Bool) (g123 : Unit) => [(1001, .row 0 58 [[dI .u8 a2.Rule, dI .i64 a2.A, dI .i64 a2.B, dI .i64 a2.Piv, dL 1 (eI .i64) a2.Lits]])]) h ?_ ?_
      · clear h
        intro s122 g123 h
        refine awp_ite (b := s122) rfl (fun p125 => ?_) (fun p125 => ?_)
        · replace h := ite_T p125 h
          refine awp_rs ?_
          refine ro rfl rfl (st_as rfl) ?_
          refine rw_nilk ?_
          refine awp_ret ?_
          refine rt_then ?_
          refine rt_block ?_
          refine rt_then ?_
          injection h with h
          subst h
          exact ret_out (v := dB false) (resV_one (resVs_tmp rfl resVs_nil)) (.keep rfl)
        · replace h := ite_F p125 h
          refine awp_skip ?_
          refine nx_then ?_
          refine awp_rds hmix ?_
          refine do_ rfl rfl (st_mv rfl) rfl rfl rfl ?_
          refine do_ rfl rfl (st_faP fo58_1 rfl) rfl rfl rfl ?_
          refine do_ rfl rfl (st_ldP (v := dI .i64 a2.A) ta3 rfl rfl rfl rfl) rfl rfl rfl ?_
          obtain ⟨x126, h0126, hx126, h⟩ := getI_some h
          refine do_ rfl rfl (st_ixD sl23 rfl rfl h0126 hx126) rfl rfl rfl ?_
          refine do_ rfl rfl (st_faD fo58_4 rfl) rfl rfl rfl ?_
          refine do_ rfl rfl (st_ldD (v := dL 1 (eI .i64) x126.Lits) ta28 rfl rfl) rfl rfl rfl ?_
          refine do_ rfl rfl (st_mv rfl) rfl rfl rfl ?_
          refine do_ rfl rfl (st_faP fo58_2 rfl) rfl rfl rfl ?_
          refine do_ rfl rfl (st_ldP (v := dI .i64 a2.B) ta3 rfl rfl rfl rfl) rfl rfl rfl ?_
          obtain ⟨x127, h0127, hx127, h⟩ := getI_some h
          refine do_ rfl rfl (st_ixD sl23 rfl rfl h0127 hx127) rfl rfl rfl ?_
          refine do_ rfl rfl (st_faD fo58_4 rfl) rfl rfl rfl ?_
          refine do_ rfl rfl (st_ldD (v := dL 1 (eI .i64) x127.Lits) ta28 rfl rfl) rfl rfl rfl ?_
          refine do_ rfl rfl (st_faP fo58_3 rfl) rfl rfl rfl ?_
          refine do_ rfl rfl (st_ldP (v := dI .i64 a2.Piv) ta3 rfl rfl rfl rfl) rfl rfl rfl ?_
          obtain ⟨y128, hy128, h⟩ := bind_some_elim h
          refine df rfl rfl (ok_proof_resolvent hy128) rfl rfl ?_
          refine do_ rfl rfl (st_mv rfl) rfl rfl rfl ?_
          refine do_ rfl rfl (st_ext rfl rfl) rfl rfl rfl ?_
          refine do_ rfl rfl (st_ext rfl rfl) rfl rfl rfl ?_
          refine do_ rfl rfl (st_as rfl) rfl rfl rfl ?_
          refine do_ rfl rfl (st_as rfl) rfl rfl rfl ?_
          refine rd_nil (by kernel_rfl) ?_
          refine awp_rs ?_
          refine ro rfl rfl (st_mv rfl) ?_
          refine ro rfl rfl (st_mv rfl) ?_
          refine bool_split y128.2 (fun p131 => ?_) (fun p131 => ?_)
          · replace h := ite_T p131 h
            rw [p131]
            refine ro rfl rfl (st_mv rfl) ?_
            refine ro rfl rfl (st_faP fo58_4 rfl) ?_
            refine ro rfl rfl (st_ldP (v := dL 1 (eI .i64) a2.Lits) ta28 rfl rfl rfl rfl) ?_
            obtain ⟨y132, hy132, h⟩ := bind_some_elim h
            refine rf rfl rfl (ok_slices_Equal_int_int hy132) rfl rfl ?_
            refine ro rfl rfl (st_pickT rfl rfl) ?_
            refine ro rfl rfl (st_as rfl) ?_
            refine rw_nilk ?_
            refine awp_ret ?_
            refine rt_block ?_
            refine rt_then ?_
            injection h with h
            subst h
            exact ret_out (v := dB y132) (resV_one (resVs_tmp rfl resVs_nil)) (.keep rfl)
          · replace h := ite_F p131 h
            rw [p131]
            refine rz rfl rfl ?_
            refine rz rfl rfl ?_
            refine rz rfl rfl ?_
            refine rz rfl rfl ?_
            refine ro rfl rfl (st_pickF rfl rfl) ?_
            refine ro rfl rfl (st_as rfl) ?_
            refine rw_nilk ?_
            refine awp_ret ?_
            refine rt_block ?_
            refine rt_then ?_
            injection h with h
            subst h
            exact ret_out (v := dB false) (resV_one (resVs_tmp rfl resVs_nil)) (.keep rfl)
      · clear h
        intro k124 h J124
        refine awp_rw ?_
        refine ro rfl rfl (st_faP fo58_1 rfl) ?_
        refine ro rfl rfl (st_ldP (v := dI .i64 a2.A) ta3 rfl rfl rfl rfl) ?_
        refine ro rfl rfl (st_faP fo58_2 rfl) ?_
        refine ro rfl rfl (st_ldP (v := dI .i64 a2.B) ta3 rfl rfl rfl rfl) ?_
        refine ro rfl rfl (st_min rfl rfl) ?_
        refine ro rfl rfl (st_bin (v := dB (decide ((imn a2.A a2.B) < (0 : Int)))) rfl rfl rfl) ?_
        refine ro rfl rfl (st_mv rfl) ?_
        refine bool_split (decide ((imn a2.A a2.B) < (0 : Int))) (fun p133 => ?_) (fun p133 => ?_)
        · replace h := ite_T p133 h
          rw [p133]
          refine rz rfl rfl ?_
          refine rz rfl rfl ?_
          refine rz rfl rfl ?_
          refine rz rfl rfl ?_
          refine rz rfl rfl ?_
          refine rz rfl rfl ?_
          refine rz rfl rfl ?_
          refine rz rfl rfl ?_
          refine ro rfl rfl (st_pickT rfl rfl) ?_
          refine rw_nil ?_
          refine nx_then ?_
          exact J124 true () _ _ h (gh_frz rfl rfl ⟨⟨_, rfl, .keep rfl⟩, ⟨_, rfl, .keep rfl⟩, ⟨_, rfl, .keep rfl⟩, trivial⟩ ⟨⟨_, rfl, objOne ⟨⟨rfl, .keep rfl⟩, ⟨rfl, .keep rfl⟩, ⟨rfl, .keep rfl⟩, ⟨rfl, .keep rfl⟩, ⟨rfl, .keep rfl⟩, trivial⟩⟩, trivial⟩)
        · replace h := ite_F p133 h
          rw [p133]
          refine ro rfl rfl (st_faP fo58_1 rfl) ?_
          refine ro rfl rfl (st_ldP (v := dI .i64 a2.A) ta3 rfl rfl rfl rfl) ?_
          refine ro rfl rfl (st_faP fo58_2 rfl) ?_
          refine ro rfl rfl (st_ldP (v := dI .i64 a2.B) ta3 rfl rfl rfl rfl) ?_
          refine ro rfl rfl (st_max rfl rfl) ?_
          refine ro rfl rfl (st_mv rfl) ?_
          refine ro rfl rfl (st_lenD rfl un23) ?_
          refine ro rfl rfl (st_bin (v := dB (decide ((imx a2.A a2.B) ≥ ((a1.length : Nat) : Int)))) rfl rfl rfl) ?_
          refine ro rfl rfl (st_pickF rfl rfl) ?_
          refine rw_nil ?_
          refine nx_then ?_
          exact J124 (decide ((imx a2.A a2.B) ≥ ((a1.length : Nat) : Int))) () _ _ h (gh_frz rfl rfl ⟨⟨_, rfl, .keep rfl⟩, ⟨_, rfl, .keep rfl⟩, ⟨_, rfl, .keep rfl⟩, trivial⟩ ⟨⟨_, rfl, objOne ⟨⟨rfl, .keep rfl⟩, ⟨rfl, .keep rfl⟩, ⟨rfl, .keep rfl⟩, ⟨rfl, .keep rfl⟩, ⟨rfl, .keep rfl⟩, trivial⟩⟩, trivial⟩)
    · replace h := ite_F p114 h
      refine awp_skip ?_
      refine nx_block ?_
      refine nx_then ?_
      refine awp_rs ?_
      refine ro rfl rfl (st_as rfl) ?_
      refine rw_nilk ?_
      refine awp_ret ?_
      injection h with h
      subst h
      exact ret_out (v := dB false) (resV_one (resVs_tmp rfl resVs_nil)) (.keep rfl)

theorem ok_slices_Clone_int_int {a0 : (List Int)} {r : (List Int)} (h : F_slices_Clone_int_int a0 = some r) : Fn Try.prog 48 [dL 1 (eI .i64) a0] (dL 1 (eI .i64) r) := by
  unfold F_slices_Clone_int_int at h
  refine Fn.of_body (N := 8) (rs := [.tmp 2]) Try.func48 (c := _) rfl rfl rfl (by kernel_rfl) (Nat.le_of_ble_eq_true rfl) (fun _B => ?_)
  refine awp_rs ?_
  refine ro rfl rfl (st_as rfl) ?_
  refine rw_nilk ?_
  refine awp_seq ?_
  refine awp_rs ?_
  refine ro rfl rfl (st_mv rfl) ?_
  refine bool_split a0.isEmpty (fun p101 => ?_) (fun p101 => ?_)
  · replace h := ite_T p101 h
    rw [List.isEmpty_iff.1 p101]
    refine rw_nilcase (t := 3) rfl rfl ?_ (fun wq102 cq103 => ?_)
    · refine ro rfl rfl (st_nne rfl rfl un28) ?_
      refine rw_nilk ?_
      refine awp_condT rfl ?_
      refine awp_rs ?_
      refine ro rfl rfl (st_as rfl) ?_
      refine rw_nilk ?_
      refine awp_ret ?_
      refine rt_then ?_
      injection h with h
      subst h
      exact ret_out (v := .nilS) (resV_one (resVs_tmp rfl resVs_nil)) (.nilS _)
    · refine ro rfl rfl (st_rawe rfl rfl un28) ?_
      refine rw_nilk ?_
      refine awp_condF rfl ?_
      refine awp_skip ?_
      refine nx_then ?_
      refine awp_rs ?_
      refine rn (r := 1001) rfl rfl (st_bsl (els := []) sl28 zc3 rfl rfl rfl rfl rfl) rfl ?_
      refine ro rfl rfl (st_mv rfl) ?_
      refine rn (r := 0) (L' := [(1001, rw' 3 3 (eI .i64) ([] : List Int))]) rfl rfl (st_appR (f := (eI .i64)) (xs := ([] : List Int)) (ys := ([] : List Int)) sl28 zc3 rfl rfl rfl rfl rfl news_dat (by decide)) rfl ?_
      refine ro rfl rfl (st_as rfl) ?_
      refine rw_nilk ?_
      refine awp_ret ?_
      injection h with h
      subst h
      exact ret_out (v := .slice 1001 3 0 (([] : List Int).length)) (resV_one (resVs_tmp rfl resVs_nil)) (frzT rfl rfl co3 rfl)
  · replace h := ite_F p101 h
    refine ro rfl rfl (st_dne rfl rfl p101 un28) ?_
    refine rw_nilk ?_
    refine awp_condF rfl ?_
    refine awp_skip ?_
    refine nx_then ?_
    refine awp_rs ?_
    refine rn (r := 1001) rfl rfl (st_bsl (els := []) sl28 zc3 rfl rfl rfl rfl rfl) rfl ?_
    refine ro rfl rfl (st_mv rfl) ?_
    obtain ⟨c104, h⟩ := capN_some h
    refine rn (r := 0) (L' := [(1001, rw' 3 3 (eI .i64) (([] : List Int) ++ a0))]) rfl rfl (st_appR (f := (eI .i64)) (xs := ([] : List Int)) (ys := a0) sl28 zc3 rfl rfl rfl rfl rfl news_dat c104) rfl ?_
    refine ro rfl rfl (st_as rfl) ?_
    refine rw_nilk ?_
    refine awp_ret ?_
    injection h with h
    subst h
    exact ret_out (v := .slice 1001 3 0 ((([] : List Int) ++ a0).length)) (resV_one (resVs_tmp rfl resVs_nil)) (frzT rfl rfl co3 rfl)

theorem ok_proof_Check {a0 : (List (List Int))} {a1 : S_api_Proof} {r : ((List Int) × Int × Int)} (h : F_proof_Check a0 a1 = some r) : Fn Try.prog 14 [dL 1 (eL 1 (eI .i64)) a0, .agg [dB a1.Cubes, dL 5 e_S_api_Line a1.Lines]] (.tup [dL 1 (eI .i64) r.1, dI .i64 r.2.1, dI .i64 r.2.2]) := by
  unfold F_proof_Check at h
  refine Fn.of_body (N := 45) (rs := [.tmp 4, .tmp 5, .tmp 6]) Try.func14 (c := _) rfl rfl rfl (by kernel_rfl) (Nat.le_of_ble_eq_true rfl) (fun _B => ?_)
  refine awp_rs ?_
  refine rn (r := 1001) rfl rfl (st_box rfl rfl rfl co25 rfl rfl) rfl ?_
  refine ro rfl rfl (st_as rfl) ?_
  refine ro rfl rfl (st_as rfl) ?_
  refine ro rfl rfl (st_as rfl) ?_
  refine rw_nilk ?_
  refine awp_seq ?_
  refine awp_block ?_
  refine awp_rs ?_
  refine ro rfl rfl (st_mv rfl) ?_
  obtain ⟨y101, hy101, h⟩ := bind_some_elim h
  refine rf rfl rfl (ok_proof_cnf hy101) rfl rfl ?_
  refine ro rfl rfl (st_un (v := dB (!y101)) rfl rfl) ?_
  refine ro rfl rfl (st_as rfl) ?_
  refine rw_nilk ?_
  refine awp_ite (b := (!y101)) rfl (fun p102 => ?_) (fun p102 => ?_)
  · replace h := ite_T p102 h
    refine awp_rs ?_
    refine ro rfl rfl (st_as rfl) ?_
    refine ro rfl rfl (st_as rfl) ?_
    refine ro rfl rfl (st_as rfl) ?_
    refine rw_nilk ?_
    refine awp_ret ?_
    refine rt_block ?_
    refine rt_then ?_
    injection h with h
    subst h
    exact ret_out (v := .tup [.nilS, dI .i64 (0 : Int), dI .i64 (2 : Int)]) (resV_many (resVs_tmp rfl (resVs_tmp rfl (resVs_tmp rfl resVs_nil)))) (frz_tup ⟨(.nilS _), (.keep rfl), (.keep rfl), trivial⟩)
  · replace h := ite_F p102 h
    refine awp_rs ?_
    refine ro rfl rfl (st_ldP (v := .agg [dB a1.Cubes, dL 5 e_S_api_Line a1.Lines]) ta25 rfl rfl rfl rfl) ?_
    obtain ⟨y103, hy103, h⟩ := bind_some_elim h
    refine rf rfl rfl (ok_proof_fits hy103) rfl rfl ?_
    refine ro rfl rfl (st_un (v := dB (!y103)) rfl rfl) ?_
    refine ro rfl rfl (st_as rfl) ?_
    refine rw_nilk ?_
    refine awp_ite (b := (!y103)) rfl (fun p104 => ?_) (fun p104 => ?_)
    · replace h := ite_T p104 h
      refine awp_rs ?_
      refine ro rfl rfl (st_as rfl) ?_
      refine ro rfl rfl (st_as rfl) ?_
      refine ro rfl rfl (st_as rfl) ?_
      refine rw_nilk ?_
      refine awp_ret ?_
      refine rt_block ?_
      refine rt_then ?_
      injection h with h
      subst h
      exact ret_out (v := .tup [.nilS, dI .i64 (0 : Int), dI .i64 (100 : Int)]) (resV_many (resVs_tmp rfl (resVs_tmp rfl (resVs_tmp rfl resVs_nil)))) (frz_tup ⟨(.nilS _), (.keep rfl), (.keep rfl), trivial⟩)
    · replace h := ite_F p104 h
      refine awp_skip ?_
      refine nx_block ?_
      refine nx_then ?_
      refine awp_seq ?_
      refine awp_rs ?_
      refine ro rfl rfl (st_faP fo25_1 rfl) ?_
      refine ro rfl rfl (st_ldP (v := dL 5 e_S_api_Line a1.Lines) ta23 rfl rfl rfl rfl) ?_
      refine ro rfl rfl (st_lenD rfl un23) ?_
      refine ro rfl rfl (st_mv rfl) ?_
      refine rw_nilk ?_
      refine awp_block ?_
      refine awp_len (t := 18) rfl (fun hl108 => ?_)
      rw [List.length_map] at hl108
      refine awp_range (fun (j108 : Nat) (s105 : Unit) (g106 : Unit) => [(0, dL 1 (eL 1 (eI .i64)) a0), (3, .ptr 1001 0 0 0), (18, dL 5 e_S_api_Line a1.Lines), (19, dI .i64 ((a1.Lines.length : Nat) : Int)), (20, dI .i64 ((j108 : Nat) : Int))]) (fun (s105 : Unit) (g106 : Unit) => [(1001, .row 0 25 [[dB a1.Cubes, dL 5 e_S_api_Line a1.Lines]])]) () (fun _ _ _ h => h) h (gh_frz rfl rfl ⟨⟨_, rfl, .keep rfl⟩, ⟨_, rfl, .keep rfl⟩, ⟨_, rfl, .keep rfl⟩, ⟨_, rfl, .keep rfl⟩, ⟨_, rfl, .keep rfl⟩, trivial⟩ ⟨⟨_, rfl, objOne ⟨⟨rfl, .keep rfl⟩, ⟨rfl, .keep rfl⟩, trivial⟩⟩, trivial⟩) ?_ ?_
      · clear h
        intro j108 x109 s105 g106 k107 hj108 hx108 h ih107
        refine awp_rs ?_
        refine ro rfl rfl (st_bin (v := dB (decide (((j108 : Nat) : Int) < ((a1.Lines.length : Nat) : Int)))) rfl rfl rfl) ?_
        refine rw_nilk ?_
        refine awp_seq ?_
        refine awp_ifT rfl (dlt hj108) ?_
        refine awp_skip ?_
        refine nx_then ?_
        refine awp_seq ?_
        refine awp_block ?_
        refine awp_rs ?_
        refine ro rfl rfl (st_mv rfl) ?_
        refine ro rfl rfl (st_ixDn sl23 rfl rfl hx108) ?_
        refine ro rfl rfl (st_ldD (v := .agg [dI .u8 x109.Rule, dI .i64 x109.A, dI .i64 x109.B, dI .i64 x109.Piv, dL 1 (eI .i64) x109.Lits]) ta58 rfl rfl) ?_
        refine rn (r := 1002) rfl rfl (st_alloc zc58 rfl rfl) rfl ?_
        refine ro rfl rfl (st_as rfl) ?_
        refine rx (L' := [(1001, .row 0 25 [[dB a1.Cubes, dL 5 e_S_api_Line a1.Lines]]), (1002, .row 0 58 [[dI .u8 x109.Rule, dI .i64 x109.A, dI .i64 x109.B, dI .i64 x109.Piv, dL 1 (eI .i64) x109.Lits]])]) rfl rfl (st_stP ta58 rfl rfl rfl rfl rfl rfl rfl rfl) rfl ?_
        refine rw_nilk ?_
        refine awp_rds hmix ?_
        refine do_ rfl rfl (st_mv rfl) rfl rfl rfl ?_
        refine do_ rfl rfl (st_faP fo25_1 rfl) rfl rfl rfl ?_
        refine do_ rfl rfl (st_ldP (v := dL 5 e_S_api_Line a1.Lines) ta23 rfl rfl rfl rfl) rfl rfl rfl ?_
        refine do_ rfl rfl (st_mv rfl) rfl rfl rfl ?_
        obtain ⟨c113, h⟩ := okI_some h
        refine do_ rfl rfl (st_slHi sl23 rfl rfl c113.1 c113.2) rfl rfl rfl ?_
        refine do_ rfl rfl (st_ldP (v := .agg [dI .u8 x109.Rule, dI .i64 x109.A, dI .i64 x109.B, dI .i64 x109.Piv, dL 1 (eI .i64) x109.Lits]) ta58 rfl rfl rfl rfl) rfl rfl rfl ?_
        obtain ⟨y114, hy114, h⟩ := bind_some_elim h
        refine df rfl rfl (ok_proof_right hy114) rfl rfl ?_
        refine do_ rfl rfl (st_un (v := dB (!y114)) rfl rfl) rfl rfl rfl ?_
        refine rd_nil (by kernel_rfl) ?_
        refine awp_ite (b := (!y114)) rfl (fun p115 => ?_) (fun p115 => ?_)
        · replace h := ite_T p115 h
          refine awp_rs ?_
          refine ro rfl rfl (st_mv rfl) ?_
          refine ro rfl rfl (st_as rfl) ?_
          refine ro rfl rfl (st_as rfl) ?_
          refine ro rfl rfl (st_as rfl) ?_
          refine rw_nilk ?_
          refine awp_ret ?_
          refine rt_block ?_
          refine rt_then ?_
          refine rt_then ?_
          refine rt_block ?_
          refine rt_then ?_
          injection h with h
          subst h
          exact ret_out (v := .tup [.nilS, dI .i64 ((j108 : Nat) : Int), dI .i64 (100 : Int)]) (resV_many (resVs_tmp rfl (resVs_tmp rfl (resVs_tmp rfl resVs_nil)))) (frz_tup ⟨(.nilS _), (.keep rfl), (.keep rfl), trivial⟩)
        · replace h := ite_F p115 h
          refine awp_skip ?_
          refine nx_block ?_
          refine nx_then ?_
          refine awp_rw ?_
          refine ro rfl rfl (st_inc rfl rfl hj108 hl108) ?_
          refine ro rfl rfl (st_mv rfl) ?_
          refine rw_nil ?_
          refine nx_then ?_
          refine awp_gh ?_ (ih107 () () h)
          exact (gh_frz rfl rfl ⟨⟨_, rfl, .keep rfl⟩, ⟨_, rfl, .keep rfl⟩, ⟨_, rfl, .keep rfl⟩, ⟨_, rfl, .keep rfl⟩, ⟨_, rfl, .keep rfl⟩, trivial⟩ ⟨⟨_, rfl, objOne ⟨⟨rfl, .keep rfl⟩, ⟨rfl, .keep rfl⟩, trivial⟩⟩, trivial⟩)
      · clear h
        intro s105 g106 h
        refine awp_rs ?_
        refine ro rfl rfl (st_bin (v := dB (decide (((a1.Lines.length : Nat) : Int) < ((a1.Lines.length : Nat) : Int)))) rfl rfl rfl) ?_
        refine rw_nilk ?_
        refine awp_seq ?_
        refine awp_ifF rfl dge ?_
        refine awp_exit ?_
        refine ex_out ?_
        refine ex_out ?_
        refine ex_in ?_
        refine nx_then ?_
        refine awp_rs ?_
        refine ro rfl rfl (st_faP fo25_1 rfl) ?_
        refine ro rfl rfl (st_ldP (v := dL 5 e_S_api_Line a1.Lines) ta23 rfl rfl rfl rfl) ?_
        refine ro rfl rfl (st_faP fo25_1 rfl) ?_
        refine ro rfl rfl (st_ldP (v := dL 5 e_S_api_Line a1.Lines) ta23 rfl rfl rfl rfl) ?_
        refine ro rfl rfl (st_lenD rfl un23) ?_
        refine ro rfl rfl (st_bin (v := dI .i64 (IntKind.wrap .i64 (((a1.Lines.length : Nat) : Int) - (1 : Int)))) rfl rfl rfl) ?_
        obtain ⟨x116, h0116, hx116, h⟩ := getI_some h
        refine ro rfl rfl (st_ixD sl23 rfl rfl h0116 hx116) ?_
        refine ro rfl rfl (st_faD fo58_4 rfl) ?_
        refine ro rfl rfl (st_ldD (v := dL 1 (eI .i64) x116.Lits) ta28 rfl rfl) ?_
        obtain ⟨y117, hy117, h⟩ := bind_some_elim h
        refine rf rfl rfl (ok_slices_Clone_int_int hy117) rfl rfl ?_
        refine ro rfl rfl (st_as rfl) ?_
        refine ro rfl rfl (st_as rfl) ?_
        refine ro rfl rfl (st_as rfl) ?_
        refine rw_nilk ?_
        refine awp_ret ?_
        injection h with h
        subst h
        exact ret_out (v := .tup [dL 1 (eI .i64) y117, dI .i64 (0 : Int), dI .i64 (0 : Int)]) (resV_many (resVs_tmp rfl (resVs_tmp rfl (resVs_tmp rfl resVs_nil)))) (.keep rfl)

theorem ok_skolemref09_Same {a0 : (List Int)} {a1 : (List Int)} {r : Bool} (h : F_skolemref09_Same a0 a1 = some r) : Fn Try.prog 16 [dL 1 (eI .i64) a0, dL 1 (eI .i64) a1] (dB r) := by
  unfold F_skolemref09_Same at h
  refine Fn.of_body (N := 26) (rs := [.tmp 4]) Try.func16 (c := _) rfl rfl rfl (by kernel_rfl) (Nat.le_of_ble_eq_true rfl) (fun _B => ?_)
  refine awp_rs ?_
  refine ro rfl rfl (st_as rfl) ?_
  refine rw_nilk ?_
  refine awp_seq ?_
  refine awp_rs ?_
  refine ro rfl rfl (st_mv rfl) ?_
  refine ro rfl rfl (st_lenD rfl un28) ?_
  refine ro rfl rfl (st_mv rfl) ?_
  refine ro rfl rfl (st_lenD rfl un28) ?_
  refine ro rfl rfl (st_bin (v := dB (((a0.length : Nat) : Int) != ((a1.length : Nat) : Int))) rfl rfl rfl) ?_
  refine rw_nilk ?_
  refine awp_ite (b := (((a0.length : Nat) : Int) != ((a1.length : Nat) : Int))) rfl (fun p101 => ?_) (fun p101 => ?_)
  · replace h := ite_T p101 h
    refine awp_rs ?_
    refine ro rfl rfl (st_as rfl) ?_
    refine rw_nilk ?_
    refine awp_ret ?_
    refine rt_then ?_
    injection h with h
    subst h
    exact ret_out (v := dB false) (resV_one (resVs_tmp rfl resVs_nil)) (.keep rfl)
  · replace h := ite_F p101 h
    refine awp_skip ?_
    refine nx_then ?_
    refine awp_seq ?_
    refine awp_rs ?_
    refine ro rfl rfl (st_as rfl) ?_
    refine rw_nilk ?_
    refine awp_block ?_
    refine awp_len (t := 0) rfl (fun hl105 => ?_)
    rw [List.length_map] at hl105
    refine awp_range (fun (j105 : Nat) (s102 : Unit) (g103 : Unit) => [(0, dL 1 (eI .i64) a0), (1, dL 1 (eI .i64) a1), (5, dI .i64 ((j105 : Nat) : Int))]) (fun (s102 : Unit) (g103 : Unit) => []) () (fun _ _ _ h => h) h (gh_frz rfl rfl ⟨⟨_, rfl, .keep rfl⟩, ⟨_, rfl, .keep rfl⟩, ⟨_, rfl, .keep rfl⟩, trivial⟩ trivial) ?_ ?_
    · clear h
      intro j105 x106 s102 g103 k104 hj105 hx105 h ih104
      refine awp_seq ?_
      refine awp_rs ?_
      refine ro rfl rfl (st_mv rfl) ?_
      refine ro rfl rfl (st_mv rfl) ?_
      refine ro rfl rfl (st_lenD rfl un28) ?_
      refine ro rfl rfl (st_bin (v := dB (decide (((j105 : Nat) : Int) < ((a0.length : Nat) : Int)))) rfl rfl rfl) ?_
      refine rw_nilk ?_
      refine awp_ifT rfl (dlt hj105) ?_
      refine awp_skip ?_
      refine nx_then ?_
      refine awp_seq ?_
      refine awp_block ?_
      refine awp_rds hmix ?_
      refine do_ rfl rfl (st_mv rfl) rfl rfl rfl ?_
      refine do_ rfl rfl (st_mv rfl) rfl rfl rfl ?_
      refine do_ rfl rfl (st_ixDn sl28 rfl rfl hx105) rfl rfl rfl ?_
      refine do_ rfl rfl (st_ldD (v := dI .i64 x106) ta3 rfl rfl) rfl rfl rfl ?_
      refine do_ rfl rfl (st_mv rfl) rfl rfl rfl ?_
      refine do_ rfl rfl (st_mv rfl) rfl rfl rfl ?_
      obtain ⟨x109, h0109, hx109, h⟩ := getI_some h
      refine do_ rfl rfl (st_ixD sl28 rfl rfl h0109 hx109) rfl rfl rfl ?_
      refine do_ rfl rfl (st_ldD (v := dI .i64 x109) ta3 rfl rfl) rfl rfl rfl ?_
      refine do_ rfl rfl (st_bin (v := dB (x106 != x109)) rfl rfl rfl) rfl rfl rfl ?_
      refine rd_nil (by kernel_rfl) ?_
      refine awp_ite (b := (x106 != x109)) rfl (fun p110 => ?_) (fun p110 => ?_)
      · replace h := ite_T p110 h
        refine awp_rs ?_
        refine ro rfl rfl (st_as rfl) ?_
        refine rw_nilk ?_
        refine awp_ret ?_
        refine rt_block ?_
        refine rt_then ?_
        refine rt_then ?_
        refine rt_block ?_
        refine rt_then ?_
        injection h with h
        subst h
        exact ret_out (v := dB false) (resV_one (resVs_tmp rfl resVs_nil)) (.keep rfl)
      · replace h := ite_F p110 h
        refine awp_skip ?_
        refine nx_block ?_
        refine nx_then ?_
        refine awp_rw ?_
        refine ro rfl rfl (st_mv rfl) ?_
        refine ro rfl rfl (st_inc rfl rfl hj105 hl105) ?_
        refine ro rfl rfl (st_as rfl) ?_
        refine rw_nil ?_
        refine nx_then ?_
        refine awp_gh ?_ (ih104 () () h)
        exact (gh_frz rfl rfl ⟨⟨_, rfl, .keep rfl⟩, ⟨_, rfl, .keep rfl⟩, ⟨_, rfl, .keep rfl⟩, trivial⟩ trivial)
    · clear h
      intro s102 g103 h
      refine awp_seq ?_
      refine awp_rs ?_
      refine ro rfl rfl (st_mv rfl) ?_
      refine ro rfl rfl (st_mv rfl) ?_
      refine ro rfl rfl (st_lenD rfl un28) ?_
      refine ro rfl rfl (st_bin (v := dB (decide (((a0.length : Nat) : Int) < ((a0.length : Nat) : Int)))) rfl rfl rfl) ?_
      refine rw_nilk ?_
      refine awp_ifF rfl dge ?_
      refine awp_exit ?_
      refine ex_out ?_
      refine ex_out ?_
      refine ex_in ?_
      refine nx_then ?_
      refine awp_rs ?_
      refine ro rfl rfl (st_as rfl) ?_
      refine rw_nilk ?_
      refine awp_ret ?_
      injection h with h
      subst h
      exact ret_out (v := dB true) (resV_one (resVs_tmp rfl resVs_nil)) (.keep rfl)

theorem ok_skolemref09_Abs {a0 : Int} {r : Int} (h : F_skolemref09_Abs a0 = some r) : Fn Try.prog 65 [dI .i64 a0] (dI .i64 r) := by
  unfold F_skolemref09_Abs at h
  refine Fn.of_body (N := 8) (rs := [.tmp 2]) Try.func65 (c := _) rfl rfl rfl (by kernel_rfl) (Nat.le_of_ble_eq_true rfl) (fun _B => ?_)
  refine awp_rs ?_
  refine ro rfl rfl (st_as rfl) ?_
  refine rw_nilk ?_
  refine awp_seq ?_
  refine awp_rs ?_
  refine ro rfl rfl (st_mv rfl) ?_
  refine ro rfl rfl (st_bin (v := dB (decide (a0 < (0 : Int)))) rfl rfl rfl) ?_
  refine rw_nilk ?_
  refine awp_ite (b := (decide (a0 < (0 : Int)))) rfl (fun p101 => ?_) (fun p101 => ?_)
  · replace h := ite_T p101 h
    refine awp_rs ?_
    refine ro rfl rfl (st_mv rfl) ?_
    refine ro rfl rfl (st_un (v := dI .i64 (IntKind.wrap .i64 (0 - a0))) rfl rfl) ?_
    refine ro rfl rfl (st_as rfl) ?_
    refine rw_nilk ?_
    refine awp_ret ?_
    refine rt_then ?_
    injection h with h
    subst h
    exact ret_out (v := dI .i64 (IntKind.wrap .i64 (0 - a0))) (resV_one (resVs_tmp rfl resVs_nil)) (.keep rfl)
  · replace h := ite_F p101 h
    refine awp_skip ?_
    refine nx_then ?_
    refine awp_rs ?_
    refine ro rfl rfl (st_mv rfl) ?_
    refine ro rfl rfl (st_as rfl) ?_
    refine rw_nilk ?_
    refine awp_ret ?_
    injection h with h
    subst h
    exact ret_out (v := dI .i64 a0) (resV_one (resVs_tmp rfl resVs_nil)) (.keep rfl)

theorem ok_skolemref09_Normal {a0 : (List Int)} {r : Bool} (h : F_skolemref09_Normal a0 = some r) : Fn Try.prog 33 [dL 1 (eI .i64) a0] (dB r) := by
  unfold F_skolemref09_Normal at h
  refine Fn.of_body (N := 47) (rs := [.tmp 2]) Try.func33 (c := _) rfl rfl rfl (by kernel_rfl) (Nat.le_of_ble_eq_true rfl) (fun _B => ?_)
  refine awp_rs ?_
  refine ro rfl rfl (st_as rfl) ?_
  refine rw_nilk ?_
  refine awp_seq ?_
  refine awp_rs ?_
  refine ro rfl rfl (st_as rfl) ?_
  refine rw_nilk ?_
  refine awp_block ?_
  refine awp_len (t := 0) rfl (fun hl104 => ?_)
  rw [List.length_map] at hl104
  refine awp_range (fun (j104 : Nat) (s101 : Unit) (g102 : Unit) => [(0, dL 1 (eI .i64) a0), (3, dI .i64 ((j104 : Nat) : Int))]) (fun (s101 : Unit) (g102 : Unit) => []) () (fun _ _ _ h => h) h (gh_frz rfl rfl ⟨⟨_, rfl, .keep rfl⟩, ⟨_, rfl, .keep rfl⟩, trivial⟩ trivial) ?_ ?_
  · clear h
    intro j104 x105 s101 g102 k103 hj104 hx104 h ih103
    refine awp_seq ?_
    refine awp_rs ?_
    refine ro rfl rfl (st_mv rfl) ?_
    refine ro rfl rfl (st_mv rfl) ?_
    refine ro rfl rfl (st_lenD rfl un28) ?_
    refine ro rfl rfl (st_bin (v := dB (decide (((j104 : Nat) : Int) < ((a0.length : Nat) : Int)))) rfl rfl rfl) ?_
    refine rw_nilk ?_
    refine awp_ifT rfl (dlt hj104) ?_
    refine awp_skip ?_
    refine nx_then ?_
    refine awp_seq ?_
    refine awp_block ?_
    refine awp_jn (fun (s167 : Bool) (g168 : Unit) => [(0, dL 1 (eI .i64) a0), (3, dI .i64 ((j104 : Nat) : Int)), (46, dB s167)]) (fun (s167 : Bool) (g168 : Unit) => []) h ?_ ?_
    · clear h
      intro s167 g168 h
      refine awp_ite (b := s167) rfl (fun p170 => ?_) (fun p170 => ?_)
      · replace h := ite_T p170 h
        refine awp_rs ?_
        refine ro rfl rfl (st_as rfl) ?_
        refine rw_nilk ?_
        refine awp_ret ?_
        refine rt_block ?_
        refine rt_then ?_
        refine rt_then ?_
        refine rt_block ?_
        refine rt_then ?_
        injection h with h
        subst h
        exact ret_out (v := dB false) (resV_one (resVs_tmp rfl resVs_nil)) (.keep rfl)
      · replace h := ite_F p170 h
        refine awp_skip ?_
        refine nx_block ?_
        refine nx_then ?_
        refine awp_rw ?_
        refine ro rfl rfl (st_mv rfl) ?_
        refine ro rfl rfl (st_inc rfl rfl hj104 hl104) ?_
        refine ro rfl rfl (st_as rfl) ?_
        refine rw_nil ?_
        refine nx_then ?_
        refine awp_gh ?_ (ih103 () () h)
        exact (gh_frz rfl rfl ⟨⟨_, rfl, .keep rfl⟩, ⟨_, rfl, .keep rfl⟩, trivial⟩ trivial)
    · clear h
      intro k169 h J169
      refine awp_rd hmix ?_
      refine do_ rfl rfl (st_mv rfl) rfl rfl rfl ?_
      refine do_ rfl rfl (st_mv rfl) rfl rfl rfl ?_
      refine do_ rfl rfl (st_ixDn sl28 rfl rfl hx104) rfl rfl rfl ?_
      refine do_ rfl rfl (st_ldD (v := dI .i64 x105) ta3 rfl rfl) rfl rfl rfl ?_
      refine do_ rfl rfl (st_bin (v := dB (decide (x105 < (-65536 : Int)))) rfl rfl rfl) rfl rfl rfl ?_
      refine do_ rfl rfl (st_mv rfl) rfl rfl rfl ?_
      refine bool_split (decide (x105 < (-65536 : Int))) (fun p171 => ?_) (fun p171 => ?_)
      · replace h := ite_T p171 h
        rw [p171]
        refine dz rfl rfl ?_
        refine dz rfl rfl ?_
        refine dz rfl rfl ?_
        refine dz rfl rfl ?_
        refine dz rfl rfl ?_
        refine do_ rfl rfl (st_pickT rfl rfl) rfl rfl rfl ?_
        refine do_ rfl rfl (st_mv rfl) rfl rfl rfl ?_
        refine dz rfl rfl ?_
        refine dz rfl rfl ?_
        refine dz rfl rfl ?_
        refine dz rfl rfl ?_
        refine dz rfl rfl ?_
        refine do_ rfl rfl (st_pickT rfl rfl) rfl rfl rfl ?_
        refine do_ rfl rfl (st_mv rfl) rfl rfl rfl ?_
        refine dz rfl rfl ?_
        refine dz rfl rfl ?_
        refine dz rfl rfl ?_
        refine dz rfl rfl ?_
        refine dz rfl rfl ?_
        refine dz rfl rfl ?_
        refine dz rfl rfl ?_
        refine dz rfl rfl ?_
        refine dz rfl rfl ?_
        refine dz rfl rfl ?_
        refine dz rfl rfl ?_
        refine dz rfl rfl ?_
        refine dz rfl rfl ?_
        refine dz rfl rfl ?_
        refine dz rfl rfl ?_
        refine dz rfl rfl ?_
        refine do_ rfl rfl (st_pickT rfl rfl) rfl rfl rfl ?_
        refine rd_nil (by kernel_rfl) ?_
        refine nx_then ?_
        exact J169 true () _ _ h (gh_frz rfl rfl ⟨⟨_, rfl, .keep rfl⟩, ⟨_, rfl, .keep rfl⟩, ⟨_, rfl, .keep rfl⟩, trivial⟩ trivial)
      · replace h := ite_F p171 h
        rw [p171]
        refine do_ rfl rfl (st_mv rfl) rfl rfl rfl ?_
        refine do_ rfl rfl (st_mv rfl) rfl rfl rfl ?_
        refine do_ rfl rfl (st_ixDn sl28 rfl rfl hx104) rfl rfl rfl ?_
        refine do_ rfl rfl (st_ldD (v := dI .i64 x105) ta3 rfl rfl) rfl rfl rfl ?_
        refine do_ rfl rfl (st_bin (v := dB (decide (x105 > (65536 : Int)))) rfl rfl rfl) rfl rfl rfl ?_
        refine do_ rfl rfl (st_pickF rfl rfl) rfl rfl rfl ?_
        refine do_ rfl rfl (st_mv rfl) rfl rfl rfl ?_
        refine bool_split (decide (x105 > (65536 : Int))) (fun p172 => ?_) (fun p172 => ?_)
        · replace h := ite_T p172 h
          rw [p172]
          refine dz rfl rfl ?_
          refine dz rfl rfl ?_
          refine dz rfl rfl ?_
          refine dz rfl rfl ?_
          refine dz rfl rfl ?_
          refine do_ rfl rfl (st_pickT rfl rfl) rfl rfl rfl ?_
          refine do_ rfl rfl (st_mv rfl) rfl rfl rfl ?_
          refine dz rfl rfl ?_
          refine dz rfl rfl ?_
          refine dz rfl rfl ?_
          refine dz rfl rfl ?_
          refine dz rfl rfl ?_
          refine dz rfl rfl ?_
          refine dz rfl rfl ?_
          refine dz rfl rfl ?_
          refine dz rfl rfl ?_
          refine dz rfl rfl ?_
          refine dz rfl rfl ?_
          refine dz rfl rfl ?_
          refine dz rfl rfl ?_
          refine dz rfl rfl ?_
          refine dz rfl rfl ?_
          refine dz rfl rfl ?_
          refine do_ rfl rfl (st_pickT rfl rfl) rfl rfl rfl ?_
          refine rd_nil (by kernel_rfl) ?_
          refine nx_then ?_
          exact J169 true () _ _ h (gh_frz rfl rfl ⟨⟨_, rfl, .keep rfl⟩, ⟨_, rfl, .keep rfl⟩, ⟨_, rfl, .keep rfl⟩, trivial⟩ trivial)
        · replace h := ite_F p172 h
          rw [p172]
          refine do_ rfl rfl (st_mv rfl) rfl rfl rfl ?_
          refine do_ rfl rfl (st_mv rfl) rfl rfl rfl ?_
          refine do_ rfl rfl (st_ixDn sl28 rfl rfl hx104) rfl rfl rfl ?_
          refine do_ rfl rfl (st_ldD (v := dI .i64 x105) ta3 rfl rfl) rfl rfl rfl ?_
          refine do_ rfl rfl (st_bin (v := dB (x105 == (0 : Int))) rfl rfl rfl) rfl rfl rfl ?_
          refine do_ rfl rfl (st_pickF rfl rfl) rfl rfl rfl ?_
          refine do_ rfl rfl (st_mv rfl) rfl rfl rfl ?_
          refine bool_split (x105 == (0 : Int)) (fun p173 => ?_) (fun p173 => ?_)
          · replace h := ite_T p173 h
            rw [p173]
            refine dz rfl rfl ?_
            refine dz rfl rfl ?_
            refine dz rfl rfl ?_
            refine dz rfl rfl ?_
            refine dz rfl rfl ?_
            refine dz rfl rfl ?_
            refine dz rfl rfl ?_
            refine dz rfl rfl ?_
            refine dz rfl rfl ?_
            refine dz rfl rfl ?_
            refine dz rfl rfl ?_
            refine dz rfl rfl ?_
            refine dz rfl rfl ?_
            refine dz rfl rfl ?_
            refine dz rfl rfl ?_
            refine dz rfl rfl ?_
            refine do_ rfl rfl (st_pickT rfl rfl) rfl rfl rfl ?_
            refine rd_nil (by kernel_rfl) ?_
            refine nx_then ?_
            exact J169 true () _ _ h (gh_frz rfl rfl ⟨⟨_, rfl, .keep rfl⟩, ⟨_, rfl, .keep rfl⟩, ⟨_, rfl, .keep rfl⟩, trivial⟩ trivial)
          · replace h := ite_F p173 h
            rw [p173]
            refine do_ rfl rfl (st_mv rfl) rfl rfl rfl ?_
            refine do_ rfl rfl (st_bin (v := dB (decide (((j104 : Nat) : Int) > (0 : Int)))) rfl rfl rfl) rfl rfl rfl ?_
            refine do_ rfl rfl (st_mv rfl) rfl rfl rfl ?_
            refine bool_split (decide (((j104 : Nat) : Int) > (0 : Int))) (fun p174 => ?_) (fun p174 => ?_)
            · replace h := ite_T p174 h
              rw [p174]
              refine do_ rfl rfl (st_mv rfl) rfl rfl rfl ?_
              refine do_ rfl rfl (st_mv rfl) rfl rfl rfl ?_
              refine do_ rfl rfl (st_bin (v := dI .i64 (IntKind.wrap .i64 (((j104 : Nat) : Int) - (1 : Int)))) rfl rfl rfl) rfl rfl rfl ?_
              obtain ⟨x175, h0175, hx175, h⟩ := getI_some h
              refine do_ rfl rfl (st_ixD sl28 rfl rfl h0175 hx175) rfl rfl rfl ?_
              refine do_ rfl rfl (st_ldD (v := dI .i64 x175) ta3 rfl rfl) rfl rfl rfl ?_
              obtain ⟨y176, hy176, h⟩ := bind_some_elim h
              refine df rfl rfl (ok_skolemref09_Abs hy176) rfl rfl ?_
              refine do_ rfl rfl (st_mv rfl) rfl rfl rfl ?_
              refine do_ rfl rfl (st_mv rfl) rfl rfl rfl ?_
              refine do_ rfl rfl (st_ixDn sl28 rfl rfl hx104) rfl rfl rfl ?_
              refine do_ rfl rfl (st_ldD (v := dI .i64 x105) ta3 rfl rfl) rfl rfl rfl ?_
              obtain ⟨y177, hy177, h⟩ := bind_some_elim h
              refine df rfl rfl (ok_skolemref09_Abs hy177) rfl rfl ?_
              refine do_ rfl rfl (st_bin (v := dB (decide (y176 ≥ y177))) rfl rfl rfl) rfl rfl rfl ?_
              refine do_ rfl rfl (st_pickT rfl rfl) rfl rfl rfl ?_
              refine do_ rfl rfl (st_pickF rfl rfl) rfl rfl rfl ?_
              refine rd_nil (by kernel_rfl) ?_
              refine nx_then ?_
              exact J169 (decide (y176 ≥ y177)) () _ _ h (gh_frz rfl rfl ⟨⟨_, rfl, .keep rfl⟩, ⟨_, rfl, .keep rfl⟩, ⟨_, rfl, .keep rfl⟩, trivial⟩ trivial)
            · replace h := ite_F p174 h
              rw [p174]
              refine dz rfl rfl ?_
              refine dz rfl rfl ?_
              refine dz rfl rfl ?_
              refine dz rfl rfl ?_
              refine dz rfl rfl ?_
              refine dz rfl rfl ?_
              refine dz rfl rfl ?_
              refine dz rfl rfl ?_
              refine dz rfl rfl ?_
              refine dz rfl rfl ?_
              refine dz rfl rfl ?_
              refine dz rfl rfl ?_
              refine do_ rfl rfl (st_pickF rfl rfl) rfl rfl rfl ?_
              refine do_ rfl rfl (st_pickF rfl rfl) rfl rfl rfl ?_
              refine rd_nil (by kernel_rfl) ?_
              refine nx_then ?_
              exact J169 false () _ _ h (gh_frz rfl rfl ⟨⟨_, rfl, .keep rfl⟩, ⟨_, rfl, .keep rfl⟩, ⟨_, rfl, .keep rfl⟩, trivial⟩ trivial)
  · clear h
    intro s101 g102 h
    refine awp_seq ?_
    refine awp_rs ?_
    refine ro rfl rfl (st_mv rfl) ?_
    refine ro rfl rfl (st_mv rfl) ?_
    refine ro rfl rfl (st_lenD rfl un28) ?_
    refine ro rfl rfl (st_bin (v := dB (decide (((a0.length : Nat) : Int) < ((a0.length : Nat) : Int)))) rfl rfl rfl) ?_
    refine rw_nilk ?_
    refine awp_ifF rfl dge ?_
    refine awp_exit ?_
    refine ex_out ?_
    refine ex_out ?_
    refine ex_in ?_
    refine nx_then ?_
    refine awp_rs ?_
    refine ro rfl rfl (st_as rfl) ?_
    refine rw_nilk ?_
    refine awp_ret ?_
    injection h with h
    subst h
    exact ret_out (v := dB true) (resV_one (resVs_tmp rfl resVs_nil)) (.keep rfl)

theorem ok_skolemref09_Cnf {a0 : (List (List Int))} {r : Bool} (h : F_skolemref09_Cnf a0 = some r) : Fn Try.prog 49 [dL 1 (eL 1 (eI .i64)) a0] (dB r) := by
  unfold F_skolemref09_Cnf at h
  refine Fn.of_body (N := 31) (rs := [.tmp 2]) Try.func49 (c := _) rfl rfl rfl (by kernel_rfl) (Nat.le_of_ble_eq_true rfl) (fun _B => ?_)
  refine awp_rs ?_
  refine ro rfl rfl (st_as rfl) ?_
  refine rw_nilk ?_
  refine awp_seq ?_
  refine awp_rs ?_
  refine ro rfl rfl (st_mv rfl) ?_
  refine ro rfl rfl (st_lenD rfl un22) ?_
  refine ro rfl rfl (st_bin (v := dB (decide (((a0.length : Nat) : Int) > (20000 : Int)))) rfl rfl rfl) ?_
  refine rw_nilk ?_
  refine awp_ite (b := (decide (((a0.length : Nat) : Int) > (20000 : Int)))) rfl (fun p101 => ?_) (fun p101 => ?_)
  · replace h := ite_T p101 h
    refine awp_rs ?_
    refine ro rfl rfl (st_as rfl) ?_
    refine rw_nilk ?_
    refine awp_ret ?_
    refine rt_then ?_
    injection h with h
    subst h
    exact ret_out (v := dB false) (resV_one (resVs_tmp rfl resVs_nil)) (.keep rfl)
  · replace h := ite_F p101 h
    refine awp_skip ?_
    refine nx_then ?_
    refine awp_rs ?_
    refine ro rfl rfl (st_as rfl) ?_
    refine rw_nilk ?_
    refine awp_seq ?_
    refine awp_rs ?_
    refine ro rfl rfl (st_as rfl) ?_
    refine rw_nilk ?_
    refine awp_block ?_
    refine awp_len (t := 0) rfl (fun hl105 => ?_)
    rw [List.length_map] at hl105
    refine awp_range (fun (j105 : Nat) (s102 : Int) (g103 : Unit) => [(0, dL 1 (eL 1 (eI .i64)) a0), (3, dI .i64 s102), (4, dI .i64 ((j105 : Nat) : Int))]) (fun (s102 : Int) (g103 : Unit) => []) () (fun _ _ _ h => h) h (gh_frz rfl rfl ⟨⟨_, rfl, .keep rfl⟩, ⟨_, rfl, .keep rfl⟩, ⟨_, rfl, .keep rfl⟩, trivial⟩ trivial) ?_ ?_
    · clear h
      intro j105 x106 s102 g103 k104 hj105 hx105 h ih104
      refine awp_seq ?_
      refine awp_rs ?_
      refine ro rfl rfl (st_mv rfl) ?_
      refine ro rfl rfl (st_mv rfl) ?_
      refine ro rfl rfl (st_lenD rfl un22) ?_
      refine ro rfl rfl (st_bin (v := dB (decide (((j105 : Nat) : Int) < ((a0.length : Nat) : Int)))) rfl rfl rfl) ?_
      refine rw_nilk ?_
      refine awp_ifT rfl (dlt hj105) ?_
      refine awp_skip ?_
      refine nx_then ?_
      refine awp_seq ?_
      refine awp_block ?_
      refine awp_rs ?_
      refine ro rfl rfl (st_mv rfl) ?_
      refine ro rfl rfl (st_mv rfl) ?_
      refine ro rfl rfl (st_mv rfl) ?_
      refine ro rfl rfl (st_ixDn sl22 rfl rfl hx105) ?_
      refine ro rfl rfl (st_ldD (v := dL 1 (eI .i64) x106) ta28 rfl rfl) ?_
      refine ro rfl rfl (st_lenD rfl un28) ?_
      refine ro rfl rfl (st_bin (v := dI .i64 (IntKind.wrap .i64 (s102 + ((x106.length : Nat) : Int)))) rfl rfl rfl) ?_
      refine ro rfl rfl (st_as rfl) ?_
      refine rw_nilk ?_
      refine awp_jn (fun (s149 : Bool) (g150 : Unit) => [(0, dL 1 (eL 1 (eI .i64)) a0), (3, dI .i64 (IntKind.wrap .i64 (s102 + ((x106.length : Nat) : Int)))), (4, dI .i64 ((j105 : Nat) : Int)), (30, dB s149)]) (fun (s149 : Bool) (g150 : Unit) => []) h ?_ ?_
      · clear h
        intro s149 g150 h
        refine awp_ite (b := s149) rfl (fun p152 => ?_) (fun p152 => ?_)
        · replace h := ite_T p152 h
          refine awp_rs ?_
          refine ro rfl rfl (st_as rfl) ?_
          refine rw_nilk ?_
          refine awp_ret ?_
          refine rt_block ?_
          refine rt_then ?_
          refine rt_then ?_
          refine rt_block ?_
          refine rt_then ?_
          injection h with h
          subst h
          exact ret_out (v := dB false) (resV_one (resVs_tmp rfl resVs_nil)) (.keep rfl)
        · replace h := ite_F p152 h
          refine awp_skip ?_
          refine nx_block ?_
          refine nx_then ?_
          refine awp_rw ?_
          refine ro rfl rfl (st_mv rfl) ?_
          refine ro rfl rfl (st_inc rfl rfl hj105 hl105) ?_
          refine ro rfl rfl (st_as rfl) ?_
          refine rw_nil ?_
          refine nx_then ?_
          refine awp_gh ?_ (ih104 (IntKind.wrap .i64 (s102 + ((x106.length : Nat) : Int))) () h)
          exact (gh_frz rfl rfl ⟨⟨_, rfl, .keep rfl⟩, ⟨_, rfl, .keep rfl⟩, ⟨_, rfl, .keep rfl⟩, trivial⟩ trivial)
      · clear h
        intro k151 h J151
        refine awp_rw ?_
        refine ro rfl rfl (st_mv rfl) ?_
        refine ro rfl rfl (st_bin (v := dB (decide ((IntKind.wrap .i64 (s102 + ((x106.length : Nat) : Int))) > (200000 : Int)))) rfl rfl rfl) ?_
        refine ro rfl rfl (st_mv rfl) ?_
        refine bool_split (decide ((IntKind.wrap .i64 (s102 + ((x106.length : Nat) : Int))) > (200000 : Int))) (fun p153 => ?_) (fun p153 => ?_)
        · replace h := ite_T p153 h
          rw [p153]
          refine rz rfl rfl ?_
          refine rz rfl rfl ?_
          refine rz rfl rfl ?_
          refine rz rfl rfl ?_
          refine rz rfl rfl ?_
          refine rz rfl rfl ?_
          refine ro rfl rfl (st_pickT rfl rfl) ?_
          refine rw_nil ?_
          refine nx_then ?_
          exact J151 true () _ _ h (gh_frz rfl rfl ⟨⟨_, rfl, .keep rfl⟩, ⟨_, rfl, .keep rfl⟩, ⟨_, rfl, .keep rfl⟩, ⟨_, rfl, .keep rfl⟩, trivial⟩ trivial)
        · replace h := ite_F p153 h
          rw [p153]
          refine ro rfl rfl (st_mv rfl) ?_
          refine ro rfl rfl (st_mv rfl) ?_
          refine ro rfl rfl (st_ixDn sl22 rfl rfl hx105) ?_
          refine ro rfl rfl (st_ldD (v := dL 1 (eI .i64) x106) ta28 rfl rfl) ?_
          obtain ⟨y154, hy154, h⟩ := bind_some_elim h
          refine rf rfl rfl (ok_skolemref09_Normal hy154) rfl rfl ?_
          refine ro rfl rfl (st_un (v := dB (!y154)) rfl rfl) ?_
          refine ro rfl rfl (st_pickF rfl rfl) ?_
          refine rw_nil ?_
          refine nx_then ?_
          exact J151 (!y154) () _ _ h (gh_frz rfl rfl ⟨⟨_, rfl, .keep rfl⟩, ⟨_, rfl, .keep rfl⟩, ⟨_, rfl, .keep rfl⟩, ⟨_, rfl, .keep rfl⟩, trivial⟩ trivial)
    · clear h
      intro s102 g103 h
      refine awp_seq ?_
      refine awp_rs ?_
      refine ro rfl rfl (st_mv rfl) ?_
      refine ro rfl rfl (st_mv rfl) ?_
      refine ro rfl rfl (st_lenD rfl un22) ?_
      refine ro rfl rfl (st_bin (v := dB (decide (((a0.length : Nat) : Int) < ((a0.length : Nat) : Int)))) rfl rfl rfl) ?_
      refine rw_nilk ?_
      refine awp_ifF rfl dge ?_
      refine awp_exit ?_
      refine ex_out ?_
      refine ex_out ?_
      refine ex_in ?_
      refine nx_then ?_
      refine awp_rs ?_
      refine ro rfl rfl (st_as rfl) ?_
      refine rw_nilk ?_
      refine awp_ret ?_
      injection h with h
      subst h
      exact ret_out (v := dB true) (resV_one (resVs_tmp rfl resVs_nil)) (.keep rfl)

theorem ok_skolemref09_Has {a0 : (List Int)} {a1 : Int} {r : Bool} (h : F_skolemref09_Has a0 a1 = some r) : Fn Try.prog 30 [dL 1 (eI .i64) a0, dI .i64 a1] (dB r) := by
  unfold F_skolemref09_Has at h
  refine Fn.of_body (N := 18) (rs := [.tmp 4]) Try.func30 (c := _) rfl rfl rfl (by kernel_rfl) (Nat.le_of_ble_eq_true rfl) (fun _B => ?_)
  refine awp_rs ?_
  refine ro rfl rfl (st_as rfl) ?_
  refine rw_nilk ?_
  refine awp_seq ?_
  refine awp_rs ?_
  refine ro rfl rfl (st_as rfl) ?_
  refine rw_nilk ?_
  refine awp_block ?_
  refine awp_len (t := 0) rfl (fun hl104 => ?_)
  rw [List.length_map] at hl104
  refine awp_range (fun (j104 : Nat) (s101 : Unit) (g102 : Unit) => [(0, dL 1 (eI .i64) a0), (1, dI .i64 a1), (5, dI .i64 ((j104 : Nat) : Int))]) (fun (s101 : Unit) (g102 : Unit) => []) () (fun _ _ _ h => h) h (gh_frz rfl rfl ⟨⟨_, rfl, .keep rfl⟩, ⟨_, rfl, .keep rfl⟩, ⟨_, rfl, .keep rfl⟩, trivial⟩ trivial) ?_ ?_
  · clear h
    intro j104 x105 s101 g102 k103 hj104 hx104 h ih103
    refine awp_seq ?_
    refine awp_rs ?_
    refine ro rfl rfl (st_mv rfl) ?_
    refine ro rfl rfl (st_mv rfl) ?_
    refine ro rfl rfl (st_lenD rfl un28) ?_
    refine ro rfl rfl (st_bin (v := dB (decide (((j104 : Nat) : Int) < ((a0.length : Nat) : Int)))) rfl rfl rfl) ?_
    refine rw_nilk ?_
    refine awp_ifT rfl (dlt hj104) ?_
    refine awp_skip ?_
    refine nx_then ?_
    refine awp_seq ?_
    refine awp_block ?_
    refine awp_rs ?_
    refine ro rfl rfl (st_mv rfl) ?_
    refine ro rfl rfl (st_mv rfl) ?_
    refine ro rfl rfl (st_ixDn sl28 rfl rfl hx104) ?_
    refine ro rfl rfl (st_ldD (v := dI .i64 x105) ta3 rfl rfl) ?_
    refine ro rfl rfl (st_mv rfl) ?_
    refine ro rfl rfl (st_bin (v := dB (x105 == a1)) rfl rfl rfl) ?_
    refine rw_nilk ?_
    refine awp_ite (b := (x105 == a1)) rfl (fun p107 => ?_) (fun p107 => ?_)
    · replace h := ite_T p107 h
      refine awp_rs ?_
      refine ro rfl rfl (st_as rfl) ?_
      refine rw_nilk ?_
      refine awp_ret ?_
      refine rt_block ?_
      refine rt_then ?_
      refine rt_then ?_
      refine rt_block ?_
      refine rt_then ?_
      injection h with h
      subst h
      exact ret_out (v := dB true) (resV_one (resVs_tmp rfl resVs_nil)) (.keep rfl)
    · replace h := ite_F p107 h
      refine awp_skip ?_
      refine nx_block ?_
      refine nx_then ?_
      refine awp_rw ?_
      refine ro rfl rfl (st_mv rfl) ?_
      refine ro rfl rfl (st_inc rfl rfl hj104 hl104) ?_
      refine ro rfl rfl (st_as rfl) ?_
      refine rw_nil ?_
      refine nx_then ?_
      refine awp_gh ?_ (ih103 () () h)
      exact (gh_frz rfl rfl ⟨⟨_, rfl, .keep rfl⟩, ⟨_, rfl, .keep rfl⟩, ⟨_, rfl, .keep rfl⟩, trivial⟩ trivial)
  · clear h
    intro s101 g102 h
    refine awp_seq ?_
    refine awp_rs ?_
    refine ro rfl rfl (st_mv rfl) ?_
    refine ro rfl rfl (st_mv rfl) ?_
    refine ro rfl rfl (st_lenD rfl un28) ?_
    refine ro rfl rfl (st_bin (v := dB (decide (((a0.length : Nat) : Int) < ((a0.length : Nat) : Int)))) rfl rfl rfl) ?_
    refine rw_nilk ?_
    refine awp_ifF rfl dge ?_
    refine awp_exit ?_
    refine ex_out ?_
    refine ex_out ?_
    refine ex_in ?_
    refine nx_then ?_
    refine awp_rs ?_
    refine ro rfl rfl (st_as rfl) ?_
    refine rw_nilk ?_
    refine awp_ret ?_
    injection h with h
    subst h
    exact ret_out (v := dB false) (resV_one (resVs_tmp rfl resVs_nil)) (.keep rfl)

theorem ok_skolemref09_Put {a0 : (List Int)} {a1 : Int} {r : (List Int)} (h : F_skolemref09_Put a0 a1 = some r) : Fn Try.prog 86 [dL 1 (eI .i64) a0, dI .i64 a1] (dL 1 (eI .i64) r) := by
  unfold F_skolemref09_Put at h
  refine Fn.of_body (N := 53) (rs := [.tmp 4]) Try.func86 (c := _) rfl rfl rfl (by kernel_rfl) (Nat.le_of_ble_eq_true rfl) (fun _B => ?_)
  refine awp_rs ?_
  refine ro rfl rfl (st_as rfl) ?_
  refine rw_nilk ?_
  refine awp_rs ?_
  refine ro rfl rfl (st_as rfl) ?_
  refine rw_nilk ?_
  refine awp_rs ?_
  refine ro rfl rfl (st_as rfl) ?_
  refine rw_nilk ?_
  refine awp_seq ?_
  refine awp_rs ?_
  refine ro rfl rfl (st_as rfl) ?_
  refine rw_nilk ?_
  refine awp_block ?_
  refine awp_len (t := 0) rfl (fun hl104 => ?_)
  rw [List.length_map] at hl104
  refine awp_range (fun (j104 : Nat) (s101 : (Bool × (List Int))) (g102 : Nat) => [(0, dL 1 (eI .i64) a0), (1, dI .i64 a1), (5, .slice 1002 g102 0 s101.2.length), (6, dB s101.1), (7, dI .i64 ((j104 : Nat) : Int))]) (fun (s101 : (Bool × (List Int))) (g102 : Nat) => [(1002, rw' g102 3 (eI .i64) s101.2)]) 0 (fun _ _ _ h => h) h (Gh.trans (gh_nil (r := 1002) (E' := [(0, dL 1 (eI .i64) a0), (1, dI .i64 a1), (5, .slice 1002 0 0 (([] : List Int).length)), (6, dB false), (7, dI .i64 (0 : Int))]) (L' := []) rfl co3 rfl rfl ⟨⟨_, rfl, .keep _⟩, ⟨_, rfl, .keep _⟩, ⟨_, rfl, .nil⟩, ⟨_, rfl, .keep _⟩, ⟨_, rfl, .keep _⟩, trivial⟩ trivial) (gh_frz rfl rfl ⟨⟨_, rfl, .keep rfl⟩, ⟨_, rfl, .keep rfl⟩, ⟨_, rfl, .keep rfl⟩, ⟨_, rfl, .keep rfl⟩, ⟨_, rfl, .keep rfl⟩, trivial⟩ ⟨⟨_, rfl, objRow (List.map (eI .i64) ([] : List Int))⟩, trivial⟩)) ?_ ?_
  · clear h
    intro j104 x105 s101 g102 k103 hj104 hx104 h ih103
    refine awp_seq ?_
    refine awp_rs ?_
    refine ro rfl rfl (st_mv rfl) ?_
    refine ro rfl rfl (st_mv rfl) ?_
    refine ro rfl rfl (st_lenD rfl un28) ?_
    refine ro rfl rfl (st_bin (v := dB (decide (((j104 : Nat) : Int) < ((a0.length : Nat) : Int)))) rfl rfl rfl) ?_
    refine rw_nilk ?_
    refine awp_ifT rfl (dlt hj104) ?_
    refine awp_skip ?_
    refine nx_then ?_
    refine awp_seq ?_
    refine awp_block ?_
    refine awp_seq ?_
    refine awp_rs ?_
    refine ro rfl rfl (st_mv rfl) ?_
    refine ro rfl rfl (st_mv rfl) ?_
    refine ro rfl rfl (st_ixDn sl28 rfl rfl hx104) ?_
    refine ro rfl rfl (st_ldD (v := dI .i64 x105) ta3 rfl rfl) ?_
    obtain ⟨y269, hy269, h⟩ := bind_some_elim h
    refine rf rfl rfl (ok_skolemref09_Abs hy269) rfl rfl ?_
    refine ro rfl rfl (st_mv rfl) ?_
    obtain ⟨y270, hy270, h⟩ := bind_some_elim h
    refine rf rfl rfl (ok_skolemref09_Abs hy270) rfl rfl ?_
    refine ro rfl rfl (st_bin (v := dB (y269 == y270)) rfl rfl rfl) ?_
    refine rw_nilk ?_
    refine awp_ite (b := (y269 == y270)) rfl (fun p271 => ?_) (fun p271 => ?_)
    · replace h := ite_T p271 h
      refine awp_rs ?_
      refine ro rfl rfl (st_mv rfl) ?_
      refine ro rfl rfl (st_as rfl) ?_
      refine rw_nilk ?_
      refine awp_ret ?_
      refine rt_then ?_
      refine rt_block ?_
      refine rt_then ?_
      refine rt_then ?_
      refine rt_block ?_
      refine rt_then ?_
      injection h with h
      subst h
      exact ret_out (v := dL 1 (eI .i64) a0) (resV_one (resVs_tmp rfl resVs_nil)) (.keep rfl)
    · replace h := ite_F p271 h
      refine awp_skip ?_
      refine nx_then ?_
      refine awp_jn (fun (s283 : (Bool × (List Int))) (g284 : Nat) => [(0, dL 1 (eI .i64) a0), (1, dI .i64 a1), (5, .slice 1002 g284 0 s283.2.length), (6, dB s283.1), (7, dI .i64 ((j104 : Nat) : Int))]) (fun (s283 : (Bool × (List Int))) (g284 : Nat) => [(1002, rw' g284 3 (eI .i64) s283.2)]) h ?_ ?_
      · clear h
        intro s283 g284 h
        refine awp_rw ?_
        refine ro rfl rfl (st_mv rfl) ?_
        refine ro rfl rfl (st_mv rfl) ?_
        refine ro rfl rfl (st_mv rfl) ?_
        refine ro rfl rfl (st_ixDn sl28 rfl rfl hx104) ?_
        refine ro rfl rfl (st_ldD (v := dI .i64 x105) ta3 rfl rfl) ?_
        refine rn (r := 1004) rfl rfl (st_bsl (els := [[dI .i64 x105]]) sl28 zc3 rfl rfl rfl rfl rfl) rfl ?_
        obtain ⟨c286, h⟩ := capN_some h
        refine rn (r := 0) (L' := [(1002, rw' (g284 + 2) 3 (eI .i64) (s283.2 ++ [x105])), (1004, .row 1 3 [[dI .i64 x105]])]) rfl rfl (st_appR (f := (eI .i64)) (xs := s283.2) (ys := [x105]) sl28 zc3 rfl rfl rfl rfl rfl (news_one (a := x105) rfl rfl) c286) rfl ?_
        refine ro rfl rfl (st_as rfl) ?_
        refine rw_nil ?_
        refine nx_block ?_
        refine nx_then ?_
        refine awp_rw ?_
        refine ro rfl rfl (st_mv rfl) ?_
        refine ro rfl rfl (st_inc rfl rfl hj104 hl104) ?_
        refine ro rfl rfl (st_as rfl) ?_
        refine rw_nil ?_
        refine nx_then ?_
        refine awp_gh ?_ (ih103 (s283.1, (s283.2 ++ [x105])) (g284 + 2) h)
        exact (gh_frz rfl rfl ⟨⟨_, rfl, .keep rfl⟩, ⟨_, rfl, .keep rfl⟩, ⟨_, rfl, .keep rfl⟩, ⟨_, rfl, .keep rfl⟩, ⟨_, rfl, .keep rfl⟩, trivial⟩ ⟨⟨_, rfl, objRow _⟩, trivial⟩)
      · clear h
        intro k285 h J285
        refine awp_jn (fun (s290 : Bool) (g291 : Unit) => [(0, dL 1 (eI .i64) a0), (1, dI .i64 a1), (5, .slice 1002 g102 0 s101.2.length), (6, dB s101.1), (7, dI .i64 ((j104 : Nat) : Int)), (34, dB s290)]) (fun (s290 : Bool) (g291 : Unit) => [(1002, rw' g102 3 (eI .i64) s101.2)]) h ?_ ?_
        · clear h
          intro s290 g291 h
          refine awp_ite (b := s290) rfl (fun p293 => ?_) (fun p293 => ?_)
          · replace h := ite_T p293 h
            refine awp_rs ?_
            refine ro rfl rfl (st_mv rfl) ?_
            refine ro rfl rfl (st_mv rfl) ?_
            refine rn (r := 1003) rfl rfl (st_bsl (els := [[dI .i64 a1]]) sl28 zc3 rfl rfl rfl rfl rfl) rfl ?_
            obtain ⟨c294, h⟩ := capN_some h
            refine rn (r := 0) (L' := [(1002, rw' (g102 + 2) 3 (eI .i64) (s101.2 ++ [a1])), (1003, .row 1 3 [[dI .i64 a1]])]) rfl rfl (st_appR (f := (eI .i64)) (xs := s101.2) (ys := [a1]) sl28 zc3 rfl rfl rfl rfl rfl (news_one (a := a1) rfl rfl) c294) rfl ?_
            refine ro rfl rfl (st_as rfl) ?_
            refine rw_nilk ?_
            refine awp_rw ?_
            refine ro rfl rfl (st_as rfl) ?_
            refine rw_nil ?_
            refine nx_then ?_
            exact J285 (true, (s101.2 ++ [a1])) (g102 + 2) _ _ h (gh_frz rfl rfl ⟨⟨_, rfl, .keep rfl⟩, ⟨_, rfl, .keep rfl⟩, ⟨_, rfl, .keep rfl⟩, ⟨_, rfl, .keep rfl⟩, ⟨_, rfl, .keep rfl⟩, trivial⟩ ⟨⟨_, rfl, objRow _⟩, trivial⟩)
          · replace h := ite_F p293 h
            refine awp_skip ?_
            refine nx_then ?_
            exact J285 (s101.1, s101.2) g102 _ _ h (gh_frz rfl rfl ⟨⟨_, rfl, .keep rfl⟩, ⟨_, rfl, .keep rfl⟩, ⟨_, rfl, .keep rfl⟩, ⟨_, rfl, .keep rfl⟩, ⟨_, rfl, .keep rfl⟩, trivial⟩ ⟨⟨_, rfl, objRow _⟩, trivial⟩)
        · clear h
          intro k292 h J292
          refine awp_rw ?_
          refine ro rfl rfl (st_mv rfl) ?_
          refine ro rfl rfl (st_un (v := dB (!s101.1)) rfl rfl) ?_
          refine ro rfl rfl (st_mv rfl) ?_
          refine bool_split (!s101.1) (fun p295 => ?_) (fun p295 => ?_)
          · replace h := ite_T p295 h
            rw [p295]
            refine ro rfl rfl (st_mv rfl) ?_
            refine ro rfl rfl (st_mv rfl) ?_
            refine ro rfl rfl (st_ixDn sl28 rfl rfl hx104) ?_
            refine ro rfl rfl (st_ldD (v := dI .i64 x105) ta3 rfl rfl) ?_
            obtain ⟨y296, hy296, h⟩ := bind_some_elim h
            refine rf rfl rfl (ok_skolemref09_Abs hy296) rfl rfl ?_
            refine ro rfl rfl (st_mv rfl) ?_
            obtain ⟨y297, hy297, h⟩ := bind_some_elim h
            refine rf rfl rfl (ok_skolemref09_Abs hy297) rfl rfl ?_
            refine ro rfl rfl (st_bin (v := dB (decide (y296 > y297))) rfl rfl rfl) ?_
            refine ro rfl rfl (st_pickT rfl rfl) ?_
            refine rw_nil ?_
            refine nx_then ?_
            exact J292 (decide (y296 > y297)) () _ _ h (gh_frz rfl rfl ⟨⟨_, rfl, .keep rfl⟩, ⟨_, rfl, .keep rfl⟩, ⟨_, rfl, .keep rfl⟩, ⟨_, rfl, .keep rfl⟩, ⟨_, rfl, .keep rfl⟩, ⟨_, rfl, .keep rfl⟩, trivial⟩ ⟨⟨_, rfl, objRow _⟩, trivial⟩)
          · replace h := ite_F p295 h
            rw [p295]
            refine rz rfl rfl ?_
            refine rz rfl rfl ?_
            refine rz rfl rfl ?_
            refine rz rfl rfl ?_
            refine rz rfl rfl ?_
            refine rz rfl rfl ?_
            refine rz rfl rfl ?_
            refine rz rfl rfl ?_
            refine ro rfl rfl (st_pickF rfl rfl) ?_
            refine rw_nil ?_
            refine nx_then ?_
            exact J292 false () _ _ h (gh_frz rfl rfl ⟨⟨_, rfl, .keep rfl⟩, ⟨_, rfl, .keep rfl⟩, ⟨_, rfl, .keep rfl⟩, ⟨_, rfl, .keep rfl⟩, ⟨_, rfl, .keep rfl⟩, ⟨_, rfl, .keep rfl⟩, trivial⟩ ⟨⟨_, rfl, objRow _⟩, trivial⟩)
  · clear h
    intro s101 g102 h
    refine awp_seq ?_
    refine awp_rs ?_
    refine ro rfl rfl (st_mv rfl) ?_
    refine ro rfl rfl (st_mv rfl) ?_
    refine ro rfl rfl (st_lenD rfl un28) ?_
    refine ro rfl rfl (st_bin (v := dB (decide (((a0.length : Nat) : Int) < ((a0.length : Nat) : Int)))) rfl rfl rfl) ?_
    refine rw_nilk ?_
    refine awp_ifF rfl dge ?_
    refine awp_exit ?_
    refine ex_out ?_
    refine ex_out ?_
    refine ex_in ?_
    refine nx_then ?_
    refine awp_seq ?_
    refine awp_rs ?_
    refine ro rfl rfl (st_mv rfl) ?_
    refine ro rfl rfl (st_un (v := dB (!s101.1)) rfl rfl) ?_
    refine rw_nilk ?_
    refine awp_ite (b := (!s101.1)) rfl (fun p300 => ?_) (fun p300 => ?_)
    · replace h := ite_T p300 h
      refine awp_rw ?_
      refine ro rfl rfl (st_mv rfl) ?_
      refine ro rfl rfl (st_mv rfl) ?_
      refine rn (r := 1005) rfl rfl (st_bsl (els := [[dI .i64 a1]]) sl28 zc3 rfl rfl rfl rfl rfl) rfl ?_
      obtain ⟨c301, h⟩ := capN_some h
      refine rn (r := 0) (L' := [(1002, rw' (g102 + 2) 3 (eI .i64) (s101.2 ++ [a1])), (1005, .row 1 3 [[dI .i64 a1]])]) rfl rfl (st_appR (f := (eI .i64)) (xs := s101.2) (ys := [a1]) sl28 zc3 rfl rfl rfl rfl rfl (news_one (a := a1) rfl rfl) c301) rfl ?_
      refine ro rfl rfl (st_as rfl) ?_
      refine rw_nil ?_
      refine nx_then ?_
      refine awp_rs ?_
      refine ro rfl rfl (st_mv rfl) ?_
      refine ro rfl rfl (st_as rfl) ?_
      refine rw_nilk ?_
      refine awp_ret ?_
      injection h with h
      subst h
      exact ret_out (v := .slice 1002 (g102 + 2) 0 ((s101.2 ++ [a1]).length)) (resV_one (resVs_tmp rfl resVs_nil)) (frzT rfl rfl co3 rfl)
    · replace h := ite_F p300 h
      refine awp_skip ?_
      refine nx_then ?_
      refine awp_rs ?_
      refine ro rfl rfl (st_mv rfl) ?_
      refine ro rfl rfl (st_as rfl) ?_
      refine rw_nilk ?_
      refine awp_ret ?_
      injection h with h
      subst h
      exact ret_out (v := .slice 1002 g102 0 s101.2.length) (resV_one (resVs_tmp rfl resVs_nil)) (frzT rfl rfl co3 rfl)

theorem ok_skolemref09_Resolvent {a0 : (List Int)} {a1 : (List Int)} {a2 : Int} {r : ((List Int) × Bool)} (h : F_skolemref09_Resolvent a0 a1 a2 = some r) : Fn Try.prog 63 [dL 1 (eI .i64) a0, dL 1 (eI .i64) a1, dI .i64 a2] (.tup [dL 1 (eI .i64) r.1, dB r.2]) := by
  unfold F_skolemref09_Resolvent at h
  refine Fn.of_body (N := 71) (rs := [.tmp 6, .tmp 7]) Try.func63 (c := _) rfl rfl rfl (by kernel_rfl) (Nat.le_of_ble_eq_true rfl) (fun _B => ?_)
  refine awp_rs ?_
  refine ro rfl rfl (st_as rfl) ?_
  refine ro rfl rfl (st_as rfl) ?_
  refine rw_nilk ?_
  refine awp_seq ?_
  refine awp_jn (fun (s117 : Bool) (g118 : Unit) => [(0, dL 1 (eI .i64) a0), (1, dL 1 (eI .i64) a1), (2, dI .i64 a2), (25, dB s117)]) (fun (s117 : Bool) (g118 : Unit) => []) h ?_ ?_
  · clear h
    intro s117 g118 h
    refine awp_ite (b := s117) rfl (fun p120 => ?_) (fun p120 => ?_)
    · replace h := ite_T p120 h
      refine awp_rs ?_
      refine ro rfl rfl (st_as rfl) ?_
      refine ro rfl rfl (st_as rfl) ?_
      refine rw_nilk ?_
      refine awp_ret ?_
      refine rt_then ?_
      injection h with h
      subst h
      exact ret_out (v := .tup [.nilS, dB false]) (resV_many (resVs_tmp rfl (resVs_tmp rfl resVs_nil))) (frz_tup ⟨(.nilS _), (.keep rfl), trivial⟩)
    · replace h := ite_F p120 h
      refine awp_skip ?_
      refine nx_then ?_
      refine awp_rs ?_
      refine ro rfl rfl (st_as rfl) ?_
      refine rw_nilk ?_
      refine awp_seq ?_
      refine awp_rs ?_
      refine ro rfl rfl (st_as rfl) ?_
      refine rw_nilk ?_
      refine awp_block ?_
      refine awp_len (t := 0) rfl (fun hl124 => ?_)
      rw [List.length_map] at hl124
      refine awp_range (fun (j124 : Nat) (s121 : (List Int)) (g122 : Unit) => [(0, dL 1 (eI .i64) a0), (1, dL 1 (eI .i64) a1), (2, dI .i64 a2), (8, dL 1 (eI .i64) s121), (9, dI .i64 ((j124 : Nat) : Int))]) (fun (s121 : (List Int)) (g122 : Unit) => []) () (fun _ _ _ h => h) h (Gh.trans (gh_frz (E' := [(0, dL 1 (eI .i64) a0), (1, dL 1 (eI .i64) a1), (2, dI .i64 a2), (8, dL 1 (eI .i64) ([] : List Int)), (9, dI .i64 (0 : Int))]) (L' := []) rfl rfl ⟨⟨_, rfl, .keep rfl⟩, ⟨_, rfl, .keep rfl⟩, ⟨_, rfl, .keep rfl⟩, ⟨_, rfl, .nilS _⟩, ⟨_, rfl, .keep rfl⟩, trivial⟩ trivial) (gh_frz rfl rfl ⟨⟨_, rfl, .keep rfl⟩, ⟨_, rfl, .keep rfl⟩, ⟨_, rfl, .keep rfl⟩, ⟨_, rfl, .keep rfl⟩, ⟨_, rfl, .keep rfl⟩, trivial⟩ trivial)) ?_ ?_
      · clear h
        intro j124 x125 s121 g122 k123 hj124 hx124 h ih123
        refine awp_seq ?_
        refine awp_rs ?_
        refine ro rfl rfl (st_mv rfl) ?_
        refine ro rfl rfl (st_mv rfl) ?_
        refine ro rfl rfl (st_lenD rfl un28) ?_
        refine ro rfl rfl (st_bin (v := dB (decide (((j124 : Nat) : Int) < ((a0.length : Nat) : Int)))) rfl rfl rfl) ?_
        refine rw_nilk ?_
        refine awp_ifT rfl (dlt hj124) ?_
        refine awp_skip ?_
        refine nx_then ?_
        refine awp_jn (fun (s163 : (List Int)) (g164 : Unit) => [(0, dL 1 (eI .i64) a0), (1, dL 1 (eI .i64) a1), (2, dI .i64 a2), (8, dL 1 (eI .i64) s163), (9, dI .i64 ((j124 : Nat) : Int))]) (fun (s163 : (List Int)) (g164 : Unit) => []) h ?_ ?_
        · clear h
          intro s163 g164 h
          refine awp_rw ?_
          refine ro rfl rfl (st_mv rfl) ?_
          refine ro rfl rfl (st_inc rfl rfl hj124 hl124) ?_
          refine ro rfl rfl (st_as rfl) ?_
          refine rw_nil ?_
          refine nx_then ?_
          refine awp_gh ?_ (ih123 s163 () h)
          exact (gh_frz rfl rfl ⟨⟨_, rfl, .keep rfl⟩, ⟨_, rfl, .keep rfl⟩, ⟨_, rfl, .keep rfl⟩, ⟨_, rfl, .keep rfl⟩, ⟨_, rfl, .keep rfl⟩, trivial⟩ trivial)
        · clear h
          intro k165 h J165
          refine awp_block ?_
          refine awp_rs ?_
          refine ro rfl rfl (st_mv rfl) ?_
          refine ro rfl rfl (st_mv rfl) ?_
          refine ro rfl rfl (st_ixDn sl28 rfl rfl hx124) ?_
          refine ro rfl rfl (st_ldD (v := dI .i64 x125) ta3 rfl rfl) ?_
          refine ro rfl rfl (st_mv rfl) ?_
          refine ro rfl rfl (st_bin (v := dB (x125 != a2)) rfl rfl rfl) ?_
          refine rw_nilk ?_
          refine awp_ite (b := (x125 != a2)) rfl (fun p166 => ?_) (fun p166 => ?_)
          · replace h := ite_T p166 h
            refine awp_seq ?_
            refine awp_rs ?_
            refine ro rfl rfl (st_mv rfl) ?_
            refine ro rfl rfl (st_mv rfl) ?_
            refine ro rfl rfl (st_mv rfl) ?_
            refine ro rfl rfl (st_ixDn sl28 rfl rfl hx124) ?_
            refine ro rfl rfl (st_ldD (v := dI .i64 x125) ta3 rfl rfl) ?_
            refine ro rfl rfl (st_un (v := dI .i64 (IntKind.wrap .i64 (0 - x125))) rfl rfl) ?_
            obtain ⟨y167, hy167, h⟩ := bind_some_elim h
            refine rf rfl rfl (ok_skolemref09_Has hy167) rfl rfl ?_
            refine rw_nilk ?_
            refine awp_ite (b := y167) rfl (fun p168 => ?_) (fun p168 => ?_)
            · replace h := ite_T p168 h
              refine awp_rs ?_
              refine ro rfl rfl (st_as rfl) ?_
              refine ro rfl rfl (st_as rfl) ?_
              refine rw_nilk ?_
              refine awp_ret ?_
              refine rt_then ?_
              refine rt_block ?_
              refine rt_then ?_
              refine rt_then ?_
              refine rt_block ?_
              refine rt_then ?_
              injection h with h
              subst h
              exact ret_out (v := .tup [.nilS, dB false]) (resV_many (resVs_tmp rfl (resVs_tmp rfl resVs_nil))) (frz_tup ⟨(.nilS _), (.keep rfl), trivial⟩)
            · replace h := ite_F p168 h
              refine awp_skip ?_
              refine nx_then ?_
              refine awp_rw ?_
              refine ro rfl rfl (st_mv rfl) ?_
              refine ro rfl rfl (st_mv rfl) ?_
              refine ro rfl rfl (st_mv rfl) ?_
              refine ro rfl rfl (st_ixDn sl28 rfl rfl hx124) ?_
              refine ro rfl rfl (st_ldD (v := dI .i64 x125) ta3 rfl rfl) ?_
              obtain ⟨y169, hy169, h⟩ := bind_some_elim h
              refine rf rfl rfl (ok_skolemref09_Put hy169) rfl rfl ?_
              refine ro rfl rfl (st_as rfl) ?_
              refine rw_nil ?_
              refine nx_block ?_
              refine nx_then ?_
              exact J165 y169 () _ _ h (gh_frz rfl rfl ⟨⟨_, rfl, .keep rfl⟩, ⟨_, rfl, .keep rfl⟩, ⟨_, rfl, .keep rfl⟩, ⟨_, rfl, .keep rfl⟩, ⟨_, rfl, .keep rfl⟩, trivial⟩ trivial)
          · replace h := ite_F p166 h
            refine awp_skip ?_
            refine nx_block ?_
            refine nx_then ?_
            exact J165 s121 () _ _ h (gh_frz rfl rfl ⟨⟨_, rfl, .keep rfl⟩, ⟨_, rfl, .keep rfl⟩, ⟨_, rfl, .keep rfl⟩, ⟨_, rfl, .keep rfl⟩, ⟨_, rfl, .keep rfl⟩, trivial⟩ trivial)
      · clear h
        intro s121 g122 h
        refine awp_seq ?_
        refine awp_rs ?_
        refine ro rfl rfl (st_mv rfl) ?_
        refine ro rfl rfl (st_mv rfl) ?_
        refine ro rfl rfl (st_lenD rfl un28) ?_
        refine ro rfl rfl (st_bin (v := dB (decide (((a0.length : Nat) : Int) < ((a0.length : Nat) : Int)))) rfl rfl rfl) ?_
        refine rw_nilk ?_
        refine awp_ifF rfl dge ?_
        refine awp_exit ?_
        refine ex_out ?_
        refine ex_out ?_
        refine ex_in ?_
        refine nx_then ?_
        refine awp_seq ?_
        refine awp_rs ?_
        refine ro rfl rfl (st_as rfl) ?_
        refine rw_nilk ?_
        refine awp_block ?_
        refine awp_len (t := 1) rfl (fun hl173 => ?_)
        rw [List.length_map] at hl173
        refine awp_range (fun (j173 : Nat) (s170 : (List Int)) (g171 : Unit) => [(1, dL 1 (eI .i64) a1), (2, dI .i64 a2), (8, dL 1 (eI .i64) s170), (10, dI .i64 ((j173 : Nat) : Int))]) (fun (s170 : (List Int)) (g171 : Unit) => []) () (fun _ _ _ h => h) h (gh_frz rfl rfl ⟨⟨_, rfl, .keep rfl⟩, ⟨_, rfl, .keep rfl⟩, ⟨_, rfl, .keep rfl⟩, ⟨_, rfl, .keep rfl⟩, trivial⟩ trivial) ?_ ?_
        · clear h
          intro j173 x174 s170 g171 k172 hj173 hx173 h ih172
          refine awp_seq ?_
          refine awp_rs ?_
          refine ro rfl rfl (st_mv rfl) ?_
          refine ro rfl rfl (st_mv rfl) ?_
          refine ro rfl rfl (st_lenD rfl un28) ?_
          refine ro rfl rfl (st_bin (v := dB (decide (((j173 : Nat) : Int) < ((a1.length : Nat) : Int)))) rfl rfl rfl) ?_
          refine rw_nilk ?_
          refine awp_ifT rfl (dlt hj173) ?_
          refine awp_skip ?_
          refine nx_then ?_
          refine awp_jn (fun (s191 : (List Int)) (g192 : Unit) => [(1, dL 1 (eI .i64) a1), (2, dI .i64 a2), (8, dL 1 (eI .i64) s191), (10, dI .i64 ((j173 : Nat) : Int))]) (fun (s191 : (List Int)) (g192 : Unit) => []) h ?_ ?_
          · clear h
            intro s191 g192 h
            refine awp_rw ?_
            refine ro rfl rfl (st_mv rfl) ?_
            refine ro rfl rfl (st_inc rfl rfl hj173 hl173) ?_
            refine ro rfl rfl (st_as rfl) ?_
            refine rw_nil ?_
            refine nx_then ?_
            refine awp_gh ?_ (ih172 s191 () h)
            exact (gh_frz rfl rfl ⟨⟨_, rfl, .keep rfl⟩, ⟨_, rfl, .keep rfl⟩, ⟨_, rfl, .keep rfl⟩, ⟨_, rfl, .keep rfl⟩, trivial⟩ trivial)
          · clear h
            intro k193 h J193
            refine awp_block ?_
            refine awp_rs ?_
            refine ro rfl rfl (st_mv rfl) ?_
            refine ro rfl rfl (st_mv rfl) ?_
            refine ro rfl rfl (st_ixDn sl28 rfl rfl hx173) ?_
            refine ro rfl rfl (st_ldD (v := dI .i64 x174) ta3 rfl rfl) ?_
            refine ro rfl rfl (st_mv rfl) ?_
            refine ro rfl rfl (st_un (v := dI .i64 (IntKind.wrap .i64 (0 - a2))) rfl rfl) ?_
            refine ro rfl rfl (st_bin (v := dB (x174 != (IntKind.wrap .i64 (0 - a2)))) rfl rfl rfl) ?_
            refine rw_nilk ?_
            refine awp_ite (b := (x174 != (IntKind.wrap .i64 (0 - a2)))) rfl (fun p194 => ?_) (fun p194 => ?_)
            · replace h := ite_T p194 h
              refine awp_rw ?_
              refine ro rfl rfl (st_mv rfl) ?_
              refine ro rfl rfl (st_mv rfl) ?_
              refine ro rfl rfl (st_mv rfl) ?_
              refine ro rfl rfl (st_ixDn sl28 rfl rfl hx173) ?_
              refine ro rfl rfl (st_ldD (v := dI .i64 x174) ta3 rfl rfl) ?_
              obtain ⟨y195, hy195, h⟩ := bind_some_elim h
              refine rf rfl rfl (ok_skolemref09_Put hy195) rfl rfl ?_
              refine ro rfl rfl (st_as rfl) ?_
              refine rw_nil ?_
              refine nx_block ?_
              refine nx_then ?_
              exact J193 y195 () _ _ h (gh_frz rfl rfl ⟨⟨_, rfl, .keep rfl⟩, ⟨_, rfl, .keep rfl⟩, ⟨_, rfl, .keep rfl⟩, ⟨_, rfl, .keep rfl⟩, trivial⟩ trivial)
            · replace h := ite_F p194 h
              refine awp_skip ?_
              refine nx_block ?_
              refine nx_then ?_
              exact J193 s170 () _ _ h (gh_frz rfl rfl ⟨⟨_, rfl, .keep rfl⟩, ⟨_, rfl, .keep rfl⟩, ⟨_, rfl, .keep rfl⟩, ⟨_, rfl, .keep rfl⟩, trivial⟩ trivial)
        · clear h
          intro s170 g171 h
          refine awp_seq ?_
          refine awp_rs ?_
          refine ro rfl rfl (st_mv rfl) ?_
          refine ro rfl rfl (st_mv rfl) ?_
          refine ro rfl rfl (st_lenD rfl un28) ?_
          refine ro rfl rfl (st_bin (v := dB (decide (((a1.length : Nat) : Int) < ((a1.length : Nat) : Int)))) rfl rfl rfl) ?_
          refine rw_nilk ?_
          refine awp_ifF rfl dge ?_
          refine awp_exit ?_
          refine ex_out ?_
          refine ex_out ?_
          refine ex_in ?_
          refine nx_then ?_
          refine awp_rs ?_
          refine ro rfl rfl (st_mv rfl) ?_
          refine ro rfl rfl (st_as rfl) ?_
          refine ro rfl rfl (st_as rfl) ?_
          refine rw_nilk ?_
          refine awp_ret ?_
          injection h with h
          subst h
          exact ret_out (v := .tup [dL 1 (eI .i64) s170, dB true]) (resV_many (resVs_tmp rfl (resVs_tmp rfl resVs_nil))) (.keep rfl)
  · clear h
    intro k119 h J119
    refine awp_rw ?_
    refine ro rfl rfl (st_mv rfl) ?_
    refine ro rfl rfl (st_bin (v := dB (decide (a2 < (1 : Int)))) rfl rfl rfl) ?_
    refine ro rfl rfl (st_mv rfl) ?_
    refine bool_split (decide (a2 < (1 : Int))) (fun p196 => ?_) (fun p196 => ?_)
    · replace h := ite_T p196 h
      rw [p196]
      refine rz rfl rfl ?_
      refine rz rfl rfl ?_
      refine rz rfl rfl ?_
      refine rz rfl rfl ?_
      refine ro rfl rfl (st_pickT rfl rfl) ?_
      refine ro rfl rfl (st_mv rfl) ?_
      refine rz rfl rfl ?_
      refine rz rfl rfl ?_
      refine rz rfl rfl ?_
      refine rz rfl rfl ?_
      refine rz rfl rfl ?_
      refine ro rfl rfl (st_pickT rfl rfl) ?_
      refine rw_nil ?_
      refine nx_then ?_
      exact J119 true () _ _ h (gh_frz rfl rfl ⟨⟨_, rfl, .keep rfl⟩, ⟨_, rfl, .keep rfl⟩, ⟨_, rfl, .keep rfl⟩, ⟨_, rfl, .keep rfl⟩, trivial⟩ trivial)
    · replace h := ite_F p196 h
      rw [p196]
      refine ro rfl rfl (st_mv rfl) ?_
      refine ro rfl rfl (st_mv rfl) ?_
      obtain ⟨y197, hy197, h⟩ := bind_some_elim h
      refine rf rfl rfl (ok_skolemref09_Has hy197) rfl rfl ?_
      refine ro rfl rfl (st_un (v := dB (!y197)) rfl rfl) ?_
      refine ro rfl rfl (st_pickF rfl rfl) ?_
      refine ro rfl rfl (st_mv rfl) ?_
      refine bool_split (!y197) (fun p198 => ?_) (fun p198 => ?_)
      · replace h := ite_T p198 h
        rw [p198]
        refine rz rfl rfl ?_
        refine rz rfl rfl ?_
        refine rz rfl rfl ?_
        refine rz rfl rfl ?_
        refine rz rfl rfl ?_
        refine ro rfl rfl (st_pickT rfl rfl) ?_
        refine rw_nil ?_
        refine nx_then ?_
        exact J119 true () _ _ h (gh_frz rfl rfl ⟨⟨_, rfl, .keep rfl⟩, ⟨_, rfl, .keep rfl⟩, ⟨_, rfl, .keep rfl⟩, ⟨_, rfl, .keep rfl⟩, trivial⟩ trivial)
      · replace h := ite_F p198 h
        rw [p198]
        refine ro rfl rfl (st_mv rfl) ?_
        refine ro rfl rfl (st_mv rfl) ?_
        refine ro rfl rfl (st_un (v := dI .i64 (IntKind.wrap .i64 (0 - a2))) rfl rfl) ?_
        obtain ⟨y199, hy199, h⟩ := bind_some_elim h
        refine rf rfl rfl (ok_skolemref09_Has hy199) rfl rfl ?_
        refine ro rfl rfl (st_un (v := dB (!y199)) rfl rfl) ?_
        refine ro rfl rfl (st_pickF rfl rfl) ?_
        refine rw_nil ?_
        refine nx_then ?_
        exact J119 (!y199) () _ _ h (gh_frz rfl rfl ⟨⟨_, rfl, .keep rfl⟩, ⟨_, rfl, .keep rfl⟩, ⟨_, rfl, .keep rfl⟩, ⟨_, rfl, .keep rfl⟩, trivial⟩ trivial)

theorem ok_skolemref09_Check {a0 : (List (List Int))} {a1 : S_api_Proof} {r : ((List Int) × Bool)} (h : F_skolemref09_Check a0 a1 = some r) : Fn Try.prog 27 [dL 1 (eL 1 (eI .i64)) a0, .agg [dB a1.Cubes, dL 5 e_S_api_Line a1.Lines]] (.tup [dL 1 (eI .i64) r.1, dB r.2]) := by
  unfold F_skolemref09_Check at h
  refine Fn.of_body (N := 132) (rs := [.tmp 4, .tmp 5]) Try.func27 (c := _) rfl rfl rfl (by kernel_rfl) (Nat.le_of_ble_eq_true rfl) (fun _B => ?_)
  refine awp_rs ?_
  refine rn (r := 1001) rfl rfl (st_box rfl rfl rfl co25 rfl rfl) rfl ?_
  refine ro rfl rfl (st_as rfl) ?_
  refine ro rfl rfl (st_as rfl) ?_
  refine rw_nilk ?_
  refine awp_rs ?_
  refine ro rfl rfl (st_faP fo25_1 rfl) ?_
  refine ro rfl rfl (st_ldP (v := dL 5 e_S_api_Line a1.Lines) ta23 rfl rfl rfl rfl) ?_
  refine ro rfl rfl (st_lenD rfl un23) ?_
  refine ro rfl rfl (st_as rfl) ?_
  refine rw_nilk ?_
  refine awp_seq ?_
  refine awp_jn (fun (s117 : (Bool × Bool)) (g118 : Unit) => [(0, dL 1 (eL 1 (eI .i64)) a0), (3, .ptr 1001 0 0 0), (6, dI .i64 ((a1.Lines.length : Nat) : Int)), (28, dB s117.1)]) (fun (s117 : (Bool × Bool)) (g118 : Unit) => [(1001, .row 0 25 [[dB s117.2, dL 5 e_S_api_Line a1.Lines]])]) h ?_ ?_
  · clear h
    intro s117 g118 h
    refine awp_ite (b := s117.1) rfl (fun p120 => ?_) (fun p120 => ?_)
    · replace h := ite_T p120 h
      refine awp_rs ?_
      refine ro rfl rfl (st_as rfl) ?_
      refine ro rfl rfl (st_as rfl) ?_
      refine rw_nilk ?_
      refine awp_ret ?_
      refine rt_then ?_
      injection h with h
      subst h
      exact ret_out (v := .tup [.nilS, dB false]) (resV_many (resVs_tmp rfl (resVs_tmp rfl resVs_nil))) (frz_tup ⟨(.nilS _), (.keep rfl), trivial⟩)
    · replace h := ite_F p120 h
      refine awp_skip ?_
      refine nx_then ?_
      refine awp_seq ?_
      refine awp_rs ?_
      refine ro rfl rfl (st_as rfl) ?_
      refine rw_nilk ?_
      refine awp_block ?_
      refine awp_lenC (r := 1001) (i := 1) rfl rfl (fun hl124 => ?_)
      rw [List.length_map] at hl124
      refine awp_range (fun (j124 : Nat) (s121 : Unit) (g122 : Unit) => [(0, dL 1 (eL 1 (eI .i64)) a0), (3, .ptr 1001 0 0 0), (6, dI .i64 ((a1.Lines.length : Nat) : Int)), (7, dI .i64 ((j124 : Nat) : Int))]) (fun (s121 : Unit) (g122 : Unit) => [(1001, .row 0 25 [[dB s117.2, dL 5 e_S_api_Line a1.Lines]])]) () (fun _ _ _ h => h) h (gh_frz rfl rfl ⟨⟨_, rfl, .keep rfl⟩, ⟨_, rfl, .keep rfl⟩, ⟨_, rfl, .keep rfl⟩, ⟨_, rfl, .keep rfl⟩, trivial⟩ ⟨⟨_, rfl, objOne ⟨⟨rfl, .keep rfl⟩, ⟨rfl, .keep rfl⟩, trivial⟩⟩, trivial⟩) ?_ ?_
      · clear h
        intro j124 x125 s121 g122 k123 hj124 hx124 h ih123
        refine awp_seq ?_
        refine awp_rs ?_
        refine ro rfl rfl (st_mv rfl) ?_
        refine ro rfl rfl (st_mv rfl) ?_
        refine ro rfl rfl (st_bin (v := dB (decide (((j124 : Nat) : Int) < ((a1.Lines.length : Nat) : Int)))) rfl rfl rfl) ?_
        refine rw_nilk ?_
        refine awp_ifT rfl (dlt hj124) ?_
        refine awp_skip ?_
        refine nx_then ?_
        refine awp_jn (fun (s276 : Unit) (g277 : Unit) => [(0, dL 1 (eL 1 (eI .i64)) a0), (3, .ptr 1001 0 0 0), (6, dI .i64 ((a1.Lines.length : Nat) : Int)), (7, dI .i64 ((j124 : Nat) : Int))]) (fun (s276 : Unit) (g277 : Unit) => [(1001, .row 0 25 [[dB s117.2, dL 5 e_S_api_Line a1.Lines]])]) h ?_ ?_
        · clear h
          intro s276 g277 h
          refine awp_rw ?_
          refine ro rfl rfl (st_mv rfl) ?_
          refine ro rfl rfl (st_inc rfl rfl hj124 hl124) ?_
          refine ro rfl rfl (st_as rfl) ?_
          refine rw_nil ?_
          refine nx_then ?_
          refine awp_gh ?_ (ih123 () () h)
          exact (gh_frz rfl rfl ⟨⟨_, rfl, .keep rfl⟩, ⟨_, rfl, .keep rfl⟩, ⟨_, rfl, .keep rfl⟩, ⟨_, rfl, .keep rfl⟩, trivial⟩ ⟨⟨_, rfl, objOne ⟨⟨rfl, .keep rfl⟩, ⟨rfl, .keep rfl⟩, trivial⟩⟩, trivial⟩)
        · clear h
          intro k278 h J278
          refine awp_block ?_
          refine awp_rs ?_
          refine ro rfl rfl (st_faP fo25_1 rfl) ?_
          refine ro rfl rfl (st_ldP (v := dL 5 e_S_api_Line a1.Lines) ta23 rfl rfl rfl rfl) ?_
          refine ro rfl rfl (st_mv rfl) ?_
          refine ro rfl rfl (st_ixDn sl23 rfl rfl hx124) ?_
          refine ro rfl rfl (st_ldD (v := .agg [dI .u8 x125.Rule, dI .i64 x125.A, dI .i64 x125.B, dI .i64 x125.Piv, dL 1 (eI .i64) x125.Lits]) ta58 rfl rfl) ?_
          refine rn (r := 1002) rfl rfl (st_alloc zc58 rfl rfl) rfl ?_
          refine rx (L' := [(1001, .row 0 25 [[dB s117.2, dL 5 e_S_api_Line a1.Lines]]), (1002, .row 0 58 [[dI .u8 x125.Rule, dI .i64 x125.A, dI .i64 x125.B, dI .i64 x125.Piv, dL 1 (eI .i64) x125.Lits]])]) rfl rfl (st_stP ta58 rfl rfl rfl rfl rfl rfl rfl rfl) rfl ?_
          refine rw_nilk ?_
          refine awp_rs ?_
          refine ro rfl rfl (st_faP fo58_0 rfl) ?_
          refine ro rfl rfl (st_ldP (v := dI .u8 x125.Rule) ta56 rfl rfl rfl rfl) ?_
          refine rw_nilk ?_
          refine awp_block ?_
          refine awp_rs ?_
          refine ro rfl rfl (st_bin (v := dB (x125.Rule == (1 : Int))) rfl rfl rfl) ?_
          refine ro rfl rfl (st_as rfl) ?_
          refine rw_nilk ?_
          refine awp_ite (b := (x125.Rule == (1 : Int))) rfl (fun p279 => ?_) (fun p279 => ?_)
          · replace h := ite_T p279 h
            refine awp_jn (fun (s286 : Bool) (g287 : Unit) => [(0, dL 1 (eL 1 (eI .i64)) a0), (3, .ptr 1001 0 0 0), (6, dI .i64 ((a1.Lines.length : Nat) : Int)), (7, dI .i64 ((j124 : Nat) : Int)), (73, dB s286)]) (fun (s286 : Bool) (g287 : Unit) => [(1001, .row 0 25 [[dB s117.2, dL 5 e_S_api_Line a1.Lines]])]) h ?_ ?_
            · clear h
              intro s286 g287 h
              refine awp_ite (b := s286) rfl (fun p289 => ?_) (fun p289 => ?_)
              · replace h := ite_T p289 h
                refine awp_rs ?_
                refine ro rfl rfl (st_as rfl) ?_
                refine ro rfl rfl (st_as rfl) ?_
                refine rw_nilk ?_
                refine awp_ret ?_
                refine rt_block ?_
                refine rt_block ?_
                refine rt_then ?_
                refine rt_then ?_
                refine rt_block ?_
                refine rt_then ?_
                injection h with h
                subst h
                exact ret_out (v := .tup [.nilS, dB false]) (resV_many (resVs_tmp rfl (resVs_tmp rfl resVs_nil))) (frz_tup ⟨(.nilS _), (.keep rfl), trivial⟩)
              · replace h := ite_F p289 h
                refine awp_skip ?_
                refine nx_block ?_
                refine nx_block ?_
                refine nx_then ?_
                exact J278 () () _ _ h (gh_frz rfl rfl ⟨⟨_, rfl, .keep rfl⟩, ⟨_, rfl, .keep rfl⟩, ⟨_, rfl, .keep rfl⟩, ⟨_, rfl, .keep rfl⟩, trivial⟩ ⟨⟨_, rfl, objOne ⟨⟨rfl, .keep rfl⟩, ⟨rfl, .keep rfl⟩, trivial⟩⟩, trivial⟩)
            · clear h
              intro k288 h J288
              refine awp_rd hmix ?_
              refine do_ rfl rfl (st_faP fo58_1 rfl) rfl rfl rfl ?_
              refine do_ rfl rfl (st_ldP (v := dI .i64 x125.A) ta3 rfl rfl rfl rfl) rfl rfl rfl ?_
              refine do_ rfl rfl (st_bin (v := dB (decide (x125.A < (0 : Int)))) rfl rfl rfl) rfl rfl rfl ?_
              refine do_ rfl rfl (st_mv rfl) rfl rfl rfl ?_
              refine bool_split (decide (x125.A < (0 : Int))) (fun p290 => ?_) (fun p290 => ?_)
              · replace h := ite_T p290 h
                rw [p290]
                refine dz rfl rfl ?_
                refine dz rfl rfl ?_
                refine dz rfl rfl ?_
                refine dz rfl rfl ?_
                refine dz rfl rfl ?_
                refine do_ rfl rfl (st_pickT rfl rfl) rfl rfl rfl ?_
                refine do_ rfl rfl (st_mv rfl) rfl rfl rfl ?_
                refine dz rfl rfl ?_
                refine dz rfl rfl ?_
                refine dz rfl rfl ?_
                refine do_ rfl rfl (st_pickT rfl rfl) rfl rfl rfl ?_
                refine do_ rfl rfl (st_mv rfl) rfl rfl rfl ?_
                refine dz rfl rfl ?_
                refine dz rfl rfl ?_
                refine dz rfl rfl ?_
                refine do_ rfl rfl (st_pickT rfl rfl) rfl rfl rfl ?_
                refine do_ rfl rfl (st_mv rfl) rfl rfl rfl ?_
                refine dz rfl rfl ?_
                refine dz rfl rfl ?_
                refine dz rfl rfl ?_
                refine dz rfl rfl ?_
                refine dz rfl rfl ?_
                refine dz rfl rfl ?_
                refine dz rfl rfl ?_
                refine dz rfl rfl ?_
                refine dz rfl rfl ?_
                refine do_ rfl rfl (st_pickT rfl rfl) rfl rfl rfl ?_
                refine rd_nil (by kernel_rfl) ?_
                refine nx_then ?_
                exact J288 true () _ _ h (gh_frz rfl rfl ⟨⟨_, rfl, .keep rfl⟩, ⟨_, rfl, .keep rfl⟩, ⟨_, rfl, .keep rfl⟩, ⟨_, rfl, .keep rfl⟩, ⟨_, rfl, .keep rfl⟩, trivial⟩ ⟨⟨_, rfl, objOne ⟨⟨rfl, .keep rfl⟩, ⟨rfl, .keep rfl⟩, trivial⟩⟩, trivial⟩)
              · replace h := ite_F p290 h
                rw [p290]
                refine do_ rfl rfl (st_faP fo58_1 rfl) rfl rfl rfl ?_
                refine do_ rfl rfl (st_ldP (v := dI .i64 x125.A) ta3 rfl rfl rfl rfl) rfl rfl rfl ?_
                refine do_ rfl rfl (st_mv rfl) rfl rfl rfl ?_
                refine do_ rfl rfl (st_lenD rfl un22) rfl rfl rfl ?_
                refine do_ rfl rfl (st_bin (v := dB (decide (x125.A ≥ ((a0.length : Nat) : Int)))) rfl rfl rfl) rfl rfl rfl ?_
                refine do_ rfl rfl (st_pickF rfl rfl) rfl rfl rfl ?_
                refine do_ rfl rfl (st_mv rfl) rfl rfl rfl ?_
                refine bool_split (decide (x125.A ≥ ((a0.length : Nat) : Int))) (fun p291 => ?_) (fun p291 => ?_)
                · replace h := ite_T p291 h
                  rw [p291]
                  refine dz rfl rfl ?_
                  refine dz rfl rfl ?_
                  refine dz rfl rfl ?_
                  refine do_ rfl rfl (st_pickT rfl rfl) rfl rfl rfl ?_
                  refine do_ rfl rfl (st_mv rfl) rfl rfl rfl ?_
                  refine dz rfl rfl ?_
                  refine dz rfl rfl ?_
                  refine dz rfl rfl ?_
                  refine do_ rfl rfl (st_pickT rfl rfl) rfl rfl rfl ?_
                  refine do_ rfl rfl (st_mv rfl) rfl rfl rfl ?_
                  refine dz rfl rfl ?_
                  refine dz rfl rfl ?_
                  refine dz rfl rfl ?_
                  refine dz rfl rfl ?_
                  refine dz rfl rfl ?_
                  refine dz rfl rfl ?_
                  refine dz rfl rfl ?_
                  refine dz rfl rfl ?_
                  refine dz rfl rfl ?_
                  refine do_ rfl rfl (st_pickT rfl rfl) rfl rfl rfl ?_
                  refine rd_nil (by kernel_rfl) ?_
                  refine nx_then ?_
                  exact J288 true () _ _ h (gh_frz rfl rfl ⟨⟨_, rfl, .keep rfl⟩, ⟨_, rfl, .keep rfl⟩, ⟨_, rfl, .keep rfl⟩, ⟨_, rfl, .keep rfl⟩, ⟨_, rfl, .keep rfl⟩, trivial⟩ ⟨⟨_, rfl, objOne ⟨⟨rfl, .keep rfl⟩, ⟨rfl, .keep rfl⟩, trivial⟩⟩, trivial⟩)
                · replace h := ite_F p291 h
                  rw [p291]
                  refine do_ rfl rfl (st_faP fo58_2 rfl) rfl rfl rfl ?_
                  refine do_ rfl rfl (st_ldP (v := dI .i64 x125.B) ta3 rfl rfl rfl rfl) rfl rfl rfl ?_
                  refine do_ rfl rfl (st_bin (v := dB (x125.B != (0 : Int))) rfl rfl rfl) rfl rfl rfl ?_
                  refine do_ rfl rfl (st_pickF rfl rfl) rfl rfl rfl ?_
                  refine do_ rfl rfl (st_mv rfl) rfl rfl rfl ?_
                  refine bool_split (x125.B != (0 : Int)) (fun p292 => ?_) (fun p292 => ?_)
                  · replace h := ite_T p292 h
                    rw [p292]
                    refine dz rfl rfl ?_
                    refine dz rfl rfl ?_
                    refine dz rfl rfl ?_
                    refine do_ rfl rfl (st_pickT rfl rfl) rfl rfl rfl ?_
                    refine do_ rfl rfl (st_mv rfl) rfl rfl rfl ?_
                    refine dz rfl rfl ?_
                    refine dz rfl rfl ?_
                    refine dz rfl rfl ?_
                    refine dz rfl rfl ?_
                    refine dz rfl rfl ?_
                    refine dz rfl rfl ?_
                    refine dz rfl rfl ?_
                    refine dz rfl rfl ?_
                    refine dz rfl rfl ?_
                    refine do_ rfl rfl (st_pickT rfl rfl) rfl rfl rfl ?_
                    refine rd_nil (by kernel_rfl) ?_
                    refine nx_then ?_
                    exact J288 true () _ _ h (gh_frz rfl rfl ⟨⟨_, rfl, .keep rfl⟩, ⟨_, rfl, .keep rfl⟩, ⟨_, rfl, .keep rfl⟩, ⟨_, rfl, .keep rfl⟩, ⟨_, rfl, .keep rfl⟩, trivial⟩ ⟨⟨_, rfl, objOne ⟨⟨rfl, .keep rfl⟩, ⟨rfl, .keep rfl⟩, trivial⟩⟩, trivial⟩)
                  · replace h := ite_F p292 h
                    rw [p292]
                    refine do_ rfl rfl (st_faP fo58_3 rfl) rfl rfl rfl ?_
                    refine do_ rfl rfl (st_ldP (v := dI .i64 x125.Piv) ta3 rfl rfl rfl rfl) rfl rfl rfl ?_
                    refine do_ rfl rfl (st_bin (v := dB (x125.Piv != (0 : Int))) rfl rfl rfl) rfl rfl rfl ?_
                    refine do_ rfl rfl (st_pickF rfl rfl) rfl rfl rfl ?_
                    refine do_ rfl rfl (st_mv rfl) rfl rfl rfl ?_
                    refine bool_split (x125.Piv != (0 : Int)) (fun p293 => ?_) (fun p293 => ?_)
                    · replace h := ite_T p293 h
                      rw [p293]
                      refine dz rfl rfl ?_
                      refine dz rfl rfl ?_
                      refine dz rfl rfl ?_
                      refine dz rfl rfl ?_
                      refine dz rfl rfl ?_
                      refine dz rfl rfl ?_
                      refine dz rfl rfl ?_
                      refine dz rfl rfl ?_
                      refine dz rfl rfl ?_
                      refine do_ rfl rfl (st_pickT rfl rfl) rfl rfl rfl ?_
                      refine rd_nil (by kernel_rfl) ?_
                      refine nx_then ?_
                      exact J288 true () _ _ h (gh_frz rfl rfl ⟨⟨_, rfl, .keep rfl⟩, ⟨_, rfl, .keep rfl⟩, ⟨_, rfl, .keep rfl⟩, ⟨_, rfl, .keep rfl⟩, ⟨_, rfl, .keep rfl⟩, trivial⟩ ⟨⟨_, rfl, objOne ⟨⟨rfl, .keep rfl⟩, ⟨rfl, .keep rfl⟩, trivial⟩⟩, trivial⟩)
                    · replace h := ite_F p293 h
                      rw [p293]
                      refine do_ rfl rfl (st_faP fo58_4 rfl) rfl rfl rfl ?_
                      refine do_ rfl rfl (st_ldP (v := dL 1 (eI .i64) x125.Lits) ta28 rfl rfl rfl rfl) rfl rfl rfl ?_
                      refine do_ rfl rfl (st_mv rfl) rfl rfl rfl ?_
                      refine do_ rfl rfl (st_faP fo58_1 rfl) rfl rfl rfl ?_
                      refine do_ rfl rfl (st_ldP (v := dI .i64 x125.A) ta3 rfl rfl rfl rfl) rfl rfl rfl ?_
                      obtain ⟨x294, h0294, hx294, h⟩ := getI_some h
                      refine do_ rfl rfl (st_ixD sl22 rfl rfl h0294 hx294) rfl rfl rfl ?_
                      refine do_ rfl rfl (st_ldD (v := dL 1 (eI .i64) x294) ta28 rfl rfl) rfl rfl rfl ?_
                      obtain ⟨y295, hy295, h⟩ := bind_some_elim h
                      refine df rfl rfl (ok_skolemref09_Same hy295) rfl rfl ?_
                      refine do_ rfl rfl (st_un (v := dB (!y295)) rfl rfl) rfl rfl rfl ?_
                      refine do_ rfl rfl (st_pickF rfl rfl) rfl rfl rfl ?_
                      refine rd_nil (by kernel_rfl) ?_
                      refine nx_then ?_
                      exact J288 (!y295) () _ _ h (gh_frz rfl rfl ⟨⟨_, rfl, .keep rfl⟩, ⟨_, rfl, .keep rfl⟩, ⟨_, rfl, .keep rfl⟩, ⟨_, rfl, .keep rfl⟩, ⟨_, rfl, .keep rfl⟩, trivial⟩ ⟨⟨_, rfl, objOne ⟨⟨rfl, .keep rfl⟩, ⟨rfl, .keep rfl⟩, trivial⟩⟩, trivial⟩)
          · replace h := ite_F p279 h
            refine awp_rs ?_
            refine ro rfl rfl (st_bin (v := dB (x125.Rule == (2 : Int))) rfl rfl rfl) ?_
            refine ro rfl rfl (st_as rfl) ?_
            refine rw_nilk ?_
            refine awp_ite (b := (x125.Rule == (2 : Int))) rfl (fun p296 => ?_) (fun p296 => ?_)
            · replace h := ite_T p296 h
              refine awp_seq ?_
              refine awp_jn (fun (s310 : Bool) (g311 : Unit) => [(0, dL 1 (eL 1 (eI .i64)) a0), (3, .ptr 1001 0 0 0), (6, dI .i64 ((a1.Lines.length : Nat) : Int)), (7, dI .i64 ((j124 : Nat) : Int)), (8, .ptr 1002 0 0 0), (95, dB s310)]) (fun (s310 : Bool) (g311 : Unit) => [(1001, .row 0 25 [[dB s117.2, dL 5 e_S_api_Line a1.Lines]]), (1002, .row 0 58 [[dI .u8 x125.Rule, dI .i64 x125.A, dI .i64 x125.B, dI .i64 x125.Piv, dL 1 (eI .i64) x125.Lits]])]) h ?_ ?_
              · clear h
                intro s310 g311 h
                refine awp_ite (b := s310) rfl (fun p313 => ?_) (fun p313 => ?_)
                · replace h := ite_T p313 h
                  refine awp_rs ?_
                  refine ro rfl rfl (st_as rfl) ?_
                  refine ro rfl rfl (st_as rfl) ?_
                  refine rw_nilk ?_
                  refine awp_ret ?_
                  refine rt_then ?_
                  refine rt_block ?_
                  refine rt_block ?_
                  refine rt_then ?_
                  refine rt_then ?_
                  refine rt_block ?_
                  refine rt_then ?_
                  injection h with h
                  subst h
                  exact ret_out (v := .tup [.nilS, dB false]) (resV_many (resVs_tmp rfl (resVs_tmp rfl resVs_nil))) (frz_tup ⟨(.nilS _), (.keep rfl), trivial⟩)
                · replace h := ite_F p313 h
                  refine awp_skip ?_
                  refine nx_then ?_
                  refine awp_rds hmix ?_
                  refine do_ rfl rfl (st_faP fo25_1 rfl) rfl rfl rfl ?_
                  refine do_ rfl rfl (st_ldP (v := dL 5 e_S_api_Line a1.Lines) ta23 rfl rfl rfl rfl) rfl rfl rfl ?_
                  refine do_ rfl rfl (st_faP fo58_1 rfl) rfl rfl rfl ?_
                  refine do_ rfl rfl (st_ldP (v := dI .i64 x125.A) ta3 rfl rfl rfl rfl) rfl rfl rfl ?_
                  obtain ⟨x314, h0314, hx314, h⟩ := getI_some h
                  refine do_ rfl rfl (st_ixD sl23 rfl rfl h0314 hx314) rfl rfl rfl ?_
                  refine do_ rfl rfl (st_faD fo58_4 rfl) rfl rfl rfl ?_
                  refine do_ rfl rfl (st_ldD (v := dL 1 (eI .i64) x314.Lits) ta28 rfl rfl) rfl rfl rfl ?_
                  refine do_ rfl rfl (st_faP fo25_1 rfl) rfl rfl rfl ?_
                  refine do_ rfl rfl (st_ldP (v := dL 5 e_S_api_Line a1.Lines) ta23 rfl rfl rfl rfl) rfl rfl rfl ?_
                  refine do_ rfl rfl (st_faP fo58_2 rfl) rfl rfl rfl ?_
                  refine do_ rfl rfl (st_ldP (v := dI .i64 x125.B) ta3 rfl rfl rfl rfl) rfl rfl rfl ?_
                  obtain ⟨x315, h0315, hx315, h⟩ := getI_some h
                  refine do_ rfl rfl (st_ixD sl23 rfl rfl h0315 hx315) rfl rfl rfl ?_
                  refine do_ rfl rfl (st_faD fo58_4 rfl) rfl rfl rfl ?_
                  refine do_ rfl rfl (st_ldD (v := dL 1 (eI .i64) x315.Lits) ta28 rfl rfl) rfl rfl rfl ?_
                  refine do_ rfl rfl (st_faP fo58_3 rfl) rfl rfl rfl ?_
                  refine do_ rfl rfl (st_ldP (v := dI .i64 x125.Piv) ta3 rfl rfl rfl rfl) rfl rfl rfl ?_
                  obtain ⟨y316, hy316, h⟩ := bind_some_elim h
                  refine df rfl rfl (ok_skolemref09_Resolvent hy316) rfl rfl ?_
                  refine do_ rfl rfl (st_mv rfl) rfl rfl rfl ?_
                  refine do_ rfl rfl (st_ext rfl rfl) rfl rfl rfl ?_
                  refine do_ rfl rfl (st_ext rfl rfl) rfl rfl rfl ?_
                  refine do_ rfl rfl (st_as rfl) rfl rfl rfl ?_
                  refine do_ rfl rfl (st_as rfl) rfl rfl rfl ?_
                  refine rd_nil (by kernel_rfl) ?_
                  refine awp_jn (fun (s319 : Bool) (g320 : Unit) => [(0, dL 1 (eL 1 (eI .i64)) a0), (3, .ptr 1001 0 0 0), (6, dI .i64 ((a1.Lines.length : Nat) : Int)), (7, dI .i64 ((j124 : Nat) : Int)), (124, dB s319)]) (fun (s319 : Bool) (g320 : Unit) => [(1001, .row 0 25 [[dB s117.2, dL 5 e_S_api_Line a1.Lines]])]) h ?_ ?_
                  · clear h
                    intro s319 g320 h
                    refine awp_ite (b := s319) rfl (fun p322 => ?_) (fun p322 => ?_)
                    · replace h := ite_T p322 h
                      refine awp_rs ?_
                      refine ro rfl rfl (st_as rfl) ?_
                      refine ro rfl rfl (st_as rfl) ?_
                      refine rw_nilk ?_
                      refine awp_ret ?_
                      refine rt_block ?_
                      refine rt_block ?_
                      refine rt_then ?_
                      refine rt_then ?_
                      refine rt_block ?_
                      refine rt_then ?_
                      injection h with h
                      subst h
                      exact ret_out (v := .tup [.nilS, dB false]) (resV_many (resVs_tmp rfl (resVs_tmp rfl resVs_nil))) (frz_tup ⟨(.nilS _), (.keep rfl), trivial⟩)
                    · replace h := ite_F p322 h
                      refine awp_skip ?_
                      refine nx_block ?_
                      refine nx_block ?_
                      refine nx_then ?_
                      exact J278 () () _ _ h (gh_frz rfl rfl ⟨⟨_, rfl, .keep rfl⟩, ⟨_, rfl, .keep rfl⟩, ⟨_, rfl, .keep rfl⟩, ⟨_, rfl, .keep rfl⟩, trivial⟩ ⟨⟨_, rfl, objOne ⟨⟨rfl, .keep rfl⟩, ⟨rfl, .keep rfl⟩, trivial⟩⟩, trivial⟩)
                  · clear h
                    intro k321 h J321
                    refine awp_rw ?_
                    refine ro rfl rfl (st_mv rfl) ?_
                    refine ro rfl rfl (st_un (v := dB (!y316.2)) rfl rfl) ?_
                    refine ro rfl rfl (st_mv rfl) ?_
                    refine bool_split (!y316.2) (fun p323 => ?_) (fun p323 => ?_)
                    · replace h := ite_T p323 h
                      rw [p323]
                      refine rz rfl rfl ?_
                      refine rz rfl rfl ?_
                      refine rz rfl rfl ?_
                      refine rz rfl rfl ?_
                      refine rz rfl rfl ?_
                      refine ro rfl rfl (st_pickT rfl rfl) ?_
                      refine rw_nil ?_
                      refine nx_then ?_
                      exact J321 true () _ _ h (gh_frz rfl rfl ⟨⟨_, rfl, .keep rfl⟩, ⟨_, rfl, .keep rfl⟩, ⟨_, rfl, .keep rfl⟩, ⟨_, rfl, .keep rfl⟩, ⟨_, rfl, .keep rfl⟩, trivial⟩ ⟨⟨_, rfl, objOne ⟨⟨rfl, .keep rfl⟩, ⟨rfl, .keep rfl⟩, trivial⟩⟩, trivial⟩)
                    · replace h := ite_F p323 h
                      rw [p323]
                      refine ro rfl rfl (st_mv rfl) ?_
                      refine ro rfl rfl (st_faP fo58_4 rfl) ?_
                      refine ro rfl rfl (st_ldP (v := dL 1 (eI .i64) x125.Lits) ta28 rfl rfl rfl rfl) ?_
                      obtain ⟨y324, hy324, h⟩ := bind_some_elim h
                      refine rf rfl rfl (ok_skolemref09_Same hy324) rfl rfl ?_
                      refine ro rfl rfl (st_un (v := dB (!y324)) rfl rfl) ?_
                      refine ro rfl rfl (st_pickF rfl rfl) ?_
                      refine rw_nil ?_
                      refine nx_then ?_
                      exact J321 (!y324) () _ _ h (gh_frz rfl rfl ⟨⟨_, rfl, .keep rfl⟩, ⟨_, rfl, .keep rfl⟩, ⟨_, rfl, .keep rfl⟩, ⟨_, rfl, .keep rfl⟩, ⟨_, rfl, .keep rfl⟩, trivial⟩ ⟨⟨_, rfl, objOne ⟨⟨rfl, .keep rfl⟩, ⟨rfl, .keep rfl⟩, trivial⟩⟩, trivial⟩)
              · clear h
                intro k312 h J312
                refine awp_rw ?_
                refine ro rfl rfl (st_faP fo58_1 rfl) ?_
                refine ro rfl rfl (st_ldP (v := dI .i64 x125.A) ta3 rfl rfl rfl rfl) ?_
                refine ro rfl rfl (st_bin (v := dB (decide (x125.A < (0 : Int)))) rfl rfl rfl) ?_
                refine ro rfl rfl (st_mv rfl) ?_
                refine bool_split (decide (x125.A < (0 : Int))) (fun p325 => ?_) (fun p325 => ?_)
                · replace h := ite_T p325 h
                  rw [p325]
                  refine rz rfl rfl ?_
                  refine rz rfl rfl ?_
                  refine rz rfl rfl ?_
                  refine rz rfl rfl ?_
                  refine ro rfl rfl (st_pickT rfl rfl) ?_
                  refine ro rfl rfl (st_mv rfl) ?_
                  refine rz rfl rfl ?_
                  refine rz rfl rfl ?_
                  refine rz rfl rfl ?_
                  refine ro rfl rfl (st_pickT rfl rfl) ?_
                  refine ro rfl rfl (st_mv rfl) ?_
                  refine rz rfl rfl ?_
                  refine rz rfl rfl ?_
                  refine rz rfl rfl ?_
                  refine rz rfl rfl ?_
                  refine ro rfl rfl (st_pickT rfl rfl) ?_
                  refine rw_nil ?_
                  refine nx_then ?_
                  exact J312 true () _ _ h (gh_frz rfl rfl ⟨⟨_, rfl, .keep rfl⟩, ⟨_, rfl, .keep rfl⟩, ⟨_, rfl, .keep rfl⟩, ⟨_, rfl, .keep rfl⟩, ⟨_, rfl, .keep rfl⟩, ⟨_, rfl, .keep rfl⟩, trivial⟩ ⟨⟨_, rfl, objOne ⟨⟨rfl, .keep rfl⟩, ⟨rfl, .keep rfl⟩, trivial⟩⟩, ⟨_, rfl, objOne ⟨⟨rfl, .keep rfl⟩, ⟨rfl, .keep rfl⟩, ⟨rfl, .keep rfl⟩, ⟨rfl, .keep rfl⟩, ⟨rfl, .keep rfl⟩, trivial⟩⟩, trivial⟩)
                · replace h := ite_F p325 h
                  rw [p325]
                  refine ro rfl rfl (st_faP fo58_1 rfl) ?_
                  refine ro rfl rfl (st_ldP (v := dI .i64 x125.A) ta3 rfl rfl rfl rfl) ?_
                  refine ro rfl rfl (st_mv rfl) ?_
                  refine ro rfl rfl (st_bin (v := dB (decide (x125.A ≥ ((j124 : Nat) : Int)))) rfl rfl rfl) ?_
                  refine ro rfl rfl (st_pickF rfl rfl) ?_
                  refine ro rfl rfl (st_mv rfl) ?_
                  refine bool_split (decide (x125.A ≥ ((j124 : Nat) : Int))) (fun p326 => ?_) (fun p326 => ?_)
                  · replace h := ite_T p326 h
                    rw [p326]
                    refine rz rfl rfl ?_
                    refine rz rfl rfl ?_
                    refine rz rfl rfl ?_
                    refine ro rfl rfl (st_pickT rfl rfl) ?_
                    refine ro rfl rfl (st_mv rfl) ?_
                    refine rz rfl rfl ?_
                    refine rz rfl rfl ?_
                    refine rz rfl rfl ?_
                    refine rz rfl rfl ?_
                    refine ro rfl rfl (st_pickT rfl rfl) ?_
                    refine rw_nil ?_
                    refine nx_then ?_
                    exact J312 true () _ _ h (gh_frz rfl rfl ⟨⟨_, rfl, .keep rfl⟩, ⟨_, rfl, .keep rfl⟩, ⟨_, rfl, .keep rfl⟩, ⟨_, rfl, .keep rfl⟩, ⟨_, rfl, .keep rfl⟩, ⟨_, rfl, .keep rfl⟩, trivial⟩ ⟨⟨_, rfl, objOne ⟨⟨rfl, .keep rfl⟩, ⟨rfl, .keep rfl⟩, trivial⟩⟩, ⟨_, rfl, objOne ⟨⟨rfl, .keep rfl⟩, ⟨rfl, .keep rfl⟩, ⟨rfl, .keep rfl⟩, ⟨rfl, .keep rfl⟩, ⟨rfl, .keep rfl⟩, trivial⟩⟩, trivial⟩)
                  · replace h := ite_F p326 h
                    rw [p326]
                    refine ro rfl rfl (st_faP fo58_2 rfl) ?_
                    refine ro rfl rfl (st_ldP (v := dI .i64 x125.B) ta3 rfl rfl rfl rfl) ?_
                    refine ro rfl rfl (st_bin (v := dB (decide (x125.B < (0 : Int)))) rfl rfl rfl) ?_
                    refine ro rfl rfl (st_pickF rfl rfl) ?_
                    refine ro rfl rfl (st_mv rfl) ?_
                    refine bool_split (decide (x125.B < (0 : Int))) (fun p327 => ?_) (fun p327 => ?_)
                    · replace h := ite_T p327 h
                      rw [p327]
                      refine rz rfl rfl ?_
                      refine rz rfl rfl ?_
                      refine rz rfl rfl ?_
                      refine rz rfl rfl ?_
                      refine ro rfl rfl (st_pickT rfl rfl) ?_
                      refine rw_nil ?_
                      refine nx_then ?_
                      exact J312 true () _ _ h (gh_frz rfl rfl ⟨⟨_, rfl, .keep rfl⟩, ⟨_, rfl, .keep rfl⟩, ⟨_, rfl, .keep rfl⟩, ⟨_, rfl, .keep rfl⟩, ⟨_, rfl, .keep rfl⟩, ⟨_, rfl, .keep rfl⟩, trivial⟩ ⟨⟨_, rfl, objOne ⟨⟨rfl, .keep rfl⟩, ⟨rfl, .keep rfl⟩, trivial⟩⟩, ⟨_, rfl, objOne ⟨⟨rfl, .keep rfl⟩, ⟨rfl, .keep rfl⟩, ⟨rfl, .keep rfl⟩, ⟨rfl, .keep rfl⟩, ⟨rfl, .keep rfl⟩, trivial⟩⟩, trivial⟩)
                    · replace h := ite_F p327 h
                      rw [p327]
                      refine ro rfl rfl (st_faP fo58_2 rfl) ?_
                      refine ro rfl rfl (st_ldP (v := dI .i64 x125.B) ta3 rfl rfl rfl rfl) ?_
                      refine ro rfl rfl (st_mv rfl) ?_
                      refine ro rfl rfl (st_bin (v := dB (decide (x125.B ≥ ((j124 : Nat) : Int)))) rfl rfl rfl) ?_
                      refine ro rfl rfl (st_pickF rfl rfl) ?_
                      refine rw_nil ?_
                      refine nx_then ?_
                      exact J312 (decide (x125.B ≥ ((j124 : Nat) : Int))) () _ _ h (gh_frz rfl rfl ⟨⟨_, rfl, .keep rfl⟩, ⟨_, rfl, .keep rfl⟩, ⟨_, rfl, .keep rfl⟩, ⟨_, rfl, .keep rfl⟩, ⟨_, rfl, .keep rfl⟩, ⟨_, rfl, .keep rfl⟩, trivial⟩ ⟨⟨_, rfl, objOne ⟨⟨rfl, .keep rfl⟩, ⟨rfl, .keep rfl⟩, trivial⟩⟩, ⟨_, rfl, objOne ⟨⟨rfl, .keep rfl⟩, ⟨rfl, .keep rfl⟩, ⟨rfl, .keep rfl⟩, ⟨rfl, .keep rfl⟩, ⟨rfl, .keep rfl⟩, trivial⟩⟩, trivial⟩)
            · replace h := ite_F p296 h
              refine awp_rs ?_
              refine ro rfl rfl (st_as rfl) ?_
              refine ro rfl rfl (st_as rfl) ?_
              refine rw_nilk ?_
              refine awp_ret ?_
              refine rt_block ?_
              refine rt_block ?_
              refine rt_then ?_
              refine rt_then ?_
              refine rt_block ?_
              refine rt_then ?_
              injection h with h
              subst h
              exact ret_out (v := .tup [.nilS, dB false]) (resV_many (resVs_tmp rfl (resVs_tmp rfl resVs_nil))) (frz_tup ⟨(.nilS _), (.keep rfl), trivial⟩)
      · clear h
        intro s121 g122 h
        refine awp_seq ?_
        refine awp_rs ?_
        refine ro rfl rfl (st_mv rfl) ?_
        refine ro rfl rfl (st_mv rfl) ?_
        refine ro rfl rfl (st_bin (v := dB (decide (((a1.Lines.length : Nat) : Int) < ((a1.Lines.length : Nat) : Int)))) rfl rfl rfl) ?_
        refine rw_nilk ?_
        refine awp_ifF rfl dge ?_
        refine awp_exit ?_
        refine ex_out ?_
        refine ex_out ?_
        refine ex_in ?_
        refine nx_then ?_
        refine awp_rs ?_
        refine ro rfl rfl (st_faP fo25_1 rfl) ?_
        refine ro rfl rfl (st_ldP (v := dL 5 e_S_api_Line a1.Lines) ta23 rfl rfl rfl rfl) ?_
        refine ro rfl rfl (st_mv rfl) ?_
        refine ro rfl rfl (st_bin (v := dI .i64 (IntKind.wrap .i64 (((a1.Lines.length : Nat) : Int) - (1 : Int)))) rfl rfl rfl) ?_
        obtain ⟨x328, h0328, hx328, h⟩ := getI_some h
        refine ro rfl rfl (st_ixD sl23 rfl rfl h0328 hx328) ?_
        refine ro rfl rfl (st_faD fo58_4 rfl) ?_
        refine ro rfl rfl (st_ldD (v := dL 1 (eI .i64) x328.Lits) ta28 rfl rfl) ?_
        refine ro rfl rfl (st_as rfl) ?_
        refine ro rfl rfl (st_as rfl) ?_
        refine rw_nilk ?_
        refine awp_ret ?_
        injection h with h
        subst h
        exact ret_out (v := .tup [dL 1 (eI .i64) x328.Lits, dB true]) (resV_many (resVs_tmp rfl (resVs_tmp rfl resVs_nil))) (.keep rfl)
  · clear h
    intro k119 h J119
    refine awp_rw ?_
    refine ro rfl rfl (st_mv rfl) ?_
    obtain ⟨y329, hy329, h⟩ := bind_some_elim h
    refine rf rfl rfl (ok_skolemref09_Cnf hy329) rfl rfl ?_
    refine ro rfl rfl (st_un (v := dB (!y329)) rfl rfl) ?_
    refine ro rfl rfl (st_mv rfl) ?_
    refine bool_split (!y329) (fun p330 => ?_) (fun p330 => ?_)
    · replace h := ite_T p330 h
      rw [p330]
      refine rz rfl rfl ?_
      refine rz rfl rfl ?_
      refine ro rfl rfl (st_pickT rfl rfl) ?_
      refine ro rfl rfl (st_mv rfl) ?_
      refine rz rfl rfl ?_
      refine rz rfl rfl ?_
      refine ro rfl rfl (st_pickT rfl rfl) ?_
      refine ro rfl rfl (st_mv rfl) ?_
      refine rz rfl rfl ?_
      refine rz rfl rfl ?_
      refine ro rfl rfl (st_pickT rfl rfl) ?_
      refine rw_nil ?_
      refine nx_then ?_
      exact J119 (true, a1.Cubes) () _ _ h (gh_frz rfl rfl ⟨⟨_, rfl, .keep rfl⟩, ⟨_, rfl, .keep rfl⟩, ⟨_, rfl, .keep rfl⟩, ⟨_, rfl, .keep rfl⟩, trivial⟩ ⟨⟨_, rfl, objOne ⟨⟨rfl, .keep rfl⟩, ⟨rfl, .keep rfl⟩, trivial⟩⟩, trivial⟩)
    · replace h := ite_F p330 h
      rw [p330]
      refine ro rfl rfl (st_faP fo25_0 rfl) ?_
      refine ro rfl rfl (st_ldP (v := dB a1.Cubes) ta4 rfl rfl rfl rfl) ?_
      refine ro rfl rfl (st_pickF rfl rfl) ?_
      refine ro rfl rfl (st_mv rfl) ?_
      refine bool_split a1.Cubes (fun p331 => ?_) (fun p331 => ?_)
      · replace h := ite_T p331 h
        rw [p331]
        refine rz rfl rfl ?_
        refine rz rfl rfl ?_
        refine ro rfl rfl (st_pickT rfl rfl) ?_
        refine ro rfl rfl (st_mv rfl) ?_
        refine rz rfl rfl ?_
        refine rz rfl rfl ?_
        refine ro rfl rfl (st_pickT rfl rfl) ?_
        refine rw_nil ?_
        refine nx_then ?_
        exact J119 (true, true) () _ _ h (gh_frz rfl rfl ⟨⟨_, rfl, .keep rfl⟩, ⟨_, rfl, .keep rfl⟩, ⟨_, rfl, .keep rfl⟩, ⟨_, rfl, .keep rfl⟩, trivial⟩ ⟨⟨_, rfl, objOne ⟨⟨rfl, .keep rfl⟩, ⟨rfl, .keep rfl⟩, trivial⟩⟩, trivial⟩)
      · replace h := ite_F p331 h
        rw [p331]
        refine ro rfl rfl (st_mv rfl) ?_
        refine ro rfl rfl (st_bin (v := dB (((a1.Lines.length : Nat) : Int) == (0 : Int))) rfl rfl rfl) ?_
        refine ro rfl rfl (st_pickF rfl rfl) ?_
        refine ro rfl rfl (st_mv rfl) ?_
        refine bool_split (((a1.Lines.length : Nat) : Int) == (0 : Int)) (fun p332 => ?_) (fun p332 => ?_)
        · replace h := ite_T p332 h
          rw [p332]
          refine rz rfl rfl ?_
          refine rz rfl rfl ?_
          refine ro rfl rfl (st_pickT rfl rfl) ?_
          refine rw_nil ?_
          refine nx_then ?_
          exact J119 (true, false) () _ _ h (gh_frz rfl rfl ⟨⟨_, rfl, .keep rfl⟩, ⟨_, rfl, .keep rfl⟩, ⟨_, rfl, .keep rfl⟩, ⟨_, rfl, .keep rfl⟩, trivial⟩ ⟨⟨_, rfl, objOne ⟨⟨rfl, .keep rfl⟩, ⟨rfl, .keep rfl⟩, trivial⟩⟩, trivial⟩)
        · replace h := ite_F p332 h
          rw [p332]
          refine ro rfl rfl (st_mv rfl) ?_
          refine ro rfl rfl (st_bin (v := dB (decide (((a1.Lines.length : Nat) : Int) > (1000000 : Int)))) rfl rfl rfl) ?_
          refine ro rfl rfl (st_pickF rfl rfl) ?_
          refine rw_nil ?_
          refine nx_then ?_
          exact J119 ((decide (((a1.Lines.length : Nat) : Int) > (1000000 : Int))), false) () _ _ h (gh_frz rfl rfl ⟨⟨_, rfl, .keep rfl⟩, ⟨_, rfl, .keep rfl⟩, ⟨_, rfl, .keep rfl⟩, ⟨_, rfl, .keep rfl⟩, trivial⟩ ⟨⟨_, rfl, objOne ⟨⟨rfl, .keep rfl⟩, ⟨rfl, .keep rfl⟩, trivial⟩⟩, trivial⟩)

theorem ok_proof_needed {a0 : (List S_api_Line)} {a1 : Int} {r : (List Bool)} (h : F_proof_needed a0 a1 = some r) : Fn Try.prog 67 [dL 5 e_S_api_Line a0, dI .i64 a1] (dL 1 eB r) := by
  unfold F_proof_needed at h
  refine Fn.of_body (N := 39) (rs := [.tmp 4]) Try.func67 (c := _) rfl rfl rfl (by kernel_rfl) (Nat.le_of_ble_eq_true rfl) (fun _B => ?_)
  refine awp_rs ?_
  refine ro rfl rfl (st_as rfl) ?_
  refine rw_nilk ?_
  refine awp_rs ?_
  refine ro rfl rfl (st_mv rfl) ?_
  refine ro rfl rfl (st_lenD rfl un23) ?_
  obtain ⟨c101, h⟩ := okI_some h
  refine rn (r := 1001) rfl rfl (st_mkN (f := eB) (z := false) sl94 zc4 rfl rfl rfl rfl rfl c101) rfl ?_
  refine rn (r := 1002) rfl rfl (st_alloc zc94 rfl rfl) rfl ?_
  refine rx (L' := [(1001, rw' 1 4 eB (List.replicate a0.length false)), (1002, .row 0 94 [[.slice 1001 1 0 a0.length]])]) rfl rfl (st_stP ta94 rfl rfl rfl rfl rfl rfl rfl rfl) rfl ?_
  refine rw_nilk ?_
  refine awp_rs ?_
  refine ro rfl rfl (st_ldP (v := .slice 1001 1 0 a0.length) ta94 rfl rfl rfl rfl) ?_
  refine ro rfl rfl (st_mv rfl) ?_
  obtain ⟨x102, h0102, hx102, h⟩ := getI_some h
  refine ro rfl rfl (st_ixRi sl94 rfl rfl rfl h0102 hx102 (by first | exact List.length_replicate.symm | exact (srt_length _).symm | simp [srt_length] | simp)) ?_
  refine rx (L' := [(1001, rw' 1 4 eB ((List.replicate a0.length false).set a1.toNat true)), (1002, .row 0 94 [[.slice 1001 1 0 a0.length]])]) rfl rfl (st_stT (z := true) ta4 rfl rfl rfl hx102 rfl rfl rfl rfl rfl) rfl ?_
  refine rw_nilk ?_
  refine awp_seq ?_
  refine awp_rs ?_
  refine ro rfl rfl (st_mv rfl) ?_
  refine ro rfl rfl (st_mv rfl) ?_
  refine ro rfl rfl (st_bin (v := dI .i64 (IntKind.wrap .i64 (a1 + (1 : Int)))) rfl rfl rfl) ?_
  obtain ⟨c401, h⟩ := okI_some h
  refine ro rfl rfl (st_slHi sl23 rfl rfl c401.1 c401.2) ?_
  refine ri (N := 4) (rs := [.tmp 2]) rfl rfl rfl rfl Try.func88 rfl rfl rfl (by kernel_rfl) rfl (fun _B => ?_)
  refine awp_rs ?_
  refine rn (r := 1003) rfl rfl (st_box rfl rfl rfl co23 rfl rfl) rfl ?_
  refine ro rfl rfl (st_as rfl) ?_
  refine rw_nilk ?_
  refine awp_rs ?_
  refine ro rfl rfl (st_fn rfl) ?_
  refine ro rfl rfl (st_as rfl) ?_
  refine rw_nilk ?_
  refine awp_ret ?_
  refine ret_in (v := .fn 95 [.ptr 1003 0 0 0]) (resV_one (resVs_tmp rfl resVs_nil)) ?_
  show RW _ _ _ _ _ _ _
  refine rw_nilk ?_
  refine awp_block ?_
  refine awp_rangeFuncR 1004 [(5, .ptr 1002 0 0 0)] rfl rfl rfl ⟨rfl, trivial⟩ Try.func95 rfl rfl (N' := 19) rfl (by kernel_rfl) rfl (fun O402 hO402 _B => ?_)
  refine awp_rs ?_
  refine ro rfl rfl (st_ldP (v := dL 5 e_S_api_Line (a0.take (IntKind.wrap .i64 (a1 + (1 : Int))).toNat)) ta23 rfl rfl rfl rfl) ?_
  refine ro rfl rfl (st_lenD rfl un23) ?_
  refine ro rfl rfl (st_bin (v := dI .i64 (IntKind.wrap .i64 ((((a0.take (IntKind.wrap .i64 (a1 + (1 : Int))).toNat).length : Nat) : Int) - (1 : Int)))) rfl rfl rfl) ?_
  refine ro rfl rfl (st_as rfl) ?_
  refine rw_nilk ?_
  refine awp_block ?_
  refine awp_while (fun (s403 : (Int × (List Bool))) (g404 : Unit) => [(0, .yld 1004), (1, .ptr 1003 0 0 0), (3, dI .i64 s403.1)]) (fun (s403 : (Int × (List Bool))) (g404 : Unit) => [(1001, rw' 1 4 eB s403.2), (1002, .row 0 94 [[.slice 1001 1 0 s403.2.length]]), (1003, .row 0 23 [[dL 5 e_S_api_Line (a0.take (IntKind.wrap .i64 (a1 + (1 : Int))).toNat)]]), (1004, O402 .ready none)]) () (fun _ _ _ h => h) h (gh_frz rfl rfl ⟨⟨_, rfl, .keep rfl⟩, ⟨_, rfl, .keep rfl⟩, ⟨_, rfl, .keep rfl⟩, trivial⟩ ⟨⟨_, rfl, objRow _⟩, ⟨_, rfl, objOne ⟨⟨rfl, frzN rfl (by first | exact List.length_replicate.symm | exact (srt_length _).symm | simp [srt_length] | simp)⟩, trivial⟩⟩, ⟨_, rfl, objOne ⟨⟨rfl, .keep rfl⟩, trivial⟩⟩, ⟨_, rfl, objLoop (hO402 _ _) rfl⟩, trivial⟩) ?_
  clear h
  intro s403 g404 k405 h ih405
  refine awp_seq ?_
  refine awp_rs ?_
  refine ro rfl rfl (st_mv rfl) ?_
  refine ro rfl rfl (st_bin (v := dB (decide (s403.1 ≥ (0 : Int)))) rfl rfl rfl) ?_
  refine rw_nilk ?_
  refine awp_ite (b := (decide (s403.1 ≥ (0 : Int)))) rfl (fun p602 => ?_) (fun p602 => ?_)
  · replace h := ite_T p602 h
    refine awp_skip ?_
    refine nx_then ?_
    refine awp_seq ?_
    refine awp_block ?_
    refine awp_rs ?_
    refine ro rfl rfl (st_mv rfl) ?_
    refine ro rfl rfl (st_mv rfl) ?_
    refine ro rfl rfl (st_ldP (v := dL 5 e_S_api_Line (a0.take (IntKind.wrap .i64 (a1 + (1 : Int))).toNat)) ta23 rfl rfl rfl rfl) ?_
    refine ro rfl rfl (st_mv rfl) ?_
    obtain ⟨x675, h0675, hx675, h⟩ := getI_some h
    refine ro rfl rfl (st_ixD sl23 rfl rfl h0675 hx675) ?_
    refine ro rfl rfl (st_ldD (v := .agg [dI .u8 x675.Rule, dI .i64 x675.A, dI .i64 x675.B, dI .i64 x675.Piv, dL 1 (eI .i64) x675.Lits]) ta58 rfl rfl) ?_
    refine rw_jn (fun (s686 : (List Bool)) (g687 : Unit) => [(0, .yld 1004), (1, .ptr 1003 0 0 0), (3, dI .i64 s403.1), (17, dB true)]) (fun (s686 : (List Bool)) (g687 : Unit) => [(1001, rw' 1 4 eB s686), (1002, .row 0 94 [[.slice 1001 1 0 s686.length]]), (1003, .row 0 23 [[dL 5 e_S_api_Line (a0.take (IntKind.wrap .i64 (a1 + (1 : Int))).toNat)]]), (1004, O402 .ready none)]) h ?_ ?_
    · clear h
      intro s686 g687 h
      refine ro rfl rfl (st_un (v := dB false) rfl rfl) ?_
      refine rw_nilk ?_
      refine awp_condF rfl ?_
      refine awp_skip ?_
      refine nx_block ?_
      refine nx_then ?_
      refine awp_rw ?_
      refine ro rfl rfl (st_mv rfl) ?_
      refine ro rfl rfl (st_bin (v := dI .i64 (IntKind.wrap .i64 (s403.1 - (1 : Int)))) rfl rfl rfl) ?_
      refine ro rfl rfl (st_as rfl) ?_
      refine rw_nil ?_
      refine nx_then ?_
      refine awp_gh ?_ (ih405 ((IntKind.wrap .i64 (s403.1 - (1 : Int))), s686) () h)
      exact (gh_frz rfl rfl ⟨⟨_, rfl, .keep rfl⟩, ⟨_, rfl, .keep rfl⟩, ⟨_, rfl, .keep rfl⟩, trivial⟩ ⟨⟨_, rfl, objRow _⟩, ⟨_, rfl, objOne ⟨⟨rfl, .keep rfl⟩, trivial⟩⟩, ⟨_, rfl, objOne ⟨⟨rfl, .keep rfl⟩, trivial⟩⟩, ⟨_, rfl, objLoop (hO402 _ _) rfl⟩, trivial⟩)
    · clear h
      intro k688 h J688
      refine rw_yld (N := 39) rfl rfl rfl rfl hO402 rfl rfl rfl (fun _B _F _hF => ?_)
      refine awp_rs ?_
      refine ro rfl rfl (st_as rfl) ?_
      refine rw_nilk ?_
      refine awp_rw ?_
      refine rn (r := 1005) rfl rfl (st_alloc zc58 rfl rfl) rfl ?_
      refine rx (L' := [(1001, rw' 1 4 eB s403.2), (1002, .row 0 94 [[.slice 1001 1 0 s403.2.length]]), (1003, .row 0 23 [[dL 5 e_S_api_Line (a0.take (IntKind.wrap .i64 (a1 + (1 : Int))).toNat)]]), (1004, O402 .ready none), (1005, .row 0 58 [[dI .u8 x675.Rule, dI .i64 x675.A, dI .i64 x675.B, dI .i64 x675.Piv, dL 1 (eI .i64) x675.Lits]])]) rfl rfl (st_stP ta58 rfl rfl rfl rfl rfl rfl rfl rfl) rfl ?_
      refine rw_nil ?_
      refine as_n rfl ?_
      refine awp_block ?_
      refine awp_jn (fun (s691 : Bool) (g692 : Unit) => [(5, .ptr 1002 0 0 0), (7, .ptr 1005 0 0 0), (29, dB s691)]) (fun (s691 : Bool) (g692 : Unit) => [(1001, rw' 1 4 eB s403.2), (1002, .row 0 94 [[.slice 1001 1 0 s403.2.length]]), (1003, .row 0 23 [[dL 5 e_S_api_Line (a0.take (IntKind.wrap .i64 (a1 + (1 : Int))).toNat)]]), (1004, O402 .busy none), (1005, .row 0 58 [[dI .u8 x675.Rule, dI .i64 x675.A, dI .i64 x675.B, dI .i64 x675.Piv, dL 1 (eI .i64) x675.Lits]])]) h ?_ ?_
      · clear h
        intro s691 g692 h
        refine awp_ite (b := s691) rfl (fun p694 => ?_) (fun p694 => ?_)
        · replace h := ite_T p694 h
          refine awp_rd hmix ?_
          refine do_ rfl rfl (st_ldP (v := .slice 1001 1 0 s403.2.length) ta94 rfl rfl rfl rfl) rfl rfl rfl ?_
          refine do_ rfl rfl (st_faP fo58_1 rfl) rfl rfl rfl ?_
          refine do_ rfl rfl (st_ldP (v := dI .i64 x675.A) ta3 rfl rfl rfl rfl) rfl rfl rfl ?_
          refine do_ rfl rfl (st_ldP (v := .slice 1001 1 0 s403.2.length) ta94 rfl rfl rfl rfl) rfl rfl rfl ?_
          refine do_ rfl rfl (st_faP fo58_2 rfl) rfl rfl rfl ?_
          refine do_ rfl rfl (st_ldP (v := dI .i64 x675.B) ta3 rfl rfl rfl rfl) rfl rfl rfl ?_
          obtain ⟨x695, h0695, hx695, h⟩ := getI_some h
          refine do_ rfl rfl (st_ixRi sl94 rfl rfl rfl h0695 hx695 rfl) rfl rfl rfl ?_
          refine dx (L' := [(1001, rw' 1 4 eB (s403.2.set x675.A.toNat true)), (1002, .row 0 94 [[.slice 1001 1 0 s403.2.length]]), (1003, .row 0 23 [[dL 5 e_S_api_Line (a0.take (IntKind.wrap .i64 (a1 + (1 : Int))).toNat)]]), (1004, O402 .busy none), (1005, .row 0 58 [[dI .u8 x675.Rule, dI .i64 x675.A, dI .i64 x675.B, dI .i64 x675.Piv, dL 1 (eI .i64) x675.Lits]])]) rfl rfl (st_stT (z := true) ta4 rfl rfl rfl hx695 rfl rfl rfl rfl rfl) rfl rfl rfl rfl ?_
          obtain ⟨x696, h0696, hx696, h⟩ := getI_some h
          refine do_ rfl rfl (st_ixRi sl94 rfl rfl rfl h0696 hx696 (by first | exact List.length_replicate.symm | exact (srt_length _).symm | simp [srt_length] | simp)) rfl rfl rfl ?_
          refine dx (L' := [(1001, rw' 1 4 eB ((s403.2.set x675.A.toNat true).set x675.B.toNat true)), (1002, .row 0 94 [[.slice 1001 1 0 s403.2.length]]), (1003, .row 0 23 [[dL 5 e_S_api_Line (a0.take (IntKind.wrap .i64 (a1 + (1 : Int))).toNat)]]), (1004, O402 .busy none), (1005, .row 0 58 [[dI .u8 x675.Rule, dI .i64 x675.A, dI .i64 x675.B, dI .i64 x675.Piv, dL 1 (eI .i64) x675.Lits]])]) rfl rfl (st_stT (z := true) ta4 rfl rfl rfl hx696 rfl rfl rfl rfl rfl) rfl rfl rfl rfl ?_
          refine rd_nil (by kernel_rfl) ?_
          refine nx_block ?_
          refine rk_n rfl ?_
          exact J688 ((s403.2.set x675.A.toNat true).set x675.B.toNat true) () _ _ h (gh_frz rfl rfl ⟨⟨_, rfl, .keep rfl⟩, ⟨_, rfl, .keep rfl⟩, ⟨_, rfl, .keep rfl⟩, ⟨_, rfl, .keep rfl⟩, trivial⟩ ⟨⟨_, rfl, objRow _⟩, ⟨_, rfl, objOne ⟨⟨rfl, frzN rfl (by first | exact List.length_replicate.symm | exact (srt_length _).symm | simp [srt_length] | simp)⟩, trivial⟩⟩, ⟨_, rfl, objOne ⟨⟨rfl, .keep rfl⟩, trivial⟩⟩, ⟨_, rfl, objLoop (hO402 _ _) rfl⟩, trivial⟩)
        · replace h := ite_F p694 h
          refine awp_skip ?_
          refine nx_block ?_
          refine rk_n rfl ?_
          exact J688 s403.2 () _ _ h (gh_frz rfl rfl ⟨⟨_, rfl, .keep rfl⟩, ⟨_, rfl, .keep rfl⟩, ⟨_, rfl, .keep rfl⟩, ⟨_, rfl, .keep rfl⟩, trivial⟩ ⟨⟨_, rfl, objRow _⟩, ⟨_, rfl, objOne ⟨⟨rfl, .keep rfl⟩, trivial⟩⟩, ⟨_, rfl, objOne ⟨⟨rfl, .keep rfl⟩, trivial⟩⟩, ⟨_, rfl, objLoop (hO402 _ _) rfl⟩, trivial⟩)
      · clear h
        intro k693 h J693
        refine awp_rw ?_
        refine ro rfl rfl (st_ldP (v := .slice 1001 1 0 s403.2.length) ta94 rfl rfl rfl rfl) ?_
        refine ro rfl rfl (st_mv rfl) ?_
        obtain ⟨x697, h0697, hx697, h⟩ := getI_some h
        refine ro rfl rfl (st_ixRi sl94 rfl rfl rfl h0697 hx697 rfl) ?_
        refine ro rfl rfl (st_ldP (v := dB x697) ta4 rfl rfl (rowOf_map_get hx697) rfl) ?_
        refine ro rfl rfl (st_mv rfl) ?_
        refine bool_split x697 (fun p698 => ?_) (fun p698 => ?_)
        · replace h := ite_T p698 h
          rw [p698]
          refine ro rfl rfl (st_faP fo58_0 rfl) ?_
          refine ro rfl rfl (st_ldP (v := dI .u8 x675.Rule) ta56 rfl rfl rfl rfl) ?_
          refine ro rfl rfl (st_bin (v := dB (x675.Rule == (2 : Int))) rfl rfl rfl) ?_
          refine ro rfl rfl (st_pickT rfl rfl) ?_
          refine rw_nil ?_
          refine nx_then ?_
          exact J693 (x675.Rule == (2 : Int)) () _ _ h (gh_frz rfl rfl ⟨⟨_, rfl, .keep rfl⟩, ⟨_, rfl, .keep rfl⟩, ⟨_, rfl, .keep rfl⟩, trivial⟩ ⟨⟨_, rfl, objRow _⟩, ⟨_, rfl, objOne ⟨⟨rfl, .keep rfl⟩, trivial⟩⟩, ⟨_, rfl, objOne ⟨⟨rfl, .keep rfl⟩, trivial⟩⟩, ⟨_, rfl, objLoop (hO402 _ _) rfl⟩, ⟨_, rfl, objOne ⟨⟨rfl, .keep rfl⟩, ⟨rfl, .keep rfl⟩, ⟨rfl, .keep rfl⟩, ⟨rfl, .keep rfl⟩, ⟨rfl, .keep rfl⟩, trivial⟩⟩, trivial⟩)
        · replace h := ite_F p698 h
          rw [p698]
          refine rz rfl rfl ?_
          refine rz rfl rfl ?_
          refine rz rfl rfl ?_
          refine ro rfl rfl (st_pickF rfl rfl) ?_
          refine rw_nil ?_
          refine nx_then ?_
          exact J693 false () _ _ h (gh_frz rfl rfl ⟨⟨_, rfl, .keep rfl⟩, ⟨_, rfl, .keep rfl⟩, ⟨_, rfl, .keep rfl⟩, trivial⟩ ⟨⟨_, rfl, objRow _⟩, ⟨_, rfl, objOne ⟨⟨rfl, .keep rfl⟩, trivial⟩⟩, ⟨_, rfl, objOne ⟨⟨rfl, .keep rfl⟩, trivial⟩⟩, ⟨_, rfl, objLoop (hO402 _ _) rfl⟩, ⟨_, rfl, objOne ⟨⟨rfl, .keep rfl⟩, ⟨rfl, .keep rfl⟩, ⟨rfl, .keep rfl⟩, ⟨rfl, .keep rfl⟩, ⟨rfl, .keep rfl⟩, trivial⟩⟩, trivial⟩)
  · replace h := ite_F p602 h
    refine awp_exit ?_
    refine ex_out ?_
    refine ex_out ?_
    refine ex_in ?_
    refine ret_inN (v := .tup []) (resV_none resVs_nil) ?_
    refine ⟨_, _, _, rfl, rfl, (by intro h; cases h), ?_⟩
    refine bh_0 ?_
    refine nx_block ?_
    refine nx_then ?_
    refine awp_rs ?_
    refine ro rfl rfl (st_ldP (v := .slice 1001 1 0 s403.2.length) ta94 rfl rfl rfl rfl) ?_
    refine ro rfl rfl (st_as rfl) ?_
    refine rw_nilk ?_
    refine awp_ret ?_
    injection h with h
    subst h
    exact ret_out (v := .slice 1001 1 0 s403.2.length) (resV_one (resVs_tmp rfl resVs_nil)) (frzT rfl rfl co4 rfl)

theorem ok_proof_kept {a0 : (List S_api_Line)} {a1 : Int} {r : S_api_Proof} (h : F_proof_kept a0 a1 = some r) : Fn Try.prog 61 [dL 5 e_S_api_Line a0, dI .i64 a1] (.agg [dB r.Cubes, dL 5 e_S_api_Line r.Lines]) := by
  unfold F_proof_kept at h
  refine Fn.of_body (N := 60) (rs := [.cell 4 25]) Try.func61 (c := _) rfl rfl rfl (by kernel_rfl) (Nat.le_of_ble_eq_true rfl) (fun _B => ?_)
  refine awp_rs ?_
  refine rn (r := 1001) rfl rfl (st_alloc zc25 rfl rfl) rfl ?_
  refine rw_nilk ?_
  refine awp_rs ?_
  refine ro rfl rfl (st_mv rfl) ?_
  refine ro rfl rfl (st_lenD rfl un23) ?_
  obtain ⟨c101, h⟩ := okI_some h
  refine rn (r := 1002) rfl rfl (st_mkN (f := (eI .i64)) (z := (0 : Int)) sl28 zc3 rfl rfl rfl rfl rfl c101) rfl ?_
  refine ro rfl rfl (st_as rfl) ?_
  refine rw_nilk ?_
  refine awp_seq ?_
  refine awp_rs ?_
  refine ro rfl rfl (st_mv rfl) ?_
  refine ro rfl rfl (st_mv rfl) ?_
  obtain ⟨y102, hy102, h⟩ := bind_some_elim h
  refine rf rfl rfl (ok_proof_needed hy102) rfl rfl ?_
  refine ro rfl rfl (st_lenD rfl un94) ?_
  refine ro rfl rfl (st_mv rfl) ?_
  refine rw_nilk ?_
  refine awp_block ?_
  refine awp_len (t := 14) rfl (fun hl106 => ?_)
  rw [List.length_map] at hl106
  refine awp_range (fun (j106 : Nat) (s103 : ((List Int) × (List S_api_Line))) (g104 : Nat) => [(0, dL 5 e_S_api_Line a0), (4, .ptr 1001 0 0 0), (5, .slice 1002 1 0 s103.1.length), (14, dL 1 eB y102), (15, dI .i64 ((y102.length : Nat) : Int)), (16, dI .i64 ((j106 : Nat) : Int))]) (fun (s103 : ((List Int) × (List S_api_Line))) (g104 : Nat) => [(1001, .row 0 25 [[dB false, .slice 1005 g104 0 s103.2.length]]), (1002, rw' 1 3 (eI .i64) s103.1), (1005, rw' g104 58 e_S_api_Line s103.2)]) 0 (fun _ _ _ h => h) h (Gh.trans (gh_nil (r := 1005) (E' := [(0, dL 5 e_S_api_Line a0), (4, .ptr 1001 0 0 0), (5, .slice 1002 1 0 a0.length), (14, dL 1 eB y102), (15, dI .i64 ((y102.length : Nat) : Int)), (16, dI .i64 (0 : Int))]) (L' := [(1001, .row 0 25 [[dB false, .slice 1005 0 0 (([] : List S_api_Line).length)]]), (1002, rw' 1 3 (eI .i64) (List.replicate a0.length (0 : Int)))]) rfl co58 rfl rfl ⟨⟨_, rfl, .keep _⟩, ⟨_, rfl, .keep _⟩, ⟨_, rfl, .keep _⟩, ⟨_, rfl, .keep _⟩, ⟨_, rfl, .keep _⟩, ⟨_, rfl, .keep _⟩, trivial⟩ ⟨⟨_, rfl, nilOne ⟨.keep _, .nil, trivial⟩⟩, ⟨_, rfl, .keep _⟩, trivial⟩) (gh_frz rfl rfl ⟨⟨_, rfl, .keep rfl⟩, ⟨_, rfl, .keep rfl⟩, ⟨_, rfl, frzN rfl (by first | exact List.length_replicate.symm | exact (srt_length _).symm | simp [srt_length] | simp)⟩, ⟨_, rfl, .keep rfl⟩, ⟨_, rfl, .keep rfl⟩, ⟨_, rfl, .keep rfl⟩, trivial⟩ ⟨⟨_, rfl, objOne ⟨⟨rfl, .keep rfl⟩, ⟨rfl, .keep rfl⟩, trivial⟩⟩, ⟨_, rfl, objRow _⟩, ⟨_, rfl, objRow (List.map e_S_api_Line ([] : List S_api_Line))⟩, trivial⟩)) ?_ ?_
  · clear h
    intro j106 x107 s103 g104 k105 hj106 hx106 h ih105
    refine awp_rs ?_
    refine ro rfl rfl (st_bin (v := dB (decide (((j106 : Nat) : Int) < ((y102.length : Nat) : Int)))) rfl rfl rfl) ?_
    refine rw_nilk ?_
    refine awp_seq ?_
    refine awp_ifT rfl (dlt hj106) ?_
    refine awp_skip ?_
    refine nx_then ?_
    refine awp_jn (fun (s215 : ((List Int) × (List S_api_Line))) (g216 : Nat) => [(0, dL 5 e_S_api_Line a0), (4, .ptr 1001 0 0 0), (5, .slice 1002 1 0 s215.1.length), (14, dL 1 eB y102), (15, dI .i64 ((y102.length : Nat) : Int)), (16, dI .i64 ((j106 : Nat) : Int))]) (fun (s215 : ((List Int) × (List S_api_Line))) (g216 : Nat) => [(1001, .row 0 25 [[dB false, .slice 1005 g216 0 s215.2.length]]), (1002, rw' 1 3 (eI .i64) s215.1), (1005, rw' g216 58 e_S_api_Line s215.2)]) h ?_ ?_
    · clear h
      intro s215 g216 h
      refine awp_rw ?_
      refine ro rfl rfl (st_inc rfl rfl hj106 hl106) ?_
      refine ro rfl rfl (st_mv rfl) ?_
      refine rw_nil ?_
      refine nx_then ?_
      refine awp_gh ?_ (ih105 (s215.1, s215.2) g216 h)
      exact (gh_frz rfl rfl ⟨⟨_, rfl, .keep rfl⟩, ⟨_, rfl, .keep rfl⟩, ⟨_, rfl, .keep rfl⟩, ⟨_, rfl, .keep rfl⟩, ⟨_, rfl, .keep rfl⟩, ⟨_, rfl, .keep rfl⟩, trivial⟩ ⟨⟨_, rfl, objOne ⟨⟨rfl, .keep rfl⟩, ⟨rfl, .keep rfl⟩, trivial⟩⟩, ⟨_, rfl, objRow _⟩, ⟨_, rfl, objRow _⟩, trivial⟩)
    · clear h
      intro k217 h J217
      refine awp_block ?_
      refine awp_rs ?_
      refine ro rfl rfl (st_mv rfl) ?_
      refine ro rfl rfl (st_ixDn sl94 rfl rfl hx106) ?_
      refine ro rfl rfl (st_ldD (v := dB x107) ta4 rfl rfl) ?_
      refine ro rfl rfl (st_as rfl) ?_
      refine ro rfl rfl (st_as rfl) ?_
      refine rw_nilk ?_
      refine awp_seq ?_
      refine awp_rs ?_
      refine ro rfl rfl (st_mv rfl) ?_
      refine ro rfl rfl (st_un (v := dB (!x107)) rfl rfl) ?_
      refine rw_nilk ?_
      refine awp_ite (b := (!x107)) rfl (fun p218 => ?_) (fun p218 => ?_)
      · replace h := ite_T p218 h
        refine awp_exit ?_
        refine ex_out ?_
        refine ex_in ?_
        refine nx_then ?_
        exact J217 (s103.1, s103.2) g104 _ _ h (gh_frz rfl rfl ⟨⟨_, rfl, .keep rfl⟩, ⟨_, rfl, .keep rfl⟩, ⟨_, rfl, .keep rfl⟩, ⟨_, rfl, .keep rfl⟩, ⟨_, rfl, .keep rfl⟩, ⟨_, rfl, .keep rfl⟩, trivial⟩ ⟨⟨_, rfl, objOne ⟨⟨rfl, .keep rfl⟩, ⟨rfl, .keep rfl⟩, trivial⟩⟩, ⟨_, rfl, objRow _⟩, ⟨_, rfl, objRow _⟩, trivial⟩)
      · replace h := ite_F p218 h
        refine awp_skip ?_
        refine nx_then ?_
        refine awp_rs ?_
        refine ro rfl rfl (st_mv rfl) ?_
        refine ro rfl rfl (st_mv rfl) ?_
        obtain ⟨x219, h0219, hx219, h⟩ := getI_some h
        refine ro rfl rfl (st_ixD sl23 rfl rfl h0219 hx219) ?_
        refine ro rfl rfl (st_ldD (v := .agg [dI .u8 x219.Rule, dI .i64 x219.A, dI .i64 x219.B, dI .i64 x219.Piv, dL 1 (eI .i64) x219.Lits]) ta58 rfl rfl) ?_
        refine rn (r := 1006) rfl rfl (st_alloc zc58 rfl rfl) rfl ?_
        refine rx (L' := [(1001, .row 0 25 [[dB false, .slice 1005 g104 0 s103.2.length]]), (1002, rw' 1 3 (eI .i64) s103.1), (1005, rw' g104 58 e_S_api_Line s103.2), (1006, .row 0 58 [[dI .u8 x219.Rule, dI .i64 x219.A, dI .i64 x219.B, dI .i64 x219.Piv, dL 1 (eI .i64) x219.Lits]])]) rfl rfl (st_stP ta58 rfl rfl rfl rfl rfl rfl rfl rfl) rfl ?_
        refine rw_nilk ?_
        refine awp_rs ?_
        refine ro rfl rfl (st_faP fo58_4 rfl) ?_
        refine ro rfl rfl (st_ldP (v := dL 1 (eI .i64) x219.Lits) ta28 rfl rfl rfl rfl) ?_
        obtain ⟨y220, hy220, h⟩ := bind_some_elim h
        refine rf rfl rfl (ok_slices_Clone_int_int hy220) rfl rfl ?_
        refine ro rfl rfl (st_faP fo58_4 rfl) ?_
        refine rx (L' := [(1001, .row 0 25 [[dB false, .slice 1005 g104 0 s103.2.length]]), (1002, rw' 1 3 (eI .i64) s103.1), (1005, rw' g104 58 e_S_api_Line s103.2), (1006, .row 0 58 [[dI .u8 x219.Rule, dI .i64 x219.A, dI .i64 x219.B, dI .i64 x219.Piv, dL 1 (eI .i64) y220]])]) rfl rfl (st_stP ta28 rfl rfl rfl rfl rfl rfl rfl rfl) rfl ?_
        refine rw_nilk ?_
        refine awp_jn (fun (s224 : (Int × Int)) (g225 : Unit) => [(0, dL 5 e_S_api_Line a0), (4, .ptr 1001 0 0 0), (5, .slice 1002 1 0 s103.1.length), (6, dI .i64 ((j106 : Nat) : Int)), (8, .ptr 1006 0 0 0), (14, dL 1 eB y102), (15, dI .i64 ((y102.length : Nat) : Int)), (16, dI .i64 ((j106 : Nat) : Int))]) (fun (s224 : (Int × Int)) (g225 : Unit) => [(1001, .row 0 25 [[dB false, .slice 1005 g104 0 s103.2.length]]), (1002, rw' 1 3 (eI .i64) s103.1), (1005, rw' g104 58 e_S_api_Line s103.2), (1006, .row 0 58 [[dI .u8 x219.Rule, dI .i64 s224.1, dI .i64 s224.2, dI .i64 x219.Piv, dL 1 (eI .i64) y220]])]) h ?_ ?_
        · clear h
          intro s224 g225 h
          refine awp_rs ?_
          refine ro rfl rfl (st_mv rfl) ?_
          refine ro rfl rfl (st_mv rfl) ?_
          refine ro rfl rfl (st_faP fo25_1 rfl) ?_
          refine ro rfl rfl (st_ldP (v := .slice 1005 g104 0 s103.2.length) ta23 rfl rfl rfl rfl) ?_
          refine ro rfl rfl (st_lenR rfl un23 rfl) ?_
          obtain ⟨x227, h0227, hx227, h⟩ := getI_some h
          refine ro rfl rfl (st_ixRi sl28 rfl rfl rfl h0227 hx227 rfl) ?_
          refine rx (L' := [(1001, .row 0 25 [[dB false, .slice 1005 g104 0 s103.2.length]]), (1002, rw' 1 3 (eI .i64) (s103.1.set (((j106 : Nat) : Int).toNat) ((s103.2.length : Nat) : Int))), (1005, rw' g104 58 e_S_api_Line s103.2), (1006, .row 0 58 [[dI .u8 x219.Rule, dI .i64 s224.1, dI .i64 s224.2, dI .i64 x219.Piv, dL 1 (eI .i64) y220]])]) rfl rfl (st_stT (z := ((s103.2.length : Nat) : Int)) ta3 rfl rfl rfl hx227 rfl rfl rfl rfl rfl) rfl ?_
          refine rw_nilk ?_
          refine awp_rw ?_
          refine ro rfl rfl (st_faP fo25_1 rfl) ?_
          refine ro rfl rfl (st_ldP (v := .slice 1005 g104 0 s103.2.length) ta23 rfl rfl rfl rfl) ?_
          refine ro rfl rfl (st_ldP (v := .agg [dI .u8 x219.Rule, dI .i64 s224.1, dI .i64 s224.2, dI .i64 x219.Piv, dL 1 (eI .i64) y220]) ta58 rfl rfl rfl rfl) ?_
          refine rn (r := 1007) rfl rfl (st_bsl (els := [[dI .u8 x219.Rule, dI .i64 s224.1, dI .i64 s224.2, dI .i64 x219.Piv, dL 1 (eI .i64) y220]]) sl23 zc58 rfl rfl rfl rfl rfl) rfl ?_
          obtain ⟨c228, h⟩ := capN_some h
          refine rn (r := 0) (L' := [(1001, .row 0 25 [[dB false, .slice 1005 g104 0 s103.2.length]]), (1002, rw' 1 3 (eI .i64) (s103.1.set (((j106 : Nat) : Int).toNat) ((s103.2.length : Nat) : Int))), (1005, rw' (g104 + 2) 58 e_S_api_Line (s103.2 ++ [(S_api_Line.mk x219.Rule s224.1 s224.2 x219.Piv y220)])), (1006, .row 0 58 [[dI .u8 x219.Rule, dI .i64 s224.1, dI .i64 s224.2, dI .i64 x219.Piv, dL 1 (eI .i64) y220]]), (1007, .row 1 58 [[dI .u8 x219.Rule, dI .i64 s224.1, dI .i64 s224.2, dI .i64 x219.Piv, dL 1 (eI .i64) y220]])]) rfl rfl (st_appR (f := e_S_api_Line) (xs := s103.2) (ys := [(S_api_Line.mk x219.Rule s224.1 s224.2 x219.Piv y220)]) sl23 zc58 rfl rfl rfl rfl rfl (news_one (a := (S_api_Line.mk x219.Rule s224.1 s224.2 x219.Piv y220)) rfl rfl) c228) rfl ?_
          refine ro rfl rfl (st_faP fo25_1 rfl) ?_
          refine rx (L' := [(1001, .row 0 25 [[dB false, .slice 1005 (g104 + 2) 0 ((s103.2 ++ [(S_api_Line.mk x219.Rule s224.1 s224.2 x219.Piv y220)]).length)]]), (1002, rw' 1 3 (eI .i64) (s103.1.set (((j106 : Nat) : Int).toNat) ((s103.2.length : Nat) : Int))), (1005, rw' (g104 + 2) 58 e_S_api_Line (s103.2 ++ [(S_api_Line.mk x219.Rule s224.1 s224.2 x219.Piv y220)])), (1006, .row 0 58 [[dI .u8 x219.Rule, dI .i64 s224.1, dI .i64 s224.2, dI .i64 x219.Piv, dL 1 (eI .i64) y220]]), (1007, .row 1 58 [[dI .u8 x219.Rule, dI .i64 s224.1, dI .i64 s224.2, dI .i64 x219.Piv, dL 1 (eI .i64) y220]])]) rfl rfl (st_stP ta23 rfl rfl rfl rfl rfl rfl rfl rfl) rfl ?_
          refine rw_nil ?_
          refine nx_block ?_
          refine nx_then ?_
          exact J217 ((s103.1.set (((j106 : Nat) : Int).toNat) ((s103.2.length : Nat) : Int)), (s103.2 ++ [(S_api_Line.mk x219.Rule s224.1 s224.2 x219.Piv y220)])) (g104 + 2) _ _ h (gh_frz rfl rfl ⟨⟨_, rfl, .keep rfl⟩, ⟨_, rfl, .keep rfl⟩, ⟨_, rfl, frzN rfl (by first | exact List.length_replicate.symm | exact (srt_length _).symm | simp [srt_length] | simp)⟩, ⟨_, rfl, .keep rfl⟩, ⟨_, rfl, .keep rfl⟩, ⟨_, rfl, .keep rfl⟩, trivial⟩ ⟨⟨_, rfl, objOne ⟨⟨rfl, .keep rfl⟩, ⟨rfl, .keep rfl⟩, trivial⟩⟩, ⟨_, rfl, objRow _⟩, ⟨_, rfl, objRow _⟩, trivial⟩)
        · clear h
          intro k226 h J226
          refine awp_rs ?_
          refine ro rfl rfl (st_faP fo58_0 rfl) ?_
          refine ro rfl rfl (st_ldP (v := dI .u8 x219.Rule) ta56 rfl rfl rfl rfl) ?_
          refine ro rfl rfl (st_bin (v := dB (x219.Rule == (2 : Int))) rfl rfl rfl) ?_
          refine rw_nilk ?_
          refine awp_ite (b := (x219.Rule == (2 : Int))) rfl (fun p229 => ?_) (fun p229 => ?_)
          · replace h := ite_T p229 h
            refine awp_rd hmix ?_
            refine do_ rfl rfl (st_mv rfl) rfl rfl rfl ?_
            refine do_ rfl rfl (st_faP fo58_1 rfl) rfl rfl rfl ?_
            refine do_ rfl rfl (st_ldP (v := dI .i64 x219.A) ta3 rfl rfl rfl rfl) rfl rfl rfl ?_
            obtain ⟨x230, h0230, hx230, h⟩ := getI_some h
            refine do_ rfl rfl (st_ixRi sl28 rfl rfl rfl h0230 hx230 rfl) rfl rfl rfl ?_
            refine do_ rfl rfl (st_ldP (v := dI .i64 x230) ta3 rfl rfl (rowOf_map_get hx230) rfl) rfl rfl rfl ?_
            refine do_ rfl rfl (st_mv rfl) rfl rfl rfl ?_
            refine do_ rfl rfl (st_faP fo58_2 rfl) rfl rfl rfl ?_
            refine do_ rfl rfl (st_ldP (v := dI .i64 x219.B) ta3 rfl rfl rfl rfl) rfl rfl rfl ?_
            obtain ⟨x231, h0231, hx231, h⟩ := getI_some h
            refine do_ rfl rfl (st_ixRi sl28 rfl rfl rfl h0231 hx231 rfl) rfl rfl rfl ?_
            refine do_ rfl rfl (st_ldP (v := dI .i64 x231) ta3 rfl rfl (rowOf_map_get hx231) rfl) rfl rfl rfl ?_
            refine do_ rfl rfl (st_faP fo58_1 rfl) rfl rfl rfl ?_
            refine dx (L' := [(1001, .row 0 25 [[dB false, .slice 1005 g104 0 s103.2.length]]), (1002, rw' 1 3 (eI .i64) s103.1), (1005, rw' g104 58 e_S_api_Line s103.2), (1006, .row 0 58 [[dI .u8 x219.Rule, dI .i64 x230, dI .i64 x219.B, dI .i64 x219.Piv, dL 1 (eI .i64) y220]])]) rfl rfl (st_stP ta3 rfl rfl rfl rfl rfl rfl rfl rfl) rfl rfl rfl rfl ?_
            refine do_ rfl rfl (st_faP fo58_2 rfl) rfl rfl rfl ?_
            refine dx (L' := [(1001, .row 0 25 [[dB false, .slice 1005 g104 0 s103.2.length]]), (1002, rw' 1 3 (eI .i64) s103.1), (1005, rw' g104 58 e_S_api_Line s103.2), (1006, .row 0 58 [[dI .u8 x219.Rule, dI .i64 x230, dI .i64 x231, dI .i64 x219.Piv, dL 1 (eI .i64) y220]])]) rfl rfl (st_stP ta3 rfl rfl rfl rfl rfl rfl rfl rfl) rfl rfl rfl rfl ?_
            refine rd_nil (by kernel_rfl) ?_
            refine nx_then ?_
            exact J226 (x230, x231) () _ _ h (gh_frz rfl rfl ⟨⟨_, rfl, .keep rfl⟩, ⟨_, rfl, .keep rfl⟩, ⟨_, rfl, .keep rfl⟩, ⟨_, rfl, .keep rfl⟩, ⟨_, rfl, .keep rfl⟩, ⟨_, rfl, .keep rfl⟩, ⟨_, rfl, .keep rfl⟩, ⟨_, rfl, .keep rfl⟩, trivial⟩ ⟨⟨_, rfl, objOne ⟨⟨rfl, .keep rfl⟩, ⟨rfl, .keep rfl⟩, trivial⟩⟩, ⟨_, rfl, objRow _⟩, ⟨_, rfl, objRow _⟩, ⟨_, rfl, objOne ⟨⟨rfl, .keep rfl⟩, ⟨rfl, .keep rfl⟩, ⟨rfl, .keep rfl⟩, ⟨rfl, .keep rfl⟩, ⟨rfl, .keep rfl⟩, trivial⟩⟩, trivial⟩)
          · replace h := ite_F p229 h
            refine awp_skip ?_
            refine nx_then ?_
            exact J226 (x219.A, x219.B) () _ _ h (gh_frz rfl rfl ⟨⟨_, rfl, .keep rfl⟩, ⟨_, rfl, .keep rfl⟩, ⟨_, rfl, .keep rfl⟩, ⟨_, rfl, .keep rfl⟩, ⟨_, rfl, .keep rfl⟩, ⟨_, rfl, .keep rfl⟩, ⟨_, rfl, .keep rfl⟩, ⟨_, rfl, .keep rfl⟩, trivial⟩ ⟨⟨_, rfl, objOne ⟨⟨rfl, .keep rfl⟩, ⟨rfl, .keep rfl⟩, trivial⟩⟩, ⟨_, rfl, objRow _⟩, ⟨_, rfl, objRow _⟩, ⟨_, rfl, objOne ⟨⟨rfl, .keep rfl⟩, ⟨rfl, .keep rfl⟩, ⟨rfl, .keep rfl⟩, ⟨rfl, .keep rfl⟩, ⟨rfl, .keep rfl⟩, trivial⟩⟩, trivial⟩)
  · clear h
    intro s103 g104 h
    refine awp_rs ?_
    refine ro rfl rfl (st_bin (v := dB (decide (((y102.length : Nat) : Int) < ((y102.length : Nat) : Int)))) rfl rfl rfl) ?_
    refine rw_nilk ?_
    refine awp_seq ?_
    refine awp_ifF rfl dge ?_
    refine awp_exit ?_
    refine ex_out ?_
    refine ex_out ?_
    refine ex_in ?_
    refine nx_then ?_
    refine awp_rs ?_
    refine ro rfl rfl (st_ldP (v := .agg [dB false, .slice 1005 g104 0 s103.2.length]) ta25 rfl rfl rfl rfl) ?_
    refine rx (L' := [(1001, .row 0 25 [[dB false, .slice 1005 g104 0 s103.2.length]]), (1002, rw' 1 3 (eI .i64) s103.1), (1005, rw' g104 58 e_S_api_Line s103.2)]) rfl rfl (st_stP ta25 rfl rfl rfl rfl rfl rfl rfl rfl) rfl ?_
    refine rw_nilk ?_
    refine awp_ret ?_
    injection h with h
    subst h
    exact ret_out (v := .agg [dB false, .slice 1005 g104 0 s103.2.length]) (resV_one (resVs_cell (v := .agg [dB false, .slice 1005 g104 0 s103.2.length]) ta25 rfl rfl rfl rfl resVs_nil)) (frz_agg ⟨(.keep rfl), (frzT rfl rfl co58 rfl), trivial⟩)

theorem ok_proof_ordered {a0 : S_api_Proof} {r : Bool} (h : F_proof_ordered a0 = some r) : Fn Try.prog 66 [.agg [dB a0.Cubes, dL 5 e_S_api_Line a0.Lines]] (dB r) := by
  unfold F_proof_ordered at h
  refine Fn.of_body (N := 42) (rs := [.tmp 2]) Try.func66 (c := _) rfl rfl rfl (by kernel_rfl) (Nat.le_of_ble_eq_true rfl) (fun _B => ?_)
  refine awp_rs ?_
  refine rn (r := 1001) rfl rfl (st_box rfl rfl rfl co25 rfl rfl) rfl ?_
  refine ro rfl rfl (st_as rfl) ?_
  refine rw_nilk ?_
  refine awp_seq ?_
  refine awp_rs ?_
  refine ro rfl rfl (st_ldP (v := .agg [dB a0.Cubes, dL 5 e_S_api_Line a0.Lines]) ta25 rfl rfl rfl rfl) ?_
  obtain ⟨y101, hy101, h⟩ := bind_some_elim h
  refine rf rfl rfl (ok_proof_fits hy101) rfl rfl ?_
  refine ro rfl rfl (st_un (v := dB (!y101)) rfl rfl) ?_
  refine rw_nilk ?_
  refine awp_ite (b := (!y101)) rfl (fun p102 => ?_) (fun p102 => ?_)
  · replace h := ite_T p102 h
    refine awp_rs ?_
    refine ro rfl rfl (st_as rfl) ?_
    refine rw_nilk ?_
    refine awp_ret ?_
    refine rt_then ?_
    injection h with h
    subst h
    exact ret_out (v := dB false) (resV_one (resVs_tmp rfl resVs_nil)) (.keep rfl)
  · replace h := ite_F p102 h
    refine awp_skip ?_
    refine nx_then ?_
    refine awp_seq ?_
    refine awp_rs ?_
    refine ro rfl rfl (st_faP fo25_1 rfl) ?_
    refine ro rfl rfl (st_ldP (v := dL 5 e_S_api_Line a0.Lines) ta23 rfl rfl rfl rfl) ?_
    refine ro rfl rfl (st_lenD rfl un23) ?_
    refine ro rfl rfl (st_mv rfl) ?_
    refine rw_nilk ?_
    refine awp_block ?_
    refine awp_len (t := 9) rfl (fun hl106 => ?_)
    rw [List.length_map] at hl106
    refine awp_range (fun (j106 : Nat) (s103 : Unit) (g104 : Unit) => [(9, dL 5 e_S_api_Line a0.Lines), (10, dI .i64 ((a0.Lines.length : Nat) : Int)), (11, dI .i64 ((j106 : Nat) : Int))]) (fun (s103 : Unit) (g104 : Unit) => []) () (fun _ _ _ h => h) h (gh_frz rfl rfl ⟨⟨_, rfl, .keep rfl⟩, ⟨_, rfl, .keep rfl⟩, ⟨_, rfl, .keep rfl⟩, trivial⟩ trivial) ?_ ?_
    · clear h
      intro j106 x107 s103 g104 k105 hj106 hx106 h ih105
      refine awp_rs ?_
      refine ro rfl rfl (st_bin (v := dB (decide (((j106 : Nat) : Int) < ((a0.Lines.length : Nat) : Int)))) rfl rfl rfl) ?_
      refine rw_nilk ?_
      refine awp_seq ?_
      refine awp_ifT rfl (dlt hj106) ?_
      refine awp_skip ?_
      refine nx_then ?_
      refine awp_seq ?_
      refine awp_block ?_
      refine awp_rs ?_
      refine ro rfl rfl (st_mv rfl) ?_
      refine ro rfl rfl (st_ixDn sl23 rfl rfl hx106) ?_
      refine ro rfl rfl (st_ldD (v := .agg [dI .u8 x107.Rule, dI .i64 x107.A, dI .i64 x107.B, dI .i64 x107.Piv, dL 1 (eI .i64) x107.Lits]) ta58 rfl rfl) ?_
      refine rn (r := 1002) rfl rfl (st_alloc zc58 rfl rfl) rfl ?_
      refine ro rfl rfl (st_as rfl) ?_
      refine rx (L' := [(1002, .row 0 58 [[dI .u8 x107.Rule, dI .i64 x107.A, dI .i64 x107.B, dI .i64 x107.Piv, dL 1 (eI .i64) x107.Lits]])]) rfl rfl (st_stP ta58 rfl rfl rfl rfl rfl rfl rfl rfl) rfl ?_
      refine rw_nilk ?_
      refine awp_jn (fun (s141 : Bool) (g142 : Unit) => [(9, dL 5 e_S_api_Line a0.Lines), (10, dI .i64 ((a0.Lines.length : Nat) : Int)), (11, dI .i64 ((j106 : Nat) : Int)), (40, dB s141)]) (fun (s141 : Bool) (g142 : Unit) => []) h ?_ ?_
      · clear h
        intro s141 g142 h
        refine awp_ite (b := s141) rfl (fun p144 => ?_) (fun p144 => ?_)
        · replace h := ite_T p144 h
          refine awp_rs ?_
          refine ro rfl rfl (st_as rfl) ?_
          refine rw_nilk ?_
          refine awp_ret ?_
          refine rt_block ?_
          refine rt_then ?_
          refine rt_then ?_
          refine rt_block ?_
          refine rt_then ?_
          injection h with h
          subst h
          exact ret_out (v := dB false) (resV_one (resVs_tmp rfl resVs_nil)) (.keep rfl)
        · replace h := ite_F p144 h
          refine awp_skip ?_
          refine nx_block ?_
          refine nx_then ?_
          refine awp_rw ?_
          refine ro rfl rfl (st_inc rfl rfl hj106 hl106) ?_
          refine ro rfl rfl (st_mv rfl) ?_
          refine rw_nil ?_
          refine nx_then ?_
          refine awp_gh ?_ (ih105 () () h)
          exact (gh_frz rfl rfl ⟨⟨_, rfl, .keep rfl⟩, ⟨_, rfl, .keep rfl⟩, ⟨_, rfl, .keep rfl⟩, trivial⟩ trivial)
      · clear h
        intro k143 h J143
        refine awp_rw ?_
        refine ro rfl rfl (st_faP fo58_0 rfl) ?_
        refine ro rfl rfl (st_ldP (v := dI .u8 x107.Rule) ta56 rfl rfl rfl rfl) ?_
        refine ro rfl rfl (st_bin (v := dB (x107.Rule != (1 : Int))) rfl rfl rfl) ?_
        refine ro rfl rfl (st_mv rfl) ?_
        refine bool_split (x107.Rule != (1 : Int)) (fun p145 => ?_) (fun p145 => ?_)
        · replace h := ite_T p145 h
          rw [p145]
          refine ro rfl rfl (st_faP fo58_0 rfl) ?_
          refine ro rfl rfl (st_ldP (v := dI .u8 x107.Rule) ta56 rfl rfl rfl rfl) ?_
          refine ro rfl rfl (st_bin (v := dB (x107.Rule != (2 : Int))) rfl rfl rfl) ?_
          refine ro rfl rfl (st_mv rfl) ?_
          refine bool_split (x107.Rule != (2 : Int)) (fun p146 => ?_) (fun p146 => ?_)
          · replace h := ite_T p146 h
            rw [p146]
            refine rz rfl rfl ?_
            refine rz rfl rfl ?_
            refine rz rfl rfl ?_
            refine rz rfl rfl ?_
            refine rz rfl rfl ?_
            refine rz rfl rfl ?_
            refine ro rfl rfl (st_pickT rfl rfl) ?_
            refine ro rfl rfl (st_mv rfl) ?_
            refine rz rfl rfl ?_
            refine rz rfl rfl ?_
            refine rz rfl rfl ?_
            refine rz rfl rfl ?_
            refine rz rfl rfl ?_
            refine rz rfl rfl ?_
            refine rz rfl rfl ?_
            refine ro rfl rfl (st_pickT rfl rfl) ?_
            refine ro rfl rfl (st_pickT rfl rfl) ?_
            refine rw_nil ?_
            refine nx_then ?_
            exact J143 true () _ _ h (gh_frz rfl rfl ⟨⟨_, rfl, .keep rfl⟩, ⟨_, rfl, .keep rfl⟩, ⟨_, rfl, .keep rfl⟩, ⟨_, rfl, .keep rfl⟩, trivial⟩ trivial)
          · replace h := ite_F p146 h
            rw [p146]
            refine ro rfl rfl (st_faP fo58_1 rfl) ?_
            refine ro rfl rfl (st_ldP (v := dI .i64 x107.A) ta3 rfl rfl rfl rfl) ?_
            refine ro rfl rfl (st_faP fo58_2 rfl) ?_
            refine ro rfl rfl (st_ldP (v := dI .i64 x107.B) ta3 rfl rfl rfl rfl) ?_
            refine ro rfl rfl (st_min rfl rfl) ?_
            refine ro rfl rfl (st_bin (v := dB (decide ((imn x107.A x107.B) < (0 : Int)))) rfl rfl rfl) ?_
            refine ro rfl rfl (st_pickF rfl rfl) ?_
            refine ro rfl rfl (st_mv rfl) ?_
            refine bool_split (decide ((imn x107.A x107.B) < (0 : Int))) (fun p147 => ?_) (fun p147 => ?_)
            · replace h := ite_T p147 h
              rw [p147]
              refine rz rfl rfl ?_
              refine rz rfl rfl ?_
              refine rz rfl rfl ?_
              refine rz rfl rfl ?_
              refine rz rfl rfl ?_
              refine rz rfl rfl ?_
              refine rz rfl rfl ?_
              refine ro rfl rfl (st_pickT rfl rfl) ?_
              refine ro rfl rfl (st_pickT rfl rfl) ?_
              refine rw_nil ?_
              refine nx_then ?_
              exact J143 true () _ _ h (gh_frz rfl rfl ⟨⟨_, rfl, .keep rfl⟩, ⟨_, rfl, .keep rfl⟩, ⟨_, rfl, .keep rfl⟩, ⟨_, rfl, .keep rfl⟩, trivial⟩ trivial)
            · replace h := ite_F p147 h
              rw [p147]
              refine ro rfl rfl (st_faP fo58_1 rfl) ?_
              refine ro rfl rfl (st_ldP (v := dI .i64 x107.A) ta3 rfl rfl rfl rfl) ?_
              refine ro rfl rfl (st_faP fo58_2 rfl) ?_
              refine ro rfl rfl (st_ldP (v := dI .i64 x107.B) ta3 rfl rfl rfl rfl) ?_
              refine ro rfl rfl (st_max rfl rfl) ?_
              refine ro rfl rfl (st_mv rfl) ?_
              refine ro rfl rfl (st_bin (v := dB (decide ((imx x107.A x107.B) ≥ ((j106 : Nat) : Int)))) rfl rfl rfl) ?_
              refine ro rfl rfl (st_pickF rfl rfl) ?_
              refine ro rfl rfl (st_pickT rfl rfl) ?_
              refine rw_nil ?_
              refine nx_then ?_
              exact J143 (decide ((imx x107.A x107.B) ≥ ((j106 : Nat) : Int))) () _ _ h (gh_frz rfl rfl ⟨⟨_, rfl, .keep rfl⟩, ⟨_, rfl, .keep rfl⟩, ⟨_, rfl, .keep rfl⟩, ⟨_, rfl, .keep rfl⟩, trivial⟩ trivial)
        · replace h := ite_F p145 h
          rw [p145]
          refine rz rfl rfl ?_
          refine rz rfl rfl ?_
          refine rz rfl rfl ?_
          refine rz rfl rfl ?_
          refine rz rfl rfl ?_
          refine rz rfl rfl ?_
          refine rz rfl rfl ?_
          refine rz rfl rfl ?_
          refine rz rfl rfl ?_
          refine rz rfl rfl ?_
          refine rz rfl rfl ?_
          refine rz rfl rfl ?_
          refine rz rfl rfl ?_
          refine rz rfl rfl ?_
          refine rz rfl rfl ?_
          refine rz rfl rfl ?_
          refine rz rfl rfl ?_
          refine rz rfl rfl ?_
          refine rz rfl rfl ?_
          refine rz rfl rfl ?_
          refine ro rfl rfl (st_pickF rfl rfl) ?_
          refine rw_nil ?_
          refine nx_then ?_
          exact J143 false () _ _ h (gh_frz rfl rfl ⟨⟨_, rfl, .keep rfl⟩, ⟨_, rfl, .keep rfl⟩, ⟨_, rfl, .keep rfl⟩, ⟨_, rfl, .keep rfl⟩, trivial⟩ trivial)
    · clear h
      intro s103 g104 h
      refine awp_rs ?_
      refine ro rfl rfl (st_bin (v := dB (decide (((a0.Lines.length : Nat) : Int) < ((a0.Lines.length : Nat) : Int)))) rfl rfl rfl) ?_
      refine rw_nilk ?_
      refine awp_seq ?_
      refine awp_ifF rfl dge ?_
      refine awp_exit ?_
      refine ex_out ?_
      refine ex_out ?_
      refine ex_in ?_
      refine nx_then ?_
      refine awp_rs ?_
      refine ro rfl rfl (st_as rfl) ?_
      refine rw_nilk ?_
      refine awp_ret ?_
      injection h with h
      subst h
      exact ret_out (v := dB true) (resV_one (resVs_tmp rfl resVs_nil)) (.keep rfl)

theorem ok_proof_Trim {a0 : S_api_Proof} {r : (S_api_Proof × Int)} (h : F_proof_Trim a0 = some r) : Fn Try.prog 28 [.agg [dB a0.Cubes, dL 5 e_S_api_Line a0.Lines]] (.tup [.agg [dB r.1.Cubes, dL 5 e_S_api_Line r.1.Lines], dI .i64 r.2]) := by
  unfold F_proof_Trim at h
  refine Fn.of_body (N := 15) (rs := [.cell 2 25, .tmp 3]) Try.func28 (c := _) rfl rfl rfl (by kernel_rfl) (Nat.le_of_ble_eq_true rfl) (fun _B => ?_)
  refine awp_rs ?_
  refine rn (r := 1001) rfl rfl (st_box rfl rfl rfl co25 rfl rfl) rfl ?_
  refine rn (r := 1002) rfl rfl (st_alloc zc25 rfl rfl) rfl ?_
  refine ro rfl rfl (st_as rfl) ?_
  refine rw_nilk ?_
  refine awp_seq ?_
  refine awp_rs ?_
  refine ro rfl rfl (st_ldP (v := .agg [dB a0.Cubes, dL 5 e_S_api_Line a0.Lines]) ta25 rfl rfl rfl rfl) ?_
  obtain ⟨y101, hy101, h⟩ := bind_some_elim h
  refine rf rfl rfl (ok_proof_ordered hy101) rfl rfl ?_
  refine ro rfl rfl (st_un (v := dB (!y101)) rfl rfl) ?_
  refine rw_nilk ?_
  refine awp_ite (b := (!y101)) rfl (fun p102 => ?_) (fun p102 => ?_)
  · replace h := ite_T p102 h
    refine awp_rs ?_
    refine ro rfl rfl (st_build (vs := [dB false, .nilS]) bl25 rfl rfl) ?_
    refine rx (L' := [(1001, .row 0 25 [[dB a0.Cubes, dL 5 e_S_api_Line a0.Lines]]), (1002, .row 0 25 [[dB false, .nilS]])]) rfl rfl (st_stP ta25 rfl rfl rfl rfl rfl rfl rfl rfl) rfl ?_
    refine ro rfl rfl (st_as rfl) ?_
    refine rw_nilk ?_
    refine awp_ret ?_
    refine rt_then ?_
    injection h with h
    subst h
    exact ret_out (v := .tup [.agg [dB false, .nilS], dI .i64 (2 : Int)]) (resV_many (resVs_cell (v := .agg [dB false, .nilS]) ta25 rfl rfl rfl rfl (resVs_tmp rfl resVs_nil))) (frz_tup ⟨(frz_agg ⟨(.keep rfl), (.nilS _), trivial⟩), (.keep rfl), trivial⟩)
  · replace h := ite_F p102 h
    refine awp_skip ?_
    refine nx_then ?_
    refine awp_rs ?_
    refine ro rfl rfl (st_faP fo25_1 rfl) ?_
    refine ro rfl rfl (st_ldP (v := dL 5 e_S_api_Line a0.Lines) ta23 rfl rfl rfl rfl) ?_
    refine ro rfl rfl (st_faP fo25_1 rfl) ?_
    refine ro rfl rfl (st_ldP (v := dL 5 e_S_api_Line a0.Lines) ta23 rfl rfl rfl rfl) ?_
    refine ro rfl rfl (st_lenD rfl un23) ?_
    refine ro rfl rfl (st_bin (v := dI .i64 (IntKind.wrap .i64 (((a0.Lines.length : Nat) : Int) - (1 : Int)))) rfl rfl rfl) ?_
    obtain ⟨y103, hy103, h⟩ := bind_some_elim h
    refine rf rfl rfl (ok_proof_kept hy103) rfl rfl ?_
    refine rx (L' := [(1001, .row 0 25 [[dB a0.Cubes, dL 5 e_S_api_Line a0.Lines]]), (1002, .row 0 25 [[dB y103.Cubes, dL 5 e_S_api_Line y103.Lines]])]) rfl rfl (st_stP ta25 rfl rfl rfl rfl rfl rfl rfl rfl) rfl ?_
    refine ro rfl rfl (st_as rfl) ?_
    refine rw_nilk ?_
    refine awp_ret ?_
    injection h with h
    subst h
    exact ret_out (v := .tup [.agg [dB y103.Cubes, dL 5 e_S_api_Line y103.Lines], dI .i64 (0 : Int)]) (resV_many (resVs_cell (v := .agg [dB y103.Cubes, dL 5 e_S_api_Line y103.Lines]) ta25 rfl rfl rfl rfl (resVs_tmp rfl resVs_nil))) (.keep rfl)

theorem ok_proof_Core {a0 : S_api_Proof} {r : ((List Int) × Int)} (h : F_proof_Core a0 = some r) : Fn Try.prog 29 [.agg [dB a0.Cubes, dL 5 e_S_api_Line a0.Lines]] (.tup [dL 1 (eI .i64) r.1, dI .i64 r.2]) := by
  unfold F_proof_Core at h
  refine Fn.of_body (N := 45) (rs := [.tmp 2, .tmp 3]) Try.func29 (c := _) rfl rfl rfl (by kernel_rfl) (Nat.le_of_ble_eq_true rfl) (fun _B => ?_)
  refine awp_rs ?_
  refine rn (r := 1001) rfl rfl (st_box rfl rfl rfl co25 rfl rfl) rfl ?_
  refine ro rfl rfl (st_as rfl) ?_
  refine ro rfl rfl (st_as rfl) ?_
  refine rw_nilk ?_
  refine awp_seq ?_
  refine awp_rs ?_
  refine ro rfl rfl (st_ldP (v := .agg [dB a0.Cubes, dL 5 e_S_api_Line a0.Lines]) ta25 rfl rfl rfl rfl) ?_
  obtain ⟨y101, hy101, h⟩ := bind_some_elim h
  refine rf rfl rfl (ok_proof_ordered hy101) rfl rfl ?_
  refine ro rfl rfl (st_un (v := dB (!y101)) rfl rfl) ?_
  refine rw_nilk ?_
  refine awp_ite (b := (!y101)) rfl (fun p102 => ?_) (fun p102 => ?_)
  · replace h := ite_T p102 h
    refine awp_rs ?_
    refine ro rfl rfl (st_as rfl) ?_
    refine ro rfl rfl (st_as rfl) ?_
    refine rw_nilk ?_
    refine awp_ret ?_
    refine rt_then ?_
    injection h with h
    subst h
    exact ret_out (v := .tup [.nilS, dI .i64 (2 : Int)]) (resV_many (resVs_tmp rfl (resVs_tmp rfl resVs_nil))) (frz_tup ⟨(.nilS _), (.keep rfl), trivial⟩)
  · replace h := ite_F p102 h
    refine awp_skip ?_
    refine nx_then ?_
    refine awp_rs ?_
    refine ro rfl rfl (st_as rfl) ?_
    refine rw_nilk ?_
    refine awp_seq ?_
    refine awp_rs ?_
    refine ro rfl rfl (st_faP fo25_1 rfl) ?_
    refine ro rfl rfl (st_ldP (v := dL 5 e_S_api_Line a0.Lines) ta23 rfl rfl rfl rfl) ?_
    refine ro rfl rfl (st_faP fo25_1 rfl) ?_
    refine ro rfl rfl (st_ldP (v := dL 5 e_S_api_Line a0.Lines) ta23 rfl rfl rfl rfl) ?_
    refine ro rfl rfl (st_lenD rfl un23) ?_
    refine ro rfl rfl (st_bin (v := dI .i64 (IntKind.wrap .i64 (((a0.Lines.length : Nat) : Int) - (1 : Int)))) rfl rfl rfl) ?_
    obtain ⟨y103, hy103, h⟩ := bind_some_elim h
    refine rf rfl rfl (ok_proof_needed hy103) rfl rfl ?_
    refine ro rfl rfl (st_lenD rfl un94) ?_
    refine ro rfl rfl (st_mv rfl) ?_
    refine rw_nilk ?_
    refine awp_block ?_
    refine awp_len (t := 17) rfl (fun hl107 => ?_)
    rw [List.length_map] at hl107
    refine awp_range (fun (j107 : Nat) (s104 : (List Int)) (g105 : Nat) => [(1, .ptr 1001 0 0 0), (4, .slice 1004 g105 0 s104.length), (17, dL 1 eB y103), (18, dI .i64 ((y103.length : Nat) : Int)), (19, dI .i64 ((j107 : Nat) : Int))]) (fun (s104 : (List Int)) (g105 : Nat) => [(1001, .row 0 25 [[dB a0.Cubes, dL 5 e_S_api_Line a0.Lines]]), (1004, rw' g105 3 (eI .i64) s104)]) 0 (fun _ _ _ h => h) h (Gh.trans (gh_nil (r := 1004) (E' := [(1, .ptr 1001 0 0 0), (4, .slice 1004 0 0 (([] : List Int).length)), (17, dL 1 eB y103), (18, dI .i64 ((y103.length : Nat) : Int)), (19, dI .i64 (0 : Int))]) (L' := [(1001, .row 0 25 [[dB a0.Cubes, dL 5 e_S_api_Line a0.Lines]])]) rfl co3 rfl rfl ⟨⟨_, rfl, .keep _⟩, ⟨_, rfl, .nil⟩, ⟨_, rfl, .keep _⟩, ⟨_, rfl, .keep _⟩, ⟨_, rfl, .keep _⟩, trivial⟩ ⟨⟨_, rfl, .keep _⟩, trivial⟩) (gh_frz rfl rfl ⟨⟨_, rfl, .keep rfl⟩, ⟨_, rfl, .keep rfl⟩, ⟨_, rfl, .keep rfl⟩, ⟨_, rfl, .keep rfl⟩, ⟨_, rfl, .keep rfl⟩, trivial⟩ ⟨⟨_, rfl, objOne ⟨⟨rfl, .keep rfl⟩, ⟨rfl, .keep rfl⟩, trivial⟩⟩, ⟨_, rfl, objRow (List.map (eI .i64) ([] : List Int))⟩, trivial⟩)) ?_ ?_
    · clear h
      intro j107 x108 s104 g105 k106 hj107 hx107 h ih106
      refine awp_rs ?_
      refine ro rfl rfl (st_bin (v := dB (decide (((j107 : Nat) : Int) < ((y103.length : Nat) : Int)))) rfl rfl rfl) ?_
      refine rw_nilk ?_
      refine awp_seq ?_
      refine awp_ifT rfl (dlt hj107) ?_
      refine awp_skip ?_
      refine nx_then ?_
      refine awp_jn (fun (s174 : (List Int)) (g175 : Nat) => [(1, .ptr 1001 0 0 0), (4, .slice 1004 g175 0 s174.length), (17, dL 1 eB y103), (18, dI .i64 ((y103.length : Nat) : Int)), (19, dI .i64 ((j107 : Nat) : Int))]) (fun (s174 : (List Int)) (g175 : Nat) => [(1001, .row 0 25 [[dB a0.Cubes, dL 5 e_S_api_Line a0.Lines]]), (1004, rw' g175 3 (eI .i64) s174)]) h ?_ ?_
      · clear h
        intro s174 g175 h
        refine awp_rw ?_
        refine ro rfl rfl (st_inc rfl rfl hj107 hl107) ?_
        refine ro rfl rfl (st_mv rfl) ?_
        refine rw_nil ?_
        refine nx_then ?_
        refine awp_gh ?_ (ih106 s174 g175 h)
        exact (gh_frz rfl rfl ⟨⟨_, rfl, .keep rfl⟩, ⟨_, rfl, .keep rfl⟩, ⟨_, rfl, .keep rfl⟩, ⟨_, rfl, .keep rfl⟩, ⟨_, rfl, .keep rfl⟩, trivial⟩ ⟨⟨_, rfl, objOne ⟨⟨rfl, .keep rfl⟩, ⟨rfl, .keep rfl⟩, trivial⟩⟩, ⟨_, rfl, objRow _⟩, trivial⟩)
      · clear h
        intro k176 h J176
        refine awp_block ?_
        refine awp_rs ?_
        refine ro rfl rfl (st_mv rfl) ?_
        refine ro rfl rfl (st_ixDn sl94 rfl rfl hx107) ?_
        refine ro rfl rfl (st_ldD (v := dB x108) ta4 rfl rfl) ?_
        refine ro rfl rfl (st_as rfl) ?_
        refine ro rfl rfl (st_as rfl) ?_
        refine rw_nilk ?_
        refine awp_rs ?_
        refine ro rfl rfl (st_faP fo25_1 rfl) ?_
        refine ro rfl rfl (st_ldP (v := dL 5 e_S_api_Line a0.Lines) ta23 rfl rfl rfl rfl) ?_
        refine ro rfl rfl (st_mv rfl) ?_
        obtain ⟨x177, h0177, hx177, h⟩ := getI_some h
        refine ro rfl rfl (st_ixD sl23 rfl rfl h0177 hx177) ?_
        refine ro rfl rfl (st_ldD (v := .agg [dI .u8 x177.Rule, dI .i64 x177.A, dI .i64 x177.B, dI .i64 x177.Piv, dL 1 (eI .i64) x177.Lits]) ta58 rfl rfl) ?_
        refine rn (r := 1005) rfl rfl (st_alloc zc58 rfl rfl) rfl ?_
        refine rx (L' := [(1001, .row 0 25 [[dB a0.Cubes, dL 5 e_S_api_Line a0.Lines]]), (1004, rw' g105 3 (eI .i64) s104), (1005, .row 0 58 [[dI .u8 x177.Rule, dI .i64 x177.A, dI .i64 x177.B, dI .i64 x177.Piv, dL 1 (eI .i64) x177.Lits]])]) rfl rfl (st_stP ta58 rfl rfl rfl rfl rfl rfl rfl rfl) rfl ?_
        refine rw_nilk ?_
        refine awp_jn (fun (s179 : Bool) (g180 : Unit) => [(1, .ptr 1001 0 0 0), (4, .slice 1004 g105 0 s104.length), (7, .ptr 1005 0 0 0), (17, dL 1 eB y103), (18, dI .i64 ((y103.length : Nat) : Int)), (19, dI .i64 ((j107 : Nat) : Int)), (34, dB s179)]) (fun (s179 : Bool) (g180 : Unit) => [(1001, .row 0 25 [[dB a0.Cubes, dL 5 e_S_api_Line a0.Lines]]), (1004, rw' g105 3 (eI .i64) s104), (1005, .row 0 58 [[dI .u8 x177.Rule, dI .i64 x177.A, dI .i64 x177.B, dI .i64 x177.Piv, dL 1 (eI .i64) x177.Lits]])]) h ?_ ?_
        · clear h
          intro s179 g180 h
          refine awp_ite (b := s179) rfl (fun p182 => ?_) (fun p182 => ?_)
          · replace h := ite_T p182 h
            refine awp_rw ?_
            refine ro rfl rfl (st_mv rfl) ?_
            refine ro rfl rfl (st_faP fo58_1 rfl) ?_
            refine ro rfl rfl (st_ldP (v := dI .i64 x177.A) ta3 rfl rfl rfl rfl) ?_
            refine rn (r := 1006) rfl rfl (st_bsl (els := [[dI .i64 x177.A]]) sl28 zc3 rfl rfl rfl rfl rfl) rfl ?_
            obtain ⟨c183, h⟩ := capN_some h
            refine rn (r := 0) (L' := [(1001, .row 0 25 [[dB a0.Cubes, dL 5 e_S_api_Line a0.Lines]]), (1004, rw' (g105 + 2) 3 (eI .i64) (s104 ++ [x177.A])), (1005, .row 0 58 [[dI .u8 x177.Rule, dI .i64 x177.A, dI .i64 x177.B, dI .i64 x177.Piv, dL 1 (eI .i64) x177.Lits]]), (1006, .row 1 3 [[dI .i64 x177.A]])]) rfl rfl (st_appR (f := (eI .i64)) (xs := s104) (ys := [x177.A]) sl28 zc3 rfl rfl rfl rfl rfl (news_one (a := x177.A) rfl rfl) c183) rfl ?_
            refine ro rfl rfl (st_as rfl) ?_
            refine rw_nil ?_
            refine nx_block ?_
            refine nx_then ?_
            exact J176 (s104 ++ [x177.A]) (g105 + 2) _ _ h (gh_frz rfl rfl ⟨⟨_, rfl, .keep rfl⟩, ⟨_, rfl, .keep rfl⟩, ⟨_, rfl, .keep rfl⟩, ⟨_, rfl, .keep rfl⟩, ⟨_, rfl, .keep rfl⟩, trivial⟩ ⟨⟨_, rfl, objOne ⟨⟨rfl, .keep rfl⟩, ⟨rfl, .keep rfl⟩, trivial⟩⟩, ⟨_, rfl, objRow _⟩, trivial⟩)
          · replace h := ite_F p182 h
            refine awp_skip ?_
            refine nx_block ?_
            refine nx_then ?_
            exact J176 s104 g105 _ _ h (gh_frz rfl rfl ⟨⟨_, rfl, .keep rfl⟩, ⟨_, rfl, .keep rfl⟩, ⟨_, rfl, .keep rfl⟩, ⟨_, rfl, .keep rfl⟩, ⟨_, rfl, .keep rfl⟩, trivial⟩ ⟨⟨_, rfl, objOne ⟨⟨rfl, .keep rfl⟩, ⟨rfl, .keep rfl⟩, trivial⟩⟩, ⟨_, rfl, objRow _⟩, trivial⟩)
        · clear h
          intro k181 h J181
          refine awp_rw ?_
          refine ro rfl rfl (st_mv rfl) ?_
          refine ro rfl rfl (st_mv rfl) ?_
          refine bool_split x108 (fun p184 => ?_) (fun p184 => ?_)
          · replace h := ite_T p184 h
            rw [p184]
            refine ro rfl rfl (st_faP fo58_0 rfl) ?_
            refine ro rfl rfl (st_ldP (v := dI .u8 x177.Rule) ta56 rfl rfl rfl rfl) ?_
            refine ro rfl rfl (st_bin (v := dB (x177.Rule == (1 : Int))) rfl rfl rfl) ?_
            refine ro rfl rfl (st_pickT rfl rfl) ?_
            refine rw_nil ?_
            refine nx_then ?_
            exact J181 (x177.Rule == (1 : Int)) () _ _ h (gh_frz rfl rfl ⟨⟨_, rfl, .keep rfl⟩, ⟨_, rfl, .keep rfl⟩, ⟨_, rfl, .keep rfl⟩, ⟨_, rfl, .keep rfl⟩, ⟨_, rfl, .keep rfl⟩, ⟨_, rfl, .keep rfl⟩, ⟨_, rfl, .keep rfl⟩, trivial⟩ ⟨⟨_, rfl, objOne ⟨⟨rfl, .keep rfl⟩, ⟨rfl, .keep rfl⟩, trivial⟩⟩, ⟨_, rfl, objRow _⟩, ⟨_, rfl, objOne ⟨⟨rfl, .keep rfl⟩, ⟨rfl, .keep rfl⟩, ⟨rfl, .keep rfl⟩, ⟨rfl, .keep rfl⟩, ⟨rfl, .keep rfl⟩, trivial⟩⟩, trivial⟩)
          · replace h := ite_F p184 h
            rw [p184]
            refine rz rfl rfl ?_
            refine rz rfl rfl ?_
            refine rz rfl rfl ?_
            refine ro rfl rfl (st_pickF rfl rfl) ?_
            refine rw_nil ?_
            refine nx_then ?_
            exact J181 false () _ _ h (gh_frz rfl rfl ⟨⟨_, rfl, .keep rfl⟩, ⟨_, rfl, .keep rfl⟩, ⟨_, rfl, .keep rfl⟩, ⟨_, rfl, .keep rfl⟩, ⟨_, rfl, .keep rfl⟩, ⟨_, rfl, .keep rfl⟩, ⟨_, rfl, .keep rfl⟩, trivial⟩ ⟨⟨_, rfl, objOne ⟨⟨rfl, .keep rfl⟩, ⟨rfl, .keep rfl⟩, trivial⟩⟩, ⟨_, rfl, objRow _⟩, ⟨_, rfl, objOne ⟨⟨rfl, .keep rfl⟩, ⟨rfl, .keep rfl⟩, ⟨rfl, .keep rfl⟩, ⟨rfl, .keep rfl⟩, ⟨rfl, .keep rfl⟩, trivial⟩⟩, trivial⟩)
    · clear h
      intro s104 g105 h
      refine awp_rs ?_
      refine ro rfl rfl (st_bin (v := dB (decide (((y103.length : Nat) : Int) < ((y103.length : Nat) : Int)))) rfl rfl rfl) ?_
      refine rw_nilk ?_
      refine awp_seq ?_
      refine awp_ifF rfl dge ?_
      refine awp_exit ?_
      refine ex_out ?_
      refine ex_out ?_
      refine ex_in ?_
      refine nx_then ?_
      refine awp_rs ?_
      refine ro rfl rfl (st_mv rfl) ?_
      obtain ⟨c185, h⟩ := okI_some h
      refine rcall (L0 := [(1004, rw' g105 3 (eI .i64) s104)]) (L1 := [(1004, rw' g105 3 (eI .i64) (srt s104))]) (L' := [(1001, .row 0 25 [[dB a0.Cubes, dL 5 e_S_api_Line a0.Lines]]), (1004, rw' g105 3 (eI .i64) (srt s104))]) rfl rfl rfl rfl (ev_sort (xs := s104) co3 (by kernel_rfl) (Nat.lt_of_le_of_lt c185 (by decide)) Try.slices_Sort_int Try.slices_Sort_int_none) ⟨rfl, trivial⟩ rfl ⟨closT, trivial⟩ rfl rfl ?_
      refine rw_nilk ?_
      refine awp_rs ?_
      refine ro rfl rfl (st_mv rfl) ?_
      refine rw_jn (fun (s396 : ((List Int) × Nat)) (g397 : Unit) => [(44, .slice 1004 g105 0 s396.2)]) (fun (s396 : ((List Int) × Nat)) (g397 : Unit) => [(1004, rw' g105 3 (eI .i64) s396.1)]) h ?_ ?_
      · clear h
        intro s396 g397 h
        refine ro rfl rfl (st_as rfl) ?_
        refine ro rfl rfl (st_as rfl) ?_
        refine rw_nilk ?_
        refine awp_ret ?_
        injection h with h
        subst h
        exact ret_out (v := .tup [.slice 1004 g105 0 s396.2, dI .i64 (0 : Int)]) (resV_many (resVs_tmp rfl (resVs_tmp rfl resVs_nil))) (frz_tup ⟨(frzS rfl rfl co3 rfl), (.keep rfl), trivial⟩)
      · clear h
        intro k398 h J398
        refine ri (N := 61) (rs := [.tmp 2]) rfl rfl rfl rfl Try.func69 rfl rfl rfl (by kernel_rfl) rfl (fun _B => ?_)
        refine awp_rs ?_
        refine ro rfl rfl (st_as rfl) ?_
        refine rw_nilk ?_
        refine awp_seq ?_
        refine awp_rs ?_
        refine ro rfl rfl (st_mv rfl) ?_
        refine ro rfl rfl (st_lenR rfl un28 rfl) ?_
        refine ro rfl rfl (st_bin (v := dB (decide (((s104.length : Nat) : Int) < (2 : Int)))) rfl rfl rfl) ?_
        refine rw_nilk ?_
        refine awp_ite (b := (decide (((s104.length : Nat) : Int) < (2 : Int)))) rfl (fun p399 => ?_) (fun p399 => ?_)
        · replace h := ite_T p399 h
          refine awp_rs ?_
          refine ro rfl rfl (st_mv rfl) ?_
          refine ro rfl rfl (st_as rfl) ?_
          refine rw_nilk ?_
          refine awp_ret ?_
          refine rt_then ?_
          refine ret_in (v := .slice 1004 g105 0 s104.length) (resV_one (resVs_tmp rfl resVs_nil)) ?_
          exact J398 ((srt s104), s104.length) () _ _ h (gh_frz rfl rfl ⟨⟨_, rfl, frzN rfl (by first | exact List.length_replicate.symm | exact (srt_length _).symm | simp [srt_length] | simp)⟩, trivial⟩ ⟨⟨_, rfl, objRow _⟩, trivial⟩)
        · replace h := ite_F p399 h
          refine awp_skip ?_
          refine nx_then ?_
          refine awp_seq ?_
          refine awp_rs ?_
          refine ro rfl rfl (st_as rfl) ?_
          refine rw_nilk ?_
          refine awp_block ?_
          refine awp_while (fun (s400 : Int) (g401 : Unit) => [(0, .slice 1004 g105 0 s104.length), (3, dI .i64 s400)]) (fun (s400 : Int) (g401 : Unit) => [(1001, .row 0 25 [[dB a0.Cubes, dL 5 e_S_api_Line a0.Lines]]), (1004, rw' g105 3 (eI .i64) (srt s104))]) () (fun _ _ _ h => h) h (gh_frz rfl rfl ⟨⟨_, rfl, frzN rfl (by first | exact List.length_replicate.symm | exact (srt_length _).symm | simp [srt_length] | simp)⟩, ⟨_, rfl, .keep rfl⟩, trivial⟩ ⟨⟨_, rfl, objOne ⟨⟨rfl, .keep rfl⟩, ⟨rfl, .keep rfl⟩, trivial⟩⟩, ⟨_, rfl, objRow _⟩, trivial⟩) ?_
          clear h
          intro s400 g401 k402 h ih402
          refine awp_seq ?_
          refine awp_rs ?_
          refine ro rfl rfl (st_mv rfl) ?_
          refine ro rfl rfl (st_mv rfl) ?_
          refine ro rfl rfl (st_lenR rfl un28 rfl) ?_
          refine ro rfl rfl (st_bin (v := dB (decide (s400 < ((s104.length : Nat) : Int)))) rfl rfl rfl) ?_
          refine rw_nilk ?_
          refine awp_ite (b := (decide (s400 < ((s104.length : Nat) : Int)))) rfl (fun p541 => ?_) (fun p541 => ?_)
          · replace h := ite_T p541 h
            refine awp_skip ?_
            refine nx_then ?_
            refine awp_seq ?_
            refine awp_block ?_
            refine awp_rds hmix ?_
            refine do_ rfl rfl (st_mv rfl) rfl rfl rfl ?_
            refine do_ rfl rfl (st_mv rfl) rfl rfl rfl ?_
            obtain ⟨x542, h0542, hx542, h⟩ := getI_some h
            refine do_ rfl rfl (st_ixRi sl28 rfl rfl rfl h0542 hx542 (by first | exact List.length_replicate.symm | exact (srt_length _).symm | simp [srt_length] | simp)) rfl rfl rfl ?_
            refine do_ rfl rfl (st_ldP (v := dI .i64 x542) ta3 rfl rfl (rowOf_map_get hx542) rfl) rfl rfl rfl ?_
            refine do_ rfl rfl (st_mv rfl) rfl rfl rfl ?_
            refine do_ rfl rfl (st_mv rfl) rfl rfl rfl ?_
            refine do_ rfl rfl (st_bin (v := dI .i64 (IntKind.wrap .i64 (s400 - (1 : Int)))) rfl rfl rfl) rfl rfl rfl ?_
            obtain ⟨x543, h0543, hx543, h⟩ := getI_some h
            refine do_ rfl rfl (st_ixRi sl28 rfl rfl rfl h0543 hx543 (by first | exact List.length_replicate.symm | exact (srt_length _).symm | simp [srt_length] | simp)) rfl rfl rfl ?_
            refine do_ rfl rfl (st_ldP (v := dI .i64 x543) ta3 rfl rfl (rowOf_map_get hx543) rfl) rfl rfl rfl ?_
            refine do_ rfl rfl (st_bin (v := dB (x542 == x543)) rfl rfl rfl) rfl rfl rfl ?_
            refine rd_nil (by kernel_rfl) ?_
            refine awp_ite (b := (x542 == x543)) rfl (fun p544 => ?_) (fun p544 => ?_)
            · replace h := ite_T p544 h
              refine awp_rs ?_
              refine ro rfl rfl (st_mv rfl) ?_
              refine ro rfl rfl (st_mv rfl) ?_
              obtain ⟨c545, h⟩ := okI_some h
              refine ro rfl rfl (st_slRLo0 sl28 rfl rfl rfl c545.1 c545.2) ?_
              refine ro rfl rfl (st_as rfl) ?_
              refine rw_nilk ?_
              refine awp_seq ?_
              refine awp_rs ?_
              refine ro rfl rfl (st_as rfl) ?_
              refine rw_nilk ?_
              refine awp_block ?_
              obtain ⟨hl549, h⟩ := okI_some h
              refine awp_up (fun (j549 : Int) (s546 : (Int × (List Int))) (g547 : Unit) => [(0, .slice 1004 g105 0 s546.2.length), (3, dI .i64 s546.1), (4, .slice 1004 g105 s400.toNat (s104.length - s400.toNat)), (5, dI .i64 j549)]) (fun (s546 : (Int × (List Int))) (g547 : Unit) => [(1001, .row 0 25 [[dB a0.Cubes, dL 5 e_S_api_Line a0.Lines]]), (1004, rw' g105 3 (eI .i64) s546.2)]) () (fun _ _ _ h => h) h (gh_frz rfl rfl ⟨⟨_, rfl, frzN rfl (by first | exact List.length_replicate.symm | exact (srt_length _).symm | simp [srt_length] | simp)⟩, ⟨_, rfl, .keep rfl⟩, ⟨_, rfl, .keep rfl⟩, ⟨_, rfl, .keep rfl⟩, trivial⟩ ⟨⟨_, rfl, objOne ⟨⟨rfl, .keep rfl⟩, ⟨rfl, .keep rfl⟩, trivial⟩⟩, ⟨_, rfl, objRow _⟩, trivial⟩) ?_ ?_
              · clear h
                intro j549 s546 g547 k548 hj549 hx549 h ih548
                refine awp_seq ?_
                refine awp_rs ?_
                refine ro rfl rfl (st_mv rfl) ?_
                refine ro rfl rfl (st_mv rfl) ?_
                refine ro rfl rfl (st_lenR rfl un28 rfl) ?_
                refine ro rfl rfl (st_bin (v := dB (decide (j549 < (((s104.length - s400.toNat) : Nat) : Int)))) rfl rfl rfl) ?_
                refine rw_nilk ?_
                refine awp_ifT rfl (dltI (upT hj549 hx549)) ?_
                refine awp_skip ?_
                refine nx_then ?_
                refine awp_jn (fun (s595 : (Int × (List Int))) (g596 : Unit) => [(0, .slice 1004 g105 0 s595.2.length), (3, dI .i64 s595.1), (4, .slice 1004 g105 s400.toNat (s104.length - s400.toNat)), (5, dI .i64 j549)]) (fun (s595 : (Int × (List Int))) (g596 : Unit) => [(1001, .row 0 25 [[dB a0.Cubes, dL 5 e_S_api_Line a0.Lines]]), (1004, rw' g105 3 (eI .i64) s595.2)]) h ?_ ?_
                · clear h
                  intro s595 g596 h
                  refine awp_rw ?_
                  refine ro rfl rfl (st_mv rfl) ?_
                  refine ro rfl rfl (st_incU rfl rfl hl549 hj549 hx549) ?_
                  refine ro rfl rfl (st_as rfl) ?_
                  refine rw_nil ?_
                  refine nx_then ?_
                  refine awp_gh ?_ (ih548 (s595.1, s595.2) () h)
                  exact (gh_frz rfl rfl ⟨⟨_, rfl, .keep rfl⟩, ⟨_, rfl, .keep rfl⟩, ⟨_, rfl, .keep rfl⟩, ⟨_, rfl, .keep rfl⟩, trivial⟩ ⟨⟨_, rfl, objOne ⟨⟨rfl, .keep rfl⟩, ⟨rfl, .keep rfl⟩, trivial⟩⟩, ⟨_, rfl, objRow _⟩, trivial⟩)
                · clear h
                  intro k597 h J597
                  refine awp_block ?_
                  refine awp_rds hmix ?_
                  refine do_ rfl rfl (st_mv rfl) rfl rfl rfl ?_
                  refine do_ rfl rfl (st_mv rfl) rfl rfl rfl ?_
                  obtain ⟨c599, h⟩ := okI_some h
                  obtain ⟨x598, h0598, hx598, h⟩ := getI_some h
                  rw [Int.toNat_natCast] at hx598
                  refine do_ rfl rfl (st_ixR sl28 rfl rfl rfl c599.1 c599.2) rfl rfl rfl ?_
                  refine do_ rfl rfl (st_ldP (v := dI .i64 x598) ta3 rfl rfl (rowOf_map_get hx598) rfl) rfl rfl rfl ?_
                  refine do_ rfl rfl (st_mv rfl) rfl rfl rfl ?_
                  refine do_ rfl rfl (st_mv rfl) rfl rfl rfl ?_
                  refine do_ rfl rfl (st_bin (v := dI .i64 (IntKind.wrap .i64 (j549 - (1 : Int)))) rfl rfl rfl) rfl rfl rfl ?_
                  obtain ⟨c601, h⟩ := okI_some h
                  obtain ⟨x600, h0600, hx600, h⟩ := getI_some h
                  rw [Int.toNat_natCast] at hx600
                  refine do_ rfl rfl (st_ixR sl28 rfl rfl rfl c601.1 c601.2) rfl rfl rfl ?_
                  refine do_ rfl rfl (st_ldP (v := dI .i64 x600) ta3 rfl rfl (rowOf_map_get hx600) rfl) rfl rfl rfl ?_
                  refine do_ rfl rfl (st_bin (v := dB (x598 != x600)) rfl rfl rfl) rfl rfl rfl ?_
                  refine rd_nil (by kernel_rfl) ?_
                  refine awp_ite (b := (x598 != x600)) rfl (fun p602 => ?_) (fun p602 => ?_)
                  · replace h := ite_T p602 h
                    refine awp_rs ?_
                    refine ro rfl rfl (st_mv rfl) ?_
                    refine ro rfl rfl (st_mv rfl) ?_
                    refine ro rfl rfl (st_mv rfl) ?_
                    refine ro rfl rfl (st_mv rfl) ?_
                    obtain ⟨c604, h⟩ := okI_some h
                    obtain ⟨x603, h0603, hx603, h⟩ := getI_some h
                    rw [Int.toNat_natCast] at hx603
                    refine ro rfl rfl (st_ixR sl28 rfl rfl rfl c604.1 c604.2) ?_
                    refine ro rfl rfl (st_ldP (v := dI .i64 x603) ta3 rfl rfl (rowOf_map_get hx603) rfl) ?_
                    obtain ⟨x605, h0605, hx605, h⟩ := getI_some h
                    refine ro rfl rfl (st_ixRi sl28 rfl rfl rfl h0605 hx605 rfl) ?_
                    refine rx (L' := [(1001, .row 0 25 [[dB a0.Cubes, dL 5 e_S_api_Line a0.Lines]]), (1004, rw' g105 3 (eI .i64) (s546.2.set s546.1.toNat x603))]) rfl rfl (st_stT (z := x603) ta3 rfl rfl rfl hx605 rfl rfl rfl rfl rfl) rfl ?_
                    refine rw_nilk ?_
                    refine awp_rw ?_
                    refine ro rfl rfl (st_mv rfl) ?_
                    refine ro rfl rfl (st_bin (v := dI .i64 (IntKind.wrap .i64 (s546.1 + (1 : Int)))) rfl rfl rfl) ?_
                    refine ro rfl rfl (st_as rfl) ?_
                    refine rw_nil ?_
                    refine nx_block ?_
                    refine nx_then ?_
                    exact J597 ((IntKind.wrap .i64 (s546.1 + (1 : Int))), (s546.2.set s546.1.toNat x603)) () _ _ h (gh_frz rfl rfl ⟨⟨_, rfl, frzN rfl (by first | exact List.length_replicate.symm | exact (srt_length _).symm | simp [srt_length] | simp)⟩, ⟨_, rfl, .keep rfl⟩, ⟨_, rfl, .keep rfl⟩, ⟨_, rfl, .keep rfl⟩, trivial⟩ ⟨⟨_, rfl, objOne ⟨⟨rfl, .keep rfl⟩, ⟨rfl, .keep rfl⟩, trivial⟩⟩, ⟨_, rfl, objRow _⟩, trivial⟩)
                  · replace h := ite_F p602 h
                    refine awp_skip ?_
                    refine nx_block ?_
                    refine nx_then ?_
                    exact J597 (s546.1, s546.2) () _ _ h (gh_frz rfl rfl ⟨⟨_, rfl, .keep rfl⟩, ⟨_, rfl, .keep rfl⟩, ⟨_, rfl, .keep rfl⟩, ⟨_, rfl, .keep rfl⟩, trivial⟩ ⟨⟨_, rfl, objOne ⟨⟨rfl, .keep rfl⟩, ⟨rfl, .keep rfl⟩, trivial⟩⟩, ⟨_, rfl, objRow _⟩, trivial⟩)
              · clear h
                intro s546 g547 h
                refine awp_seq ?_
                refine awp_rs ?_
                refine ro rfl rfl (st_mv rfl) ?_
                refine ro rfl rfl (st_mv rfl) ?_
                refine ro rfl rfl (st_lenR rfl un28 rfl) ?_
                refine ro rfl rfl (st_bin (v := dB (decide (((1 : Int) + ((((((s104.length - s400.toNat) : Nat) : Int) - (1 : Int)).toNat : Nat) : Int)) < (((s104.length - s400.toNat) : Nat) : Int)))) rfl rfl rfl) ?_
                refine rw_nilk ?_
                refine awp_ifF rfl (dgeI upD) ?_
                refine awp_exit ?_
                refine ex_out ?_
                refine ex_out ?_
                refine ex_in ?_
                refine nx_then ?_
                refine awp_rs ?_
                refine ro rfl rfl (st_mv rfl) ?_
                refine ro rfl rfl (st_mv rfl) ?_
                obtain ⟨c606, h⟩ := okI_some h
                refine ro rfl rfl (st_slRLo0 sl28 rfl rfl rfl c606.1 c606.2) ?_
                obtain ⟨c607, h⟩ := okI_some h
                refine rx_clear (r := 1004) (g := g105) (f := (eI .i64)) (xs := s546.2) (ys := (s546.2.take s546.1.toNat ++ List.replicate (s546.2.length - s546.1.toNat) (0 : Int) ++ s546.2.drop (s546.1.toNat + (s546.2.length - s546.1.toNat)))) (n := (s546.2.length - s546.1.toNat)) (L' := [(1001, .row 0 25 [[dB a0.Cubes, dL 5 e_S_api_Line a0.Lines]]), (1004, rw' g105 3 (eI .i64) (s546.2.take s546.1.toNat ++ List.replicate (s546.2.length - s546.1.toNat) (0 : Int) ++ s546.2.drop (s546.1.toNat + (s546.2.length - s546.1.toNat))))]) rfl rfl (st_clear (z := (0 : Int)) sl28 zc3 (by first | rfl | (simp only [Nat.zero_add]; rfl)) rfl rfl rfl c607) (fun h => clear_nil rfl h) rfl ?_
                refine rw_nilk ?_
                refine awp_rs ?_
                refine ro rfl rfl (st_mv rfl) ?_
                refine ro rfl rfl (st_mv rfl) ?_
                obtain ⟨c608, h⟩ := okI_some h
                refine ro rfl rfl (st_slRHi sl28 rfl rfl rfl c608.1 c608.2) ?_
                refine ro rfl rfl (st_as rfl) ?_
                refine rw_nilk ?_
                refine awp_ret ?_
                refine rt_block ?_
                refine rt_then ?_
                refine rt_then ?_
                refine rt_block ?_
                refine rt_then ?_
                refine ret_in (v := .slice 1004 g105 0 s546.1.toNat) (resV_one (resVs_tmp rfl resVs_nil)) ?_
                exact J398 ((s546.2.take s546.1.toNat ++ List.replicate (s546.2.length - s546.1.toNat) (0 : Int) ++ s546.2.drop (s546.1.toNat + (s546.2.length - s546.1.toNat))), s546.1.toNat) () _ _ h (gh_frz rfl rfl ⟨⟨_, rfl, .keep rfl⟩, trivial⟩ ⟨⟨_, rfl, objRow _⟩, trivial⟩)
            · replace h := ite_F p544 h
              refine awp_skip ?_
              refine nx_block ?_
              refine nx_then ?_
              refine awp_rw ?_
              refine ro rfl rfl (st_mv rfl) ?_
              refine ro rfl rfl (st_bin (v := dI .i64 (IntKind.wrap .i64 (s400 + (1 : Int)))) rfl rfl rfl) ?_
              refine ro rfl rfl (st_as rfl) ?_
              refine rw_nil ?_
              refine nx_then ?_
              refine awp_gh ?_ (ih402 (IntKind.wrap .i64 (s400 + (1 : Int))) () h)
              exact (gh_frz rfl rfl ⟨⟨_, rfl, frzN rfl (by first | exact List.length_replicate.symm | exact (srt_length _).symm | simp [srt_length] | simp)⟩, ⟨_, rfl, .keep rfl⟩, trivial⟩ ⟨⟨_, rfl, objOne ⟨⟨rfl, .keep rfl⟩, ⟨rfl, .keep rfl⟩, trivial⟩⟩, ⟨_, rfl, objRow _⟩, trivial⟩)
          · replace h := ite_F p541 h
            refine awp_exit ?_
            refine ex_out ?_
            refine ex_out ?_
            refine ex_in ?_
            refine nx_then ?_
            refine awp_rs ?_
            refine ro rfl rfl (st_mv rfl) ?_
            refine ro rfl rfl (st_as rfl) ?_
            refine rw_nilk ?_
            refine awp_ret ?_
            refine ret_in (v := .slice 1004 g105 0 s104.length) (resV_one (resVs_tmp rfl resVs_nil)) ?_
            exact J398 ((srt s104), s104.length) () _ _ h (gh_frz rfl rfl ⟨⟨_, rfl, frzN rfl (by first | exact List.length_replicate.symm | exact (srt_length _).symm | simp [srt_length] | simp)⟩, trivial⟩ ⟨⟨_, rfl, objRow _⟩, trivial⟩)
end Go.Sk.X
