/- The program computes these plain functions (law ProofJoins, part 1). It has no conditions. -/
import Derived.Test.YtehfobeocanbfaaProg
import Derived.Test.YtehfobeocanbfaaSk7
import Derived.Test.YtehfobeocanbfaaSk5
import Derived.Test.YtehfobeocanbfaaXProofJoinsF
import Derived.KernelRfl
set_option linter.unusedVariables false
set_option linter.unusedSimpArgs false
set_option maxRecDepth 100000
set_option maxHeartbeats 4000000
namespace Go.Sk.X
open Go Go.Sk Go.Proofs
abbrev e_S_api_Line (x : S_api_Line) : List Dat := [.int .u8 x.Rule, .int .i64 x.A, .int .i64 x.B, .int .i64 x.Piv, .sl 1 (x.Lits.map (eI .i64))]
abbrev e_S_api_Proof (x : S_api_Proof) : List Dat := [.bool x.Cubes, .sl 5 (x.Lines.map e_S_api_Line)]
theorem hmix : (Go.Proofs.Try.prog).follows .mixedOrders = true := by kernel_rfl
theorem ta3 : tAgg Go.Proofs.Try.prog 3 = some (false, 1) := by kernel_rfl
theorem co3 : Program.cellsOf Go.Proofs.Try.prog 3 = 1 := by kernel_rfl
theorem zc3 : zCells Go.Proofs.Try.prog 3 = some [.dat (.int .i64 0)] := by kernel_rfl
theorem ta4 : tAgg Go.Proofs.Try.prog 4 = some (false, 1) := by kernel_rfl
theorem un4 : Program.underlying Go.Proofs.Try.prog 4 = some .bool := Go.Proofs.Try.underlying4
theorem un22 : Program.underlying Go.Proofs.Try.prog 22 = some (.slice 28) := Go.Proofs.Try.underlying22
theorem sl22 : slE Go.Proofs.Try.prog 22 = some (28, 1, 24) := by kernel_rfl
theorem ta23 : tAgg Go.Proofs.Try.prog 23 = some (false, 1) := by kernel_rfl
theorem un23 : Program.underlying Go.Proofs.Try.prog 23 = some (.slice 58) := Go.Proofs.Try.underlying23
theorem sl23 : slE Go.Proofs.Try.prog 23 = some (58, 5, 56) := by kernel_rfl
theorem ta25 : tAgg Go.Proofs.Try.prog 25 = some (true, 2) := by kernel_rfl
theorem co25 : Program.cellsOf Go.Proofs.Try.prog 25 = 2 := by kernel_rfl
theorem fo25_0 : fOff Go.Proofs.Try.prog 25 0 = some (0, 1, false) := by kernel_rfl
theorem fo25_1 : fOff Go.Proofs.Try.prog 25 1 = some (1, 1, false) := by kernel_rfl
theorem zc25 : zCells Go.Proofs.Try.prog 25 = some [.dat (.bool false), .nilS] := by kernel_rfl
theorem bl25 : bLay Go.Proofs.Try.prog 25 = some ([.dat (.bool false), .nilS], .list [(0, 1), (1, 1)]) := by kernel_rfl
theorem ta28 : tAgg Go.Proofs.Try.prog 28 = some (false, 1) := by kernel_rfl
theorem un28 : Program.underlying Go.Proofs.Try.prog 28 = some (.slice 3) := Go.Proofs.Try.underlying28
theorem sl28 : slE Go.Proofs.Try.prog 28 = some (3, 1, 8) := by kernel_rfl
theorem ta56 : tAgg Go.Proofs.Try.prog 56 = some (false, 1) := by kernel_rfl
theorem ta58 : tAgg Go.Proofs.Try.prog 58 = some (true, 5) := by kernel_rfl
theorem co58 : Program.cellsOf Go.Proofs.Try.prog 58 = 5 := by kernel_rfl
theorem fo58_0 : fOff Go.Proofs.Try.prog 58 0 = some (0, 1, false) := by kernel_rfl
theorem fo58_1 : fOff Go.Proofs.Try.prog 58 1 = some (1, 1, false) := by kernel_rfl
theorem fo58_2 : fOff Go.Proofs.Try.prog 58 2 = some (2, 1, false) := by kernel_rfl
theorem fo58_3 : fOff Go.Proofs.Try.prog 58 3 = some (3, 1, false) := by kernel_rfl
theorem fo58_4 : fOff Go.Proofs.Try.prog 58 4 = some (4, 1, false) := by kernel_rfl
theorem zc58 : zCells Go.Proofs.Try.prog 58 = some [.dat (.int .u8 0), .dat (.int .i64 0), .dat (.int .i64 0), .dat (.int .i64 0), .nilS] := by kernel_rfl
theorem bl58 : bLay Go.Proofs.Try.prog 58 = some ([.dat (.int .u8 0), .dat (.int .i64 0), .dat (.int .i64 0), .dat (.int .i64 0), .nilS], .list [(0, 1), (1, 1), (2, 1), (3, 1), (4, 1)]) := by kernel_rfl

theorem ok_skolemlaw10_large {a0 : (List (List Int))} {a1 : S_api_Proof} {r : Bool} (h : F_skolemlaw10_large a0 a1 = some r) : Fn Try.prog 12 [dL 1 (eL 1 (eI .i64)) a0, .agg [dB a1.Cubes, dL 5 e_S_api_Line a1.Lines]] (dB r) := by
  unfold F_skolemlaw10_large at h
  refine Fn.of_body (N := 55) (rs := [.tmp 4]) Try.func12 (c := _) rfl rfl rfl (by kernel_rfl) (Nat.le_of_ble_eq_true rfl) (fun _B => ?_)
  refine awp_rs ?_
  refine rn (r := 1001) rfl rfl (st_box rfl rfl rfl co25 rfl rfl) rfl ?_
  refine ro rfl rfl (st_as rfl) ?_
  refine rw_nilk ?_
  refine awp_rs ?_
  refine ro rfl rfl (st_as rfl) ?_
  refine ro rfl rfl (st_as rfl) ?_
  refine rw_nilk ?_
  refine awp_seq ?_
  refine awp_rs ?_
  refine ro rfl rfl (st_as rfl) ?_
  refine rw_nilk ?_
  refine awp_block ?_
  refine awp_len (t := 0) rfl (fun hl104 => ?_)
  rw [List.length_map] at hl104
  refine awp_range (fun (j104 : Nat) (s101 : Int) (g102 : Unit) => [(0, dL 1 (eL 1 (eI .i64)) a0), (3, .ptr 1001 0 0 0), (5, dI .i64 s101), (6, dI .i64 (0 : Int)), (7, dI .i64 ((j104 : Nat) : Int))]) (fun (s101 : Int) (g102 : Unit) => [(1001, .row 0 25 [[dB a1.Cubes, dL 5 e_S_api_Line a1.Lines]])]) () (fun _ _ _ h => h) h (gh_frz rfl rfl ⟨⟨_, rfl, .keep rfl⟩, ⟨_, rfl, .keep rfl⟩, ⟨_, rfl, .keep rfl⟩, ⟨_, rfl, .keep rfl⟩, ⟨_, rfl, .keep rfl⟩, trivial⟩ ⟨⟨_, rfl, objOne ⟨⟨rfl, .keep rfl⟩, ⟨rfl, .keep rfl⟩, trivial⟩⟩, trivial⟩) ?_ ?_
  · clear h
    intro j104 x105 s101 g102 k103 hj104 hx104 h ih103
    refine awp_seq ?_
    refine awp_rs ?_
    refine ro rfl rfl (st_mv rfl) ?_
    refine ro rfl rfl (st_mv rfl) ?_
    refine ro rfl rfl (st_lenD rfl un22) ?_
    refine ro rfl rfl (st_bin (v := dB (decide (((j104 : Nat) : Int) < ((a0.length : Nat) : Int)))) rfl rfl rfl) ?_
    refine rw_nilk ?_
    refine awp_ifT rfl (dlt hj104) ?_
    refine awp_skip ?_
    refine nx_then ?_
    refine awp_seq ?_
    refine awp_block ?_
    refine awp_rw ?_
    refine ro rfl rfl (st_mv rfl) ?_
    refine ro rfl rfl (st_mv rfl) ?_
    refine ro rfl rfl (st_mv rfl) ?_
    refine ro rfl rfl (st_ixDn sl22 rfl rfl hx104) ?_
    refine ro rfl rfl (st_ldD (v := dL 1 (eI .i64) x105) ta28 rfl rfl) ?_
    refine ro rfl rfl (st_lenD rfl un28) ?_
    refine ro rfl rfl (st_bin (v := dI .i64 (IntKind.wrap .i64 (s101 + ((x105.length : Nat) : Int)))) rfl rfl rfl) ?_
    refine ro rfl rfl (st_as rfl) ?_
    refine rw_nil ?_
    refine nx_block ?_
    refine nx_then ?_
    refine awp_rw ?_
    refine ro rfl rfl (st_mv rfl) ?_
    refine ro rfl rfl (st_inc rfl rfl hj104 hl104) ?_
    refine ro rfl rfl (st_as rfl) ?_
    refine rw_nil ?_
    refine nx_then ?_
    refine awp_gh ?_ (ih103 (IntKind.wrap .i64 (s101 + ((x105.length : Nat) : Int))) () h)
    exact (gh_frz rfl rfl ⟨⟨_, rfl, .keep rfl⟩, ⟨_, rfl, .keep rfl⟩, ⟨_, rfl, .keep rfl⟩, ⟨_, rfl, .keep rfl⟩, ⟨_, rfl, .keep rfl⟩, trivial⟩ ⟨⟨_, rfl, objOne ⟨⟨rfl, .keep rfl⟩, ⟨rfl, .keep rfl⟩, trivial⟩⟩, trivial⟩)
  · clear h
    intro s101 g102 h
    refine awp_seq ?_
    refine awp_rs ?_
    refine ro rfl rfl (st_mv rfl) ?_
    refine ro rfl rfl (st_mv rfl) ?_
    refine ro rfl rfl (st_lenD rfl un22) ?_
    refine ro rfl rfl (st_bin (v := dB (decide (((a0.length : Nat) : Int) < ((a0.length : Nat) : Int)))) rfl rfl rfl) ?_
    refine rw_nilk ?_
    refine awp_ifF rfl dge ?_
    refine awp_exit ?_
    refine ex_out ?_
    refine ex_out ?_
    refine ex_in ?_
    refine nx_then ?_
    refine awp_seq ?_
    refine awp_rs ?_
    refine ro rfl rfl (st_as rfl) ?_
    refine rw_nilk ?_
    refine awp_block ?_
    refine awp_lenC (r := 1001) (i := 1) rfl rfl (fun hl109 => ?_)
    rw [List.length_map] at hl109
    refine awp_range (fun (j109 : Nat) (s106 : Int) (g107 : Unit) => [(0, dL 1 (eL 1 (eI .i64)) a0), (3, .ptr 1001 0 0 0), (5, dI .i64 s101), (6, dI .i64 s106), (8, dI .i64 ((j109 : Nat) : Int))]) (fun (s106 : Int) (g107 : Unit) => [(1001, .row 0 25 [[dB a1.Cubes, dL 5 e_S_api_Line a1.Lines]])]) () (fun _ _ _ h => h) h (gh_frz rfl rfl ⟨⟨_, rfl, .keep rfl⟩, ⟨_, rfl, .keep rfl⟩, ⟨_, rfl, .keep rfl⟩, ⟨_, rfl, .keep rfl⟩, ⟨_, rfl, .keep rfl⟩, trivial⟩ ⟨⟨_, rfl, objOne ⟨⟨rfl, .keep rfl⟩, ⟨rfl, .keep rfl⟩, trivial⟩⟩, trivial⟩) ?_ ?_
    · clear h
      intro j109 x110 s106 g107 k108 hj109 hx109 h ih108
      refine awp_seq ?_
      refine awp_rs ?_
      refine ro rfl rfl (st_mv rfl) ?_
      refine ro rfl rfl (st_faP fo25_1 rfl) ?_
      refine ro rfl rfl (st_ldP (v := dL 5 e_S_api_Line a1.Lines) ta23 rfl rfl rfl rfl) ?_
      refine ro rfl rfl (st_lenD rfl un23) ?_
      refine ro rfl rfl (st_bin (v := dB (decide (((j109 : Nat) : Int) < ((a1.Lines.length : Nat) : Int)))) rfl rfl rfl) ?_
      refine rw_nilk ?_
      refine awp_ifT rfl (dlt hj109) ?_
      refine awp_skip ?_
      refine nx_then ?_
      refine awp_seq ?_
      refine awp_block ?_
      refine awp_rw ?_
      refine ro rfl rfl (st_mv rfl) ?_
      refine ro rfl rfl (st_faP fo25_1 rfl) ?_
      refine ro rfl rfl (st_ldP (v := dL 5 e_S_api_Line a1.Lines) ta23 rfl rfl rfl rfl) ?_
      refine ro rfl rfl (st_mv rfl) ?_
      refine ro rfl rfl (st_ixDn sl23 rfl rfl hx109) ?_
      refine ro rfl rfl (st_faD fo58_4 rfl) ?_
      refine ro rfl rfl (st_ldD (v := dL 1 (eI .i64) x110.Lits) ta28 rfl rfl) ?_
      refine ro rfl rfl (st_lenD rfl un28) ?_
      refine ro rfl rfl (st_bin (v := dI .i64 (IntKind.wrap .i64 (s106 + ((x110.Lits.length : Nat) : Int)))) rfl rfl rfl) ?_
      refine ro rfl rfl (st_as rfl) ?_
      refine rw_nil ?_
      refine nx_block ?_
      refine nx_then ?_
      refine awp_rw ?_
      refine ro rfl rfl (st_mv rfl) ?_
      refine ro rfl rfl (st_inc rfl rfl hj109 hl109) ?_
      refine ro rfl rfl (st_as rfl) ?_
      refine rw_nil ?_
      refine nx_then ?_
      refine awp_gh ?_ (ih108 (IntKind.wrap .i64 (s106 + ((x110.Lits.length : Nat) : Int))) () h)
      exact (gh_frz rfl rfl ⟨⟨_, rfl, .keep rfl⟩, ⟨_, rfl, .keep rfl⟩, ⟨_, rfl, .keep rfl⟩, ⟨_, rfl, .keep rfl⟩, ⟨_, rfl, .keep rfl⟩, trivial⟩ ⟨⟨_, rfl, objOne ⟨⟨rfl, .keep rfl⟩, ⟨rfl, .keep rfl⟩, trivial⟩⟩, trivial⟩)
    · clear h
      intro s106 g107 h
      refine awp_seq ?_
      refine awp_rs ?_
      refine ro rfl rfl (st_mv rfl) ?_
      refine ro rfl rfl (st_faP fo25_1 rfl) ?_
      refine ro rfl rfl (st_ldP (v := dL 5 e_S_api_Line a1.Lines) ta23 rfl rfl rfl rfl) ?_
      refine ro rfl rfl (st_lenD rfl un23) ?_
      refine ro rfl rfl (st_bin (v := dB (decide (((a1.Lines.length : Nat) : Int) < ((a1.Lines.length : Nat) : Int)))) rfl rfl rfl) ?_
      refine rw_nilk ?_
      refine awp_ifF rfl dge ?_
      refine awp_exit ?_
      refine ex_out ?_
      refine ex_out ?_
      refine ex_in ?_
      refine nx_then ?_
      refine awp_rs ?_
      refine ro rfl rfl (st_mv rfl) ?_
      refine ro rfl rfl (st_lenD rfl un22) ?_
      refine ro rfl rfl (st_bin (v := dB (decide (((a0.length : Nat) : Int) > (200 : Int)))) rfl rfl rfl) ?_
      refine ro rfl rfl (st_mv rfl) ?_
      refine bool_split (decide (((a0.length : Nat) : Int) > (200 : Int))) (fun p114 => ?_) (fun p114 => ?_)
      · replace h := ite_T p114 h
        rw [p114]
        refine rz rfl rfl ?_
        refine rz rfl rfl ?_
        refine ro rfl rfl (st_pickT rfl rfl) ?_
        refine ro rfl rfl (st_mv rfl) ?_
        refine rz rfl rfl ?_
        refine rz rfl rfl ?_
        refine rz rfl rfl ?_
        refine rz rfl rfl ?_
        refine ro rfl rfl (st_pickT rfl rfl) ?_
        refine ro rfl rfl (st_mv rfl) ?_
        refine rz rfl rfl ?_
        refine rz rfl rfl ?_
        refine ro rfl rfl (st_pickT rfl rfl) ?_
        refine ro rfl rfl (st_as rfl) ?_
        refine rw_nilk ?_
        refine awp_ret ?_
        injection h with h
        subst h
        exact ret_out (v := dB true) (resV_one (resVs_tmp rfl resVs_nil)) (.keep rfl)
      · replace h := ite_F p114 h
        rw [p114]
        refine ro rfl rfl (st_mv rfl) ?_
        refine ro rfl rfl (st_bin (v := dB (decide (s101 > (1000 : Int)))) rfl rfl rfl) ?_
        refine ro rfl rfl (st_pickF rfl rfl) ?_
        refine ro rfl rfl (st_mv rfl) ?_
        refine bool_split (decide (s101 > (1000 : Int))) (fun p115 => ?_) (fun p115 => ?_)
        · replace h := ite_T p115 h
          rw [p115]
          refine rz rfl rfl ?_
          refine rz rfl rfl ?_
          refine rz rfl rfl ?_
          refine rz rfl rfl ?_
          refine ro rfl rfl (st_pickT rfl rfl) ?_
          refine ro rfl rfl (st_mv rfl) ?_
          refine rz rfl rfl ?_
          refine rz rfl rfl ?_
          refine ro rfl rfl (st_pickT rfl rfl) ?_
          refine ro rfl rfl (st_as rfl) ?_
          refine rw_nilk ?_
          refine awp_ret ?_
          injection h with h
          subst h
          exact ret_out (v := dB true) (resV_one (resVs_tmp rfl resVs_nil)) (.keep rfl)
        · replace h := ite_F p115 h
          rw [p115]
          refine ro rfl rfl (st_faP fo25_1 rfl) ?_
          refine ro rfl rfl (st_ldP (v := dL 5 e_S_api_Line a1.Lines) ta23 rfl rfl rfl rfl) ?_
          refine ro rfl rfl (st_lenD rfl un23) ?_
          refine ro rfl rfl (st_bin (v := dB (decide (((a1.Lines.length : Nat) : Int) > (300 : Int)))) rfl rfl rfl) ?_
          refine ro rfl rfl (st_pickF rfl rfl) ?_
          refine ro rfl rfl (st_mv rfl) ?_
          refine bool_split (decide (((a1.Lines.length : Nat) : Int) > (300 : Int))) (fun p116 => ?_) (fun p116 => ?_)
          · replace h := ite_T p116 h
            rw [p116]
            refine rz rfl rfl ?_
            refine rz rfl rfl ?_
            refine ro rfl rfl (st_pickT rfl rfl) ?_
            refine ro rfl rfl (st_as rfl) ?_
            refine rw_nilk ?_
            refine awp_ret ?_
            injection h with h
            subst h
            exact ret_out (v := dB true) (resV_one (resVs_tmp rfl resVs_nil)) (.keep rfl)
          · replace h := ite_F p116 h
            rw [p116]
            refine ro rfl rfl (st_mv rfl) ?_
            refine ro rfl rfl (st_bin (v := dB (decide (s106 > (2000 : Int)))) rfl rfl rfl) ?_
            refine ro rfl rfl (st_pickF rfl rfl) ?_
            refine ro rfl rfl (st_as rfl) ?_
            refine rw_nilk ?_
            refine awp_ret ?_
            injection h with h
            subst h
            exact ret_out (v := dB (decide (s106 > (2000 : Int)))) (resV_one (resVs_tmp rfl resVs_nil)) (.keep rfl)

theorem ok_skolemlaw10_head {r : Bool} (h : F_skolemlaw10_head = some r) : Fn Try.prog 13 [] (dB r) := by
  unfold F_skolemlaw10_head at h
  injection h with h
  subst h
  exact fn_eval (n := 5000) (by kernel_rfl) (by kernel_rfl)

theorem ok_skolemref09_Same {a0 : (List Int)} {a1 : (List Int)} {r : Bool} (h : F_skolemref09_Same a0 a1 = some r) : Fn Try.prog 16 [dL 1 (eI .i64) a0, dL 1 (eI .i64) a1] (dB r) := by
  unfold F_skolemref09_Same at h
  refine Fn.of_body (N := 26) (rs := [.tmp 4]) Try.func16 (c := _) rfl rfl rfl (by kernel_rfl) (Nat.le_of_ble_eq_true rfl) (fun _B => ?_)
  refine awp_rs ?_
  refine ro rfl rfl (st_as rfl) ?_
  refine rw_nilk ?_
  refine awp_seq ?_
  refine awp_rs ?_
  refine ro rfl rfl (st_mv rfl) ?_
  refine ro rfl rfl (st_lenD rfl un28) ?_
  refine ro rfl rfl (st_mv rfl) ?_
  refine ro rfl rfl (st_lenD rfl un28) ?_
  refine ro rfl rfl (st_bin (v := dB (((a0.length : Nat) : Int) != ((a1.length : Nat) : Int))) rfl rfl rfl) ?_
  refine rw_nilk ?_
  refine awp_ite (b := (((a0.length : Nat) : Int) != ((a1.length : Nat) : Int))) rfl (fun p101 => ?_) (fun p101 => ?_)
  · replace h := ite_T p101 h
    refine awp_rs ?_
    refine ro rfl rfl (st_as rfl) ?_
    refine rw_nilk ?_
    refine awp_ret ?_
    refine rt_then ?_
    injection h with h
    subst h
    exact ret_out (v := dB false) (resV_one (resVs_tmp rfl resVs_nil)) (.keep rfl)
  · replace h := ite_F p101 h
    refine awp_skip ?_
    refine nx_then ?_
    refine awp_seq ?_
    refine awp_rs ?_
    refine ro rfl rfl (st_as rfl) ?_
    refine rw_nilk ?_
    refine awp_block ?_
    refine awp_len (t := 0) rfl (fun hl105 => ?_)
    rw [List.length_map] at hl105
    refine awp_range (fun (j105 : Nat) (s102 : Unit) (g103 : Unit) => [(0, dL 1 (eI .i64) a0), (1, dL 1 (eI .i64) a1), (5, dI .i64 ((j105 : Nat) : Int))]) (fun (s102 : Unit) (g103 : Unit) => []) () (fun _ _ _ h => h) h (gh_frz rfl rfl ⟨⟨_, rfl, .keep rfl⟩, ⟨_, rfl, .keep rfl⟩, ⟨_, rfl, .keep rfl⟩, trivial⟩ trivial) ?_ ?_
    · clear h
      intro j105 x106 s102 g103 k104 hj105 hx105 h ih104
      refine awp_seq ?_
      refine awp_rs ?_
      refine ro rfl rfl (st_mv rfl) ?_
      refine ro rfl rfl (st_mv rfl) ?_
      refine ro rfl rfl (st_lenD rfl un28) ?_
      refine ro rfl rfl (st_bin (v := dB (decide (((j105 : Nat) : Int) < ((a0.length : Nat) : Int)))) rfl rfl rfl) ?_
      refine rw_nilk ?_
      refine awp_ifT rfl (dlt hj105) ?_
      refine awp_skip ?_
      refine nx_then ?_
      refine awp_seq ?_
      refine awp_block ?_
      refine awp_rds hmix ?_
      refine do_ rfl rfl (st_mv rfl) rfl rfl rfl ?_
      refine do_ rfl rfl (st_mv rfl) rfl rfl rfl ?_
      refine do_ rfl rfl (st_ixDn sl28 rfl rfl hx105) rfl rfl rfl ?_
      refine do_ rfl rfl (st_ldD (v := dI .i64 x106) ta3 rfl rfl) rfl rfl rfl ?_
      refine do_ rfl rfl (st_mv rfl) rfl rfl rfl ?_
      refine do_ rfl rfl (st_mv rfl) rfl rfl rfl ?_
      obtain ⟨x109, h0109, hx109, h⟩ := getI_some h
      refine do_ rfl rfl (st_ixD sl28 rfl rfl h0109 hx109) rfl rfl rfl ?_
      refine do_ rfl rfl (st_ldD (v := dI .i64 x109) ta3 rfl rfl) rfl rfl rfl ?_
      refine do_ rfl rfl (st_bin (v := dB (x106 != x109)) rfl rfl rfl) rfl rfl rfl ?_
      refine rd_nil (by kernel_rfl) ?_
      refine awp_ite (b := (x106 != x109)) rfl (fun p110 => ?_) (fun p110 => ?_)
      · replace h := ite_T p110 h
        refine awp_rs ?_
        refine ro rfl rfl (st_as rfl) ?_
        refine rw_nilk ?_
        refine awp_ret ?_
        refine rt_block ?_
        refine rt_then ?_
        refine rt_then ?_
        refine rt_block ?_
        refine rt_then ?_
        injection h with h
        subst h
        exact ret_out (v := dB false) (resV_one (resVs_tmp rfl resVs_nil)) (.keep rfl)
      · replace h := ite_F p110 h
        refine awp_skip ?_
        refine nx_block ?_
        refine nx_then ?_
        refine awp_rw ?_
        refine ro rfl rfl (st_mv rfl) ?_
        refine ro rfl rfl (st_inc rfl rfl hj105 hl105) ?_
        refine ro rfl rfl (st_as rfl) ?_
        refine rw_nil ?_
        refine nx_then ?_
        refine awp_gh ?_ (ih104 () () h)
        exact (gh_frz rfl rfl ⟨⟨_, rfl, .keep rfl⟩, ⟨_, rfl, .keep rfl⟩, ⟨_, rfl, .keep rfl⟩, trivial⟩ trivial)
    · clear h
      intro s102 g103 h
      refine awp_seq ?_
      refine awp_rs ?_
      refine ro rfl rfl (st_mv rfl) ?_
      refine ro rfl rfl (st_mv rfl) ?_
      refine ro rfl rfl (st_lenD rfl un28) ?_
      refine ro rfl rfl (st_bin (v := dB (decide (((a0.length : Nat) : Int) < ((a0.length : Nat) : Int)))) rfl rfl rfl) ?_
      refine rw_nilk ?_
      refine awp_ifF rfl dge ?_
      refine awp_exit ?_
      refine ex_out ?_
      refine ex_out ?_
      refine ex_in ?_
      refine nx_then ?_
      refine awp_rs ?_
      refine ro rfl rfl (st_as rfl) ?_
      refine rw_nilk ?_
      refine awp_ret ?_
      injection h with h
      subst h
      exact ret_out (v := dB true) (resV_one (resVs_tmp rfl resVs_nil)) (.keep rfl)

theorem ok_skolemref09_SameProof {a0 : S_api_Proof} {a1 : S_api_Proof} {r : Bool} (h : F_skolemref09_SameProof a0 a1 = some r) : Fn Try.prog 24 [.agg [dB a0.Cubes, dL 5 e_S_api_Line a0.Lines], .agg [dB a1.Cubes, dL 5 e_S_api_Line a1.Lines]] (dB r) := by
  unfold F_skolemref09_SameProof at h
  refine Fn.of_body (N := 73) (rs := [.tmp 4]) Try.func24 (c := _) rfl rfl rfl (by kernel_rfl) (Nat.le_of_ble_eq_true rfl) (fun _B => ?_)
  refine awp_rs ?_
  refine rn (r := 1001) rfl rfl (st_box rfl rfl rfl co25 rfl rfl) rfl ?_
  refine rn (r := 1002) rfl rfl (st_box rfl rfl rfl co25 rfl rfl) rfl ?_
  refine ro rfl rfl (st_as rfl) ?_
  refine rw_nilk ?_
  refine awp_seq ?_
  refine awp_jn (fun (s108 : Bool) (g109 : Unit) => [(2, .ptr 1001 0 0 0), (3, .ptr 1002 0 0 0), (21, dB s108)]) (fun (s108 : Bool) (g109 : Unit) => [(1001, .row 0 25 [[dB a0.Cubes, dL 5 e_S_api_Line a0.Lines]]), (1002, .row 0 25 [[dB a1.Cubes, dL 5 e_S_api_Line a1.Lines]])]) h ?_ ?_
  · clear h
    intro s108 g109 h
    refine awp_ite (b := s108) rfl (fun p111 => ?_) (fun p111 => ?_)
    · replace h := ite_T p111 h
      refine awp_rs ?_
      refine ro rfl rfl (st_as rfl) ?_
      refine rw_nilk ?_
      refine awp_ret ?_
      refine rt_then ?_
      injection h with h
      subst h
      exact ret_out (v := dB false) (resV_one (resVs_tmp rfl resVs_nil)) (.keep rfl)
    · replace h := ite_F p111 h
      refine awp_skip ?_
      refine nx_then ?_
      refine awp_seq ?_
      refine awp_rs ?_
      refine ro rfl rfl (st_as rfl) ?_
      refine rw_nilk ?_
      refine awp_block ?_
      refine awp_lenC (r := 1001) (i := 1) rfl rfl (fun hl115 => ?_)
      rw [List.length_map] at hl115
      refine awp_range (fun (j115 : Nat) (s112 : Unit) (g113 : Unit) => [(2, .ptr 1001 0 0 0), (3, .ptr 1002 0 0 0), (5, dI .i64 ((j115 : Nat) : Int))]) (fun (s112 : Unit) (g113 : Unit) => [(1001, .row 0 25 [[dB a0.Cubes, dL 5 e_S_api_Line a0.Lines]]), (1002, .row 0 25 [[dB a1.Cubes, dL 5 e_S_api_Line a1.Lines]])]) () (fun _ _ _ h => h) h (gh_frz rfl rfl ⟨⟨_, rfl, .keep rfl⟩, ⟨_, rfl, .keep rfl⟩, ⟨_, rfl, .keep rfl⟩, trivial⟩ ⟨⟨_, rfl, objOne ⟨⟨rfl, .keep rfl⟩, ⟨rfl, .keep rfl⟩, trivial⟩⟩, ⟨_, rfl, objOne ⟨⟨rfl, .keep rfl⟩, ⟨rfl, .keep rfl⟩, trivial⟩⟩, trivial⟩) ?_ ?_
      · clear h
        intro j115 x116 s112 g113 k114 hj115 hx115 h ih114
        refine awp_seq ?_
        refine awp_rs ?_
        refine ro rfl rfl (st_mv rfl) ?_
        refine ro rfl rfl (st_faP fo25_1 rfl) ?_
        refine ro rfl rfl (st_ldP (v := dL 5 e_S_api_Line a0.Lines) ta23 rfl rfl rfl rfl) ?_
        refine ro rfl rfl (st_lenD rfl un23) ?_
        refine ro rfl rfl (st_bin (v := dB (decide (((j115 : Nat) : Int) < ((a0.Lines.length : Nat) : Int)))) rfl rfl rfl) ?_
        refine rw_nilk ?_
        refine awp_ifT rfl (dlt hj115) ?_
        refine awp_skip ?_
        refine nx_then ?_
        refine awp_seq ?_
        refine awp_block ?_
        refine awp_rds hmix ?_
        refine do_ rfl rfl (st_faP fo25_1 rfl) rfl rfl rfl ?_
        refine do_ rfl rfl (st_ldP (v := dL 5 e_S_api_Line a0.Lines) ta23 rfl rfl rfl rfl) rfl rfl rfl ?_
        refine do_ rfl rfl (st_mv rfl) rfl rfl rfl ?_
        refine do_ rfl rfl (st_ixDn sl23 rfl rfl hx115) rfl rfl rfl ?_
        refine do_ rfl rfl (st_ldD (v := .agg [dI .u8 x116.Rule, dI .i64 x116.A, dI .i64 x116.B, dI .i64 x116.Piv, dL 1 (eI .i64) x116.Lits]) ta58 rfl rfl) rfl rfl rfl ?_
        refine do_ rfl rfl (st_faP fo25_1 rfl) rfl rfl rfl ?_
        refine do_ rfl rfl (st_ldP (v := dL 5 e_S_api_Line a1.Lines) ta23 rfl rfl rfl rfl) rfl rfl rfl ?_
        refine do_ rfl rfl (st_mv rfl) rfl rfl rfl ?_
        obtain ⟨x162, h0162, hx162, h⟩ := getI_some h
        refine do_ rfl rfl (st_ixD sl23 rfl rfl h0162 hx162) rfl rfl rfl ?_
        refine do_ rfl rfl (st_ldD (v := .agg [dI .u8 x162.Rule, dI .i64 x162.A, dI .i64 x162.B, dI .i64 x162.Piv, dL 1 (eI .i64) x162.Lits]) ta58 rfl rfl) rfl rfl rfl ?_
        refine dn (r := 1003) rfl rfl (st_alloc zc58 rfl rfl) rfl rfl rfl rfl ?_
        refine dn (r := 1004) rfl rfl (st_alloc zc58 rfl rfl) rfl rfl rfl rfl ?_
        refine dx (L' := [(1001, .row 0 25 [[dB a0.Cubes, dL 5 e_S_api_Line a0.Lines]]), (1002, .row 0 25 [[dB a1.Cubes, dL 5 e_S_api_Line a1.Lines]]), (1003, .row 0 58 [[dI .u8 x116.Rule, dI .i64 x116.A, dI .i64 x116.B, dI .i64 x116.Piv, dL 1 (eI .i64) x116.Lits]]), (1004, .row 0 58 [[dI .u8 (0 : Int), dI .i64 (0 : Int), dI .i64 (0 : Int), dI .i64 (0 : Int), .nilS]])]) rfl rfl (st_stP ta58 rfl rfl rfl rfl rfl rfl rfl rfl) rfl rfl rfl rfl ?_
        refine dx (L' := [(1001, .row 0 25 [[dB a0.Cubes, dL 5 e_S_api_Line a0.Lines]]), (1002, .row 0 25 [[dB a1.Cubes, dL 5 e_S_api_Line a1.Lines]]), (1003, .row 0 58 [[dI .u8 x116.Rule, dI .i64 x116.A, dI .i64 x116.B, dI .i64 x116.Piv, dL 1 (eI .i64) x116.Lits]]), (1004, .row 0 58 [[dI .u8 x162.Rule, dI .i64 x162.A, dI .i64 x162.B, dI .i64 x162.Piv, dL 1 (eI .i64) x162.Lits]])]) rfl rfl (st_stP ta58 rfl rfl rfl rfl rfl rfl rfl rfl) rfl rfl rfl rfl ?_
        refine rd_nil (by kernel_rfl) ?_
        refine awp_jn (fun (s168 : Bool) (g169 : Unit) => [(2, .ptr 1001 0 0 0), (3, .ptr 1002 0 0 0), (5, dI .i64 ((j115 : Nat) : Int)), (72, dB s168)]) (fun (s168 : Bool) (g169 : Unit) => [(1001, .row 0 25 [[dB a0.Cubes, dL 5 e_S_api_Line a0.Lines]]), (1002, .row 0 25 [[dB a1.Cubes, dL 5 e_S_api_Line a1.Lines]])]) h ?_ ?_
        · clear h
          intro s168 g169 h
          refine awp_ite (b := s168) rfl (fun p171 => ?_) (fun p171 => ?_)
          · replace h := ite_T p171 h
            refine awp_rs ?_
            refine ro rfl rfl (st_as rfl) ?_
            refine rw_nilk ?_
            refine awp_ret ?_
            refine rt_block ?_
            refine rt_then ?_
            refine rt_then ?_
            refine rt_block ?_
            refine rt_then ?_
            injection h with h
            subst h
            exact ret_out (v := dB false) (resV_one (resVs_tmp rfl resVs_nil)) (.keep rfl)
          · replace h := ite_F p171 h
            refine awp_skip ?_
            refine nx_block ?_
            refine nx_then ?_
            refine awp_rw ?_
            refine ro rfl rfl (st_mv rfl) ?_
            refine ro rfl rfl (st_inc rfl rfl hj115 hl115) ?_
            refine ro rfl rfl (st_as rfl) ?_
            refine rw_nil ?_
            refine nx_then ?_
            refine awp_gh ?_ (ih114 () () h)
            exact (gh_frz rfl rfl ⟨⟨_, rfl, .keep rfl⟩, ⟨_, rfl, .keep rfl⟩, ⟨_, rfl, .keep rfl⟩, trivial⟩ ⟨⟨_, rfl, objOne ⟨⟨rfl, .keep rfl⟩, ⟨rfl, .keep rfl⟩, trivial⟩⟩, ⟨_, rfl, objOne ⟨⟨rfl, .keep rfl⟩, ⟨rfl, .keep rfl⟩, trivial⟩⟩, trivial⟩)
        · clear h
          intro k170 h J170
          refine awp_rw ?_
          refine ro rfl rfl (st_faP fo58_0 rfl) ?_
          refine ro rfl rfl (st_ldP (v := dI .u8 x116.Rule) ta56 rfl rfl rfl rfl) ?_
          refine ro rfl rfl (st_faP fo58_0 rfl) ?_
          refine ro rfl rfl (st_ldP (v := dI .u8 x162.Rule) ta56 rfl rfl rfl rfl) ?_
          refine ro rfl rfl (st_bin (v := dB (x116.Rule != x162.Rule)) rfl rfl rfl) ?_
          refine ro rfl rfl (st_mv rfl) ?_
          refine bool_split (x116.Rule != x162.Rule) (fun p172 => ?_) (fun p172 => ?_)
          · replace h := ite_T p172 h
            rw [p172]
            refine rz rfl rfl ?_
            refine rz rfl rfl ?_
            refine rz rfl rfl ?_
            refine rz rfl rfl ?_
            refine rz rfl rfl ?_
            refine ro rfl rfl (st_pickT rfl rfl) ?_
            refine ro rfl rfl (st_mv rfl) ?_
            refine rz rfl rfl ?_
            refine rz rfl rfl ?_
            refine rz rfl rfl ?_
            refine rz rfl rfl ?_
            refine rz rfl rfl ?_
            refine ro rfl rfl (st_pickT rfl rfl) ?_
            refine ro rfl rfl (st_mv rfl) ?_
            refine rz rfl rfl ?_
            refine rz rfl rfl ?_
            refine rz rfl rfl ?_
            refine rz rfl rfl ?_
            refine rz rfl rfl ?_
            refine ro rfl rfl (st_pickT rfl rfl) ?_
            refine ro rfl rfl (st_mv rfl) ?_
            refine rz rfl rfl ?_
            refine rz rfl rfl ?_
            refine rz rfl rfl ?_
            refine rz rfl rfl ?_
            refine rz rfl rfl ?_
            refine rz rfl rfl ?_
            refine ro rfl rfl (st_pickT rfl rfl) ?_
            refine rw_nil ?_
            refine nx_then ?_
            exact J170 true () _ _ h (gh_frz rfl rfl ⟨⟨_, rfl, .keep rfl⟩, ⟨_, rfl, .keep rfl⟩, ⟨_, rfl, .keep rfl⟩, ⟨_, rfl, .keep rfl⟩, trivial⟩ ⟨⟨_, rfl, objOne ⟨⟨rfl, .keep rfl⟩, ⟨rfl, .keep rfl⟩, trivial⟩⟩, ⟨_, rfl, objOne ⟨⟨rfl, .keep rfl⟩, ⟨rfl, .keep rfl⟩, trivial⟩⟩, trivial⟩)
          · replace h := ite_F p172 h
            rw [p172]
            refine ro rfl rfl (st_faP fo58_1 rfl) ?_
            refine ro rfl rfl (st_ldP (v := dI .i64 x116.A) ta3 rfl rfl rfl rfl) ?_
            refine ro rfl rfl (st_faP fo58_1 rfl) ?_
            refine ro rfl rfl (st_ldP (v := dI .i64 x162.A) ta3 rfl rfl rfl rfl) ?_
            refine ro rfl rfl (st_bin (v := dB (x116.A != x162.A)) rfl rfl rfl) ?_
            refine ro rfl rfl (st_pickF rfl rfl) ?_
            refine ro rfl rfl (st_mv rfl) ?_
            refine bool_split (x116.A != x162.A) (fun p173 => ?_) (fun p173 => ?_)
            · replace h := ite_T p173 h
              rw [p173]
              refine rz rfl rfl ?_
              refine rz rfl rfl ?_
              refine rz rfl rfl ?_
              refine rz rfl rfl ?_
              refine rz rfl rfl ?_
              refine ro rfl rfl (st_pickT rfl rfl) ?_
              refine ro rfl rfl (st_mv rfl) ?_
              refine rz rfl rfl ?_
              refine rz rfl rfl ?_
              refine rz rfl rfl ?_
              refine rz rfl rfl ?_
              refine rz rfl rfl ?_
              refine ro rfl rfl (st_pickT rfl rfl) ?_
              refine ro rfl rfl (st_mv rfl) ?_
              refine rz rfl rfl ?_
              refine rz rfl rfl ?_
              refine rz rfl rfl ?_
              refine rz rfl rfl ?_
              refine rz rfl rfl ?_
              refine rz rfl rfl ?_
              refine ro rfl rfl (st_pickT rfl rfl) ?_
              refine rw_nil ?_
              refine nx_then ?_
              exact J170 true () _ _ h (gh_frz rfl rfl ⟨⟨_, rfl, .keep rfl⟩, ⟨_, rfl, .keep rfl⟩, ⟨_, rfl, .keep rfl⟩, ⟨_, rfl, .keep rfl⟩, trivial⟩ ⟨⟨_, rfl, objOne ⟨⟨rfl, .keep rfl⟩, ⟨rfl, .keep rfl⟩, trivial⟩⟩, ⟨_, rfl, objOne ⟨⟨rfl, .keep rfl⟩, ⟨rfl, .keep rfl⟩, trivial⟩⟩, trivial⟩)
            · replace h := ite_F p173 h
              rw [p173]
              refine ro rfl rfl (st_faP fo58_2 rfl) ?_
              refine ro rfl rfl (st_ldP (v := dI .i64 x116.B) ta3 rfl rfl rfl rfl) ?_
              refine ro rfl rfl (st_faP fo58_2 rfl) ?_
              refine ro rfl rfl (st_ldP (v := dI .i64 x162.B) ta3 rfl rfl rfl rfl) ?_
              refine ro rfl rfl (st_bin (v := dB (x116.B != x162.B)) rfl rfl rfl) ?_
              refine ro rfl rfl (st_pickF rfl rfl) ?_
              refine ro rfl rfl (st_mv rfl) ?_
              refine bool_split (x116.B != x162.B) (fun p174 => ?_) (fun p174 => ?_)
              · replace h := ite_T p174 h
                rw [p174]
                refine rz rfl rfl ?_
                refine rz rfl rfl ?_
                refine rz rfl rfl ?_
                refine rz rfl rfl ?_
                refine rz rfl rfl ?_
                refine ro rfl rfl (st_pickT rfl rfl) ?_
                refine ro rfl rfl (st_mv rfl) ?_
                refine rz rfl rfl ?_
                refine rz rfl rfl ?_
                refine rz rfl rfl ?_
                refine rz rfl rfl ?_
                refine rz rfl rfl ?_
                refine rz rfl rfl ?_
                refine ro rfl rfl (st_pickT rfl rfl) ?_
                refine rw_nil ?_
                refine nx_then ?_
                exact J170 true () _ _ h (gh_frz rfl rfl ⟨⟨_, rfl, .keep rfl⟩, ⟨_, rfl, .keep rfl⟩, ⟨_, rfl, .keep rfl⟩, ⟨_, rfl, .keep rfl⟩, trivial⟩ ⟨⟨_, rfl, objOne ⟨⟨rfl, .keep rfl⟩, ⟨rfl, .keep rfl⟩, trivial⟩⟩, ⟨_, rfl, objOne ⟨⟨rfl, .keep rfl⟩, ⟨rfl, .keep rfl⟩, trivial⟩⟩, trivial⟩)
              · replace h := ite_F p174 h
                rw [p174]
                refine ro rfl rfl (st_faP fo58_3 rfl) ?_
                refine ro rfl rfl (st_ldP (v := dI .i64 x116.Piv) ta3 rfl rfl rfl rfl) ?_
                refine ro rfl rfl (st_faP fo58_3 rfl) ?_
                refine ro rfl rfl (st_ldP (v := dI .i64 x162.Piv) ta3 rfl rfl rfl rfl) ?_
                refine ro rfl rfl (st_bin (v := dB (x116.Piv != x162.Piv)) rfl rfl rfl) ?_
                refine ro rfl rfl (st_pickF rfl rfl) ?_
                refine ro rfl rfl (st_mv rfl) ?_
                refine bool_split (x116.Piv != x162.Piv) (fun p175 => ?_) (fun p175 => ?_)
                · replace h := ite_T p175 h
                  rw [p175]
                  refine rz rfl rfl ?_
                  refine rz rfl rfl ?_
                  refine rz rfl rfl ?_
                  refine rz rfl rfl ?_
                  refine rz rfl rfl ?_
                  refine rz rfl rfl ?_
                  refine ro rfl rfl (st_pickT rfl rfl) ?_
                  refine rw_nil ?_
                  refine nx_then ?_
                  exact J170 true () _ _ h (gh_frz rfl rfl ⟨⟨_, rfl, .keep rfl⟩, ⟨_, rfl, .keep rfl⟩, ⟨_, rfl, .keep rfl⟩, ⟨_, rfl, .keep rfl⟩, trivial⟩ ⟨⟨_, rfl, objOne ⟨⟨rfl, .keep rfl⟩, ⟨rfl, .keep rfl⟩, trivial⟩⟩, ⟨_, rfl, objOne ⟨⟨rfl, .keep rfl⟩, ⟨rfl, .keep rfl⟩, trivial⟩⟩, trivial⟩)
                · replace h := ite_F p175 h
                  rw [p175]
                  refine ro rfl rfl (st_faP fo58_4 rfl) ?_
                  refine ro rfl rfl (st_ldP (v := dL 1 (eI .i64) x116.Lits) ta28 rfl rfl rfl rfl) ?_
                  refine ro rfl rfl (st_faP fo58_4 rfl) ?_
                  refine ro rfl rfl (st_ldP (v := dL 1 (eI .i64) x162.Lits) ta28 rfl rfl rfl rfl) ?_
                  obtain ⟨y176, hy176, h⟩ := bind_some_elim h
                  refine rf rfl rfl (ok_skolemref09_Same hy176) rfl rfl ?_
                  refine ro rfl rfl (st_un (v := dB (!y176)) rfl rfl) ?_
                  refine ro rfl rfl (st_pickF rfl rfl) ?_
                  refine rw_nil ?_
                  refine nx_then ?_
                  exact J170 (!y176) () _ _ h (gh_frz rfl rfl ⟨⟨_, rfl, .keep rfl⟩, ⟨_, rfl, .keep rfl⟩, ⟨_, rfl, .keep rfl⟩, ⟨_, rfl, .keep rfl⟩, trivial⟩ ⟨⟨_, rfl, objOne ⟨⟨rfl, .keep rfl⟩, ⟨rfl, .keep rfl⟩, trivial⟩⟩, ⟨_, rfl, objOne ⟨⟨rfl, .keep rfl⟩, ⟨rfl, .keep rfl⟩, trivial⟩⟩, trivial⟩)
      · clear h
        intro s112 g113 h
        refine awp_seq ?_
        refine awp_rs ?_
        refine ro rfl rfl (st_mv rfl) ?_
        refine ro rfl rfl (st_faP fo25_1 rfl) ?_
        refine ro rfl rfl (st_ldP (v := dL 5 e_S_api_Line a0.Lines) ta23 rfl rfl rfl rfl) ?_
        refine ro rfl rfl (st_lenD rfl un23) ?_
        refine ro rfl rfl (st_bin (v := dB (decide (((a0.Lines.length : Nat) : Int) < ((a0.Lines.length : Nat) : Int)))) rfl rfl rfl) ?_
        refine rw_nilk ?_
        refine awp_ifF rfl dge ?_
        refine awp_exit ?_
        refine ex_out ?_
        refine ex_out ?_
        refine ex_in ?_
        refine nx_then ?_
        refine awp_rs ?_
        refine ro rfl rfl (st_as rfl) ?_
        refine rw_nilk ?_
        refine awp_ret ?_
        injection h with h
        subst h
        exact ret_out (v := dB true) (resV_one (resVs_tmp rfl resVs_nil)) (.keep rfl)
  · clear h
    intro k110 h J110
    refine awp_rw ?_
    refine ro rfl rfl (st_faP fo25_0 rfl) ?_
    refine ro rfl rfl (st_ldP (v := dB a0.Cubes) ta4 rfl rfl rfl rfl) ?_
    refine ro rfl rfl (st_faP fo25_0 rfl) ?_
    refine ro rfl rfl (st_ldP (v := dB a1.Cubes) ta4 rfl rfl rfl rfl) ?_
    refine ro rfl rfl (st_binB (v := dB (!(a0.Cubes == a1.Cubes))) rfl rfl un4 rfl) ?_
    refine ro rfl rfl (st_mv rfl) ?_
    refine bool_split (!(a0.Cubes == a1.Cubes)) (fun p177 => ?_) (fun p177 => ?_)
    · replace h := ite_T p177 h
      rw [p177]
      refine rz rfl rfl ?_
      refine rz rfl rfl ?_
      refine rz rfl rfl ?_
      refine rz rfl rfl ?_
      refine rz rfl rfl ?_
      refine rz rfl rfl ?_
      refine rz rfl rfl ?_
      refine ro rfl rfl (st_pickT rfl rfl) ?_
      refine rw_nil ?_
      refine nx_then ?_
      exact J110 true () _ _ h (gh_frz rfl rfl ⟨⟨_, rfl, .keep rfl⟩, ⟨_, rfl, .keep rfl⟩, ⟨_, rfl, .keep rfl⟩, trivial⟩ ⟨⟨_, rfl, objOne ⟨⟨rfl, .keep rfl⟩, ⟨rfl, .keep rfl⟩, trivial⟩⟩, ⟨_, rfl, objOne ⟨⟨rfl, .keep rfl⟩, ⟨rfl, .keep rfl⟩, trivial⟩⟩, trivial⟩)
    · replace h := ite_F p177 h
      rw [p177]
      refine ro rfl rfl (st_faP fo25_1 rfl) ?_
      refine ro rfl rfl (st_ldP (v := dL 5 e_S_api_Line a0.Lines) ta23 rfl rfl rfl rfl) ?_
      refine ro rfl rfl (st_lenD rfl un23) ?_
      refine ro rfl rfl (st_faP fo25_1 rfl) ?_
      refine ro rfl rfl (st_ldP (v := dL 5 e_S_api_Line a1.Lines) ta23 rfl rfl rfl rfl) ?_
      refine ro rfl rfl (st_lenD rfl un23) ?_
      refine ro rfl rfl (st_bin (v := dB (((a0.Lines.length : Nat) : Int) != ((a1.Lines.length : Nat) : Int))) rfl rfl rfl) ?_
      refine ro rfl rfl (st_pickF rfl rfl) ?_
      refine rw_nil ?_
      refine nx_then ?_
      exact J110 (((a0.Lines.length : Nat) : Int) != ((a1.Lines.length : Nat) : Int)) () _ _ h (gh_frz rfl rfl ⟨⟨_, rfl, .keep rfl⟩, ⟨_, rfl, .keep rfl⟩, ⟨_, rfl, .keep rfl⟩, trivial⟩ ⟨⟨_, rfl, objOne ⟨⟨rfl, .keep rfl⟩, ⟨rfl, .keep rfl⟩, trivial⟩⟩, ⟨_, rfl, objOne ⟨⟨rfl, .keep rfl⟩, ⟨rfl, .keep rfl⟩, trivial⟩⟩, trivial⟩)

theorem ok_proof_abs {a0 : Int} {r : Int} (h : F_proof_abs a0 = some r) : Fn Try.prog 79 [dI .i64 a0] (dI .i64 r) := by
  unfold F_proof_abs at h
  refine Fn.of_body (N := 7) (rs := [.tmp 2]) Try.func79 (c := _) rfl rfl rfl (by kernel_rfl) (Nat.le_of_ble_eq_true rfl) (fun _B => ?_)
  refine awp_rs ?_
  refine ro rfl rfl (st_as rfl) ?_
  refine rw_nilk ?_
  refine awp_rs ?_
  refine ro rfl rfl (st_mv rfl) ?_
  refine ro rfl rfl (st_mv rfl) ?_
  refine ro rfl rfl (st_un (v := dI .i64 (IntKind.wrap .i64 (0 - a0))) rfl rfl) ?_
  refine ro rfl rfl (st_max rfl rfl) ?_
  refine ro rfl rfl (st_as rfl) ?_
  refine rw_nilk ?_
  refine awp_ret ?_
  injection h with h
  subst h
  exact ret_out (v := dI .i64 (imx a0 (IntKind.wrap .i64 (0 - a0)))) (resV_one (resVs_tmp rfl resVs_nil)) (.keep rfl)

theorem ok_proof_normal {a0 : (List Int)} {r : Bool} (h : F_proof_normal a0 = some r) : Fn Try.prog 51 [dL 1 (eI .i64) a0] (dB r) := by
  unfold F_proof_normal at h
  refine Fn.of_body (N := 27) (rs := [.tmp 2]) Try.func51 (c := _) rfl rfl rfl (by kernel_rfl) (Nat.le_of_ble_eq_true rfl) (fun _B => ?_)
  refine awp_rs ?_
  refine ro rfl rfl (st_as rfl) ?_
  refine rw_nilk ?_
  refine awp_rs ?_
  refine ro rfl rfl (st_as rfl) ?_
  refine rw_nilk ?_
  refine awp_seq ?_
  refine awp_rs ?_
  refine ro rfl rfl (st_mv rfl) ?_
  refine ro rfl rfl (st_lenD rfl un28) ?_
  refine ro rfl rfl (st_mv rfl) ?_
  refine rw_nilk ?_
  refine awp_block ?_
  refine awp_len (t := 0) rfl (fun hl104 => ?_)
  rw [List.length_map] at hl104
  refine awp_range (fun (j104 : Nat) (s101 : Int) (g102 : Unit) => [(3, dI .i64 s101), (6, dL 1 (eI .i64) a0), (7, dI .i64 ((a0.length : Nat) : Int)), (8, dI .i64 ((j104 : Nat) : Int))]) (fun (s101 : Int) (g102 : Unit) => []) () (fun _ _ _ h => h) h (gh_frz rfl rfl ⟨⟨_, rfl, .keep rfl⟩, ⟨_, rfl, .keep rfl⟩, ⟨_, rfl, .keep rfl⟩, ⟨_, rfl, .keep rfl⟩, trivial⟩ trivial) ?_ ?_
  · clear h
    intro j104 x105 s101 g102 k103 hj104 hx104 h ih103
    refine awp_rs ?_
    refine ro rfl rfl (st_bin (v := dB (decide (((j104 : Nat) : Int) < ((a0.length : Nat) : Int)))) rfl rfl rfl) ?_
    refine rw_nilk ?_
    refine awp_seq ?_
    refine awp_ifT rfl (dlt hj104) ?_
    refine awp_skip ?_
    refine nx_then ?_
    refine awp_seq ?_
    refine awp_block ?_
    refine awp_rs ?_
    refine ro rfl rfl (st_ixDn sl28 rfl rfl hx104) ?_
    refine ro rfl rfl (st_ldD (v := dI .i64 x105) ta3 rfl rfl) ?_
    refine ro rfl rfl (st_as rfl) ?_
    refine rw_nilk ?_
    refine awp_seq ?_
    refine awp_jn (fun (s224 : Bool) (g225 : Unit) => [(5, dI .i64 x105), (6, dL 1 (eI .i64) a0), (7, dI .i64 ((a0.length : Nat) : Int)), (8, dI .i64 ((j104 : Nat) : Int)), (23, dB s224)]) (fun (s224 : Bool) (g225 : Unit) => []) h ?_ ?_
    · clear h
      intro s224 g225 h
      refine awp_ite (b := s224) rfl (fun p227 => ?_) (fun p227 => ?_)
      · replace h := ite_T p227 h
        refine awp_rs ?_
        refine ro rfl rfl (st_as rfl) ?_
        refine rw_nilk ?_
        refine awp_ret ?_
        refine rt_then ?_
        refine rt_block ?_
        refine rt_then ?_
        refine rt_then ?_
        refine rt_block ?_
        refine rt_then ?_
        injection h with h
        subst h
        exact ret_out (v := dB false) (resV_one (resVs_tmp rfl resVs_nil)) (.keep rfl)
      · replace h := ite_F p227 h
        refine awp_skip ?_
        refine nx_then ?_
        refine awp_rw ?_
        refine ro rfl rfl (st_mv rfl) ?_
        obtain ⟨y228, hy228, h⟩ := bind_some_elim h
        refine rf rfl rfl (ok_proof_abs hy228) rfl rfl ?_
        refine ro rfl rfl (st_as rfl) ?_
        refine rw_nil ?_
        refine nx_block ?_
        refine nx_then ?_
        refine awp_rw ?_
        refine ro rfl rfl (st_inc rfl rfl hj104 hl104) ?_
        refine ro rfl rfl (st_mv rfl) ?_
        refine rw_nil ?_
        refine nx_then ?_
        refine awp_gh ?_ (ih103 y228 () h)
        exact (gh_frz rfl rfl ⟨⟨_, rfl, .keep rfl⟩, ⟨_, rfl, .keep rfl⟩, ⟨_, rfl, .keep rfl⟩, ⟨_, rfl, .keep rfl⟩, trivial⟩ trivial)
    · clear h
      intro k226 h J226
      refine awp_rw ?_
      refine ro rfl rfl (st_mv rfl) ?_
      refine ro rfl rfl (st_bin (v := dB (decide (x105 < (-65536 : Int)))) rfl rfl rfl) ?_
      refine ro rfl rfl (st_mv rfl) ?_
      refine bool_split (decide (x105 < (-65536 : Int))) (fun p229 => ?_) (fun p229 => ?_)
      · replace h := ite_T p229 h
        rw [p229]
        refine rz rfl rfl ?_
        refine rz rfl rfl ?_
        refine ro rfl rfl (st_pickT rfl rfl) ?_
        refine ro rfl rfl (st_mv rfl) ?_
        refine rz rfl rfl ?_
        refine rz rfl rfl ?_
        refine rz rfl rfl ?_
        refine rz rfl rfl ?_
        refine ro rfl rfl (st_pickT rfl rfl) ?_
        refine rw_nil ?_
        refine nx_then ?_
        exact J226 true () _ _ h (gh_frz rfl rfl ⟨⟨_, rfl, .keep rfl⟩, ⟨_, rfl, .keep rfl⟩, ⟨_, rfl, .keep rfl⟩, ⟨_, rfl, .keep rfl⟩, ⟨_, rfl, .keep rfl⟩, trivial⟩ trivial)
      · replace h := ite_F p229 h
        rw [p229]
        refine ro rfl rfl (st_mv rfl) ?_
        refine ro rfl rfl (st_bin (v := dB (decide (x105 > (65536 : Int)))) rfl rfl rfl) ?_
        refine ro rfl rfl (st_pickF rfl rfl) ?_
        refine ro rfl rfl (st_mv rfl) ?_
        refine bool_split (decide (x105 > (65536 : Int))) (fun p230 => ?_) (fun p230 => ?_)
        · replace h := ite_T p230 h
          rw [p230]
          refine rz rfl rfl ?_
          refine rz rfl rfl ?_
          refine rz rfl rfl ?_
          refine rz rfl rfl ?_
          refine ro rfl rfl (st_pickT rfl rfl) ?_
          refine rw_nil ?_
          refine nx_then ?_
          exact J226 true () _ _ h (gh_frz rfl rfl ⟨⟨_, rfl, .keep rfl⟩, ⟨_, rfl, .keep rfl⟩, ⟨_, rfl, .keep rfl⟩, ⟨_, rfl, .keep rfl⟩, ⟨_, rfl, .keep rfl⟩, trivial⟩ trivial)
        · replace h := ite_F p230 h
          rw [p230]
          refine ro rfl rfl (st_mv rfl) ?_
          obtain ⟨y231, hy231, h⟩ := bind_some_elim h
          refine rf rfl rfl (ok_proof_abs hy231) rfl rfl ?_
          refine ro rfl rfl (st_mv rfl) ?_
          refine ro rfl rfl (st_bin (v := dB (decide (y231 ≤ s101))) rfl rfl rfl) ?_
          refine ro rfl rfl (st_pickF rfl rfl) ?_
          refine rw_nil ?_
          refine nx_then ?_
          exact J226 (decide (y231 ≤ s101)) () _ _ h (gh_frz rfl rfl ⟨⟨_, rfl, .keep rfl⟩, ⟨_, rfl, .keep rfl⟩, ⟨_, rfl, .keep rfl⟩, ⟨_, rfl, .keep rfl⟩, ⟨_, rfl, .keep rfl⟩, trivial⟩ trivial)
  · clear h
    intro s101 g102 h
    refine awp_rs ?_
    refine ro rfl rfl (st_bin (v := dB (decide (((a0.length : Nat) : Int) < ((a0.length : Nat) : Int)))) rfl rfl rfl) ?_
    refine rw_nilk ?_
    refine awp_seq ?_
    refine awp_ifF rfl dge ?_
    refine awp_exit ?_
    refine ex_out ?_
    refine ex_out ?_
    refine ex_in ?_
    refine nx_then ?_
    refine awp_rs ?_
    refine ro rfl rfl (st_as rfl) ?_
    refine rw_nilk ?_
    refine awp_ret ?_
    injection h with h
    subst h
    exact ret_out (v := dB true) (resV_one (resVs_tmp rfl resVs_nil)) (.keep rfl)

theorem ok_slices_Index_int_int {a0 : (List Int)} {a1 : Int} {r : Int} (h : F_slices_Index_int_int a0 a1 = some r) : Fn Try.prog 83 [dL 1 (eI .i64) a0, dI .i64 a1] (dI .i64 r) := by
  unfold F_slices_Index_int_int at h
  refine Fn.of_body (N := 19) (rs := [.tmp 4]) Try.func83 (c := _) rfl rfl rfl (by kernel_rfl) (Nat.le_of_ble_eq_true rfl) (fun _B => ?_)
  refine awp_rs ?_
  refine ro rfl rfl (st_as rfl) ?_
  refine rw_nilk ?_
  refine awp_seq ?_
  refine awp_rs ?_
  refine ro rfl rfl (st_mv rfl) ?_
  refine ro rfl rfl (st_lenD rfl un28) ?_
  refine ro rfl rfl (st_mv rfl) ?_
  refine rw_nilk ?_
  refine awp_block ?_
  refine awp_len (t := 0) rfl (fun hl104 => ?_)
  rw [List.length_map] at hl104
  refine awp_range (fun (j104 : Nat) (s101 : Unit) (g102 : Unit) => [(0, dL 1 (eI .i64) a0), (1, dI .i64 a1), (7, dI .i64 ((a0.length : Nat) : Int)), (8, dI .i64 ((j104 : Nat) : Int))]) (fun (s101 : Unit) (g102 : Unit) => []) () (fun _ _ _ h => h) h (gh_frz rfl rfl ⟨⟨_, rfl, .keep rfl⟩, ⟨_, rfl, .keep rfl⟩, ⟨_, rfl, .keep rfl⟩, ⟨_, rfl, .keep rfl⟩, trivial⟩ trivial) ?_ ?_
  · clear h
    intro j104 x105 s101 g102 k103 hj104 hx104 h ih103
    refine awp_rs ?_
    refine ro rfl rfl (st_bin (v := dB (decide (((j104 : Nat) : Int) < ((a0.length : Nat) : Int)))) rfl rfl rfl) ?_
    refine rw_nilk ?_
    refine awp_seq ?_
    refine awp_ifT rfl (dlt hj104) ?_
    refine awp_skip ?_
    refine nx_then ?_
    refine awp_seq ?_
    refine awp_block ?_
    refine awp_rs ?_
    refine ro rfl rfl (st_mv rfl) ?_
    refine ro rfl rfl (st_as rfl) ?_
    refine rw_nilk ?_
    refine awp_rs ?_
    refine ro rfl rfl (st_mv rfl) ?_
    refine ro rfl rfl (st_mv rfl) ?_
    refine ro rfl rfl (st_mv rfl) ?_
    refine ro rfl rfl (st_ixDn sl28 rfl rfl hx104) ?_
    refine ro rfl rfl (st_ldD (v := dI .i64 x105) ta3 rfl rfl) ?_
    refine ro rfl rfl (st_bin (v := dB (a1 == x105)) rfl rfl rfl) ?_
    refine rw_nilk ?_
    refine awp_ite (b := (a1 == x105)) rfl (fun p107 => ?_) (fun p107 => ?_)
    · replace h := ite_T p107 h
      refine awp_rs ?_
      refine ro rfl rfl (st_mv rfl) ?_
      refine ro rfl rfl (st_as rfl) ?_
      refine rw_nilk ?_
      refine awp_ret ?_
      refine rt_block ?_
      refine rt_then ?_
      refine rt_then ?_
      refine rt_block ?_
      refine rt_then ?_
      injection h with h
      subst h
      exact ret_out (v := dI .i64 ((j104 : Nat) : Int)) (resV_one (resVs_tmp rfl resVs_nil)) (.keep rfl)
    · replace h := ite_F p107 h
      refine awp_skip ?_
      refine nx_block ?_
      refine nx_then ?_
      refine awp_rw ?_
      refine ro rfl rfl (st_inc rfl rfl hj104 hl104) ?_
      refine ro rfl rfl (st_mv rfl) ?_
      refine rw_nil ?_
      refine nx_then ?_
      refine awp_gh ?_ (ih103 () () h)
      exact (gh_frz rfl rfl ⟨⟨_, rfl, .keep rfl⟩, ⟨_, rfl, .keep rfl⟩, ⟨_, rfl, .keep rfl⟩, ⟨_, rfl, .keep rfl⟩, trivial⟩ trivial)
  · clear h
    intro s101 g102 h
    refine awp_rs ?_
    refine ro rfl rfl (st_bin (v := dB (decide (((a0.length : Nat) : Int) < ((a0.length : Nat) : Int)))) rfl rfl rfl) ?_
    refine rw_nilk ?_
    refine awp_seq ?_
    refine awp_ifF rfl dge ?_
    refine awp_exit ?_
    refine ex_out ?_
    refine ex_out ?_
    refine ex_in ?_
    refine nx_then ?_
    refine awp_rs ?_
    refine ro rfl rfl (st_as rfl) ?_
    refine rw_nilk ?_
    refine awp_ret ?_
    injection h with h
    subst h
    exact ret_out (v := dI .i64 (-1 : Int)) (resV_one (resVs_tmp rfl resVs_nil)) (.keep rfl)

theorem ok_slices_Contains_int_int {a0 : (List Int)} {a1 : Int} {r : Bool} (h : F_slices_Contains_int_int a0 a1 = some r) : Fn Try.prog 55 [dL 1 (eI .i64) a0, dI .i64 a1] (dB r) := by
  unfold F_slices_Contains_int_int at h
  refine Fn.of_body (N := 9) (rs := [.tmp 4]) Try.func55 (c := _) rfl rfl rfl (by kernel_rfl) (Nat.le_of_ble_eq_true rfl) (fun _B => ?_)
  refine awp_rs ?_
  refine ro rfl rfl (st_as rfl) ?_
  refine rw_nilk ?_
  refine awp_rs ?_
  refine ro rfl rfl (st_mv rfl) ?_
  refine ro rfl rfl (st_mv rfl) ?_
  obtain ⟨y101, hy101, h⟩ := bind_some_elim h
  refine rf rfl rfl (ok_slices_Index_int_int hy101) rfl rfl ?_
  refine ro rfl rfl (st_bin (v := dB (decide (y101 ≥ (0 : Int)))) rfl rfl rfl) ?_
  refine ro rfl rfl (st_as rfl) ?_
  refine rw_nilk ?_
  refine awp_ret ?_
  injection h with h
  subst h
  exact ret_out (v := dB (decide (y101 ≥ (0 : Int)))) (resV_one (resVs_tmp rfl resVs_nil)) (.keep rfl)

theorem ok_proof_resolvent {a0 : (List Int)} {a1 : (List Int)} {a2 : Int} {r : ((List Int) × Bool)} (h : F_proof_resolvent a0 a1 a2 = some r) : Fn Try.prog 60 [dL 1 (eI .i64) a0, dL 1 (eI .i64) a1, dI .i64 a2] (.tup [dL 1 (eI .i64) r.1, dB r.2]) := by
  unfold F_proof_resolvent at h
  refine Fn.of_body (N := 117) (rs := [.tmp 6, .tmp 7]) Try.func60 (c := _) rfl rfl rfl (by kernel_rfl) (Nat.le_of_ble_eq_true rfl) (fun _B => ?_)
  refine awp_rs ?_
  refine ro rfl rfl (st_as rfl) ?_
  refine ro rfl rfl (st_as rfl) ?_
  refine rw_nilk ?_
  refine awp_seq ?_
  refine awp_jn (fun (s117 : Bool) (g118 : Unit) => [(0, dL 1 (eI .i64) a0), (1, dL 1 (eI .i64) a1), (2, dI .i64 a2), (23, dB s117)]) (fun (s117 : Bool) (g118 : Unit) => []) h ?_ ?_
  · clear h
    intro s117 g118 h
    refine awp_ite (b := s117) rfl (fun p120 => ?_) (fun p120 => ?_)
    · replace h := ite_T p120 h
      refine awp_rs ?_
      refine ro rfl rfl (st_as rfl) ?_
      refine ro rfl rfl (st_as rfl) ?_
      refine rw_nilk ?_
      refine awp_ret ?_
      refine rt_then ?_
      injection h with h
      subst h
      exact ret_out (v := .tup [.nilS, dB false]) (resV_many (resVs_tmp rfl (resVs_tmp rfl resVs_nil))) (frz_tup ⟨(.nilS _), (.keep rfl), trivial⟩)
    · replace h := ite_F p120 h
      refine awp_skip ?_
      refine nx_then ?_
      refine awp_rs ?_
      refine ro rfl rfl (st_mv rfl) ?_
      refine ro rfl rfl (st_lenD rfl un28) ?_
      refine ro rfl rfl (st_mv rfl) ?_
      refine ro rfl rfl (st_lenD rfl un28) ?_
      refine ro rfl rfl (st_bin (v := dI .i64 (IntKind.wrap .i64 (((a0.length : Nat) : Int) + ((a1.length : Nat) : Int)))) rfl rfl rfl) ?_
      refine ro rfl rfl (st_bin (v := dI .i64 (IntKind.wrap .i64 ((IntKind.wrap .i64 (((a0.length : Nat) : Int) + ((a1.length : Nat) : Int))) - (2 : Int)))) rfl rfl rfl) ?_
      obtain ⟨c121, h⟩ := okI_some h
      refine rn (r := 1001) rfl rfl (st_mk0I (f := (eI .i64)) sl28 zc3 rfl rfl rfl rfl rfl c121) rfl ?_
      refine ro rfl rfl (st_as rfl) ?_
      refine rw_nilk ?_
      refine awp_seq ?_
      refine awp_block ?_
      refine awp_while (fun (s122 : ((List Int) × (List Int) × (List Int))) (g123 : Nat) => [(0, dL 1 (eI .i64) s122.1), (1, dL 1 (eI .i64) s122.2.1), (2, dI .i64 a2), (8, .slice 1001 g123 0 s122.2.2.length)]) (fun (s122 : ((List Int) × (List Int) × (List Int))) (g123 : Nat) => [(1001, rw' g123 3 (eI .i64) s122.2.2)]) 1 (fun _ _ _ h => h) h (gh_frz rfl rfl ⟨⟨_, rfl, .keep rfl⟩, ⟨_, rfl, .keep rfl⟩, ⟨_, rfl, .keep rfl⟩, ⟨_, rfl, .keep rfl⟩, trivial⟩ ⟨⟨_, rfl, objRow (List.map (eI .i64) ([] : List Int))⟩, trivial⟩) ?_
      clear h
      intro s122 g123 k124 h ih124
      refine awp_seq ?_
      refine awp_rs ?_
      refine ro rfl rfl (st_mv rfl) ?_
      refine ro rfl rfl (st_lenD rfl un28) ?_
      refine ro rfl rfl (st_mv rfl) ?_
      refine ro rfl rfl (st_lenD rfl un28) ?_
      refine ro rfl rfl (st_bin (v := dI .i64 (IntKind.wrap .i64 (((s122.1.length : Nat) : Int) + ((s122.2.1.length : Nat) : Int)))) rfl rfl rfl) ?_
      refine ro rfl rfl (st_bin (v := dB (decide ((IntKind.wrap .i64 (((s122.1.length : Nat) : Int) + ((s122.2.1.length : Nat) : Int))) > (0 : Int)))) rfl rfl rfl) ?_
      refine rw_nilk ?_
      refine awp_ite (b := (decide ((IntKind.wrap .i64 (((s122.1.length : Nat) : Int) + ((s122.2.1.length : Nat) : Int))) > (0 : Int)))) rfl (fun p219 => ?_) (fun p219 => ?_)
      · replace h := ite_T p219 h
        refine awp_skip ?_
        refine nx_then ?_
        refine awp_block ?_
        refine awp_block ?_
        refine awp_jn (fun (s226 : Bool) (g227 : Unit) => [(0, dL 1 (eI .i64) s122.1), (1, dL 1 (eI .i64) s122.2.1), (2, dI .i64 a2), (8, .slice 1001 g123 0 s122.2.2.length), (37, dB s226)]) (fun (s226 : Bool) (g227 : Unit) => [(1001, rw' g123 3 (eI .i64) s122.2.2)]) h ?_ ?_
        · clear h
          intro s226 g227 h
          refine awp_ite (b := s226) rfl (fun p229 => ?_) (fun p229 => ?_)
          · replace h := ite_T p229 h
            refine awp_rd hmix ?_
            refine do_ rfl rfl (st_mv rfl) rfl rfl rfl ?_
            refine do_ rfl rfl (st_mv rfl) rfl rfl rfl ?_
            obtain ⟨x230, h0230, hx230, h⟩ := getI_some h
            refine do_ rfl rfl (st_ixD sl28 rfl rfl h0230 hx230) rfl rfl rfl ?_
            refine do_ rfl rfl (st_ldD (v := dI .i64 x230) ta3 rfl rfl) rfl rfl rfl ?_
            refine dn (r := 1002) rfl rfl (st_bsl (els := [[dI .i64 x230]]) sl28 zc3 rfl rfl rfl rfl rfl) rfl rfl rfl rfl ?_
            obtain ⟨c231, h⟩ := capN_some h
            refine dn (r := 0) (L' := [(1001, rw' (g123 + 2) 3 (eI .i64) (s122.2.2 ++ [x230])), (1002, .row 1 3 [[dI .i64 x230]])]) rfl rfl (st_appR (f := (eI .i64)) (xs := s122.2.2) (ys := [x230]) sl28 zc3 rfl rfl rfl rfl rfl (news_one (a := x230) rfl rfl) c231) rfl rfl rfl rfl ?_
            refine do_ rfl rfl (st_mv rfl) rfl rfl rfl ?_
            obtain ⟨c232, h⟩ := okI_some h
            refine do_ rfl rfl (st_slLo sl28 rfl rfl c232.1 c232.2) rfl rfl rfl ?_
            refine do_ rfl rfl (st_as rfl) rfl rfl rfl ?_
            refine do_ rfl rfl (st_as rfl) rfl rfl rfl ?_
            refine rd_nil (by kernel_rfl) ?_
            refine nx_block ?_
            refine nx_block ?_
            refine nx_then ?_
            refine awp_gh ?_ (ih124 ((s122.1.drop (1 : Int).toNat), s122.2.1, (s122.2.2 ++ [x230])) (g123 + 2) h)
            exact (gh_frz rfl rfl ⟨⟨_, rfl, .keep rfl⟩, ⟨_, rfl, .keep rfl⟩, ⟨_, rfl, .keep rfl⟩, ⟨_, rfl, .keep rfl⟩, trivial⟩ ⟨⟨_, rfl, objRow _⟩, trivial⟩)
          · replace h := ite_F p229 h
            refine awp_jn (fun (s238 : Bool) (g239 : Unit) => [(0, dL 1 (eI .i64) s122.1), (1, dL 1 (eI .i64) s122.2.1), (2, dI .i64 a2), (8, .slice 1001 g123 0 s122.2.2.length), (65, dB s238)]) (fun (s238 : Bool) (g239 : Unit) => [(1001, rw' g123 3 (eI .i64) s122.2.2)]) h ?_ ?_
            · clear h
              intro s238 g239 h
              refine awp_ite (b := s238) rfl (fun p241 => ?_) (fun p241 => ?_)
              · replace h := ite_T p241 h
                refine awp_rd hmix ?_
                refine do_ rfl rfl (st_mv rfl) rfl rfl rfl ?_
                refine do_ rfl rfl (st_mv rfl) rfl rfl rfl ?_
                obtain ⟨x242, h0242, hx242, h⟩ := getI_some h
                refine do_ rfl rfl (st_ixD sl28 rfl rfl h0242 hx242) rfl rfl rfl ?_
                refine do_ rfl rfl (st_ldD (v := dI .i64 x242) ta3 rfl rfl) rfl rfl rfl ?_
                refine dn (r := 1002) rfl rfl (st_bsl (els := [[dI .i64 x242]]) sl28 zc3 rfl rfl rfl rfl rfl) rfl rfl rfl rfl ?_
                obtain ⟨c243, h⟩ := capN_some h
                refine dn (r := 0) (L' := [(1001, rw' (g123 + 2) 3 (eI .i64) (s122.2.2 ++ [x242])), (1002, .row 1 3 [[dI .i64 x242]])]) rfl rfl (st_appR (f := (eI .i64)) (xs := s122.2.2) (ys := [x242]) sl28 zc3 rfl rfl rfl rfl rfl (news_one (a := x242) rfl rfl) c243) rfl rfl rfl rfl ?_
                refine do_ rfl rfl (st_mv rfl) rfl rfl rfl ?_
                obtain ⟨c244, h⟩ := okI_some h
                refine do_ rfl rfl (st_slLo sl28 rfl rfl c244.1 c244.2) rfl rfl rfl ?_
                refine do_ rfl rfl (st_as rfl) rfl rfl rfl ?_
                refine do_ rfl rfl (st_as rfl) rfl rfl rfl ?_
                refine rd_nil (by kernel_rfl) ?_
                refine nx_block ?_
                refine nx_block ?_
                refine nx_then ?_
                refine awp_gh ?_ (ih124 (s122.1, (s122.2.1.drop (1 : Int).toNat), (s122.2.2 ++ [x242])) (g123 + 2) h)
                exact (gh_frz rfl rfl ⟨⟨_, rfl, .keep rfl⟩, ⟨_, rfl, .keep rfl⟩, ⟨_, rfl, .keep rfl⟩, ⟨_, rfl, .keep rfl⟩, trivial⟩ ⟨⟨_, rfl, objRow _⟩, trivial⟩)
              · replace h := ite_F p241 h
                refine awp_rds hmix ?_
                refine do_ rfl rfl (st_mv rfl) rfl rfl rfl ?_
                obtain ⟨x245, h0245, hx245, h⟩ := getI_some h
                refine do_ rfl rfl (st_ixD sl28 rfl rfl h0245 hx245) rfl rfl rfl ?_
                refine do_ rfl rfl (st_ldD (v := dI .i64 x245) ta3 rfl rfl) rfl rfl rfl ?_
                refine do_ rfl rfl (st_mv rfl) rfl rfl rfl ?_
                obtain ⟨x246, h0246, hx246, h⟩ := getI_some h
                refine do_ rfl rfl (st_ixD sl28 rfl rfl h0246 hx246) rfl rfl rfl ?_
                refine do_ rfl rfl (st_ldD (v := dI .i64 x246) ta3 rfl rfl) rfl rfl rfl ?_
                refine do_ rfl rfl (st_bin (v := dB (x245 == x246)) rfl rfl rfl) rfl rfl rfl ?_
                refine do_ rfl rfl (st_as rfl) rfl rfl rfl ?_
                refine rd_nil (by kernel_rfl) ?_
                refine awp_ite (b := (x245 == x246)) rfl (fun p247 => ?_) (fun p247 => ?_)
                · replace h := ite_T p247 h
                  refine awp_rd hmix ?_
                  refine do_ rfl rfl (st_mv rfl) rfl rfl rfl ?_
                  refine do_ rfl rfl (st_mv rfl) rfl rfl rfl ?_
                  refine do_ rfl rfl (st_ixD sl28 rfl rfl h0245 hx245) rfl rfl rfl ?_
                  refine do_ rfl rfl (st_ldD (v := dI .i64 x245) ta3 rfl rfl) rfl rfl rfl ?_
                  refine dn (r := 1002) rfl rfl (st_bsl (els := [[dI .i64 x245]]) sl28 zc3 rfl rfl rfl rfl rfl) rfl rfl rfl rfl ?_
                  obtain ⟨c248, h⟩ := capN_some h
                  refine dn (r := 0) (L' := [(1001, rw' (g123 + 2) 3 (eI .i64) (s122.2.2 ++ [x245])), (1002, .row 1 3 [[dI .i64 x245]])]) rfl rfl (st_appR (f := (eI .i64)) (xs := s122.2.2) (ys := [x245]) sl28 zc3 rfl rfl rfl rfl rfl (news_one (a := x245) rfl rfl) c248) rfl rfl rfl rfl ?_
                  refine do_ rfl rfl (st_mv rfl) rfl rfl rfl ?_
                  obtain ⟨c249, h⟩ := okI_some h
                  refine do_ rfl rfl (st_slLo sl28 rfl rfl c249.1 c249.2) rfl rfl rfl ?_
                  refine do_ rfl rfl (st_mv rfl) rfl rfl rfl ?_
                  obtain ⟨c250, h⟩ := okI_some h
                  refine do_ rfl rfl (st_slLo sl28 rfl rfl c250.1 c250.2) rfl rfl rfl ?_
                  refine do_ rfl rfl (st_as rfl) rfl rfl rfl ?_
                  refine do_ rfl rfl (st_as rfl) rfl rfl rfl ?_
                  refine do_ rfl rfl (st_as rfl) rfl rfl rfl ?_
                  refine rd_nil (by kernel_rfl) ?_
                  refine nx_block ?_
                  refine nx_block ?_
                  refine nx_then ?_
                  refine awp_gh ?_ (ih124 ((s122.1.drop (1 : Int).toNat), (s122.2.1.drop (1 : Int).toNat), (s122.2.2 ++ [x245])) (g123 + 2) h)
                  exact (gh_frz rfl rfl ⟨⟨_, rfl, .keep rfl⟩, ⟨_, rfl, .keep rfl⟩, ⟨_, rfl, .keep rfl⟩, ⟨_, rfl, .keep rfl⟩, trivial⟩ ⟨⟨_, rfl, objRow _⟩, trivial⟩)
                · replace h := ite_F p247 h
                  refine awp_rs ?_
                  refine ro rfl rfl (st_mv rfl) ?_
                  refine ro rfl rfl (st_ixD sl28 rfl rfl h0245 hx245) ?_
                  refine ro rfl rfl (st_ldD (v := dI .i64 x245) ta3 rfl rfl) ?_
                  refine ro rfl rfl (st_mv rfl) ?_
                  refine ro rfl rfl (st_bin (v := dB (x245 == a2)) rfl rfl rfl) ?_
                  refine ro rfl rfl (st_as rfl) ?_
                  refine rw_nilk ?_
                  refine awp_ite (b := (x245 == a2)) rfl (fun p251 => ?_) (fun p251 => ?_)
                  · replace h := ite_T p251 h
                    refine awp_rd hmix ?_
                    refine do_ rfl rfl (st_mv rfl) rfl rfl rfl ?_
                    obtain ⟨c252, h⟩ := okI_some h
                    refine do_ rfl rfl (st_slLo sl28 rfl rfl c252.1 c252.2) rfl rfl rfl ?_
                    refine do_ rfl rfl (st_mv rfl) rfl rfl rfl ?_
                    obtain ⟨c253, h⟩ := okI_some h
                    refine do_ rfl rfl (st_slLo sl28 rfl rfl c253.1 c253.2) rfl rfl rfl ?_
                    refine do_ rfl rfl (st_as rfl) rfl rfl rfl ?_
                    refine do_ rfl rfl (st_as rfl) rfl rfl rfl ?_
                    refine rd_nil (by kernel_rfl) ?_
                    refine nx_block ?_
                    refine nx_block ?_
                    refine nx_then ?_
                    refine awp_gh ?_ (ih124 ((s122.1.drop (1 : Int).toNat), (s122.2.1.drop (1 : Int).toNat), s122.2.2) g123 h)
                    exact (gh_frz rfl rfl ⟨⟨_, rfl, .keep rfl⟩, ⟨_, rfl, .keep rfl⟩, ⟨_, rfl, .keep rfl⟩, ⟨_, rfl, .keep rfl⟩, trivial⟩ ⟨⟨_, rfl, objRow _⟩, trivial⟩)
                  · replace h := ite_F p251 h
                    refine awp_rs ?_
                    refine ro rfl rfl (st_as rfl) ?_
                    refine ro rfl rfl (st_as rfl) ?_
                    refine rw_nilk ?_
                    refine awp_ret ?_
                    refine rt_block ?_
                    refine rt_block ?_
                    refine rt_then ?_
                    refine rt_block ?_
                    refine rt_then ?_
                    injection h with h
                    subst h
                    exact ret_out (v := .tup [.nilS, dB false]) (resV_many (resVs_tmp rfl (resVs_tmp rfl resVs_nil))) (frz_tup ⟨(.nilS _), (.keep rfl), trivial⟩)
            · clear h
              intro k240 h J240
              refine awp_rd hmix ?_
              refine do_ rfl rfl (st_mv rfl) rfl rfl rfl ?_
              refine do_ rfl rfl (st_lenD rfl un28) rfl rfl rfl ?_
              refine do_ rfl rfl (st_bin (v := dB (((s122.1.length : Nat) : Int) == (0 : Int))) rfl rfl rfl) rfl rfl rfl ?_
              refine do_ rfl rfl (st_mv rfl) rfl rfl rfl ?_
              refine bool_split (((s122.1.length : Nat) : Int) == (0 : Int)) (fun p254 => ?_) (fun p254 => ?_)
              · replace h := ite_T p254 h
                rw [p254]
                refine dz rfl rfl ?_
                refine dz rfl rfl ?_
                refine dz rfl rfl ?_
                refine dz rfl rfl ?_
                refine dz rfl rfl ?_
                refine dz rfl rfl ?_
                refine dz rfl rfl ?_
                refine dz rfl rfl ?_
                refine dz rfl rfl ?_
                refine do_ rfl rfl (st_pickT rfl rfl) rfl rfl rfl ?_
                refine do_ rfl rfl (st_as rfl) rfl rfl rfl ?_
                refine rd_nil (by kernel_rfl) ?_
                refine nx_then ?_
                exact J240 true () _ _ h (gh_frz rfl rfl ⟨⟨_, rfl, .keep rfl⟩, ⟨_, rfl, .keep rfl⟩, ⟨_, rfl, .keep rfl⟩, ⟨_, rfl, .keep rfl⟩, ⟨_, rfl, .keep rfl⟩, trivial⟩ ⟨⟨_, rfl, objRow _⟩, trivial⟩)
              · replace h := ite_F p254 h
                rw [p254]
                refine do_ rfl rfl (st_mv rfl) rfl rfl rfl ?_
                obtain ⟨x255, h0255, hx255, h⟩ := getI_some h
                refine do_ rfl rfl (st_ixD sl28 rfl rfl h0255 hx255) rfl rfl rfl ?_
                refine do_ rfl rfl (st_ldD (v := dI .i64 x255) ta3 rfl rfl) rfl rfl rfl ?_
                obtain ⟨y256, hy256, h⟩ := bind_some_elim h
                refine df rfl rfl (ok_proof_abs hy256) rfl rfl ?_
                refine do_ rfl rfl (st_mv rfl) rfl rfl rfl ?_
                obtain ⟨x257, h0257, hx257, h⟩ := getI_some h
                refine do_ rfl rfl (st_ixD sl28 rfl rfl h0257 hx257) rfl rfl rfl ?_
                refine do_ rfl rfl (st_ldD (v := dI .i64 x257) ta3 rfl rfl) rfl rfl rfl ?_
                obtain ⟨y258, hy258, h⟩ := bind_some_elim h
                refine df rfl rfl (ok_proof_abs hy258) rfl rfl ?_
                refine do_ rfl rfl (st_bin (v := dB (decide (y256 < y258))) rfl rfl rfl) rfl rfl rfl ?_
                refine do_ rfl rfl (st_pickF rfl rfl) rfl rfl rfl ?_
                refine do_ rfl rfl (st_as rfl) rfl rfl rfl ?_
                refine rd_nil (by kernel_rfl) ?_
                refine nx_then ?_
                exact J240 (decide (y256 < y258)) () _ _ h (gh_frz rfl rfl ⟨⟨_, rfl, .keep rfl⟩, ⟨_, rfl, .keep rfl⟩, ⟨_, rfl, .keep rfl⟩, ⟨_, rfl, .keep rfl⟩, ⟨_, rfl, .keep rfl⟩, trivial⟩ ⟨⟨_, rfl, objRow _⟩, trivial⟩)
        · clear h
          intro k228 h J228
          refine awp_rd hmix ?_
          refine do_ rfl rfl (st_mv rfl) rfl rfl rfl ?_
          refine do_ rfl rfl (st_lenD rfl un28) rfl rfl rfl ?_
          refine do_ rfl rfl (st_bin (v := dB (((s122.2.1.length : Nat) : Int) == (0 : Int))) rfl rfl rfl) rfl rfl rfl ?_
          refine do_ rfl rfl (st_mv rfl) rfl rfl rfl ?_
          refine bool_split (((s122.2.1.length : Nat) : Int) == (0 : Int)) (fun p259 => ?_) (fun p259 => ?_)
          · replace h := ite_T p259 h
            rw [p259]
            refine dz rfl rfl ?_
            refine dz rfl rfl ?_
            refine dz rfl rfl ?_
            refine dz rfl rfl ?_
            refine dz rfl rfl ?_
            refine dz rfl rfl ?_
            refine dz rfl rfl ?_
            refine dz rfl rfl ?_
            refine dz rfl rfl ?_
            refine dz rfl rfl ?_
            refine dz rfl rfl ?_
            refine dz rfl rfl ?_
            refine dz rfl rfl ?_
            refine dz rfl rfl ?_
            refine do_ rfl rfl (st_pickT rfl rfl) rfl rfl rfl ?_
            refine do_ rfl rfl (st_as rfl) rfl rfl rfl ?_
            refine rd_nil (by kernel_rfl) ?_
            refine nx_then ?_
            exact J228 true () _ _ h (gh_frz rfl rfl ⟨⟨_, rfl, .keep rfl⟩, ⟨_, rfl, .keep rfl⟩, ⟨_, rfl, .keep rfl⟩, ⟨_, rfl, .keep rfl⟩, ⟨_, rfl, .keep rfl⟩, trivial⟩ ⟨⟨_, rfl, objRow _⟩, trivial⟩)
          · replace h := ite_F p259 h
            rw [p259]
            refine do_ rfl rfl (st_mv rfl) rfl rfl rfl ?_
            refine do_ rfl rfl (st_lenD rfl un28) rfl rfl rfl ?_
            refine do_ rfl rfl (st_bin (v := dB (decide (((s122.1.length : Nat) : Int) > (0 : Int)))) rfl rfl rfl) rfl rfl rfl ?_
            refine do_ rfl rfl (st_mv rfl) rfl rfl rfl ?_
            refine bool_split (decide (((s122.1.length : Nat) : Int) > (0 : Int))) (fun p260 => ?_) (fun p260 => ?_)
            · replace h := ite_T p260 h
              rw [p260]
              refine do_ rfl rfl (st_mv rfl) rfl rfl rfl ?_
              obtain ⟨x261, h0261, hx261, h⟩ := getI_some h
              refine do_ rfl rfl (st_ixD sl28 rfl rfl h0261 hx261) rfl rfl rfl ?_
              refine do_ rfl rfl (st_ldD (v := dI .i64 x261) ta3 rfl rfl) rfl rfl rfl ?_
              obtain ⟨y262, hy262, h⟩ := bind_some_elim h
              refine df rfl rfl (ok_proof_abs hy262) rfl rfl ?_
              refine do_ rfl rfl (st_mv rfl) rfl rfl rfl ?_
              obtain ⟨x263, h0263, hx263, h⟩ := getI_some h
              refine do_ rfl rfl (st_ixD sl28 rfl rfl h0263 hx263) rfl rfl rfl ?_
              refine do_ rfl rfl (st_ldD (v := dI .i64 x263) ta3 rfl rfl) rfl rfl rfl ?_
              obtain ⟨y264, hy264, h⟩ := bind_some_elim h
              refine df rfl rfl (ok_proof_abs hy264) rfl rfl ?_
              refine do_ rfl rfl (st_bin (v := dB (decide (y262 < y264))) rfl rfl rfl) rfl rfl rfl ?_
              refine do_ rfl rfl (st_pickT rfl rfl) rfl rfl rfl ?_
              refine do_ rfl rfl (st_pickF rfl rfl) rfl rfl rfl ?_
              refine do_ rfl rfl (st_as rfl) rfl rfl rfl ?_
              refine rd_nil (by kernel_rfl) ?_
              refine nx_then ?_
              exact J228 (decide (y262 < y264)) () _ _ h (gh_frz rfl rfl ⟨⟨_, rfl, .keep rfl⟩, ⟨_, rfl, .keep rfl⟩, ⟨_, rfl, .keep rfl⟩, ⟨_, rfl, .keep rfl⟩, ⟨_, rfl, .keep rfl⟩, trivial⟩ ⟨⟨_, rfl, objRow _⟩, trivial⟩)
            · replace h := ite_F p260 h
              rw [p260]
              refine dz rfl rfl ?_
              refine dz rfl rfl ?_
              refine dz rfl rfl ?_
              refine dz rfl rfl ?_
              refine dz rfl rfl ?_
              refine dz rfl rfl ?_
              refine dz rfl rfl ?_
              refine dz rfl rfl ?_
              refine dz rfl rfl ?_
              refine do_ rfl rfl (st_pickF rfl rfl) rfl rfl rfl ?_
              refine do_ rfl rfl (st_pickF rfl rfl) rfl rfl rfl ?_
              refine do_ rfl rfl (st_as rfl) rfl rfl rfl ?_
              refine rd_nil (by kernel_rfl) ?_
              refine nx_then ?_
              exact J228 false () _ _ h (gh_frz rfl rfl ⟨⟨_, rfl, .keep rfl⟩, ⟨_, rfl, .keep rfl⟩, ⟨_, rfl, .keep rfl⟩, ⟨_, rfl, .keep rfl⟩, ⟨_, rfl, .keep rfl⟩, trivial⟩ ⟨⟨_, rfl, objRow _⟩, trivial⟩)
      · replace h := ite_F p219 h
        refine awp_exit ?_
        refine ex_out ?_
        refine ex_out ?_
        refine ex_in ?_
        refine nx_then ?_
        refine awp_rs ?_
        refine ro rfl rfl (st_mv rfl) ?_
        refine ro rfl rfl (st_as rfl) ?_
        refine ro rfl rfl (st_as rfl) ?_
        refine rw_nilk ?_
        refine awp_ret ?_
        injection h with h
        subst h
        exact ret_out (v := .tup [.slice 1001 g123 0 s122.2.2.length, dB true]) (resV_many (resVs_tmp rfl (resVs_tmp rfl resVs_nil))) (frz_tup ⟨(frzT rfl rfl co3 rfl), (.keep rfl), trivial⟩)
  · clear h
    intro k119 h J119
    refine awp_rw ?_
    refine ro rfl rfl (st_mv rfl) ?_
    refine ro rfl rfl (st_bin (v := dB (decide (a2 < (1 : Int)))) rfl rfl rfl) ?_
    refine ro rfl rfl (st_mv rfl) ?_
    refine bool_split (decide (a2 < (1 : Int))) (fun p265 => ?_) (fun p265 => ?_)
    · replace h := ite_T p265 h
      rw [p265]
      refine rz rfl rfl ?_
      refine rz rfl rfl ?_
      refine rz rfl rfl ?_
      refine rz rfl rfl ?_
      refine ro rfl rfl (st_pickT rfl rfl) ?_
      refine ro rfl rfl (st_mv rfl) ?_
      refine rz rfl rfl ?_
      refine rz rfl rfl ?_
      refine rz rfl rfl ?_
      refine rz rfl rfl ?_
      refine rz rfl rfl ?_
      refine ro rfl rfl (st_pickT rfl rfl) ?_
      refine rw_nil ?_
      refine nx_then ?_
      exact J119 true () _ _ h (gh_frz rfl rfl ⟨⟨_, rfl, .keep rfl⟩, ⟨_, rfl, .keep rfl⟩, ⟨_, rfl, .keep rfl⟩, ⟨_, rfl, .keep rfl⟩, trivial⟩ trivial)
    · replace h := ite_F p265 h
      rw [p265]
      refine ro rfl rfl (st_mv rfl) ?_
      refine ro rfl rfl (st_mv rfl) ?_
      obtain ⟨y266, hy266, h⟩ := bind_some_elim h
      refine rf rfl rfl (ok_slices_Contains_int_int hy266) rfl rfl ?_
      refine ro rfl rfl (st_un (v := dB (!y266)) rfl rfl) ?_
      refine ro rfl rfl (st_pickF rfl rfl) ?_
      refine ro rfl rfl (st_mv rfl) ?_
      refine bool_split (!y266) (fun p267 => ?_) (fun p267 => ?_)
      · replace h := ite_T p267 h
        rw [p267]
        refine rz rfl rfl ?_
        refine rz rfl rfl ?_
        refine rz rfl rfl ?_
        refine rz rfl rfl ?_
        refine rz rfl rfl ?_
        refine ro rfl rfl (st_pickT rfl rfl) ?_
        refine rw_nil ?_
        refine nx_then ?_
        exact J119 true () _ _ h (gh_frz rfl rfl ⟨⟨_, rfl, .keep rfl⟩, ⟨_, rfl, .keep rfl⟩, ⟨_, rfl, .keep rfl⟩, ⟨_, rfl, .keep rfl⟩, trivial⟩ trivial)
      · replace h := ite_F p267 h
        rw [p267]
        refine ro rfl rfl (st_mv rfl) ?_
        refine ro rfl rfl (st_mv rfl) ?_
        refine ro rfl rfl (st_un (v := dI .i64 (IntKind.wrap .i64 (0 - a2))) rfl rfl) ?_
        obtain ⟨y268, hy268, h⟩ := bind_some_elim h
        refine rf rfl rfl (ok_slices_Contains_int_int hy268) rfl rfl ?_
        refine ro rfl rfl (st_un (v := dB (!y268)) rfl rfl) ?_
        refine ro rfl rfl (st_pickF rfl rfl) ?_
        refine rw_nil ?_
        refine nx_then ?_
        exact J119 (!y268) () _ _ h (gh_frz rfl rfl ⟨⟨_, rfl, .keep rfl⟩, ⟨_, rfl, .keep rfl⟩, ⟨_, rfl, .keep rfl⟩, ⟨_, rfl, .keep rfl⟩, trivial⟩ trivial)

theorem ok_proof_fits {a0 : S_api_Proof} {r : Bool} (h : F_proof_fits a0 = some r) : Fn Try.prog 46 [.agg [dB a0.Cubes, dL 5 e_S_api_Line a0.Lines]] (dB r) := by
  unfold F_proof_fits at h
  refine Fn.of_body (N := 18) (rs := [.tmp 2]) Try.func46 (c := _) rfl rfl rfl (by kernel_rfl) (Nat.le_of_ble_eq_true rfl) (fun _B => ?_)
  refine awp_rs ?_
  refine rn (r := 1001) rfl rfl (st_box rfl rfl rfl co25 rfl rfl) rfl ?_
  refine ro rfl rfl (st_as rfl) ?_
  refine rw_nilk ?_
  refine awp_rs ?_
  refine ro rfl rfl (st_faP fo25_0 rfl) ?_
  refine ro rfl rfl (st_ldP (v := dB a0.Cubes) ta4 rfl rfl rfl rfl) ?_
  refine ro rfl rfl (st_un (v := dB (!a0.Cubes)) rfl rfl) ?_
  refine ro rfl rfl (st_mv rfl) ?_
  refine bool_split (!a0.Cubes) (fun p103 => ?_) (fun p103 => ?_)
  · replace h := ite_T p103 h
    rw [p103]
    refine ro rfl rfl (st_faP fo25_1 rfl) ?_
    refine ro rfl rfl (st_ldP (v := dL 5 e_S_api_Line a0.Lines) ta23 rfl rfl rfl rfl) ?_
    refine ro rfl rfl (st_lenD rfl un23) ?_
    refine ro rfl rfl (st_bin (v := dB (decide (((a0.Lines.length : Nat) : Int) > (0 : Int)))) rfl rfl rfl) ?_
    refine ro rfl rfl (st_pickT rfl rfl) ?_
    refine ro rfl rfl (st_mv rfl) ?_
    refine bool_split (decide (((a0.Lines.length : Nat) : Int) > (0 : Int))) (fun p104 => ?_) (fun p104 => ?_)
    · replace h := ite_T p104 h
      rw [p104]
      refine ro rfl rfl (st_faP fo25_1 rfl) ?_
      refine ro rfl rfl (st_ldP (v := dL 5 e_S_api_Line a0.Lines) ta23 rfl rfl rfl rfl) ?_
      refine ro rfl rfl (st_lenD rfl un23) ?_
      refine ro rfl rfl (st_bin (v := dB (decide (((a0.Lines.length : Nat) : Int) ≤ (1000000 : Int)))) rfl rfl rfl) ?_
      refine ro rfl rfl (st_pickT rfl rfl) ?_
      refine ro rfl rfl (st_as rfl) ?_
      refine rw_nilk ?_
      refine awp_ret ?_
      injection h with h
      subst h
      exact ret_out (v := dB (decide (((a0.Lines.length : Nat) : Int) ≤ (1000000 : Int)))) (resV_one (resVs_tmp rfl resVs_nil)) (.keep rfl)
    · replace h := ite_F p104 h
      rw [p104]
      refine rz rfl rfl ?_
      refine rz rfl rfl ?_
      refine rz rfl rfl ?_
      refine rz rfl rfl ?_
      refine ro rfl rfl (st_pickF rfl rfl) ?_
      refine ro rfl rfl (st_as rfl) ?_
      refine rw_nilk ?_
      refine awp_ret ?_
      injection h with h
      subst h
      exact ret_out (v := dB false) (resV_one (resVs_tmp rfl resVs_nil)) (.keep rfl)
  · replace h := ite_F p103 h
    rw [p103]
    refine rz rfl rfl ?_
    refine rz rfl rfl ?_
    refine rz rfl rfl ?_
    refine rz rfl rfl ?_
    refine ro rfl rfl (st_pickF rfl rfl) ?_
    refine ro rfl rfl (st_mv rfl) ?_
    refine rz rfl rfl ?_
    refine rz rfl rfl ?_
    refine rz rfl rfl ?_
    refine rz rfl rfl ?_
    refine ro rfl rfl (st_pickF rfl rfl) ?_
    refine ro rfl rfl (st_as rfl) ?_
    refine rw_nilk ?_
    refine awp_ret ?_
    injection h with h
    subst h
    exact ret_out (v := dB false) (resV_one (resVs_tmp rfl resVs_nil)) (.keep rfl)

theorem ok_proof_ordered {a0 : S_api_Proof} {r : Bool} (h : F_proof_ordered a0 = some r) : Fn Try.prog 66 [.agg [dB a0.Cubes, dL 5 e_S_api_Line a0.Lines]] (dB r) := by
  unfold F_proof_ordered at h
  refine Fn.of_body (N := 42) (rs := [.tmp 2]) Try.func66 (c := _) rfl rfl rfl (by kernel_rfl) (Nat.le_of_ble_eq_true rfl) (fun _B => ?_)
  refine awp_rs ?_
  refine rn (r := 1001) rfl rfl (st_box rfl rfl rfl co25 rfl rfl) rfl ?_
  refine ro rfl rfl (st_as rfl) ?_
  refine rw_nilk ?_
  refine awp_seq ?_
  refine awp_rs ?_
  refine ro rfl rfl (st_ldP (v := .agg [dB a0.Cubes, dL 5 e_S_api_Line a0.Lines]) ta25 rfl rfl rfl rfl) ?_
  obtain ⟨y101, hy101, h⟩ := bind_some_elim h
  refine rf rfl rfl (ok_proof_fits hy101) rfl rfl ?_
  refine ro rfl rfl (st_un (v := dB (!y101)) rfl rfl) ?_
  refine rw_nilk ?_
  refine awp_ite (b := (!y101)) rfl (fun p102 => ?_) (fun p102 => ?_)
  · replace h := ite_T p102 h
    refine awp_rs ?_
    refine ro rfl rfl (st_as rfl) ?_
    refine rw_nilk ?_
    refine awp_ret ?_
    refine rt_then ?_
    injection h with h
    subst h
    exact ret_out (v := dB false) (resV_one (resVs_tmp rfl resVs_nil)) (.keep rfl)
  · replace h := ite_F p102 h
    refine awp_skip ?_
    refine nx_then ?_
    refine awp_seq ?_
    refine awp_rs ?_
    refine ro rfl rfl (st_faP fo25_1 rfl) ?_
    refine ro rfl rfl (st_ldP (v := dL 5 e_S_api_Line a0.Lines) ta23 rfl rfl rfl rfl) ?_
    refine ro rfl rfl (st_lenD rfl un23) ?_
    refine ro rfl rfl (st_mv rfl) ?_
    refine rw_nilk ?_
    refine awp_block ?_
    refine awp_len (t := 9) rfl (fun hl106 => ?_)
    rw [List.length_map] at hl106
    refine awp_range (fun (j106 : Nat) (s103 : Unit) (g104 : Unit) => [(9, dL 5 e_S_api_Line a0.Lines), (10, dI .i64 ((a0.Lines.length : Nat) : Int)), (11, dI .i64 ((j106 : Nat) : Int))]) (fun (s103 : Unit) (g104 : Unit) => []) () (fun _ _ _ h => h) h (gh_frz rfl rfl ⟨⟨_, rfl, .keep rfl⟩, ⟨_, rfl, .keep rfl⟩, ⟨_, rfl, .keep rfl⟩, trivial⟩ trivial) ?_ ?_
    · clear h
      intro j106 x107 s103 g104 k105 hj106 hx106 h ih105
      refine awp_rs ?_
      refine ro rfl rfl (st_bin (v := dB (decide (((j106 : Nat) : Int) < ((a0.Lines.length : Nat) : Int)))) rfl rfl rfl) ?_
      refine rw_nilk ?_
      refine awp_seq ?_
      refine awp_ifT rfl (dlt hj106) ?_
      refine awp_skip ?_
      refine nx_then ?_
      refine awp_seq ?_
      refine awp_block ?_
      refine awp_rs ?_
      refine ro rfl rfl (st_mv rfl) ?_
      refine ro rfl rfl (st_ixDn sl23 rfl rfl hx106) ?_
      refine ro rfl rfl (st_ldD (v := .agg [dI .u8 x107.Rule, dI .i64 x107.A, dI .i64 x107.B, dI .i64 x107.Piv, dL 1 (eI .i64) x107.Lits]) ta58 rfl rfl) ?_
      refine rn (r := 1002) rfl rfl (st_alloc zc58 rfl rfl) rfl ?_
      refine ro rfl rfl (st_as rfl) ?_
      refine rx (L' := [(1002, .row 0 58 [[dI .u8 x107.Rule, dI .i64 x107.A, dI .i64 x107.B, dI .i64 x107.Piv, dL 1 (eI .i64) x107.Lits]])]) rfl rfl (st_stP ta58 rfl rfl rfl rfl rfl rfl rfl rfl) rfl ?_
      refine rw_nilk ?_
      refine awp_jn (fun (s141 : Bool) (g142 : Unit) => [(9, dL 5 e_S_api_Line a0.Lines), (10, dI .i64 ((a0.Lines.length : Nat) : Int)), (11, dI .i64 ((j106 : Nat) : Int)), (40, dB s141)]) (fun (s141 : Bool) (g142 : Unit) => []) h ?_ ?_
      · clear h
        intro s141 g142 h
        refine awp_ite (b := s141) rfl (fun p144 => ?_) (fun p144 => ?_)
        · replace h := ite_T p144 h
          refine awp_rs ?_
          refine ro rfl rfl (st_as rfl) ?_
          refine rw_nilk ?_
          refine awp_ret ?_
          refine rt_block ?_
          refine rt_then ?_
          refine rt_then ?_
          refine rt_block ?_
          refine rt_then ?_
          injection h with h
          subst h
          exact ret_out (v := dB false) (resV_one (resVs_tmp rfl resVs_nil)) (.keep rfl)
        · replace h := ite_F p144 h
          refine awp_skip ?_
          refine nx_block ?_
          refine nx_then ?_
          refine awp_rw ?_
          refine ro rfl rfl (st_inc rfl rfl hj106 hl106) ?_
          refine ro rfl rfl (st_mv rfl) ?_
          refine rw_nil ?_
          refine nx_then ?_
          refine awp_gh ?_ (ih105 () () h)
          exact (gh_frz rfl rfl ⟨⟨_, rfl, .keep rfl⟩, ⟨_, rfl, .keep rfl⟩, ⟨_, rfl, .keep rfl⟩, trivial⟩ trivial)
      · clear h
        intro k143 h J143
        refine awp_rw ?_
        refine ro rfl rfl (st_faP fo58_0 rfl) ?_
        refine ro rfl rfl (st_ldP (v := dI .u8 x107.Rule) ta56 rfl rfl rfl rfl) ?_
        refine ro rfl rfl (st_bin (v := dB (x107.Rule != (1 : Int))) rfl rfl rfl) ?_
        refine ro rfl rfl (st_mv rfl) ?_
        refine bool_split (x107.Rule != (1 : Int)) (fun p145 => ?_) (fun p145 => ?_)
        · replace h := ite_T p145 h
          rw [p145]
          refine ro rfl rfl (st_faP fo58_0 rfl) ?_
          refine ro rfl rfl (st_ldP (v := dI .u8 x107.Rule) ta56 rfl rfl rfl rfl) ?_
          refine ro rfl rfl (st_bin (v := dB (x107.Rule != (2 : Int))) rfl rfl rfl) ?_
          refine ro rfl rfl (st_mv rfl) ?_
          refine bool_split (x107.Rule != (2 : Int)) (fun p146 => ?_) (fun p146 => ?_)
          · replace h := ite_T p146 h
            rw [p146]
            refine rz rfl rfl ?_
            refine rz rfl rfl ?_
            refine rz rfl rfl ?_
            refine rz rfl rfl ?_
            refine rz rfl rfl ?_
            refine rz rfl rfl ?_
            refine ro rfl rfl (st_pickT rfl rfl) ?_
            refine ro rfl rfl (st_mv rfl) ?_
            refine rz rfl rfl ?_
            refine rz rfl rfl ?_
            refine rz rfl rfl ?_
            refine rz rfl rfl ?_
            refine rz rfl rfl ?_
            refine rz rfl rfl ?_
            refine rz rfl rfl ?_
            refine ro rfl rfl (st_pickT rfl rfl) ?_
            refine ro rfl rfl (st_pickT rfl rfl) ?_
            refine rw_nil ?_
            refine nx_then ?_
            exact J143 true () _ _ h (gh_frz rfl rfl ⟨⟨_, rfl, .keep rfl⟩, ⟨_, rfl, .keep rfl⟩, ⟨_, rfl, .keep rfl⟩, ⟨_, rfl, .keep rfl⟩, trivial⟩ trivial)
          · replace h := ite_F p146 h
            rw [p146]
            refine ro rfl rfl (st_faP fo58_1 rfl) ?_
            refine ro rfl rfl (st_ldP (v := dI .i64 x107.A) ta3 rfl rfl rfl rfl) ?_
            refine ro rfl rfl (st_faP fo58_2 rfl) ?_
            refine ro rfl rfl (st_ldP (v := dI .i64 x107.B) ta3 rfl rfl rfl rfl) ?_
            refine ro rfl rfl (st_min rfl rfl) ?_
            refine ro rfl rfl (st_bin (v := dB (decide ((imn x107.A x107.B) < (0 : Int)))) rfl rfl rfl) ?_
            refine ro rfl rfl (st_pickF rfl rfl) ?_
            refine ro rfl rfl (st_mv rfl) ?_
            refine bool_split (decide ((imn x107.A x107.B) < (0 : Int))) (fun p147 => ?_) (fun p147 => ?_)
            · replace h := ite_T p147 h
              rw [p147]
              refine rz rfl rfl ?_
              refine rz rfl rfl ?_
              refine rz rfl rfl ?_
              refine rz rfl rfl ?_
              refine rz rfl rfl ?_
              refine rz rfl rfl ?_
              refine rz rfl rfl ?_
              refine ro rfl rfl (st_pickT rfl rfl) ?_
              refine ro rfl rfl (st_pickT rfl rfl) ?_
              refine rw_nil ?_
              refine nx_then ?_
              exact J143 true () _ _ h (gh_frz rfl rfl ⟨⟨_, rfl, .keep rfl⟩, ⟨_, rfl, .keep rfl⟩, ⟨_, rfl, .keep rfl⟩, ⟨_, rfl, .keep rfl⟩, trivial⟩ trivial)
            · replace h := ite_F p147 h
              rw [p147]
              refine ro rfl rfl (st_faP fo58_1 rfl) ?_
              refine ro rfl rfl (st_ldP (v := dI .i64 x107.A) ta3 rfl rfl rfl rfl) ?_
              refine ro rfl rfl (st_faP fo58_2 rfl) ?_
              refine ro rfl rfl (st_ldP (v := dI .i64 x107.B) ta3 rfl rfl rfl rfl) ?_
              refine ro rfl rfl (st_max rfl rfl) ?_
              refine ro rfl rfl (st_mv rfl) ?_
              refine ro rfl rfl (st_bin (v := dB (decide ((imx x107.A x107.B) ≥ ((j106 : Nat) : Int)))) rfl rfl rfl) ?_
              refine ro rfl rfl (st_pickF rfl rfl) ?_
              refine ro rfl rfl (st_pickT rfl rfl) ?_
              refine rw_nil ?_
              refine nx_then ?_
              exact J143 (decide ((imx x107.A x107.B) ≥ ((j106 : Nat) : Int))) () _ _ h (gh_frz rfl rfl ⟨⟨_, rfl, .keep rfl⟩, ⟨_, rfl, .keep rfl⟩, ⟨_, rfl, .keep rfl⟩, ⟨_, rfl, .keep rfl⟩, trivial⟩ trivial)
        · replace h := ite_F p145 h
          rw [p145]
          refine rz rfl rfl ?_
          refine rz rfl rfl ?_
          refine rz rfl rfl ?_
          refine rz rfl rfl ?_
          refine rz rfl rfl ?_
          refine rz rfl rfl ?_
          refine rz rfl rfl ?_
          refine rz rfl rfl ?_
          refine rz rfl rfl ?_
          refine rz rfl rfl ?_
          refine rz rfl rfl ?_
          refine rz rfl rfl ?_
          refine rz rfl rfl ?_
          refine rz rfl rfl ?_
          refine rz rfl rfl ?_
          refine rz rfl rfl ?_
          refine rz rfl rfl ?_
          refine rz rfl rfl ?_
          refine rz rfl rfl ?_
          refine rz rfl rfl ?_
          refine ro rfl rfl (st_pickF rfl rfl) ?_
          refine rw_nil ?_
          refine nx_then ?_
          exact J143 false () _ _ h (gh_frz rfl rfl ⟨⟨_, rfl, .keep rfl⟩, ⟨_, rfl, .keep rfl⟩, ⟨_, rfl, .keep rfl⟩, ⟨_, rfl, .keep rfl⟩, trivial⟩ trivial)
    · clear h
      intro s103 g104 h
      refine awp_rs ?_
      refine ro rfl rfl (st_bin (v := dB (decide (((a0.Lines.length : Nat) : Int) < ((a0.Lines.length : Nat) : Int)))) rfl rfl rfl) ?_
      refine rw_nilk ?_
      refine awp_seq ?_
      refine awp_ifF rfl dge ?_
      refine awp_exit ?_
      refine ex_out ?_
      refine ex_out ?_
      refine ex_in ?_
      refine nx_then ?_
      refine awp_rs ?_
      refine ro rfl rfl (st_as rfl) ?_
      refine rw_nilk ?_
      refine awp_ret ?_
      injection h with h
      subst h
      exact ret_out (v := dB true) (resV_one (resVs_tmp rfl resVs_nil)) (.keep rfl)

theorem ok_slices_Clone_int_int {a0 : (List Int)} {r : (List Int)} (h : F_slices_Clone_int_int a0 = some r) : Fn Try.prog 48 [dL 1 (eI .i64) a0] (dL 1 (eI .i64) r) := by
  unfold F_slices_Clone_int_int at h
  refine Fn.of_body (N := 8) (rs := [.tmp 2]) Try.func48 (c := _) rfl rfl rfl (by kernel_rfl) (Nat.le_of_ble_eq_true rfl) (fun _B => ?_)
  refine awp_rs ?_
  refine ro rfl rfl (st_as rfl) ?_
  refine rw_nilk ?_
  refine awp_seq ?_
  refine awp_rs ?_
  refine ro rfl rfl (st_mv rfl) ?_
  refine bool_split a0.isEmpty (fun p101 => ?_) (fun p101 => ?_)
  · replace h := ite_T p101 h
    rw [List.isEmpty_iff.1 p101]
    refine rw_nilcase (t := 3) rfl rfl ?_ (fun wq102 cq103 => ?_)
    · refine ro rfl rfl (st_nne rfl rfl un28) ?_
      refine rw_nilk ?_
      refine awp_condT rfl ?_
      refine awp_rs ?_
      refine ro rfl rfl (st_as rfl) ?_
      refine rw_nilk ?_
      refine awp_ret ?_
      refine rt_then ?_
      injection h with h
      subst h
      exact ret_out (v := .nilS) (resV_one (resVs_tmp rfl resVs_nil)) (.nilS _)
    · refine ro rfl rfl (st_rawe rfl rfl un28) ?_
      refine rw_nilk ?_
      refine awp_condF rfl ?_
      refine awp_skip ?_
      refine nx_then ?_
      refine awp_rs ?_
      refine rn (r := 1001) rfl rfl (st_bsl (els := []) sl28 zc3 rfl rfl rfl rfl rfl) rfl ?_
      refine ro rfl rfl (st_mv rfl) ?_
      refine rn (r := 0) (L' := [(1001, rw' 3 3 (eI .i64) ([] : List Int))]) rfl rfl (st_appR (f := (eI .i64)) (xs := ([] : List Int)) (ys := ([] : List Int)) sl28 zc3 rfl rfl rfl rfl rfl news_dat (by decide)) rfl ?_
      refine ro rfl rfl (st_as rfl) ?_
      refine rw_nilk ?_
      refine awp_ret ?_
      injection h with h
      subst h
      exact ret_out (v := .slice 1001 3 0 (([] : List Int).length)) (resV_one (resVs_tmp rfl resVs_nil)) (frzT rfl rfl co3 rfl)
  · replace h := ite_F p101 h
    refine ro rfl rfl (st_dne rfl rfl p101 un28) ?_
    refine rw_nilk ?_
    refine awp_condF rfl ?_
    refine awp_skip ?_
    refine nx_then ?_
    refine awp_rs ?_
    refine rn (r := 1001) rfl rfl (st_bsl (els := []) sl28 zc3 rfl rfl rfl rfl rfl) rfl ?_
    refine ro rfl rfl (st_mv rfl) ?_
    obtain ⟨c104, h⟩ := capN_some h
    refine rn (r := 0) (L' := [(1001, rw' 3 3 (eI .i64) (([] : List Int) ++ a0))]) rfl rfl (st_appR (f := (eI .i64)) (xs := ([] : List Int)) (ys := a0) sl28 zc3 rfl rfl rfl rfl rfl news_dat c104) rfl ?_
    refine ro rfl rfl (st_as rfl) ?_
    refine rw_nilk ?_
    refine awp_ret ?_
    injection h with h
    subst h
    exact ret_out (v := .slice 1001 3 0 ((([] : List Int) ++ a0).length)) (resV_one (resVs_tmp rfl resVs_nil)) (frzT rfl rfl co3 rfl)

theorem ok_proof_copied {a0 : S_api_Proof} {a1 : Int} {r : (List S_api_Line)} (h : F_proof_copied a0 a1 = some r) : Fn Try.prog 70 [.agg [dB a0.Cubes, dL 5 e_S_api_Line a0.Lines], dI .i64 a1] (dL 5 e_S_api_Line r) := by
  unfold F_proof_copied at h
  refine Fn.of_body (N := 37) (rs := [.tmp 4]) Try.func70 (c := _) rfl rfl rfl (by kernel_rfl) (Nat.le_of_ble_eq_true rfl) (fun _B => ?_)
  refine awp_rs ?_
  refine rn (r := 1001) rfl rfl (st_box rfl rfl rfl co25 rfl rfl) rfl ?_
  refine ro rfl rfl (st_as rfl) ?_
  refine rw_nilk ?_
  refine awp_seq ?_
  refine awp_rs ?_
  refine ro rfl rfl (st_faP fo25_1 rfl) ?_
  refine ro rfl rfl (st_ldP (v := dL 5 e_S_api_Line a0.Lines) ta23 rfl rfl rfl rfl) ?_
  refine ro rfl rfl (st_lenD rfl un23) ?_
  refine ro rfl rfl (st_mv rfl) ?_
  refine rw_nilk ?_
  refine awp_block ?_
  refine awp_len (t := 8) rfl (fun hl104 => ?_)
  rw [List.length_map] at hl104
  refine awp_range (fun (j104 : Nat) (s101 : (List S_api_Line)) (g102 : Nat) => [(1, dI .i64 a1), (4, .slice 1004 g102 0 s101.length), (8, dL 5 e_S_api_Line a0.Lines), (9, dI .i64 ((a0.Lines.length : Nat) : Int)), (10, dI .i64 ((j104 : Nat) : Int))]) (fun (s101 : (List S_api_Line)) (g102 : Nat) => [(1004, rw' g102 58 e_S_api_Line s101)]) 0 (fun _ _ _ h => h) h (Gh.trans (gh_nil (r := 1004) (E' := [(1, dI .i64 a1), (4, .slice 1004 0 0 (([] : List S_api_Line).length)), (8, dL 5 e_S_api_Line a0.Lines), (9, dI .i64 ((a0.Lines.length : Nat) : Int)), (10, dI .i64 (0 : Int))]) (L' := [(1001, .row 0 25 [[dB a0.Cubes, dL 5 e_S_api_Line a0.Lines]])]) rfl co58 rfl rfl ⟨⟨_, rfl, .keep _⟩, ⟨_, rfl, .nil⟩, ⟨_, rfl, .keep _⟩, ⟨_, rfl, .keep _⟩, ⟨_, rfl, .keep _⟩, trivial⟩ ⟨⟨_, rfl, .keep _⟩, trivial⟩) (gh_frz rfl rfl ⟨⟨_, rfl, .keep rfl⟩, ⟨_, rfl, .keep rfl⟩, ⟨_, rfl, .keep rfl⟩, ⟨_, rfl, .keep rfl⟩, ⟨_, rfl, .keep rfl⟩, trivial⟩ ⟨⟨_, rfl, objRow (List.map e_S_api_Line ([] : List S_api_Line))⟩, trivial⟩)) ?_ ?_
  · clear h
    intro j104 x105 s101 g102 k103 hj104 hx104 h ih103
    refine awp_rs ?_
    refine ro rfl rfl (st_bin (v := dB (decide (((j104 : Nat) : Int) < ((a0.Lines.length : Nat) : Int)))) rfl rfl rfl) ?_
    refine rw_nilk ?_
    refine awp_seq ?_
    refine awp_ifT rfl (dlt hj104) ?_
    refine awp_skip ?_
    refine nx_then ?_
    refine awp_seq ?_
    refine awp_block ?_
    refine awp_rs ?_
    refine ro rfl rfl (st_ixDn sl23 rfl rfl hx104) ?_
    refine ro rfl rfl (st_ldD (v := .agg [dI .u8 x105.Rule, dI .i64 x105.A, dI .i64 x105.B, dI .i64 x105.Piv, dL 1 (eI .i64) x105.Lits]) ta58 rfl rfl) ?_
    refine rn (r := 1005) rfl rfl (st_alloc zc58 rfl rfl) rfl ?_
    refine rx (L' := [(1004, rw' g102 58 e_S_api_Line s101), (1005, .row 0 58 [[dI .u8 x105.Rule, dI .i64 x105.A, dI .i64 x105.B, dI .i64 x105.Piv, dL 1 (eI .i64) x105.Lits]])]) rfl rfl (st_stP ta58 rfl rfl rfl rfl rfl rfl rfl rfl) rfl ?_
    refine rw_nilk ?_
    refine awp_rs ?_
    refine ro rfl rfl (st_faP fo58_4 rfl) ?_
    refine ro rfl rfl (st_ldP (v := dL 1 (eI .i64) x105.Lits) ta28 rfl rfl rfl rfl) ?_
    obtain ⟨y155, hy155, h⟩ := bind_some_elim h
    refine rf rfl rfl (ok_slices_Clone_int_int hy155) rfl rfl ?_
    refine ro rfl rfl (st_faP fo58_4 rfl) ?_
    refine rx (L' := [(1004, rw' g102 58 e_S_api_Line s101), (1005, .row 0 58 [[dI .u8 x105.Rule, dI .i64 x105.A, dI .i64 x105.B, dI .i64 x105.Piv, dL 1 (eI .i64) y155]])]) rfl rfl (st_stP ta28 rfl rfl rfl rfl rfl rfl rfl rfl) rfl ?_
    refine rw_nilk ?_
    refine awp_jn (fun (s157 : (Int × Int)) (g158 : Unit) => [(1, dI .i64 a1), (4, .slice 1004 g102 0 s101.length), (6, .ptr 1005 0 0 0), (8, dL 5 e_S_api_Line a0.Lines), (9, dI .i64 ((a0.Lines.length : Nat) : Int)), (10, dI .i64 ((j104 : Nat) : Int))]) (fun (s157 : (Int × Int)) (g158 : Unit) => [(1004, rw' g102 58 e_S_api_Line s101), (1005, .row 0 58 [[dI .u8 x105.Rule, dI .i64 s157.1, dI .i64 s157.2, dI .i64 x105.Piv, dL 1 (eI .i64) y155]])]) h ?_ ?_
    · clear h
      intro s157 g158 h
      refine awp_rw ?_
      refine ro rfl rfl (st_mv rfl) ?_
      refine ro rfl rfl (st_ldP (v := .agg [dI .u8 x105.Rule, dI .i64 s157.1, dI .i64 s157.2, dI .i64 x105.Piv, dL 1 (eI .i64) y155]) ta58 rfl rfl rfl rfl) ?_
      refine rn (r := 1006) rfl rfl (st_bsl (els := [[dI .u8 x105.Rule, dI .i64 s157.1, dI .i64 s157.2, dI .i64 x105.Piv, dL 1 (eI .i64) y155]]) sl23 zc58 rfl rfl rfl rfl rfl) rfl ?_
      obtain ⟨c160, h⟩ := capN_some h
      refine rn (r := 0) (L' := [(1004, rw' (g102 + 2) 58 e_S_api_Line (s101 ++ [(S_api_Line.mk x105.Rule s157.1 s157.2 x105.Piv y155)])), (1005, .row 0 58 [[dI .u8 x105.Rule, dI .i64 s157.1, dI .i64 s157.2, dI .i64 x105.Piv, dL 1 (eI .i64) y155]]), (1006, .row 1 58 [[dI .u8 x105.Rule, dI .i64 s157.1, dI .i64 s157.2, dI .i64 x105.Piv, dL 1 (eI .i64) y155]])]) rfl rfl (st_appR (f := e_S_api_Line) (xs := s101) (ys := [(S_api_Line.mk x105.Rule s157.1 s157.2 x105.Piv y155)]) sl23 zc58 rfl rfl rfl rfl rfl (news_one (a := (S_api_Line.mk x105.Rule s157.1 s157.2 x105.Piv y155)) rfl rfl) c160) rfl ?_
      refine ro rfl rfl (st_as rfl) ?_
      refine rw_nil ?_
      refine nx_block ?_
      refine nx_then ?_
      refine awp_rw ?_
      refine ro rfl rfl (st_inc rfl rfl hj104 hl104) ?_
      refine ro rfl rfl (st_mv rfl) ?_
      refine rw_nil ?_
      refine nx_then ?_
      refine awp_gh ?_ (ih103 (s101 ++ [(S_api_Line.mk x105.Rule s157.1 s157.2 x105.Piv y155)]) (g102 + 2) h)
      exact (gh_frz rfl rfl ⟨⟨_, rfl, .keep rfl⟩, ⟨_, rfl, .keep rfl⟩, ⟨_, rfl, .keep rfl⟩, ⟨_, rfl, .keep rfl⟩, ⟨_, rfl, .keep rfl⟩, trivial⟩ ⟨⟨_, rfl, objRow _⟩, trivial⟩)
    · clear h
      intro k159 h J159
      refine awp_rs ?_
      refine ro rfl rfl (st_faP fo58_0 rfl) ?_
      refine ro rfl rfl (st_ldP (v := dI .u8 x105.Rule) ta56 rfl rfl rfl rfl) ?_
      refine ro rfl rfl (st_bin (v := dB (x105.Rule == (2 : Int))) rfl rfl rfl) ?_
      refine rw_nilk ?_
      refine awp_ite (b := (x105.Rule == (2 : Int))) rfl (fun p161 => ?_) (fun p161 => ?_)
      · replace h := ite_T p161 h
        refine awp_rw ?_
        refine ro rfl rfl (st_faP fo58_1 rfl) ?_
        refine ro rfl rfl (st_ldP (v := dI .i64 x105.A) ta3 rfl rfl rfl rfl) ?_
        refine ro rfl rfl (st_mv rfl) ?_
        refine ro rfl rfl (st_bin (v := dI .i64 (IntKind.wrap .i64 (x105.A + a1))) rfl rfl rfl) ?_
        refine ro rfl rfl (st_faP fo58_2 rfl) ?_
        refine ro rfl rfl (st_ldP (v := dI .i64 x105.B) ta3 rfl rfl rfl rfl) ?_
        refine ro rfl rfl (st_mv rfl) ?_
        refine ro rfl rfl (st_bin (v := dI .i64 (IntKind.wrap .i64 (x105.B + a1))) rfl rfl rfl) ?_
        refine ro rfl rfl (st_faP fo58_1 rfl) ?_
        refine rx (L' := [(1004, rw' g102 58 e_S_api_Line s101), (1005, .row 0 58 [[dI .u8 x105.Rule, dI .i64 (IntKind.wrap .i64 (x105.A + a1)), dI .i64 x105.B, dI .i64 x105.Piv, dL 1 (eI .i64) y155]])]) rfl rfl (st_stP ta3 rfl rfl rfl rfl rfl rfl rfl rfl) rfl ?_
        refine ro rfl rfl (st_faP fo58_2 rfl) ?_
        refine rx (L' := [(1004, rw' g102 58 e_S_api_Line s101), (1005, .row 0 58 [[dI .u8 x105.Rule, dI .i64 (IntKind.wrap .i64 (x105.A + a1)), dI .i64 (IntKind.wrap .i64 (x105.B + a1)), dI .i64 x105.Piv, dL 1 (eI .i64) y155]])]) rfl rfl (st_stP ta3 rfl rfl rfl rfl rfl rfl rfl rfl) rfl ?_
        refine rw_nil ?_
        refine nx_then ?_
        exact J159 ((IntKind.wrap .i64 (x105.A + a1)), (IntKind.wrap .i64 (x105.B + a1))) () _ _ h (gh_frz rfl rfl ⟨⟨_, rfl, .keep rfl⟩, ⟨_, rfl, .keep rfl⟩, ⟨_, rfl, .keep rfl⟩, ⟨_, rfl, .keep rfl⟩, ⟨_, rfl, .keep rfl⟩, ⟨_, rfl, .keep rfl⟩, trivial⟩ ⟨⟨_, rfl, objRow _⟩, ⟨_, rfl, objOne ⟨⟨rfl, .keep rfl⟩, ⟨rfl, .keep rfl⟩, ⟨rfl, .keep rfl⟩, ⟨rfl, .keep rfl⟩, ⟨rfl, .keep rfl⟩, trivial⟩⟩, trivial⟩)
      · replace h := ite_F p161 h
        refine awp_skip ?_
        refine nx_then ?_
        exact J159 (x105.A, x105.B) () _ _ h (gh_frz rfl rfl ⟨⟨_, rfl, .keep rfl⟩, ⟨_, rfl, .keep rfl⟩, ⟨_, rfl, .keep rfl⟩, ⟨_, rfl, .keep rfl⟩, ⟨_, rfl, .keep rfl⟩, ⟨_, rfl, .keep rfl⟩, trivial⟩ ⟨⟨_, rfl, objRow _⟩, ⟨_, rfl, objOne ⟨⟨rfl, .keep rfl⟩, ⟨rfl, .keep rfl⟩, ⟨rfl, .keep rfl⟩, ⟨rfl, .keep rfl⟩, ⟨rfl, .keep rfl⟩, trivial⟩⟩, trivial⟩)
  · clear h
    intro s101 g102 h
    refine awp_rs ?_
    refine ro rfl rfl (st_bin (v := dB (decide (((a0.Lines.length : Nat) : Int) < ((a0.Lines.length : Nat) : Int)))) rfl rfl rfl) ?_
    refine rw_nilk ?_
    refine awp_seq ?_
    refine awp_ifF rfl dge ?_
    refine awp_exit ?_
    refine ex_out ?_
    refine ex_out ?_
    refine ex_in ?_
    refine nx_then ?_
    refine awp_rs ?_
    refine ro rfl rfl (st_mv rfl) ?_
    refine ro rfl rfl (st_as rfl) ?_
    refine rw_nilk ?_
    refine awp_ret ?_
    injection h with h
    subst h
    exact ret_out (v := .slice 1004 g102 0 s101.length) (resV_one (resVs_tmp rfl resVs_nil)) (frzT rfl rfl co58 rfl)

theorem oo_proof_copied {a0 : S_api_Proof} {a1 : Int} {r : (List S_api_Line)} (h : F_proof_copied a0 a1 = some r) : OwnRes Try.prog 70 [.agg [dB a0.Cubes, dL 5 e_S_api_Line a0.Lines], dI .i64 a1] 58 e_S_api_Line r := by
  unfold F_proof_copied at h
  refine OwnRes.of_body (N := 37) (rs := [.tmp 4]) Try.func70 (c := _) rfl rfl rfl (by kernel_rfl) (Nat.le_of_ble_eq_true rfl) (fun _B => ?_)
  refine awp_rs ?_
  refine rn (r := 1001) rfl rfl (st_box rfl rfl rfl co25 rfl rfl) rfl ?_
  refine ro rfl rfl (st_as rfl) ?_
  refine rw_nilk ?_
  refine awp_seq ?_
  refine awp_rs ?_
  refine ro rfl rfl (st_faP fo25_1 rfl) ?_
  refine ro rfl rfl (st_ldP (v := dL 5 e_S_api_Line a0.Lines) ta23 rfl rfl rfl rfl) ?_
  refine ro rfl rfl (st_lenD rfl un23) ?_
  refine ro rfl rfl (st_mv rfl) ?_
  refine rw_nilk ?_
  refine awp_block ?_
  refine awp_len (t := 8) rfl (fun hl104 => ?_)
  rw [List.length_map] at hl104
  refine awp_range (fun (j104 : Nat) (s101 : (List S_api_Line)) (g102 : Nat) => [(1, dI .i64 a1), (4, .slice 1004 g102 0 s101.length), (8, dL 5 e_S_api_Line a0.Lines), (9, dI .i64 ((a0.Lines.length : Nat) : Int)), (10, dI .i64 ((j104 : Nat) : Int))]) (fun (s101 : (List S_api_Line)) (g102 : Nat) => [(1004, rw' g102 58 e_S_api_Line s101)]) 0 (fun _ _ _ h => h) h (Gh.trans (gh_nil (r := 1004) (E' := [(1, dI .i64 a1), (4, .slice 1004 0 0 (([] : List S_api_Line).length)), (8, dL 5 e_S_api_Line a0.Lines), (9, dI .i64 ((a0.Lines.length : Nat) : Int)), (10, dI .i64 (0 : Int))]) (L' := [(1001, .row 0 25 [[dB a0.Cubes, dL 5 e_S_api_Line a0.Lines]])]) rfl co58 rfl rfl ⟨⟨_, rfl, .keep _⟩, ⟨_, rfl, .nil⟩, ⟨_, rfl, .keep _⟩, ⟨_, rfl, .keep _⟩, ⟨_, rfl, .keep _⟩, trivial⟩ ⟨⟨_, rfl, .keep _⟩, trivial⟩) (gh_frz rfl rfl ⟨⟨_, rfl, .keep rfl⟩, ⟨_, rfl, .keep rfl⟩, ⟨_, rfl, .keep rfl⟩, ⟨_, rfl, .keep rfl⟩, ⟨_, rfl, .keep rfl⟩, trivial⟩ ⟨⟨_, rfl, objRow (List.map e_S_api_Line ([] : List S_api_Line))⟩, trivial⟩)) ?_ ?_
  · clear h
    intro j104 x105 s101 g102 k103 hj104 hx104 h ih103
    refine awp_rs ?_
    refine ro rfl rfl (st_bin (v := dB (decide (((j104 : Nat) : Int) < ((a0.Lines.length : Nat) : Int)))) rfl rfl rfl) ?_
    refine rw_nilk ?_
    refine awp_seq ?_
    refine awp_ifT rfl (dlt hj104) ?_
    refine awp_skip ?_
    refine nx_then ?_
    refine awp_seq ?_
    refine awp_block ?_
    refine awp_rs ?_
    refine ro rfl rfl (st_ixDn sl23 rfl rfl hx104) ?_
    refine ro rfl rfl (st_ldD (v := .agg [dI .u8 x105.Rule, dI .i64 x105.A, dI .i64 x105.B, dI .i64 x105.Piv, dL 1 (eI .i64) x105.Lits]) ta58 rfl rfl) ?_
    refine rn (r := 1005) rfl rfl (st_alloc zc58 rfl rfl) rfl ?_
    refine rx (L' := [(1004, rw' g102 58 e_S_api_Line s101), (1005, .row 0 58 [[dI .u8 x105.Rule, dI .i64 x105.A, dI .i64 x105.B, dI .i64 x105.Piv, dL 1 (eI .i64) x105.Lits]])]) rfl rfl (st_stP ta58 rfl rfl rfl rfl rfl rfl rfl rfl) rfl ?_
    refine rw_nilk ?_
    refine awp_rs ?_
    refine ro rfl rfl (st_faP fo58_4 rfl) ?_
    refine ro rfl rfl (st_ldP (v := dL 1 (eI .i64) x105.Lits) ta28 rfl rfl rfl rfl) ?_
    obtain ⟨y155, hy155, h⟩ := bind_some_elim h
    refine rf rfl rfl (ok_slices_Clone_int_int hy155) rfl rfl ?_
    refine ro rfl rfl (st_faP fo58_4 rfl) ?_
    refine rx (L' := [(1004, rw' g102 58 e_S_api_Line s101), (1005, .row 0 58 [[dI .u8 x105.Rule, dI .i64 x105.A, dI .i64 x105.B, dI .i64 x105.Piv, dL 1 (eI .i64) y155]])]) rfl rfl (st_stP ta28 rfl rfl rfl rfl rfl rfl rfl rfl) rfl ?_
    refine rw_nilk ?_
    refine awp_jn (fun (s157 : (Int × Int)) (g158 : Unit) => [(1, dI .i64 a1), (4, .slice 1004 g102 0 s101.length), (6, .ptr 1005 0 0 0), (8, dL 5 e_S_api_Line a0.Lines), (9, dI .i64 ((a0.Lines.length : Nat) : Int)), (10, dI .i64 ((j104 : Nat) : Int))]) (fun (s157 : (Int × Int)) (g158 : Unit) => [(1004, rw' g102 58 e_S_api_Line s101), (1005, .row 0 58 [[dI .u8 x105.Rule, dI .i64 s157.1, dI .i64 s157.2, dI .i64 x105.Piv, dL 1 (eI .i64) y155]])]) h ?_ ?_
    · clear h
      intro s157 g158 h
      refine awp_rw ?_
      refine ro rfl rfl (st_mv rfl) ?_
      refine ro rfl rfl (st_ldP (v := .agg [dI .u8 x105.Rule, dI .i64 s157.1, dI .i64 s157.2, dI .i64 x105.Piv, dL 1 (eI .i64) y155]) ta58 rfl rfl rfl rfl) ?_
      refine rn (r := 1006) rfl rfl (st_bsl (els := [[dI .u8 x105.Rule, dI .i64 s157.1, dI .i64 s157.2, dI .i64 x105.Piv, dL 1 (eI .i64) y155]]) sl23 zc58 rfl rfl rfl rfl rfl) rfl ?_
      obtain ⟨c160, h⟩ := capN_some h
      refine rn (r := 0) (L' := [(1004, rw' (g102 + 2) 58 e_S_api_Line (s101 ++ [(S_api_Line.mk x105.Rule s157.1 s157.2 x105.Piv y155)])), (1005, .row 0 58 [[dI .u8 x105.Rule, dI .i64 s157.1, dI .i64 s157.2, dI .i64 x105.Piv, dL 1 (eI .i64) y155]]), (1006, .row 1 58 [[dI .u8 x105.Rule, dI .i64 s157.1, dI .i64 s157.2, dI .i64 x105.Piv, dL 1 (eI .i64) y155]])]) rfl rfl (st_appR (f := e_S_api_Line) (xs := s101) (ys := [(S_api_Line.mk x105.Rule s157.1 s157.2 x105.Piv y155)]) sl23 zc58 rfl rfl rfl rfl rfl (news_one (a := (S_api_Line.mk x105.Rule s157.1 s157.2 x105.Piv y155)) rfl rfl) c160) rfl ?_
      refine ro rfl rfl (st_as rfl) ?_
      refine rw_nil ?_
      refine nx_block ?_
      refine nx_then ?_
      refine awp_rw ?_
      refine ro rfl rfl (st_inc rfl rfl hj104 hl104) ?_
      refine ro rfl rfl (st_mv rfl) ?_
      refine rw_nil ?_
      refine nx_then ?_
      refine awp_gh ?_ (ih103 (s101 ++ [(S_api_Line.mk x105.Rule s157.1 s157.2 x105.Piv y155)]) (g102 + 2) h)
      exact (gh_frz rfl rfl ⟨⟨_, rfl, .keep rfl⟩, ⟨_, rfl, .keep rfl⟩, ⟨_, rfl, .keep rfl⟩, ⟨_, rfl, .keep rfl⟩, ⟨_, rfl, .keep rfl⟩, trivial⟩ ⟨⟨_, rfl, objRow _⟩, trivial⟩)
    · clear h
      intro k159 h J159
      refine awp_rs ?_
      refine ro rfl rfl (st_faP fo58_0 rfl) ?_
      refine ro rfl rfl (st_ldP (v := dI .u8 x105.Rule) ta56 rfl rfl rfl rfl) ?_
      refine ro rfl rfl (st_bin (v := dB (x105.Rule == (2 : Int))) rfl rfl rfl) ?_
      refine rw_nilk ?_
      refine awp_ite (b := (x105.Rule == (2 : Int))) rfl (fun p161 => ?_) (fun p161 => ?_)
      · replace h := ite_T p161 h
        refine awp_rw ?_
        refine ro rfl rfl (st_faP fo58_1 rfl) ?_
        refine ro rfl rfl (st_ldP (v := dI .i64 x105.A) ta3 rfl rfl rfl rfl) ?_
        refine ro rfl rfl (st_mv rfl) ?_
        refine ro rfl rfl (st_bin (v := dI .i64 (IntKind.wrap .i64 (x105.A + a1))) rfl rfl rfl) ?_
        refine ro rfl rfl (st_faP fo58_2 rfl) ?_
        refine ro rfl rfl (st_ldP (v := dI .i64 x105.B) ta3 rfl rfl rfl rfl) ?_
        refine ro rfl rfl (st_mv rfl) ?_
        refine ro rfl rfl (st_bin (v := dI .i64 (IntKind.wrap .i64 (x105.B + a1))) rfl rfl rfl) ?_
        refine ro rfl rfl (st_faP fo58_1 rfl) ?_
        refine rx (L' := [(1004, rw' g102 58 e_S_api_Line s101), (1005, .row 0 58 [[dI .u8 x105.Rule, dI .i64 (IntKind.wrap .i64 (x105.A + a1)), dI .i64 x105.B, dI .i64 x105.Piv, dL 1 (eI .i64) y155]])]) rfl rfl (st_stP ta3 rfl rfl rfl rfl rfl rfl rfl rfl) rfl ?_
        refine ro rfl rfl (st_faP fo58_2 rfl) ?_
        refine rx (L' := [(1004, rw' g102 58 e_S_api_Line s101), (1005, .row 0 58 [[dI .u8 x105.Rule, dI .i64 (IntKind.wrap .i64 (x105.A + a1)), dI .i64 (IntKind.wrap .i64 (x105.B + a1)), dI .i64 x105.Piv, dL 1 (eI .i64) y155]])]) rfl rfl (st_stP ta3 rfl rfl rfl rfl rfl rfl rfl rfl) rfl ?_
        refine rw_nil ?_
        refine nx_then ?_
        exact J159 ((IntKind.wrap .i64 (x105.A + a1)), (IntKind.wrap .i64 (x105.B + a1))) () _ _ h (gh_frz rfl rfl ⟨⟨_, rfl, .keep rfl⟩, ⟨_, rfl, .keep rfl⟩, ⟨_, rfl, .keep rfl⟩, ⟨_, rfl, .keep rfl⟩, ⟨_, rfl, .keep rfl⟩, ⟨_, rfl, .keep rfl⟩, trivial⟩ ⟨⟨_, rfl, objRow _⟩, ⟨_, rfl, objOne ⟨⟨rfl, .keep rfl⟩, ⟨rfl, .keep rfl⟩, ⟨rfl, .keep rfl⟩, ⟨rfl, .keep rfl⟩, ⟨rfl, .keep rfl⟩, trivial⟩⟩, trivial⟩)
      · replace h := ite_F p161 h
        refine awp_skip ?_
        refine nx_then ?_
        exact J159 (x105.A, x105.B) () _ _ h (gh_frz rfl rfl ⟨⟨_, rfl, .keep rfl⟩, ⟨_, rfl, .keep rfl⟩, ⟨_, rfl, .keep rfl⟩, ⟨_, rfl, .keep rfl⟩, ⟨_, rfl, .keep rfl⟩, ⟨_, rfl, .keep rfl⟩, trivial⟩ ⟨⟨_, rfl, objRow _⟩, ⟨_, rfl, objOne ⟨⟨rfl, .keep rfl⟩, ⟨rfl, .keep rfl⟩, ⟨rfl, .keep rfl⟩, ⟨rfl, .keep rfl⟩, ⟨rfl, .keep rfl⟩, trivial⟩⟩, trivial⟩)
  · clear h
    intro s101 g102 h
    refine awp_rs ?_
    refine ro rfl rfl (st_bin (v := dB (decide (((a0.Lines.length : Nat) : Int) < ((a0.Lines.length : Nat) : Int)))) rfl rfl rfl) ?_
    refine rw_nilk ?_
    refine awp_seq ?_
    refine awp_ifF rfl dge ?_
    refine awp_exit ?_
    refine ex_out ?_
    refine ex_out ?_
    refine ex_in ?_
    refine nx_then ?_
    refine awp_rs ?_
    refine ro rfl rfl (st_mv rfl) ?_
    refine ro rfl rfl (st_as rfl) ?_
    refine rw_nilk ?_
    refine awp_ret ?_
    injection h with h
    subst h
    exact own_in (r := 1004) (g := g102) (n := s101.length) (resV_one (resVs_tmp rfl resVs_nil)) rfl rfl

theorem ok_proof_Join {a0 : S_api_Proof} {a1 : S_api_Proof} {a2 : Int} {r : (S_api_Proof × Int)} (h : F_proof_Join a0 a1 a2 = some r) : Fn Try.prog 36 [.agg [dB a0.Cubes, dL 5 e_S_api_Line a0.Lines], .agg [dB a1.Cubes, dL 5 e_S_api_Line a1.Lines], dI .i64 a2] (.tup [.agg [dB r.1.Cubes, dL 5 e_S_api_Line r.1.Lines], dI .i64 r.2]) := by
  unfold F_proof_Join at h
  refine Fn.of_body (N := 116) (rs := [.cell 6 25, .tmp 7]) Try.func36 (c := _) rfl rfl rfl (by kernel_rfl) (Nat.le_of_ble_eq_true rfl) (fun _B => ?_)
  refine awp_rs ?_
  refine rn (r := 1001) rfl rfl (st_box rfl rfl rfl co25 rfl rfl) rfl ?_
  refine rn (r := 1002) rfl rfl (st_box rfl rfl rfl co25 rfl rfl) rfl ?_
  refine rn (r := 1003) rfl rfl (st_alloc zc25 rfl rfl) rfl ?_
  refine ro rfl rfl (st_as rfl) ?_
  refine rw_nilk ?_
  refine awp_seq ?_
  refine awp_jn (fun (s120 : Bool) (g121 : Unit) => [(2, dI .i64 a2), (3, .ptr 1001 0 0 0), (4, .ptr 1002 0 0 0), (6, .ptr 1003 0 0 0), (30, dB s120)]) (fun (s120 : Bool) (g121 : Unit) => [(1001, .row 0 25 [[dB a0.Cubes, dL 5 e_S_api_Line a0.Lines]]), (1002, .row 0 25 [[dB a1.Cubes, dL 5 e_S_api_Line a1.Lines]]), (1003, .row 0 25 [[dB false, .nilS]])]) h ?_ ?_
  · clear h
    intro s120 g121 h
    refine awp_ite (b := s120) rfl (fun p123 => ?_) (fun p123 => ?_)
    · replace h := ite_T p123 h
      refine awp_rs ?_
      refine ro rfl rfl (st_build (vs := [dB false, .nilS]) bl25 rfl rfl) ?_
      refine rx (L' := [(1001, .row 0 25 [[dB a0.Cubes, dL 5 e_S_api_Line a0.Lines]]), (1002, .row 0 25 [[dB a1.Cubes, dL 5 e_S_api_Line a1.Lines]]), (1003, .row 0 25 [[dB false, .nilS]])]) rfl rfl (st_stP ta25 rfl rfl rfl rfl rfl rfl rfl rfl) rfl ?_
      refine ro rfl rfl (st_as rfl) ?_
      refine rw_nilk ?_
      refine awp_ret ?_
      refine rt_then ?_
      injection h with h
      subst h
      exact ret_out (v := .tup [.agg [dB false, .nilS], dI .i64 (2 : Int)]) (resV_many (resVs_cell (v := .agg [dB false, .nilS]) ta25 rfl rfl rfl rfl (resVs_tmp rfl resVs_nil))) (frz_tup ⟨(frz_agg ⟨(.keep rfl), (.nilS _), trivial⟩), (.keep rfl), trivial⟩)
    · replace h := ite_F p123 h
      refine awp_skip ?_
      refine nx_then ?_
      refine awp_rds hmix ?_
      refine do_ rfl rfl (st_faP fo25_1 rfl) rfl rfl rfl ?_
      refine do_ rfl rfl (st_ldP (v := dL 5 e_S_api_Line a0.Lines) ta23 rfl rfl rfl rfl) rfl rfl rfl ?_
      refine do_ rfl rfl (st_lenD rfl un23) rfl rfl rfl ?_
      refine do_ rfl rfl (st_faP fo25_1 rfl) rfl rfl rfl ?_
      refine do_ rfl rfl (st_ldP (v := dL 5 e_S_api_Line a1.Lines) ta23 rfl rfl rfl rfl) rfl rfl rfl ?_
      refine do_ rfl rfl (st_lenD rfl un23) rfl rfl rfl ?_
      refine do_ rfl rfl (st_as rfl) rfl rfl rfl ?_
      refine do_ rfl rfl (st_as rfl) rfl rfl rfl ?_
      refine rd_nil (by kernel_rfl) ?_
      refine awp_rds hmix ?_
      refine do_ rfl rfl (st_faP fo25_1 rfl) rfl rfl rfl ?_
      refine do_ rfl rfl (st_ldP (v := dL 5 e_S_api_Line a0.Lines) ta23 rfl rfl rfl rfl) rfl rfl rfl ?_
      refine do_ rfl rfl (st_mv rfl) rfl rfl rfl ?_
      refine do_ rfl rfl (st_bin (v := dI .i64 (IntKind.wrap .i64 (((a0.Lines.length : Nat) : Int) - (1 : Int)))) rfl rfl rfl) rfl rfl rfl ?_
      obtain ⟨x124, h0124, hx124, h⟩ := getI_some h
      refine do_ rfl rfl (st_ixD sl23 rfl rfl h0124 hx124) rfl rfl rfl ?_
      refine do_ rfl rfl (st_faD fo58_4 rfl) rfl rfl rfl ?_
      refine do_ rfl rfl (st_ldD (v := dL 1 (eI .i64) x124.Lits) ta28 rfl rfl) rfl rfl rfl ?_
      refine do_ rfl rfl (st_faP fo25_1 rfl) rfl rfl rfl ?_
      refine do_ rfl rfl (st_ldP (v := dL 5 e_S_api_Line a1.Lines) ta23 rfl rfl rfl rfl) rfl rfl rfl ?_
      refine do_ rfl rfl (st_mv rfl) rfl rfl rfl ?_
      refine do_ rfl rfl (st_bin (v := dI .i64 (IntKind.wrap .i64 (((a1.Lines.length : Nat) : Int) - (1 : Int)))) rfl rfl rfl) rfl rfl rfl ?_
      obtain ⟨x125, h0125, hx125, h⟩ := getI_some h
      refine do_ rfl rfl (st_ixD sl23 rfl rfl h0125 hx125) rfl rfl rfl ?_
      refine do_ rfl rfl (st_faD fo58_4 rfl) rfl rfl rfl ?_
      refine do_ rfl rfl (st_ldD (v := dL 1 (eI .i64) x125.Lits) ta28 rfl rfl) rfl rfl rfl ?_
      refine do_ rfl rfl (st_as rfl) rfl rfl rfl ?_
      refine do_ rfl rfl (st_as rfl) rfl rfl rfl ?_
      refine rd_nil (by kernel_rfl) ?_
      refine awp_seq ?_
      refine awp_block ?_
      refine awp_jn (fun (s145 : Bool) (g146 : Unit) => [(2, dI .i64 a2), (3, .ptr 1001 0 0 0), (4, .ptr 1002 0 0 0), (6, .ptr 1003 0 0 0), (8, dI .i64 ((a0.Lines.length : Nat) : Int)), (9, dI .i64 ((a1.Lines.length : Nat) : Int)), (10, dL 1 (eI .i64) x124.Lits), (11, dL 1 (eI .i64) x125.Lits), (52, dB s145)]) (fun (s145 : Bool) (g146 : Unit) => [(1001, .row 0 25 [[dB a0.Cubes, dL 5 e_S_api_Line a0.Lines]]), (1002, .row 0 25 [[dB a1.Cubes, dL 5 e_S_api_Line a1.Lines]]), (1003, .row 0 25 [[dB false, .nilS]])]) h ?_ ?_
      · clear h
        intro s145 g146 h
        refine awp_ite (b := s145) rfl (fun p148 => ?_) (fun p148 => ?_)
        · replace h := ite_T p148 h
          refine awp_rs ?_
          refine ro rfl rfl (st_build (vs := [dB false, .nilS]) bl25 rfl rfl) ?_
          refine rx (L' := [(1001, .row 0 25 [[dB a0.Cubes, dL 5 e_S_api_Line a0.Lines]]), (1002, .row 0 25 [[dB a1.Cubes, dL 5 e_S_api_Line a1.Lines]]), (1003, .row 0 25 [[dB false, .nilS]])]) rfl rfl (st_stP ta25 rfl rfl rfl rfl rfl rfl rfl rfl) rfl ?_
          refine ro rfl rfl (st_as rfl) ?_
          refine rw_nilk ?_
          refine awp_ret ?_
          refine rt_block ?_
          refine rt_then ?_
          injection h with h
          subst h
          exact ret_out (v := .tup [.agg [dB false, .nilS], dI .i64 (2 : Int)]) (resV_many (resVs_cell (v := .agg [dB false, .nilS]) ta25 rfl rfl rfl rfl (resVs_tmp rfl resVs_nil))) (frz_tup ⟨(frz_agg ⟨(.keep rfl), (.nilS _), trivial⟩), (.keep rfl), trivial⟩)
        · replace h := ite_F p148 h
          refine awp_rs ?_
          refine ro rfl rfl (st_mv rfl) ?_
          refine ro rfl rfl (st_mv rfl) ?_
          obtain ⟨y149, hy149, h⟩ := bind_some_elim h
          refine rf rfl rfl (ok_slices_Contains_int_int hy149) rfl rfl ?_
          refine ro rfl rfl (st_un (v := dB (!y149)) rfl rfl) ?_
          refine ro rfl rfl (st_as rfl) ?_
          refine rw_nilk ?_
          refine awp_ite (b := (!y149)) rfl (fun p150 => ?_) (fun p150 => ?_)
          · replace h := ite_T p150 h
            refine awp_rs ?_
            refine ro rfl rfl (st_ldP (v := .agg [dB a0.Cubes, dL 5 e_S_api_Line a0.Lines]) ta25 rfl rfl rfl rfl) ?_
            obtain ⟨y151, hy151, h⟩ := bind_some_elim h
            refine ownR (L' := [(1001, .row 0 25 [[dB a0.Cubes, dL 5 e_S_api_Line a0.Lines]]), (1002, .row 0 25 [[dB a1.Cubes, dL 5 e_S_api_Line a1.Lines]]), (1003, .row 0 25 [[dB false, .nilS]]), (1004, rw' 0 58 e_S_api_Line y151)]) 1004 rfl rfl (oo_proof_copied hy151) rfl rfl rfl rfl ?_
            refine ro rfl rfl (st_build (vs := [dB false, .slice 1004 0 0 y151.length]) bl25 rfl rfl) ?_
            refine rx (L' := [(1001, .row 0 25 [[dB a0.Cubes, dL 5 e_S_api_Line a0.Lines]]), (1002, .row 0 25 [[dB a1.Cubes, dL 5 e_S_api_Line a1.Lines]]), (1003, .row 0 25 [[dB false, .slice 1004 0 0 y151.length]]), (1004, rw' 0 58 e_S_api_Line y151)]) rfl rfl (st_stP ta25 rfl rfl rfl rfl rfl rfl rfl rfl) rfl ?_
            refine ro rfl rfl (st_as rfl) ?_
            refine rw_nilk ?_
            refine awp_ret ?_
            refine rt_block ?_
            refine rt_then ?_
            injection h with h
            subst h
            exact ret_out (v := .tup [.agg [dB false, .slice 1004 0 0 y151.length], dI .i64 (0 : Int)]) (resV_many (resVs_cell (v := .agg [dB false, .slice 1004 0 0 y151.length]) ta25 rfl rfl rfl rfl (resVs_tmp rfl resVs_nil))) (frz_tup ⟨(frz_agg ⟨(.keep rfl), (frzT rfl rfl co58 rfl), trivial⟩), (.keep rfl), trivial⟩)
          · replace h := ite_F p150 h
            refine awp_rs ?_
            refine ro rfl rfl (st_mv rfl) ?_
            refine ro rfl rfl (st_mv rfl) ?_
            refine ro rfl rfl (st_un (v := dI .i64 (IntKind.wrap .i64 (0 - a2))) rfl rfl) ?_
            obtain ⟨y152, hy152, h⟩ := bind_some_elim h
            refine rf rfl rfl (ok_slices_Contains_int_int hy152) rfl rfl ?_
            refine ro rfl rfl (st_un (v := dB (!y152)) rfl rfl) ?_
            refine ro rfl rfl (st_as rfl) ?_
            refine rw_nilk ?_
            refine awp_ite (b := (!y152)) rfl (fun p153 => ?_) (fun p153 => ?_)
            · replace h := ite_T p153 h
              refine awp_rs ?_
              refine ro rfl rfl (st_ldP (v := .agg [dB a1.Cubes, dL 5 e_S_api_Line a1.Lines]) ta25 rfl rfl rfl rfl) ?_
              obtain ⟨y154, hy154, h⟩ := bind_some_elim h
              refine ownR (L' := [(1001, .row 0 25 [[dB a0.Cubes, dL 5 e_S_api_Line a0.Lines]]), (1002, .row 0 25 [[dB a1.Cubes, dL 5 e_S_api_Line a1.Lines]]), (1003, .row 0 25 [[dB false, .nilS]]), (1004, rw' 0 58 e_S_api_Line y154)]) 1004 rfl rfl (oo_proof_copied hy154) rfl rfl rfl rfl ?_
              refine ro rfl rfl (st_build (vs := [dB false, .slice 1004 0 0 y154.length]) bl25 rfl rfl) ?_
              refine rx (L' := [(1001, .row 0 25 [[dB a0.Cubes, dL 5 e_S_api_Line a0.Lines]]), (1002, .row 0 25 [[dB a1.Cubes, dL 5 e_S_api_Line a1.Lines]]), (1003, .row 0 25 [[dB false, .slice 1004 0 0 y154.length]]), (1004, rw' 0 58 e_S_api_Line y154)]) rfl rfl (st_stP ta25 rfl rfl rfl rfl rfl rfl rfl rfl) rfl ?_
              refine ro rfl rfl (st_as rfl) ?_
              refine rw_nilk ?_
              refine awp_ret ?_
              refine rt_block ?_
              refine rt_then ?_
              injection h with h
              subst h
              exact ret_out (v := .tup [.agg [dB false, .slice 1004 0 0 y154.length], dI .i64 (0 : Int)]) (resV_many (resVs_cell (v := .agg [dB false, .slice 1004 0 0 y154.length]) ta25 rfl rfl rfl rfl (resVs_tmp rfl resVs_nil))) (frz_tup ⟨(frz_agg ⟨(.keep rfl), (frzT rfl rfl co58 rfl), trivial⟩), (.keep rfl), trivial⟩)
            · replace h := ite_F p153 h
              refine awp_skip ?_
              refine nx_block ?_
              refine nx_then ?_
              refine awp_rs ?_
              refine ro rfl rfl (st_mv rfl) ?_
              refine ro rfl rfl (st_mv rfl) ?_
              refine ro rfl rfl (st_mv rfl) ?_
              obtain ⟨y155, hy155, h⟩ := bind_some_elim h
              refine rf rfl rfl (ok_proof_resolvent hy155) rfl rfl ?_
              refine ro rfl rfl (st_mv rfl) ?_
              refine ro rfl rfl (st_ext rfl rfl) ?_
              refine ro rfl rfl (st_ext rfl rfl) ?_
              refine ro rfl rfl (st_as rfl) ?_
              refine ro rfl rfl (st_as rfl) ?_
              refine rw_nilk ?_
              refine awp_seq ?_
              refine awp_block ?_
              refine awp_rs ?_
              refine ro rfl rfl (st_mv rfl) ?_
              refine ro rfl rfl (st_un (v := dB (!y155.2)) rfl rfl) ?_
              refine ro rfl rfl (st_as rfl) ?_
              refine rw_nilk ?_
              refine awp_ite (b := (!y155.2)) rfl (fun p156 => ?_) (fun p156 => ?_)
              · replace h := ite_T p156 h
                refine awp_rs ?_
                refine ro rfl rfl (st_build (vs := [dB false, .nilS]) bl25 rfl rfl) ?_
                refine rx (L' := [(1001, .row 0 25 [[dB a0.Cubes, dL 5 e_S_api_Line a0.Lines]]), (1002, .row 0 25 [[dB a1.Cubes, dL 5 e_S_api_Line a1.Lines]]), (1003, .row 0 25 [[dB false, .nilS]])]) rfl rfl (st_stP ta25 rfl rfl rfl rfl rfl rfl rfl rfl) rfl ?_
                refine ro rfl rfl (st_as rfl) ?_
                refine rw_nilk ?_
                refine awp_ret ?_
                refine rt_block ?_
                refine rt_then ?_
                injection h with h
                subst h
                exact ret_out (v := .tup [.agg [dB false, .nilS], dI .i64 (8 : Int)]) (resV_many (resVs_cell (v := .agg [dB false, .nilS]) ta25 rfl rfl rfl rfl (resVs_tmp rfl resVs_nil))) (frz_tup ⟨(frz_agg ⟨(.keep rfl), (.nilS _), trivial⟩), (.keep rfl), trivial⟩)
              · replace h := ite_F p156 h
                refine awp_rs ?_
                refine ro rfl rfl (st_mv rfl) ?_
                refine ro rfl rfl (st_mv rfl) ?_
                refine ro rfl rfl (st_bin (v := dI .i64 (IntKind.wrap .i64 (((a0.Lines.length : Nat) : Int) + ((a1.Lines.length : Nat) : Int)))) rfl rfl rfl) ?_
                refine ro rfl rfl (st_bin (v := dI .i64 (IntKind.wrap .i64 ((IntKind.wrap .i64 (((a0.Lines.length : Nat) : Int) + ((a1.Lines.length : Nat) : Int))) + (1 : Int)))) rfl rfl rfl) ?_
                refine ro rfl rfl (st_bin (v := dB (decide ((IntKind.wrap .i64 ((IntKind.wrap .i64 (((a0.Lines.length : Nat) : Int) + ((a1.Lines.length : Nat) : Int))) + (1 : Int))) > (1000000 : Int)))) rfl rfl rfl) ?_
                refine ro rfl rfl (st_as rfl) ?_
                refine rw_nilk ?_
                refine awp_ite (b := (decide ((IntKind.wrap .i64 ((IntKind.wrap .i64 (((a0.Lines.length : Nat) : Int) + ((a1.Lines.length : Nat) : Int))) + (1 : Int))) > (1000000 : Int)))) rfl (fun p157 => ?_) (fun p157 => ?_)
                · replace h := ite_T p157 h
                  refine awp_rs ?_
                  refine ro rfl rfl (st_build (vs := [dB false, .nilS]) bl25 rfl rfl) ?_
                  refine rx (L' := [(1001, .row 0 25 [[dB a0.Cubes, dL 5 e_S_api_Line a0.Lines]]), (1002, .row 0 25 [[dB a1.Cubes, dL 5 e_S_api_Line a1.Lines]]), (1003, .row 0 25 [[dB false, .nilS]])]) rfl rfl (st_stP ta25 rfl rfl rfl rfl rfl rfl rfl rfl) rfl ?_
                  refine ro rfl rfl (st_as rfl) ?_
                  refine rw_nilk ?_
                  refine awp_ret ?_
                  refine rt_block ?_
                  refine rt_then ?_
                  injection h with h
                  subst h
                  exact ret_out (v := .tup [.agg [dB false, .nilS], dI .i64 (3 : Int)]) (resV_many (resVs_cell (v := .agg [dB false, .nilS]) ta25 rfl rfl rfl rfl (resVs_tmp rfl resVs_nil))) (frz_tup ⟨(frz_agg ⟨(.keep rfl), (.nilS _), trivial⟩), (.keep rfl), trivial⟩)
                · replace h := ite_F p157 h
                  refine awp_skip ?_
                  refine nx_block ?_
                  refine nx_then ?_
                  refine awp_rds hmix ?_
                  refine do_ rfl rfl (st_ldP (v := .agg [dB a0.Cubes, dL 5 e_S_api_Line a0.Lines]) ta25 rfl rfl rfl rfl) rfl rfl rfl ?_
                  obtain ⟨y158, hy158, h⟩ := bind_some_elim h
                  refine ownD (L' := [(1001, .row 0 25 [[dB a0.Cubes, dL 5 e_S_api_Line a0.Lines]]), (1002, .row 0 25 [[dB a1.Cubes, dL 5 e_S_api_Line a1.Lines]]), (1003, .row 0 25 [[dB false, .nilS]]), (1004, rw' 0 58 e_S_api_Line y158)]) 1004 rfl rfl (oo_proof_copied hy158) rfl rfl rfl rfl ?_
                  refine do_ rfl rfl (st_ldP (v := .agg [dB a1.Cubes, dL 5 e_S_api_Line a1.Lines]) ta25 rfl rfl rfl rfl) rfl rfl rfl ?_
                  refine do_ rfl rfl (st_mv rfl) rfl rfl rfl ?_
                  obtain ⟨y159, hy159, h⟩ := bind_some_elim h
                  refine ownD (L' := [(1001, .row 0 25 [[dB a0.Cubes, dL 5 e_S_api_Line a0.Lines]]), (1002, .row 0 25 [[dB a1.Cubes, dL 5 e_S_api_Line a1.Lines]]), (1003, .row 0 25 [[dB false, .nilS]]), (1004, rw' 0 58 e_S_api_Line y158), (1005, rw' 0 58 e_S_api_Line y159)]) 1005 rfl rfl (oo_proof_copied hy159) rfl rfl rfl rfl ?_
                  obtain ⟨c160, h⟩ := capN_some h
                  refine dn (r := 0) (L' := [(1001, .row 0 25 [[dB a0.Cubes, dL 5 e_S_api_Line a0.Lines]]), (1002, .row 0 25 [[dB a1.Cubes, dL 5 e_S_api_Line a1.Lines]]), (1003, .row 0 25 [[dB false, .nilS]]), (1004, rw' 2 58 e_S_api_Line (y158 ++ y159)), (1005, rw' 0 58 e_S_api_Line y159)]) rfl rfl (st_appR (f := e_S_api_Line) (xs := y158) (ys := y159) sl23 zc58 rfl rfl rfl rfl rfl (news_row rfl rfl) c160) rfl rfl rfl rfl ?_
                  refine do_ rfl rfl (st_as rfl) rfl rfl rfl ?_
                  refine rd_nil (by kernel_rfl) ?_
                  refine awp_rs ?_
                  refine ro rfl rfl (st_mv rfl) ?_
                  refine ro rfl rfl (st_mv rfl) ?_
                  refine ro rfl rfl (st_bin (v := dI .i64 (IntKind.wrap .i64 (((a0.Lines.length : Nat) : Int) - (1 : Int)))) rfl rfl rfl) ?_
                  refine ro rfl rfl (st_mv rfl) ?_
                  refine ro rfl rfl (st_mv rfl) ?_
                  refine ro rfl rfl (st_bin (v := dI .i64 (IntKind.wrap .i64 (((a0.Lines.length : Nat) : Int) + ((a1.Lines.length : Nat) : Int)))) rfl rfl rfl) ?_
                  refine ro rfl rfl (st_bin (v := dI .i64 (IntKind.wrap .i64 ((IntKind.wrap .i64 (((a0.Lines.length : Nat) : Int) + ((a1.Lines.length : Nat) : Int))) - (1 : Int)))) rfl rfl rfl) ?_
                  refine ro rfl rfl (st_mv rfl) ?_
                  refine ro rfl rfl (st_mv rfl) ?_
                  refine ro rfl rfl (st_build (vs := [dI .u8 (2 : Int), dI .i64 (IntKind.wrap .i64 (((a0.Lines.length : Nat) : Int) - (1 : Int))), dI .i64 (IntKind.wrap .i64 ((IntKind.wrap .i64 (((a0.Lines.length : Nat) : Int) + ((a1.Lines.length : Nat) : Int))) - (1 : Int))), dI .i64 a2, dL 1 (eI .i64) y155.1]) bl58 rfl rfl) ?_
                  refine rn (r := 1006) rfl rfl (st_bsl (els := [[dI .u8 (2 : Int), dI .i64 (IntKind.wrap .i64 (((a0.Lines.length : Nat) : Int) - (1 : Int))), dI .i64 (IntKind.wrap .i64 ((IntKind.wrap .i64 (((a0.Lines.length : Nat) : Int) + ((a1.Lines.length : Nat) : Int))) - (1 : Int))), dI .i64 a2, dL 1 (eI .i64) y155.1]]) sl23 zc58 rfl rfl rfl rfl rfl) rfl ?_
                  obtain ⟨c161, h⟩ := capN_some h
                  refine rn (r := 0) (L' := [(1001, .row 0 25 [[dB a0.Cubes, dL 5 e_S_api_Line a0.Lines]]), (1002, .row 0 25 [[dB a1.Cubes, dL 5 e_S_api_Line a1.Lines]]), (1003, .row 0 25 [[dB false, .nilS]]), (1004, rw' 4 58 e_S_api_Line ((y158 ++ y159) ++ [(S_api_Line.mk (2 : Int) (IntKind.wrap .i64 (((a0.Lines.length : Nat) : Int) - (1 : Int))) (IntKind.wrap .i64 ((IntKind.wrap .i64 (((a0.Lines.length : Nat) : Int) + ((a1.Lines.length : Nat) : Int))) - (1 : Int))) a2 y155.1)])), (1005, rw' 0 58 e_S_api_Line y159), (1006, .row 1 58 [[dI .u8 (2 : Int), dI .i64 (IntKind.wrap .i64 (((a0.Lines.length : Nat) : Int) - (1 : Int))), dI .i64 (IntKind.wrap .i64 ((IntKind.wrap .i64 (((a0.Lines.length : Nat) : Int) + ((a1.Lines.length : Nat) : Int))) - (1 : Int))), dI .i64 a2, dL 1 (eI .i64) y155.1]])]) rfl rfl (st_appR (f := e_S_api_Line) (xs := (y158 ++ y159)) (ys := [(S_api_Line.mk (2 : Int) (IntKind.wrap .i64 (((a0.Lines.length : Nat) : Int) - (1 : Int))) (IntKind.wrap .i64 ((IntKind.wrap .i64 (((a0.Lines.length : Nat) : Int) + ((a1.Lines.length : Nat) : Int))) - (1 : Int))) a2 y155.1)]) sl23 zc58 rfl rfl rfl rfl rfl (news_one (a := (S_api_Line.mk (2 : Int) (IntKind.wrap .i64 (((a0.Lines.length : Nat) : Int) - (1 : Int))) (IntKind.wrap .i64 ((IntKind.wrap .i64 (((a0.Lines.length : Nat) : Int) + ((a1.Lines.length : Nat) : Int))) - (1 : Int))) a2 y155.1)) rfl rfl) c161) rfl ?_
                  refine ro rfl rfl (st_build (vs := [dB false, .slice 1004 4 0 (((y158 ++ y159) ++ [(S_api_Line.mk (2 : Int) (IntKind.wrap .i64 (((a0.Lines.length : Nat) : Int) - (1 : Int))) (IntKind.wrap .i64 ((IntKind.wrap .i64 (((a0.Lines.length : Nat) : Int) + ((a1.Lines.length : Nat) : Int))) - (1 : Int))) a2 y155.1)]).length)]) bl25 rfl rfl) ?_
                  refine rx (L' := [(1001, .row 0 25 [[dB a0.Cubes, dL 5 e_S_api_Line a0.Lines]]), (1002, .row 0 25 [[dB a1.Cubes, dL 5 e_S_api_Line a1.Lines]]), (1003, .row 0 25 [[dB false, .slice 1004 4 0 (((y158 ++ y159) ++ [(S_api_Line.mk (2 : Int) (IntKind.wrap .i64 (((a0.Lines.length : Nat) : Int) - (1 : Int))) (IntKind.wrap .i64 ((IntKind.wrap .i64 (((a0.Lines.length : Nat) : Int) + ((a1.Lines.length : Nat) : Int))) - (1 : Int))) a2 y155.1)]).length)]]), (1004, rw' 4 58 e_S_api_Line ((y158 ++ y159) ++ [(S_api_Line.mk (2 : Int) (IntKind.wrap .i64 (((a0.Lines.length : Nat) : Int) - (1 : Int))) (IntKind.wrap .i64 ((IntKind.wrap .i64 (((a0.Lines.length : Nat) : Int) + ((a1.Lines.length : Nat) : Int))) - (1 : Int))) a2 y155.1)])), (1005, rw' 0 58 e_S_api_Line y159), (1006, .row 1 58 [[dI .u8 (2 : Int), dI .i64 (IntKind.wrap .i64 (((a0.Lines.length : Nat) : Int) - (1 : Int))), dI .i64 (IntKind.wrap .i64 ((IntKind.wrap .i64 (((a0.Lines.length : Nat) : Int) + ((a1.Lines.length : Nat) : Int))) - (1 : Int))), dI .i64 a2, dL 1 (eI .i64) y155.1]])]) rfl rfl (st_stP ta25 rfl rfl rfl rfl rfl rfl rfl rfl) rfl ?_
                  refine ro rfl rfl (st_as rfl) ?_
                  refine rw_nilk ?_
                  refine awp_ret ?_
                  injection h with h
                  subst h
                  exact ret_out (v := .tup [.agg [dB false, .slice 1004 4 0 (((y158 ++ y159) ++ [(S_api_Line.mk (2 : Int) (IntKind.wrap .i64 (((a0.Lines.length : Nat) : Int) - (1 : Int))) (IntKind.wrap .i64 ((IntKind.wrap .i64 (((a0.Lines.length : Nat) : Int) + ((a1.Lines.length : Nat) : Int))) - (1 : Int))) a2 y155.1)]).length)], dI .i64 (0 : Int)]) (resV_many (resVs_cell (v := .agg [dB false, .slice 1004 4 0 (((y158 ++ y159) ++ [(S_api_Line.mk (2 : Int) (IntKind.wrap .i64 (((a0.Lines.length : Nat) : Int) - (1 : Int))) (IntKind.wrap .i64 ((IntKind.wrap .i64 (((a0.Lines.length : Nat) : Int) + ((a1.Lines.length : Nat) : Int))) - (1 : Int))) a2 y155.1)]).length)]) ta25 rfl rfl rfl rfl (resVs_tmp rfl resVs_nil))) (frz_tup ⟨(frz_agg ⟨(.keep rfl), (frzT rfl rfl co58 rfl), trivial⟩), (.keep rfl), trivial⟩)
      · clear h
        intro k147 h J147
        refine awp_rw ?_
        refine ro rfl rfl (st_mv rfl) ?_
        obtain ⟨y162, hy162, h⟩ := bind_some_elim h
        refine rf rfl rfl (ok_proof_normal hy162) rfl rfl ?_
        refine ro rfl rfl (st_un (v := dB (!y162)) rfl rfl) ?_
        refine ro rfl rfl (st_mv rfl) ?_
        refine bool_split (!y162) (fun p163 => ?_) (fun p163 => ?_)
        · replace h := ite_T p163 h
          rw [p163]
          refine rz rfl rfl ?_
          refine rz rfl rfl ?_
          refine rz rfl rfl ?_
          refine ro rfl rfl (st_pickT rfl rfl) ?_
          refine ro rfl rfl (st_as rfl) ?_
          refine rw_nil ?_
          refine nx_then ?_
          exact J147 true () _ _ h (gh_frz rfl rfl ⟨⟨_, rfl, .keep rfl⟩, ⟨_, rfl, .keep rfl⟩, ⟨_, rfl, .keep rfl⟩, ⟨_, rfl, .keep rfl⟩, ⟨_, rfl, .keep rfl⟩, ⟨_, rfl, .keep rfl⟩, ⟨_, rfl, .keep rfl⟩, ⟨_, rfl, .keep rfl⟩, ⟨_, rfl, .keep rfl⟩, trivial⟩ ⟨⟨_, rfl, objOne ⟨⟨rfl, .keep rfl⟩, ⟨rfl, .keep rfl⟩, trivial⟩⟩, ⟨_, rfl, objOne ⟨⟨rfl, .keep rfl⟩, ⟨rfl, .keep rfl⟩, trivial⟩⟩, ⟨_, rfl, objOne ⟨⟨rfl, .keep rfl⟩, ⟨rfl, .keep rfl⟩, trivial⟩⟩, trivial⟩)
        · replace h := ite_F p163 h
          rw [p163]
          refine ro rfl rfl (st_mv rfl) ?_
          obtain ⟨y164, hy164, h⟩ := bind_some_elim h
          refine rf rfl rfl (ok_proof_normal hy164) rfl rfl ?_
          refine ro rfl rfl (st_un (v := dB (!y164)) rfl rfl) ?_
          refine ro rfl rfl (st_pickF rfl rfl) ?_
          refine ro rfl rfl (st_as rfl) ?_
          refine rw_nil ?_
          refine nx_then ?_
          exact J147 (!y164) () _ _ h (gh_frz rfl rfl ⟨⟨_, rfl, .keep rfl⟩, ⟨_, rfl, .keep rfl⟩, ⟨_, rfl, .keep rfl⟩, ⟨_, rfl, .keep rfl⟩, ⟨_, rfl, .keep rfl⟩, ⟨_, rfl, .keep rfl⟩, ⟨_, rfl, .keep rfl⟩, ⟨_, rfl, .keep rfl⟩, ⟨_, rfl, .keep rfl⟩, trivial⟩ ⟨⟨_, rfl, objOne ⟨⟨rfl, .keep rfl⟩, ⟨rfl, .keep rfl⟩, trivial⟩⟩, ⟨_, rfl, objOne ⟨⟨rfl, .keep rfl⟩, ⟨rfl, .keep rfl⟩, trivial⟩⟩, ⟨_, rfl, objOne ⟨⟨rfl, .keep rfl⟩, ⟨rfl, .keep rfl⟩, trivial⟩⟩, trivial⟩)
  · clear h
    intro k122 h J122
    refine awp_rw ?_
    refine ro rfl rfl (st_ldP (v := .agg [dB a0.Cubes, dL 5 e_S_api_Line a0.Lines]) ta25 rfl rfl rfl rfl) ?_
    obtain ⟨y165, hy165, h⟩ := bind_some_elim h
    refine rf rfl rfl (ok_proof_ordered hy165) rfl rfl ?_
    refine ro rfl rfl (st_un (v := dB (!y165)) rfl rfl) ?_
    refine ro rfl rfl (st_mv rfl) ?_
    refine bool_split (!y165) (fun p166 => ?_) (fun p166 => ?_)
    · replace h := ite_T p166 h
      rw [p166]
      refine rz rfl rfl ?_
      refine rz rfl rfl ?_
      refine rz rfl rfl ?_
      refine ro rfl rfl (st_pickT rfl rfl) ?_
      refine ro rfl rfl (st_mv rfl) ?_
      refine rz rfl rfl ?_
      refine rz rfl rfl ?_
      refine ro rfl rfl (st_pickT rfl rfl) ?_
      refine ro rfl rfl (st_mv rfl) ?_
      refine rz rfl rfl ?_
      refine rz rfl rfl ?_
      refine ro rfl rfl (st_pickT rfl rfl) ?_
      refine rw_nil ?_
      refine nx_then ?_
      exact J122 true () _ _ h (gh_frz rfl rfl ⟨⟨_, rfl, .keep rfl⟩, ⟨_, rfl, .keep rfl⟩, ⟨_, rfl, .keep rfl⟩, ⟨_, rfl, .keep rfl⟩, ⟨_, rfl, .keep rfl⟩, trivial⟩ ⟨⟨_, rfl, objOne ⟨⟨rfl, .keep rfl⟩, ⟨rfl, .keep rfl⟩, trivial⟩⟩, ⟨_, rfl, objOne ⟨⟨rfl, .keep rfl⟩, ⟨rfl, .keep rfl⟩, trivial⟩⟩, ⟨_, rfl, objOne ⟨⟨rfl, .keep rfl⟩, ⟨rfl, .keep rfl⟩, trivial⟩⟩, trivial⟩)
    · replace h := ite_F p166 h
      rw [p166]
      refine ro rfl rfl (st_ldP (v := .agg [dB a1.Cubes, dL 5 e_S_api_Line a1.Lines]) ta25 rfl rfl rfl rfl) ?_
      obtain ⟨y167, hy167, h⟩ := bind_some_elim h
      refine rf rfl rfl (ok_proof_ordered hy167) rfl rfl ?_
      refine ro rfl rfl (st_un (v := dB (!y167)) rfl rfl) ?_
      refine ro rfl rfl (st_pickF rfl rfl) ?_
      refine ro rfl rfl (st_mv rfl) ?_
      refine bool_split (!y167) (fun p168 => ?_) (fun p168 => ?_)
      · replace h := ite_T p168 h
        rw [p168]
        refine rz rfl rfl ?_
        refine rz rfl rfl ?_
        refine ro rfl rfl (st_pickT rfl rfl) ?_
        refine ro rfl rfl (st_mv rfl) ?_
        refine rz rfl rfl ?_
        refine rz rfl rfl ?_
        refine ro rfl rfl (st_pickT rfl rfl) ?_
        refine rw_nil ?_
        refine nx_then ?_
        exact J122 true () _ _ h (gh_frz rfl rfl ⟨⟨_, rfl, .keep rfl⟩, ⟨_, rfl, .keep rfl⟩, ⟨_, rfl, .keep rfl⟩, ⟨_, rfl, .keep rfl⟩, ⟨_, rfl, .keep rfl⟩, trivial⟩ ⟨⟨_, rfl, objOne ⟨⟨rfl, .keep rfl⟩, ⟨rfl, .keep rfl⟩, trivial⟩⟩, ⟨_, rfl, objOne ⟨⟨rfl, .keep rfl⟩, ⟨rfl, .keep rfl⟩, trivial⟩⟩, ⟨_, rfl, objOne ⟨⟨rfl, .keep rfl⟩, ⟨rfl, .keep rfl⟩, trivial⟩⟩, trivial⟩)
      · replace h := ite_F p168 h
        rw [p168]
        refine ro rfl rfl (st_mv rfl) ?_
        refine ro rfl rfl (st_bin (v := dB (decide (a2 < (1 : Int)))) rfl rfl rfl) ?_
        refine ro rfl rfl (st_pickF rfl rfl) ?_
        refine ro rfl rfl (st_mv rfl) ?_
        refine bool_split (decide (a2 < (1 : Int))) (fun p169 => ?_) (fun p169 => ?_)
        · replace h := ite_T p169 h
          rw [p169]
          refine rz rfl rfl ?_
          refine rz rfl rfl ?_
          refine ro rfl rfl (st_pickT rfl rfl) ?_
          refine rw_nil ?_
          refine nx_then ?_
          exact J122 true () _ _ h (gh_frz rfl rfl ⟨⟨_, rfl, .keep rfl⟩, ⟨_, rfl, .keep rfl⟩, ⟨_, rfl, .keep rfl⟩, ⟨_, rfl, .keep rfl⟩, ⟨_, rfl, .keep rfl⟩, trivial⟩ ⟨⟨_, rfl, objOne ⟨⟨rfl, .keep rfl⟩, ⟨rfl, .keep rfl⟩, trivial⟩⟩, ⟨_, rfl, objOne ⟨⟨rfl, .keep rfl⟩, ⟨rfl, .keep rfl⟩, trivial⟩⟩, ⟨_, rfl, objOne ⟨⟨rfl, .keep rfl⟩, ⟨rfl, .keep rfl⟩, trivial⟩⟩, trivial⟩)
        · replace h := ite_F p169 h
          rw [p169]
          refine ro rfl rfl (st_mv rfl) ?_
          refine ro rfl rfl (st_bin (v := dB (decide (a2 > (65536 : Int)))) rfl rfl rfl) ?_
          refine ro rfl rfl (st_pickF rfl rfl) ?_
          refine rw_nil ?_
          refine nx_then ?_
          exact J122 (decide (a2 > (65536 : Int))) () _ _ h (gh_frz rfl rfl ⟨⟨_, rfl, .keep rfl⟩, ⟨_, rfl, .keep rfl⟩, ⟨_, rfl, .keep rfl⟩, ⟨_, rfl, .keep rfl⟩, ⟨_, rfl, .keep rfl⟩, trivial⟩ ⟨⟨_, rfl, objOne ⟨⟨rfl, .keep rfl⟩, ⟨rfl, .keep rfl⟩, trivial⟩⟩, ⟨_, rfl, objOne ⟨⟨rfl, .keep rfl⟩, ⟨rfl, .keep rfl⟩, trivial⟩⟩, ⟨_, rfl, objOne ⟨⟨rfl, .keep rfl⟩, ⟨rfl, .keep rfl⟩, trivial⟩⟩, trivial⟩)

theorem ok_skolemref09_Has {a0 : (List Int)} {a1 : Int} {r : Bool} (h : F_skolemref09_Has a0 a1 = some r) : Fn Try.prog 30 [dL 1 (eI .i64) a0, dI .i64 a1] (dB r) := by
  unfold F_skolemref09_Has at h
  refine Fn.of_body (N := 18) (rs := [.tmp 4]) Try.func30 (c := _) rfl rfl rfl (by kernel_rfl) (Nat.le_of_ble_eq_true rfl) (fun _B => ?_)
  refine awp_rs ?_
  refine ro rfl rfl (st_as rfl) ?_
  refine rw_nilk ?_
  refine awp_seq ?_
  refine awp_rs ?_
  refine ro rfl rfl (st_as rfl) ?_
  refine rw_nilk ?_
  refine awp_block ?_
  refine awp_len (t := 0) rfl (fun hl104 => ?_)
  rw [List.length_map] at hl104
  refine awp_range (fun (j104 : Nat) (s101 : Unit) (g102 : Unit) => [(0, dL 1 (eI .i64) a0), (1, dI .i64 a1), (5, dI .i64 ((j104 : Nat) : Int))]) (fun (s101 : Unit) (g102 : Unit) => []) () (fun _ _ _ h => h) h (gh_frz rfl rfl ⟨⟨_, rfl, .keep rfl⟩, ⟨_, rfl, .keep rfl⟩, ⟨_, rfl, .keep rfl⟩, trivial⟩ trivial) ?_ ?_
  · clear h
    intro j104 x105 s101 g102 k103 hj104 hx104 h ih103
    refine awp_seq ?_
    refine awp_rs ?_
    refine ro rfl rfl (st_mv rfl) ?_
    refine ro rfl rfl (st_mv rfl) ?_
    refine ro rfl rfl (st_lenD rfl un28) ?_
    refine ro rfl rfl (st_bin (v := dB (decide (((j104 : Nat) : Int) < ((a0.length : Nat) : Int)))) rfl rfl rfl) ?_
    refine rw_nilk ?_
    refine awp_ifT rfl (dlt hj104) ?_
    refine awp_skip ?_
    refine nx_then ?_
    refine awp_seq ?_
    refine awp_block ?_
    refine awp_rs ?_
    refine ro rfl rfl (st_mv rfl) ?_
    refine ro rfl rfl (st_mv rfl) ?_
    refine ro rfl rfl (st_ixDn sl28 rfl rfl hx104) ?_
    refine ro rfl rfl (st_ldD (v := dI .i64 x105) ta3 rfl rfl) ?_
    refine ro rfl rfl (st_mv rfl) ?_
    refine ro rfl rfl (st_bin (v := dB (x105 == a1)) rfl rfl rfl) ?_
    refine rw_nilk ?_
    refine awp_ite (b := (x105 == a1)) rfl (fun p107 => ?_) (fun p107 => ?_)
    · replace h := ite_T p107 h
      refine awp_rs ?_
      refine ro rfl rfl (st_as rfl) ?_
      refine rw_nilk ?_
      refine awp_ret ?_
      refine rt_block ?_
      refine rt_then ?_
      refine rt_then ?_
      refine rt_block ?_
      refine rt_then ?_
      injection h with h
      subst h
      exact ret_out (v := dB true) (resV_one (resVs_tmp rfl resVs_nil)) (.keep rfl)
    · replace h := ite_F p107 h
      refine awp_skip ?_
      refine nx_block ?_
      refine nx_then ?_
      refine awp_rw ?_
      refine ro rfl rfl (st_mv rfl) ?_
      refine ro rfl rfl (st_inc rfl rfl hj104 hl104) ?_
      refine ro rfl rfl (st_as rfl) ?_
      refine rw_nil ?_
      refine nx_then ?_
      refine awp_gh ?_ (ih103 () () h)
      exact (gh_frz rfl rfl ⟨⟨_, rfl, .keep rfl⟩, ⟨_, rfl, .keep rfl⟩, ⟨_, rfl, .keep rfl⟩, trivial⟩ trivial)
  · clear h
    intro s101 g102 h
    refine awp_seq ?_
    refine awp_rs ?_
    refine ro rfl rfl (st_mv rfl) ?_
    refine ro rfl rfl (st_mv rfl) ?_
    refine ro rfl rfl (st_lenD rfl un28) ?_
    refine ro rfl rfl (st_bin (v := dB (decide (((a0.length : Nat) : Int) < ((a0.length : Nat) : Int)))) rfl rfl rfl) ?_
    refine rw_nilk ?_
    refine awp_ifF rfl dge ?_
    refine awp_exit ?_
    refine ex_out ?_
    refine ex_out ?_
    refine ex_in ?_
    refine nx_then ?_
    refine awp_rs ?_
    refine ro rfl rfl (st_as rfl) ?_
    refine rw_nilk ?_
    refine awp_ret ?_
    injection h with h
    subst h
    exact ret_out (v := dB false) (resV_one (resVs_tmp rfl resVs_nil)) (.keep rfl)

theorem ok_skolemref09_Abs {a0 : Int} {r : Int} (h : F_skolemref09_Abs a0 = some r) : Fn Try.prog 65 [dI .i64 a0] (dI .i64 r) := by
  unfold F_skolemref09_Abs at h
  refine Fn.of_body (N := 8) (rs := [.tmp 2]) Try.func65 (c := _) rfl rfl rfl (by kernel_rfl) (Nat.le_of_ble_eq_true rfl) (fun _B => ?_)
  refine awp_rs ?_
  refine ro rfl rfl (st_as rfl) ?_
  refine rw_nilk ?_
  refine awp_seq ?_
  refine awp_rs ?_
  refine ro rfl rfl (st_mv rfl) ?_
  refine ro rfl rfl (st_bin (v := dB (decide (a0 < (0 : Int)))) rfl rfl rfl) ?_
  refine rw_nilk ?_
  refine awp_ite (b := (decide (a0 < (0 : Int)))) rfl (fun p101 => ?_) (fun p101 => ?_)
  · replace h := ite_T p101 h
    refine awp_rs ?_
    refine ro rfl rfl (st_mv rfl) ?_
    refine ro rfl rfl (st_un (v := dI .i64 (IntKind.wrap .i64 (0 - a0))) rfl rfl) ?_
    refine ro rfl rfl (st_as rfl) ?_
    refine rw_nilk ?_
    refine awp_ret ?_
    refine rt_then ?_
    injection h with h
    subst h
    exact ret_out (v := dI .i64 (IntKind.wrap .i64 (0 - a0))) (resV_one (resVs_tmp rfl resVs_nil)) (.keep rfl)
  · replace h := ite_F p101 h
    refine awp_skip ?_
    refine nx_then ?_
    refine awp_rs ?_
    refine ro rfl rfl (st_mv rfl) ?_
    refine ro rfl rfl (st_as rfl) ?_
    refine rw_nilk ?_
    refine awp_ret ?_
    injection h with h
    subst h
    exact ret_out (v := dI .i64 a0) (resV_one (resVs_tmp rfl resVs_nil)) (.keep rfl)

theorem ok_skolemref09_Normal {a0 : (List Int)} {r : Bool} (h : F_skolemref09_Normal a0 = some r) : Fn Try.prog 33 [dL 1 (eI .i64) a0] (dB r) := by
  unfold F_skolemref09_Normal at h
  refine Fn.of_body (N := 47) (rs := [.tmp 2]) Try.func33 (c := _) rfl rfl rfl (by kernel_rfl) (Nat.le_of_ble_eq_true rfl) (fun _B => ?_)
  refine awp_rs ?_
  refine ro rfl rfl (st_as rfl) ?_
  refine rw_nilk ?_
  refine awp_seq ?_
  refine awp_rs ?_
  refine ro rfl rfl (st_as rfl) ?_
  refine rw_nilk ?_
  refine awp_block ?_
  refine awp_len (t := 0) rfl (fun hl104 => ?_)
  rw [List.length_map] at hl104
  refine awp_range (fun (j104 : Nat) (s101 : Unit) (g102 : Unit) => [(0, dL 1 (eI .i64) a0), (3, dI .i64 ((j104 : Nat) : Int))]) (fun (s101 : Unit) (g102 : Unit) => []) () (fun _ _ _ h => h) h (gh_frz rfl rfl ⟨⟨_, rfl, .keep rfl⟩, ⟨_, rfl, .keep rfl⟩, trivial⟩ trivial) ?_ ?_
  · clear h
    intro j104 x105 s101 g102 k103 hj104 hx104 h ih103
    refine awp_seq ?_
    refine awp_rs ?_
    refine ro rfl rfl (st_mv rfl) ?_
    refine ro rfl rfl (st_mv rfl) ?_
    refine ro rfl rfl (st_lenD rfl un28) ?_
    refine ro rfl rfl (st_bin (v := dB (decide (((j104 : Nat) : Int) < ((a0.length : Nat) : Int)))) rfl rfl rfl) ?_
    refine rw_nilk ?_
    refine awp_ifT rfl (dlt hj104) ?_
    refine awp_skip ?_
    refine nx_then ?_
    refine awp_seq ?_
    refine awp_block ?_
    refine awp_jn (fun (s167 : Bool) (g168 : Unit) => [(0, dL 1 (eI .i64) a0), (3, dI .i64 ((j104 : Nat) : Int)), (46, dB s167)]) (fun (s167 : Bool) (g168 : Unit) => []) h ?_ ?_
    · clear h
      intro s167 g168 h
      refine awp_ite (b := s167) rfl (fun p170 => ?_) (fun p170 => ?_)
      · replace h := ite_T p170 h
        refine awp_rs ?_
        refine ro rfl rfl (st_as rfl) ?_
        refine rw_nilk ?_
        refine awp_ret ?_
        refine rt_block ?_
        refine rt_then ?_
        refine rt_then ?_
        refine rt_block ?_
        refine rt_then ?_
        injection h with h
        subst h
        exact ret_out (v := dB false) (resV_one (resVs_tmp rfl resVs_nil)) (.keep rfl)
      · replace h := ite_F p170 h
        refine awp_skip ?_
        refine nx_block ?_
        refine nx_then ?_
        refine awp_rw ?_
        refine ro rfl rfl (st_mv rfl) ?_
        refine ro rfl rfl (st_inc rfl rfl hj104 hl104) ?_
        refine ro rfl rfl (st_as rfl) ?_
        refine rw_nil ?_
        refine nx_then ?_
        refine awp_gh ?_ (ih103 () () h)
        exact (gh_frz rfl rfl ⟨⟨_, rfl, .keep rfl⟩, ⟨_, rfl, .keep rfl⟩, trivial⟩ trivial)
    · clear h
      intro k169 h J169
      refine awp_rd hmix ?_
      refine do_ rfl rfl (st_mv rfl) rfl rfl rfl ?_
      refine do_ rfl rfl (st_mv rfl) rfl rfl rfl ?_
      refine do_ rfl rfl (st_ixDn sl28 rfl rfl hx104) rfl rfl rfl ?_
      refine do_ rfl rfl (st_ldD (v := dI .i64 x105) ta3 rfl rfl) rfl rfl rfl ?_
      refine do_ rfl rfl (st_bin (v := dB (decide (x105 < (-65536 : Int)))) rfl rfl rfl) rfl rfl rfl ?_
      refine do_ rfl rfl (st_mv rfl) rfl rfl rfl ?_
      refine bool_split (decide (x105 < (-65536 : Int))) (fun p171 => ?_) (fun p171 => ?_)
      · replace h := ite_T p171 h
        rw [p171]
        refine dz rfl rfl ?_
        refine dz rfl rfl ?_
        refine dz rfl rfl ?_
        refine dz rfl rfl ?_
        refine dz rfl rfl ?_
        refine do_ rfl rfl (st_pickT rfl rfl) rfl rfl rfl ?_
        refine do_ rfl rfl (st_mv rfl) rfl rfl rfl ?_
        refine dz rfl rfl ?_
        refine dz rfl rfl ?_
        refine dz rfl rfl ?_
        refine dz rfl rfl ?_
        refine dz rfl rfl ?_
        refine do_ rfl rfl (st_pickT rfl rfl) rfl rfl rfl ?_
        refine do_ rfl rfl (st_mv rfl) rfl rfl rfl ?_
        refine dz rfl rfl ?_
        refine dz rfl rfl ?_
        refine dz rfl rfl ?_
        refine dz rfl rfl ?_
        refine dz rfl rfl ?_
        refine dz rfl rfl ?_
        refine dz rfl rfl ?_
        refine dz rfl rfl ?_
        refine dz rfl rfl ?_
        refine dz rfl rfl ?_
        refine dz rfl rfl ?_
        refine dz rfl rfl ?_
        refine dz rfl rfl ?_
        refine dz rfl rfl ?_
        refine dz rfl rfl ?_
        refine dz rfl rfl ?_
        refine do_ rfl rfl (st_pickT rfl rfl) rfl rfl rfl ?_
        refine rd_nil (by kernel_rfl) ?_
        refine nx_then ?_
        exact J169 true () _ _ h (gh_frz rfl rfl ⟨⟨_, rfl, .keep rfl⟩, ⟨_, rfl, .keep rfl⟩, ⟨_, rfl, .keep rfl⟩, trivial⟩ trivial)
      · replace h := ite_F p171 h
        rw [p171]
        refine do_ rfl rfl (st_mv rfl) rfl rfl rfl ?_
        refine do_ rfl rfl (st_mv rfl) rfl rfl rfl ?_
        refine do_ rfl rfl (st_ixDn sl28 rfl rfl hx104) rfl rfl rfl ?_
        refine do_ rfl rfl (st_ldD (v := dI .i64 x105) ta3 rfl rfl) rfl rfl rfl ?_
        refine do_ rfl rfl (st_bin (v := dB (decide (x105 > (65536 : Int)))) rfl rfl rfl) rfl rfl rfl ?_
        refine do_ rfl rfl (st_pickF rfl rfl) rfl rfl rfl ?_
        refine do_ rfl rfl (st_mv rfl) rfl rfl rfl ?_
        refine bool_split (decide (x105 > (65536 : Int))) (fun p172 => ?_) (fun p172 => ?_)
        · replace h := ite_T p172 h
          rw [p172]
          refine dz rfl rfl ?_
          refine dz rfl rfl ?_
          refine dz rfl rfl ?_
          refine dz rfl rfl ?_
          refine dz rfl rfl ?_
          refine do_ rfl rfl (st_pickT rfl rfl) rfl rfl rfl ?_
          refine do_ rfl rfl (st_mv rfl) rfl rfl rfl ?_
          refine dz rfl rfl ?_
          refine dz rfl rfl ?_
          refine dz rfl rfl ?_
          refine dz rfl rfl ?_
          refine dz rfl rfl ?_
          refine dz rfl rfl ?_
          refine dz rfl rfl ?_
          refine dz rfl rfl ?_
          refine dz rfl rfl ?_
          refine dz rfl rfl ?_
          refine dz rfl rfl ?_
          refine dz rfl rfl ?_
          refine dz rfl rfl ?_
          refine dz rfl rfl ?_
          refine dz rfl rfl ?_
          refine dz rfl rfl ?_
          refine do_ rfl rfl (st_pickT rfl rfl) rfl rfl rfl ?_
          refine rd_nil (by kernel_rfl) ?_
          refine nx_then ?_
          exact J169 true () _ _ h (gh_frz rfl rfl ⟨⟨_, rfl, .keep rfl⟩, ⟨_, rfl, .keep rfl⟩, ⟨_, rfl, .keep rfl⟩, trivial⟩ trivial)
        · replace h := ite_F p172 h
          rw [p172]
          refine do_ rfl rfl (st_mv rfl) rfl rfl rfl ?_
          refine do_ rfl rfl (st_mv rfl) rfl rfl rfl ?_
          refine do_ rfl rfl (st_ixDn sl28 rfl rfl hx104) rfl rfl rfl ?_
          refine do_ rfl rfl (st_ldD (v := dI .i64 x105) ta3 rfl rfl) rfl rfl rfl ?_
          refine do_ rfl rfl (st_bin (v := dB (x105 == (0 : Int))) rfl rfl rfl) rfl rfl rfl ?_
          refine do_ rfl rfl (st_pickF rfl rfl) rfl rfl rfl ?_
          refine do_ rfl rfl (st_mv rfl) rfl rfl rfl ?_
          refine bool_split (x105 == (0 : Int)) (fun p173 => ?_) (fun p173 => ?_)
          · replace h := ite_T p173 h
            rw [p173]
            refine dz rfl rfl ?_
            refine dz rfl rfl ?_
            refine dz rfl rfl ?_
            refine dz rfl rfl ?_
            refine dz rfl rfl ?_
            refine dz rfl rfl ?_
            refine dz rfl rfl ?_
            refine dz rfl rfl ?_
            refine dz rfl rfl ?_
            refine dz rfl rfl ?_
            refine dz rfl rfl ?_
            refine dz rfl rfl ?_
            refine dz rfl rfl ?_
            refine dz rfl rfl ?_
            refine dz rfl rfl ?_
            refine dz rfl rfl ?_
            refine do_ rfl rfl (st_pickT rfl rfl) rfl rfl rfl ?_
            refine rd_nil (by kernel_rfl) ?_
            refine nx_then ?_
            exact J169 true () _ _ h (gh_frz rfl rfl ⟨⟨_, rfl, .keep rfl⟩, ⟨_, rfl, .keep rfl⟩, ⟨_, rfl, .keep rfl⟩, trivial⟩ trivial)
          · replace h := ite_F p173 h
            rw [p173]
            refine do_ rfl rfl (st_mv rfl) rfl rfl rfl ?_
            refine do_ rfl rfl (st_bin (v := dB (decide (((j104 : Nat) : Int) > (0 : Int)))) rfl rfl rfl) rfl rfl rfl ?_
            refine do_ rfl rfl (st_mv rfl) rfl rfl rfl ?_
            refine bool_split (decide (((j104 : Nat) : Int) > (0 : Int))) (fun p174 => ?_) (fun p174 => ?_)
            · replace h := ite_T p174 h
              rw [p174]
              refine do_ rfl rfl (st_mv rfl) rfl rfl rfl ?_
              refine do_ rfl rfl (st_mv rfl) rfl rfl rfl ?_
              refine do_ rfl rfl (st_bin (v := dI .i64 (IntKind.wrap .i64 (((j104 : Nat) : Int) - (1 : Int)))) rfl rfl rfl) rfl rfl rfl ?_
              obtain ⟨x175, h0175, hx175, h⟩ := getI_some h
              refine do_ rfl rfl (st_ixD sl28 rfl rfl h0175 hx175) rfl rfl rfl ?_
              refine do_ rfl rfl (st_ldD (v := dI .i64 x175) ta3 rfl rfl) rfl rfl rfl ?_
              obtain ⟨y176, hy176, h⟩ := bind_some_elim h
              refine df rfl rfl (ok_skolemref09_Abs hy176) rfl rfl ?_
              refine do_ rfl rfl (st_mv rfl) rfl rfl rfl ?_
              refine do_ rfl rfl (st_mv rfl) rfl rfl rfl ?_
              refine do_ rfl rfl (st_ixDn sl28 rfl rfl hx104) rfl rfl rfl ?_
              refine do_ rfl rfl (st_ldD (v := dI .i64 x105) ta3 rfl rfl) rfl rfl rfl ?_
              obtain ⟨y177, hy177, h⟩ := bind_some_elim h
              refine df rfl rfl (ok_skolemref09_Abs hy177) rfl rfl ?_
              refine do_ rfl rfl (st_bin (v := dB (decide (y176 ≥ y177))) rfl rfl rfl) rfl rfl rfl ?_
              refine do_ rfl rfl (st_pickT rfl rfl) rfl rfl rfl ?_
              refine do_ rfl rfl (st_pickF rfl rfl) rfl rfl rfl ?_
              refine rd_nil (by kernel_rfl) ?_
              refine nx_then ?_
              exact J169 (decide (y176 ≥ y177)) () _ _ h (gh_frz rfl rfl ⟨⟨_, rfl, .keep rfl⟩, ⟨_, rfl, .keep rfl⟩, ⟨_, rfl, .keep rfl⟩, trivial⟩ trivial)
            · replace h := ite_F p174 h
              rw [p174]
              refine dz rfl rfl ?_
              refine dz rfl rfl ?_
              refine dz rfl rfl ?_
              refine dz rfl rfl ?_
              refine dz rfl rfl ?_
              refine dz rfl rfl ?_
              refine dz rfl rfl ?_
              refine dz rfl rfl ?_
              refine dz rfl rfl ?_
              refine dz rfl rfl ?_
              refine dz rfl rfl ?_
              refine dz rfl rfl ?_
              refine do_ rfl rfl (st_pickF rfl rfl) rfl rfl rfl ?_
              refine do_ rfl rfl (st_pickF rfl rfl) rfl rfl rfl ?_
              refine rd_nil (by kernel_rfl) ?_
              refine nx_then ?_
              exact J169 false () _ _ h (gh_frz rfl rfl ⟨⟨_, rfl, .keep rfl⟩, ⟨_, rfl, .keep rfl⟩, ⟨_, rfl, .keep rfl⟩, trivial⟩ trivial)
  · clear h
    intro s101 g102 h
    refine awp_seq ?_
    refine awp_rs ?_
    refine ro rfl rfl (st_mv rfl) ?_
    refine ro rfl rfl (st_mv rfl) ?_
    refine ro rfl rfl (st_lenD rfl un28) ?_
    refine ro rfl rfl (st_bin (v := dB (decide (((a0.length : Nat) : Int) < ((a0.length : Nat) : Int)))) rfl rfl rfl) ?_
    refine rw_nilk ?_
    refine awp_ifF rfl dge ?_
    refine awp_exit ?_
    refine ex_out ?_
    refine ex_out ?_
    refine ex_in ?_
    refine nx_then ?_
    refine awp_rs ?_
    refine ro rfl rfl (st_as rfl) ?_
    refine rw_nilk ?_
    refine awp_ret ?_
    injection h with h
    subst h
    exact ret_out (v := dB true) (resV_one (resVs_tmp rfl resVs_nil)) (.keep rfl)

theorem ok_skolemref09_Put {a0 : (List Int)} {a1 : Int} {r : (List Int)} (h : F_skolemref09_Put a0 a1 = some r) : Fn Try.prog 86 [dL 1 (eI .i64) a0, dI .i64 a1] (dL 1 (eI .i64) r) := by
  unfold F_skolemref09_Put at h
  refine Fn.of_body (N := 53) (rs := [.tmp 4]) Try.func86 (c := _) rfl rfl rfl (by kernel_rfl) (Nat.le_of_ble_eq_true rfl) (fun _B => ?_)
  refine awp_rs ?_
  refine ro rfl rfl (st_as rfl) ?_
  refine rw_nilk ?_
  refine awp_rs ?_
  refine ro rfl rfl (st_as rfl) ?_
  refine rw_nilk ?_
  refine awp_rs ?_
  refine ro rfl rfl (st_as rfl) ?_
  refine rw_nilk ?_
  refine awp_seq ?_
  refine awp_rs ?_
  refine ro rfl rfl (st_as rfl) ?_
  refine rw_nilk ?_
  refine awp_block ?_
  refine awp_len (t := 0) rfl (fun hl104 => ?_)
  rw [List.length_map] at hl104
  refine awp_range (fun (j104 : Nat) (s101 : (Bool × (List Int))) (g102 : Nat) => [(0, dL 1 (eI .i64) a0), (1, dI .i64 a1), (5, .slice 1002 g102 0 s101.2.length), (6, dB s101.1), (7, dI .i64 ((j104 : Nat) : Int))]) (fun (s101 : (Bool × (List Int))) (g102 : Nat) => [(1002, rw' g102 3 (eI .i64) s101.2)]) 0 (fun _ _ _ h => h) h (Gh.trans (gh_nil (r := 1002) (E' := [(0, dL 1 (eI .i64) a0), (1, dI .i64 a1), (5, .slice 1002 0 0 (([] : List Int).length)), (6, dB false), (7, dI .i64 (0 : Int))]) (L' := []) rfl co3 rfl rfl ⟨⟨_, rfl, .keep _⟩, ⟨_, rfl, .keep _⟩, ⟨_, rfl, .nil⟩, ⟨_, rfl, .keep _⟩, ⟨_, rfl, .keep _⟩, trivial⟩ trivial) (gh_frz rfl rfl ⟨⟨_, rfl, .keep rfl⟩, ⟨_, rfl, .keep rfl⟩, ⟨_, rfl, .keep rfl⟩, ⟨_, rfl, .keep rfl⟩, ⟨_, rfl, .keep rfl⟩, trivial⟩ ⟨⟨_, rfl, objRow (List.map (eI .i64) ([] : List Int))⟩, trivial⟩)) ?_ ?_
  · clear h
    intro j104 x105 s101 g102 k103 hj104 hx104 h ih103
    refine awp_seq ?_
    refine awp_rs ?_
    refine ro rfl rfl (st_mv rfl) ?_
    refine ro rfl rfl (st_mv rfl) ?_
    refine ro rfl rfl (st_lenD rfl un28) ?_
    refine ro rfl rfl (st_bin (v := dB (decide (((j104 : Nat) : Int) < ((a0.length : Nat) : Int)))) rfl rfl rfl) ?_
    refine rw_nilk ?_
    refine awp_ifT rfl (dlt hj104) ?_
    refine awp_skip ?_
    refine nx_then ?_
    refine awp_seq ?_
    refine awp_block ?_
    refine awp_seq ?_
    refine awp_rs ?_
    refine ro rfl rfl (st_mv rfl) ?_
    refine ro rfl rfl (st_mv rfl) ?_
    refine ro rfl rfl (st_ixDn sl28 rfl rfl hx104) ?_
    refine ro rfl rfl (st_ldD (v := dI .i64 x105) ta3 rfl rfl) ?_
    obtain ⟨y269, hy269, h⟩ := bind_some_elim h
    refine rf rfl rfl (ok_skolemref09_Abs hy269) rfl rfl ?_
    refine ro rfl rfl (st_mv rfl) ?_
    obtain ⟨y270, hy270, h⟩ := bind_some_elim h
    refine rf rfl rfl (ok_skolemref09_Abs hy270) rfl rfl ?_
    refine ro rfl rfl (st_bin (v := dB (y269 == y270)) rfl rfl rfl) ?_
    refine rw_nilk ?_
    refine awp_ite (b := (y269 == y270)) rfl (fun p271 => ?_) (fun p271 => ?_)
    · replace h := ite_T p271 h
      refine awp_rs ?_
      refine ro rfl rfl (st_mv rfl) ?_
      refine ro rfl rfl (st_as rfl) ?_
      refine rw_nilk ?_
      refine awp_ret ?_
      refine rt_then ?_
      refine rt_block ?_
      refine rt_then ?_
      refine rt_then ?_
      refine rt_block ?_
      refine rt_then ?_
      injection h with h
      subst h
      exact ret_out (v := dL 1 (eI .i64) a0) (resV_one (resVs_tmp rfl resVs_nil)) (.keep rfl)
    · replace h := ite_F p271 h
      refine awp_skip ?_
      refine nx_then ?_
      refine awp_jn (fun (s283 : (Bool × (List Int))) (g284 : Nat) => [(0, dL 1 (eI .i64) a0), (1, dI .i64 a1), (5, .slice 1002 g284 0 s283.2.length), (6, dB s283.1), (7, dI .i64 ((j104 : Nat) : Int))]) (fun (s283 : (Bool × (List Int))) (g284 : Nat) => [(1002, rw' g284 3 (eI .i64) s283.2)]) h ?_ ?_
      · clear h
        intro s283 g284 h
        refine awp_rw ?_
        refine ro rfl rfl (st_mv rfl) ?_
        refine ro rfl rfl (st_mv rfl) ?_
        refine ro rfl rfl (st_mv rfl) ?_
        refine ro rfl rfl (st_ixDn sl28 rfl rfl hx104) ?_
        refine ro rfl rfl (st_ldD (v := dI .i64 x105) ta3 rfl rfl) ?_
        refine rn (r := 1004) rfl rfl (st_bsl (els := [[dI .i64 x105]]) sl28 zc3 rfl rfl rfl rfl rfl) rfl ?_
        obtain ⟨c286, h⟩ := capN_some h
        refine rn (r := 0) (L' := [(1002, rw' (g284 + 2) 3 (eI .i64) (s283.2 ++ [x105])), (1004, .row 1 3 [[dI .i64 x105]])]) rfl rfl (st_appR (f := (eI .i64)) (xs := s283.2) (ys := [x105]) sl28 zc3 rfl rfl rfl rfl rfl (news_one (a := x105) rfl rfl) c286) rfl ?_
        refine ro rfl rfl (st_as rfl) ?_
        refine rw_nil ?_
        refine nx_block ?_
        refine nx_then ?_
        refine awp_rw ?_
        refine ro rfl rfl (st_mv rfl) ?_
        refine ro rfl rfl (st_inc rfl rfl hj104 hl104) ?_
        refine ro rfl rfl (st_as rfl) ?_
        refine rw_nil ?_
        refine nx_then ?_
        refine awp_gh ?_ (ih103 (s283.1, (s283.2 ++ [x105])) (g284 + 2) h)
        exact (gh_frz rfl rfl ⟨⟨_, rfl, .keep rfl⟩, ⟨_, rfl, .keep rfl⟩, ⟨_, rfl, .keep rfl⟩, ⟨_, rfl, .keep rfl⟩, ⟨_, rfl, .keep rfl⟩, trivial⟩ ⟨⟨_, rfl, objRow _⟩, trivial⟩)
      · clear h
        intro k285 h J285
        refine awp_jn (fun (s290 : Bool) (g291 : Unit) => [(0, dL 1 (eI .i64) a0), (1, dI .i64 a1), (5, .slice 1002 g102 0 s101.2.length), (6, dB s101.1), (7, dI .i64 ((j104 : Nat) : Int)), (34, dB s290)]) (fun (s290 : Bool) (g291 : Unit) => [(1002, rw' g102 3 (eI .i64) s101.2)]) h ?_ ?_
        · clear h
          intro s290 g291 h
          refine awp_ite (b := s290) rfl (fun p293 => ?_) (fun p293 => ?_)
          · replace h := ite_T p293 h
            refine awp_rs ?_
            refine ro rfl rfl (st_mv rfl) ?_
            refine ro rfl rfl (st_mv rfl) ?_
            refine rn (r := 1003) rfl rfl (st_bsl (els := [[dI .i64 a1]]) sl28 zc3 rfl rfl rfl rfl rfl) rfl ?_
            obtain ⟨c294, h⟩ := capN_some h
            refine rn (r := 0) (L' := [(1002, rw' (g102 + 2) 3 (eI .i64) (s101.2 ++ [a1])), (1003, .row 1 3 [[dI .i64 a1]])]) rfl rfl (st_appR (f := (eI .i64)) (xs := s101.2) (ys := [a1]) sl28 zc3 rfl rfl rfl rfl rfl (news_one (a := a1) rfl rfl) c294) rfl ?_
            refine ro rfl rfl (st_as rfl) ?_
            refine rw_nilk ?_
            refine awp_rw ?_
            refine ro rfl rfl (st_as rfl) ?_
            refine rw_nil ?_
            refine nx_then ?_
            exact J285 (true, (s101.2 ++ [a1])) (g102 + 2) _ _ h (gh_frz rfl rfl ⟨⟨_, rfl, .keep rfl⟩, ⟨_, rfl, .keep rfl⟩, ⟨_, rfl, .keep rfl⟩, ⟨_, rfl, .keep rfl⟩, ⟨_, rfl, .keep rfl⟩, trivial⟩ ⟨⟨_, rfl, objRow _⟩, trivial⟩)
          · replace h := ite_F p293 h
            refine awp_skip ?_
            refine nx_then ?_
            exact J285 (s101.1, s101.2) g102 _ _ h (gh_frz rfl rfl ⟨⟨_, rfl, .keep rfl⟩, ⟨_, rfl, .keep rfl⟩, ⟨_, rfl, .keep rfl⟩, ⟨_, rfl, .keep rfl⟩, ⟨_, rfl, .keep rfl⟩, trivial⟩ ⟨⟨_, rfl, objRow _⟩, trivial⟩)
        · clear h
          intro k292 h J292
          refine awp_rw ?_
          refine ro rfl rfl (st_mv rfl) ?_
          refine ro rfl rfl (st_un (v := dB (!s101.1)) rfl rfl) ?_
          refine ro rfl rfl (st_mv rfl) ?_
          refine bool_split (!s101.1) (fun p295 => ?_) (fun p295 => ?_)
          · replace h := ite_T p295 h
            rw [p295]
            refine ro rfl rfl (st_mv rfl) ?_
            refine ro rfl rfl (st_mv rfl) ?_
            refine ro rfl rfl (st_ixDn sl28 rfl rfl hx104) ?_
            refine ro rfl rfl (st_ldD (v := dI .i64 x105) ta3 rfl rfl) ?_
            obtain ⟨y296, hy296, h⟩ := bind_some_elim h
            refine rf rfl rfl (ok_skolemref09_Abs hy296) rfl rfl ?_
            refine ro rfl rfl (st_mv rfl) ?_
            obtain ⟨y297, hy297, h⟩ := bind_some_elim h
            refine rf rfl rfl (ok_skolemref09_Abs hy297) rfl rfl ?_
            refine ro rfl rfl (st_bin (v := dB (decide (y296 > y297))) rfl rfl rfl) ?_
            refine ro rfl rfl (st_pickT rfl rfl) ?_
            refine rw_nil ?_
            refine nx_then ?_
            exact J292 (decide (y296 > y297)) () _ _ h (gh_frz rfl rfl ⟨⟨_, rfl, .keep rfl⟩, ⟨_, rfl, .keep rfl⟩, ⟨_, rfl, .keep rfl⟩, ⟨_, rfl, .keep rfl⟩, ⟨_, rfl, .keep rfl⟩, ⟨_, rfl, .keep rfl⟩, trivial⟩ ⟨⟨_, rfl, objRow _⟩, trivial⟩)
          · replace h := ite_F p295 h
            rw [p295]
            refine rz rfl rfl ?_
            refine rz rfl rfl ?_
            refine rz rfl rfl ?_
            refine rz rfl rfl ?_
            refine rz rfl rfl ?_
            refine rz rfl rfl ?_
            refine rz rfl rfl ?_
            refine rz rfl rfl ?_
            refine ro rfl rfl (st_pickF rfl rfl) ?_
            refine rw_nil ?_
            refine nx_then ?_
            exact J292 false () _ _ h (gh_frz rfl rfl ⟨⟨_, rfl, .keep rfl⟩, ⟨_, rfl, .keep rfl⟩, ⟨_, rfl, .keep rfl⟩, ⟨_, rfl, .keep rfl⟩, ⟨_, rfl, .keep rfl⟩, ⟨_, rfl, .keep rfl⟩, trivial⟩ ⟨⟨_, rfl, objRow _⟩, trivial⟩)
  · clear h
    intro s101 g102 h
    refine awp_seq ?_
    refine awp_rs ?_
    refine ro rfl rfl (st_mv rfl) ?_
    refine ro rfl rfl (st_mv rfl) ?_
    refine ro rfl rfl (st_lenD rfl un28) ?_
    refine ro rfl rfl (st_bin (v := dB (decide (((a0.length : Nat) : Int) < ((a0.length : Nat) : Int)))) rfl rfl rfl) ?_
    refine rw_nilk ?_
    refine awp_ifF rfl dge ?_
    refine awp_exit ?_
    refine ex_out ?_
    refine ex_out ?_
    refine ex_in ?_
    refine nx_then ?_
    refine awp_seq ?_
    refine awp_rs ?_
    refine ro rfl rfl (st_mv rfl) ?_
    refine ro rfl rfl (st_un (v := dB (!s101.1)) rfl rfl) ?_
    refine rw_nilk ?_
    refine awp_ite (b := (!s101.1)) rfl (fun p300 => ?_) (fun p300 => ?_)
    · replace h := ite_T p300 h
      refine awp_rw ?_
      refine ro rfl rfl (st_mv rfl) ?_
      refine ro rfl rfl (st_mv rfl) ?_
      refine rn (r := 1005) rfl rfl (st_bsl (els := [[dI .i64 a1]]) sl28 zc3 rfl rfl rfl rfl rfl) rfl ?_
      obtain ⟨c301, h⟩ := capN_some h
      refine rn (r := 0) (L' := [(1002, rw' (g102 + 2) 3 (eI .i64) (s101.2 ++ [a1])), (1005, .row 1 3 [[dI .i64 a1]])]) rfl rfl (st_appR (f := (eI .i64)) (xs := s101.2) (ys := [a1]) sl28 zc3 rfl rfl rfl rfl rfl (news_one (a := a1) rfl rfl) c301) rfl ?_
      refine ro rfl rfl (st_as rfl) ?_
      refine rw_nil ?_
      refine nx_then ?_
      refine awp_rs ?_
      refine ro rfl rfl (st_mv rfl) ?_
      refine ro rfl rfl (st_as rfl) ?_
      refine rw_nilk ?_
      refine awp_ret ?_
      injection h with h
      subst h
      exact ret_out (v := .slice 1002 (g102 + 2) 0 ((s101.2 ++ [a1]).length)) (resV_one (resVs_tmp rfl resVs_nil)) (frzT rfl rfl co3 rfl)
    · replace h := ite_F p300 h
      refine awp_skip ?_
      refine nx_then ?_
      refine awp_rs ?_
      refine ro rfl rfl (st_mv rfl) ?_
      refine ro rfl rfl (st_as rfl) ?_
      refine rw_nilk ?_
      refine awp_ret ?_
      injection h with h
      subst h
      exact ret_out (v := .slice 1002 g102 0 s101.2.length) (resV_one (resVs_tmp rfl resVs_nil)) (frzT rfl rfl co3 rfl)

theorem ok_skolemref09_Resolvent {a0 : (List Int)} {a1 : (List Int)} {a2 : Int} {r : ((List Int) × Bool)} (h : F_skolemref09_Resolvent a0 a1 a2 = some r) : Fn Try.prog 63 [dL 1 (eI .i64) a0, dL 1 (eI .i64) a1, dI .i64 a2] (.tup [dL 1 (eI .i64) r.1, dB r.2]) := by
  unfold F_skolemref09_Resolvent at h
  refine Fn.of_body (N := 71) (rs := [.tmp 6, .tmp 7]) Try.func63 (c := _) rfl rfl rfl (by kernel_rfl) (Nat.le_of_ble_eq_true rfl) (fun _B => ?_)
  refine awp_rs ?_
  refine ro rfl rfl (st_as rfl) ?_
  refine ro rfl rfl (st_as rfl) ?_
  refine rw_nilk ?_
  refine awp_seq ?_
  refine awp_jn (fun (s117 : Bool) (g118 : Unit) => [(0, dL 1 (eI .i64) a0), (1, dL 1 (eI .i64) a1), (2, dI .i64 a2), (25, dB s117)]) (fun (s117 : Bool) (g118 : Unit) => []) h ?_ ?_
  · clear h
    intro s117 g118 h
    refine awp_ite (b := s117) rfl (fun p120 => ?_) (fun p120 => ?_)
    · replace h := ite_T p120 h
      refine awp_rs ?_
      refine ro rfl rfl (st_as rfl) ?_
      refine ro rfl rfl (st_as rfl) ?_
      refine rw_nilk ?_
      refine awp_ret ?_
      refine rt_then ?_
      injection h with h
      subst h
      exact ret_out (v := .tup [.nilS, dB false]) (resV_many (resVs_tmp rfl (resVs_tmp rfl resVs_nil))) (frz_tup ⟨(.nilS _), (.keep rfl), trivial⟩)
    · replace h := ite_F p120 h
      refine awp_skip ?_
      refine nx_then ?_
      refine awp_rs ?_
      refine ro rfl rfl (st_as rfl) ?_
      refine rw_nilk ?_
      refine awp_seq ?_
      refine awp_rs ?_
      refine ro rfl rfl (st_as rfl) ?_
      refine rw_nilk ?_
      refine awp_block ?_
      refine awp_len (t := 0) rfl (fun hl124 => ?_)
      rw [List.length_map] at hl124
      refine awp_range (fun (j124 : Nat) (s121 : (List Int)) (g122 : Unit) => [(0, dL 1 (eI .i64) a0), (1, dL 1 (eI .i64) a1), (2, dI .i64 a2), (8, dL 1 (eI .i64) s121), (9, dI .i64 ((j124 : Nat) : Int))]) (fun (s121 : (List Int)) (g122 : Unit) => []) () (fun _ _ _ h => h) h (Gh.trans (gh_frz (E' := [(0, dL 1 (eI .i64) a0), (1, dL 1 (eI .i64) a1), (2, dI .i64 a2), (8, dL 1 (eI .i64) ([] : List Int)), (9, dI .i64 (0 : Int))]) (L' := []) rfl rfl ⟨⟨_, rfl, .keep rfl⟩, ⟨_, rfl, .keep rfl⟩, ⟨_, rfl, .keep rfl⟩, ⟨_, rfl, .nilS _⟩, ⟨_, rfl, .keep rfl⟩, trivial⟩ trivial) (gh_frz rfl rfl ⟨⟨_, rfl, .keep rfl⟩, ⟨_, rfl, .keep rfl⟩, ⟨_, rfl, .keep rfl⟩, ⟨_, rfl, .keep rfl⟩, ⟨_, rfl, .keep rfl⟩, trivial⟩ trivial)) ?_ ?_
      · clear h
        intro j124 x125 s121 g122 k123 hj124 hx124 h ih123
        refine awp_seq ?_
        refine awp_rs ?_
        refine ro rfl rfl (st_mv rfl) ?_
        refine ro rfl rfl (st_mv rfl) ?_
        refine ro rfl rfl (st_lenD rfl un28) ?_
        refine ro rfl rfl (st_bin (v := dB (decide (((j124 : Nat) : Int) < ((a0.length : Nat) : Int)))) rfl rfl rfl) ?_
        refine rw_nilk ?_
        refine awp_ifT rfl (dlt hj124) ?_
        refine awp_skip ?_
        refine nx_then ?_
        refine awp_jn (fun (s163 : (List Int)) (g164 : Unit) => [(0, dL 1 (eI .i64) a0), (1, dL 1 (eI .i64) a1), (2, dI .i64 a2), (8, dL 1 (eI .i64) s163), (9, dI .i64 ((j124 : Nat) : Int))]) (fun (s163 : (List Int)) (g164 : Unit) => []) h ?_ ?_
        · clear h
          intro s163 g164 h
          refine awp_rw ?_
          refine ro rfl rfl (st_mv rfl) ?_
          refine ro rfl rfl (st_inc rfl rfl hj124 hl124) ?_
          refine ro rfl rfl (st_as rfl) ?_
          refine rw_nil ?_
          refine nx_then ?_
          refine awp_gh ?_ (ih123 s163 () h)
          exact (gh_frz rfl rfl ⟨⟨_, rfl, .keep rfl⟩, ⟨_, rfl, .keep rfl⟩, ⟨_, rfl, .keep rfl⟩, ⟨_, rfl, .keep rfl⟩, ⟨_, rfl, .keep rfl⟩, trivial⟩ trivial)
        · clear h
          intro k165 h J165
          refine awp_block ?_
          refine awp_rs ?_
          refine ro rfl rfl (st_mv rfl) ?_
          refine ro rfl rfl (st_mv rfl) ?_
          refine ro rfl rfl (st_ixDn sl28 rfl rfl hx124) ?_
          refine ro rfl rfl (st_ldD (v := dI .i64 x125) ta3 rfl rfl) ?_
          refine ro rfl rfl (st_mv rfl) ?_
          refine ro rfl rfl (st_bin (v := dB (x125 != a2)) rfl rfl rfl) ?_
          refine rw_nilk ?_
          refine awp_ite (b := (x125 != a2)) rfl (fun p166 => ?_) (fun p166 => ?_)
          · replace h := ite_T p166 h
            refine awp_seq ?_
            refine awp_rs ?_
            refine ro rfl rfl (st_mv rfl) ?_
            refine ro rfl rfl (st_mv rfl) ?_
            refine ro rfl rfl (st_mv rfl) ?_
            refine ro rfl rfl (st_ixDn sl28 rfl rfl hx124) ?_
            refine ro rfl rfl (st_ldD (v := dI .i64 x125) ta3 rfl rfl) ?_
            refine ro rfl rfl (st_un (v := dI .i64 (IntKind.wrap .i64 (0 - x125))) rfl rfl) ?_
            obtain ⟨y167, hy167, h⟩ := bind_some_elim h
            refine rf rfl rfl (ok_skolemref09_Has hy167) rfl rfl ?_
            refine rw_nilk ?_
            refine awp_ite (b := y167) rfl (fun p168 => ?_) (fun p168 => ?_)
            · replace h := ite_T p168 h
              refine awp_rs ?_
              refine ro rfl rfl (st_as rfl) ?_
              refine ro rfl rfl (st_as rfl) ?_
              refine rw_nilk ?_
              refine awp_ret ?_
              refine rt_then ?_
              refine rt_block ?_
              refine rt_then ?_
              refine rt_then ?_
              refine rt_block ?_
              refine rt_then ?_
              injection h with h
              subst h
              exact ret_out (v := .tup [.nilS, dB false]) (resV_many (resVs_tmp rfl (resVs_tmp rfl resVs_nil))) (frz_tup ⟨(.nilS _), (.keep rfl), trivial⟩)
            · replace h := ite_F p168 h
              refine awp_skip ?_
              refine nx_then ?_
              refine awp_rw ?_
              refine ro rfl rfl (st_mv rfl) ?_
              refine ro rfl rfl (st_mv rfl) ?_
              refine ro rfl rfl (st_mv rfl) ?_
              refine ro rfl rfl (st_ixDn sl28 rfl rfl hx124) ?_
              refine ro rfl rfl (st_ldD (v := dI .i64 x125) ta3 rfl rfl) ?_
              obtain ⟨y169, hy169, h⟩ := bind_some_elim h
              refine rf rfl rfl (ok_skolemref09_Put hy169) rfl rfl ?_
              refine ro rfl rfl (st_as rfl) ?_
              refine rw_nil ?_
              refine nx_block ?_
              refine nx_then ?_
              exact J165 y169 () _ _ h (gh_frz rfl rfl ⟨⟨_, rfl, .keep rfl⟩, ⟨_, rfl, .keep rfl⟩, ⟨_, rfl, .keep rfl⟩, ⟨_, rfl, .keep rfl⟩, ⟨_, rfl, .keep rfl⟩, trivial⟩ trivial)
          · replace h := ite_F p166 h
            refine awp_skip ?_
            refine nx_block ?_
            refine nx_then ?_
            exact J165 s121 () _ _ h (gh_frz rfl rfl ⟨⟨_, rfl, .keep rfl⟩, ⟨_, rfl, .keep rfl⟩, ⟨_, rfl, .keep rfl⟩, ⟨_, rfl, .keep rfl⟩, ⟨_, rfl, .keep rfl⟩, trivial⟩ trivial)
      · clear h
        intro s121 g122 h
        refine awp_seq ?_
        refine awp_rs ?_
        refine ro rfl rfl (st_mv rfl) ?_
        refine ro rfl rfl (st_mv rfl) ?_
        refine ro rfl rfl (st_lenD rfl un28) ?_
        refine ro rfl rfl (st_bin (v := dB (decide (((a0.length : Nat) : Int) < ((a0.length : Nat) : Int)))) rfl rfl rfl) ?_
        refine rw_nilk ?_
        refine awp_ifF rfl dge ?_
        refine awp_exit ?_
        refine ex_out ?_
        refine ex_out ?_
        refine ex_in ?_
        refine nx_then ?_
        refine awp_seq ?_
        refine awp_rs ?_
        refine ro rfl rfl (st_as rfl) ?_
        refine rw_nilk ?_
        refine awp_block ?_
        refine awp_len (t := 1) rfl (fun hl173 => ?_)
        rw [List.length_map] at hl173
        refine awp_range (fun (j173 : Nat) (s170 : (List Int)) (g171 : Unit) => [(1, dL 1 (eI .i64) a1), (2, dI .i64 a2), (8, dL 1 (eI .i64) s170), (10, dI .i64 ((j173 : Nat) : Int))]) (fun (s170 : (List Int)) (g171 : Unit) => []) () (fun _ _ _ h => h) h (gh_frz rfl rfl ⟨⟨_, rfl, .keep rfl⟩, ⟨_, rfl, .keep rfl⟩, ⟨_, rfl, .keep rfl⟩, ⟨_, rfl, .keep rfl⟩, trivial⟩ trivial) ?_ ?_
        · clear h
          intro j173 x174 s170 g171 k172 hj173 hx173 h ih172
          refine awp_seq ?_
          refine awp_rs ?_
          refine ro rfl rfl (st_mv rfl) ?_
          refine ro rfl rfl (st_mv rfl) ?_
          refine ro rfl rfl (st_lenD rfl un28) ?_
          refine ro rfl rfl (st_bin (v := dB (decide (((j173 : Nat) : Int) < ((a1.length : Nat) : Int)))) rfl rfl rfl) ?_
          refine rw_nilk ?_
          refine awp_ifT rfl (dlt hj173) ?_
          refine awp_skip ?_
          refine nx_then ?_
          refine awp_jn (fun (s191 : (List Int)) (g192 : Unit) => [(1, dL 1 (eI .i64) a1), (2, dI .i64 a2), (8, dL 1 (eI .i64) s191), (10, dI .i64 ((j173 : Nat) : Int))]) (fun (s191 : (List Int)) (g192 : Unit) => []) h ?_ ?_
          · clear h
            intro s191 g192 h
            refine awp_rw ?_
            refine ro rfl rfl (st_mv rfl) ?_
            refine ro rfl rfl (st_inc rfl rfl hj173 hl173) ?_
            refine ro rfl rfl (st_as rfl) ?_
            refine rw_nil ?_
            refine nx_then ?_
            refine awp_gh ?_ (ih172 s191 () h)
            exact (gh_frz rfl rfl ⟨⟨_, rfl, .keep rfl⟩, ⟨_, rfl, .keep rfl⟩, ⟨_, rfl, .keep rfl⟩, ⟨_, rfl, .keep rfl⟩, trivial⟩ trivial)
          · clear h
            intro k193 h J193
            refine awp_block ?_
            refine awp_rs ?_
            refine ro rfl rfl (st_mv rfl) ?_
            refine ro rfl rfl (st_mv rfl) ?_
            refine ro rfl rfl (st_ixDn sl28 rfl rfl hx173) ?_
            refine ro rfl rfl (st_ldD (v := dI .i64 x174) ta3 rfl rfl) ?_
            refine ro rfl rfl (st_mv rfl) ?_
            refine ro rfl rfl (st_un (v := dI .i64 (IntKind.wrap .i64 (0 - a2))) rfl rfl) ?_
            refine ro rfl rfl (st_bin (v := dB (x174 != (IntKind.wrap .i64 (0 - a2)))) rfl rfl rfl) ?_
            refine rw_nilk ?_
            refine awp_ite (b := (x174 != (IntKind.wrap .i64 (0 - a2)))) rfl (fun p194 => ?_) (fun p194 => ?_)
            · replace h := ite_T p194 h
              refine awp_rw ?_
              refine ro rfl rfl (st_mv rfl) ?_
              refine ro rfl rfl (st_mv rfl) ?_
              refine ro rfl rfl (st_mv rfl) ?_
              refine ro rfl rfl (st_ixDn sl28 rfl rfl hx173) ?_
              refine ro rfl rfl (st_ldD (v := dI .i64 x174) ta3 rfl rfl) ?_
              obtain ⟨y195, hy195, h⟩ := bind_some_elim h
              refine rf rfl rfl (ok_skolemref09_Put hy195) rfl rfl ?_
              refine ro rfl rfl (st_as rfl) ?_
              refine rw_nil ?_
              refine nx_block ?_
              refine nx_then ?_
              exact J193 y195 () _ _ h (gh_frz rfl rfl ⟨⟨_, rfl, .keep rfl⟩, ⟨_, rfl, .keep rfl⟩, ⟨_, rfl, .keep rfl⟩, ⟨_, rfl, .keep rfl⟩, trivial⟩ trivial)
            · replace h := ite_F p194 h
              refine awp_skip ?_
              refine nx_block ?_
              refine nx_then ?_
              exact J193 s170 () _ _ h (gh_frz rfl rfl ⟨⟨_, rfl, .keep rfl⟩, ⟨_, rfl, .keep rfl⟩, ⟨_, rfl, .keep rfl⟩, ⟨_, rfl, .keep rfl⟩, trivial⟩ trivial)
        · clear h
          intro s170 g171 h
          refine awp_seq ?_
          refine awp_rs ?_
          refine ro rfl rfl (st_mv rfl) ?_
          refine ro rfl rfl (st_mv rfl) ?_
          refine ro rfl rfl (st_lenD rfl un28) ?_
          refine ro rfl rfl (st_bin (v := dB (decide (((a1.length : Nat) : Int) < ((a1.length : Nat) : Int)))) rfl rfl rfl) ?_
          refine rw_nilk ?_
          refine awp_ifF rfl dge ?_
          refine awp_exit ?_
          refine ex_out ?_
          refine ex_out ?_
          refine ex_in ?_
          refine nx_then ?_
          refine awp_rs ?_
          refine ro rfl rfl (st_mv rfl) ?_
          refine ro rfl rfl (st_as rfl) ?_
          refine ro rfl rfl (st_as rfl) ?_
          refine rw_nilk ?_
          refine awp_ret ?_
          injection h with h
          subst h
          exact ret_out (v := .tup [dL 1 (eI .i64) s170, dB true]) (resV_many (resVs_tmp rfl (resVs_tmp rfl resVs_nil))) (.keep rfl)
  · clear h
    intro k119 h J119
    refine awp_rw ?_
    refine ro rfl rfl (st_mv rfl) ?_
    refine ro rfl rfl (st_bin (v := dB (decide (a2 < (1 : Int)))) rfl rfl rfl) ?_
    refine ro rfl rfl (st_mv rfl) ?_
    refine bool_split (decide (a2 < (1 : Int))) (fun p196 => ?_) (fun p196 => ?_)
    · replace h := ite_T p196 h
      rw [p196]
      refine rz rfl rfl ?_
      refine rz rfl rfl ?_
      refine rz rfl rfl ?_
      refine rz rfl rfl ?_
      refine ro rfl rfl (st_pickT rfl rfl) ?_
      refine ro rfl rfl (st_mv rfl) ?_
      refine rz rfl rfl ?_
      refine rz rfl rfl ?_
      refine rz rfl rfl ?_
      refine rz rfl rfl ?_
      refine rz rfl rfl ?_
      refine ro rfl rfl (st_pickT rfl rfl) ?_
      refine rw_nil ?_
      refine nx_then ?_
      exact J119 true () _ _ h (gh_frz rfl rfl ⟨⟨_, rfl, .keep rfl⟩, ⟨_, rfl, .keep rfl⟩, ⟨_, rfl, .keep rfl⟩, ⟨_, rfl, .keep rfl⟩, trivial⟩ trivial)
    · replace h := ite_F p196 h
      rw [p196]
      refine ro rfl rfl (st_mv rfl) ?_
      refine ro rfl rfl (st_mv rfl) ?_
      obtain ⟨y197, hy197, h⟩ := bind_some_elim h
      refine rf rfl rfl (ok_skolemref09_Has hy197) rfl rfl ?_
      refine ro rfl rfl (st_un (v := dB (!y197)) rfl rfl) ?_
      refine ro rfl rfl (st_pickF rfl rfl) ?_
      refine ro rfl rfl (st_mv rfl) ?_
      refine bool_split (!y197) (fun p198 => ?_) (fun p198 => ?_)
      · replace h := ite_T p198 h
        rw [p198]
        refine rz rfl rfl ?_
        refine rz rfl rfl ?_
        refine rz rfl rfl ?_
        refine rz rfl rfl ?_
        refine rz rfl rfl ?_
        refine ro rfl rfl (st_pickT rfl rfl) ?_
        refine rw_nil ?_
        refine nx_then ?_
        exact J119 true () _ _ h (gh_frz rfl rfl ⟨⟨_, rfl, .keep rfl⟩, ⟨_, rfl, .keep rfl⟩, ⟨_, rfl, .keep rfl⟩, ⟨_, rfl, .keep rfl⟩, trivial⟩ trivial)
      · replace h := ite_F p198 h
        rw [p198]
        refine ro rfl rfl (st_mv rfl) ?_
        refine ro rfl rfl (st_mv rfl) ?_
        refine ro rfl rfl (st_un (v := dI .i64 (IntKind.wrap .i64 (0 - a2))) rfl rfl) ?_
        obtain ⟨y199, hy199, h⟩ := bind_some_elim h
        refine rf rfl rfl (ok_skolemref09_Has hy199) rfl rfl ?_
        refine ro rfl rfl (st_un (v := dB (!y199)) rfl rfl) ?_
        refine ro rfl rfl (st_pickF rfl rfl) ?_
        refine rw_nil ?_
        refine nx_then ?_
        exact J119 (!y199) () _ _ h (gh_frz rfl rfl ⟨⟨_, rfl, .keep rfl⟩, ⟨_, rfl, .keep rfl⟩, ⟨_, rfl, .keep rfl⟩, ⟨_, rfl, .keep rfl⟩, trivial⟩ trivial)

theorem ok_skolemref10_Ordered {a0 : S_api_Proof} {r : Bool} (h : F_skolemref10_Ordered a0 = some r) : Fn Try.prog 71 [.agg [dB a0.Cubes, dL 5 e_S_api_Line a0.Lines]] (dB r) := by
  unfold F_skolemref10_Ordered at h
  refine Fn.of_body (N := 62) (rs := [.tmp 2]) Try.func71 (c := _) rfl rfl rfl (by kernel_rfl) (Nat.le_of_ble_eq_true rfl) (fun _B => ?_)
  refine awp_rs ?_
  refine rn (r := 1001) rfl rfl (st_box rfl rfl rfl co25 rfl rfl) rfl ?_
  refine ro rfl rfl (st_as rfl) ?_
  refine rw_nilk ?_
  refine awp_rs ?_
  refine ro rfl rfl (st_faP fo25_1 rfl) ?_
  refine ro rfl rfl (st_ldP (v := dL 5 e_S_api_Line a0.Lines) ta23 rfl rfl rfl rfl) ?_
  refine ro rfl rfl (st_lenD rfl un23) ?_
  refine ro rfl rfl (st_as rfl) ?_
  refine rw_nilk ?_
  refine awp_seq ?_
  refine awp_jn (fun (s111 : (Bool × Bool)) (g112 : Unit) => [(1, .ptr 1001 0 0 0), (3, dI .i64 ((a0.Lines.length : Nat) : Int)), (18, dB s111.1)]) (fun (s111 : (Bool × Bool)) (g112 : Unit) => [(1001, .row 0 25 [[dB s111.2, dL 5 e_S_api_Line a0.Lines]])]) h ?_ ?_
  · clear h
    intro s111 g112 h
    refine awp_ite (b := s111.1) rfl (fun p114 => ?_) (fun p114 => ?_)
    · replace h := ite_T p114 h
      refine awp_rs ?_
      refine ro rfl rfl (st_as rfl) ?_
      refine rw_nilk ?_
      refine awp_ret ?_
      refine rt_then ?_
      injection h with h
      subst h
      exact ret_out (v := dB false) (resV_one (resVs_tmp rfl resVs_nil)) (.keep rfl)
    · replace h := ite_F p114 h
      refine awp_skip ?_
      refine nx_then ?_
      refine awp_seq ?_
      refine awp_rs ?_
      refine ro rfl rfl (st_as rfl) ?_
      refine rw_nilk ?_
      refine awp_block ?_
      refine awp_lenC (r := 1001) (i := 1) rfl rfl (fun hl118 => ?_)
      rw [List.length_map] at hl118
      refine awp_range (fun (j118 : Nat) (s115 : Unit) (g116 : Unit) => [(1, .ptr 1001 0 0 0), (3, dI .i64 ((a0.Lines.length : Nat) : Int)), (4, dI .i64 ((j118 : Nat) : Int))]) (fun (s115 : Unit) (g116 : Unit) => [(1001, .row 0 25 [[dB s111.2, dL 5 e_S_api_Line a0.Lines]])]) () (fun _ _ _ h => h) h (gh_frz rfl rfl ⟨⟨_, rfl, .keep rfl⟩, ⟨_, rfl, .keep rfl⟩, ⟨_, rfl, .keep rfl⟩, trivial⟩ ⟨⟨_, rfl, objOne ⟨⟨rfl, .keep rfl⟩, ⟨rfl, .keep rfl⟩, trivial⟩⟩, trivial⟩) ?_ ?_
      · clear h
        intro j118 x119 s115 g116 k117 hj118 hx118 h ih117
        refine awp_seq ?_
        refine awp_rs ?_
        refine ro rfl rfl (st_mv rfl) ?_
        refine ro rfl rfl (st_mv rfl) ?_
        refine ro rfl rfl (st_bin (v := dB (decide (((j118 : Nat) : Int) < ((a0.Lines.length : Nat) : Int)))) rfl rfl rfl) ?_
        refine rw_nilk ?_
        refine awp_ifT rfl (dlt hj118) ?_
        refine awp_skip ?_
        refine nx_then ?_
        refine awp_seq ?_
        refine awp_block ?_
        refine awp_rs ?_
        refine ro rfl rfl (st_faP fo25_1 rfl) ?_
        refine ro rfl rfl (st_ldP (v := dL 5 e_S_api_Line a0.Lines) ta23 rfl rfl rfl rfl) ?_
        refine ro rfl rfl (st_mv rfl) ?_
        refine ro rfl rfl (st_ixDn sl23 rfl rfl hx118) ?_
        refine ro rfl rfl (st_ldD (v := .agg [dI .u8 x119.Rule, dI .i64 x119.A, dI .i64 x119.B, dI .i64 x119.Piv, dL 1 (eI .i64) x119.Lits]) ta58 rfl rfl) ?_
        refine rn (r := 1002) rfl rfl (st_alloc zc58 rfl rfl) rfl ?_
        refine rx (L' := [(1001, .row 0 25 [[dB s111.2, dL 5 e_S_api_Line a0.Lines]]), (1002, .row 0 58 [[dI .u8 x119.Rule, dI .i64 x119.A, dI .i64 x119.B, dI .i64 x119.Piv, dL 1 (eI .i64) x119.Lits]])]) rfl rfl (st_stP ta58 rfl rfl rfl rfl rfl rfl rfl rfl) rfl ?_
        refine rw_nilk ?_
        refine awp_seq ?_
        refine awp_jn (fun (s199 : Bool) (g200 : Unit) => [(1, .ptr 1001 0 0 0), (3, dI .i64 ((a0.Lines.length : Nat) : Int)), (4, dI .i64 ((j118 : Nat) : Int)), (5, .ptr 1002 0 0 0), (36, dB s199)]) (fun (s199 : Bool) (g200 : Unit) => [(1001, .row 0 25 [[dB s111.2, dL 5 e_S_api_Line a0.Lines]]), (1002, .row 0 58 [[dI .u8 x119.Rule, dI .i64 x119.A, dI .i64 x119.B, dI .i64 x119.Piv, dL 1 (eI .i64) x119.Lits]])]) h ?_ ?_
        · clear h
          intro s199 g200 h
          refine awp_ite (b := s199) rfl (fun p202 => ?_) (fun p202 => ?_)
          · replace h := ite_T p202 h
            refine awp_rs ?_
            refine ro rfl rfl (st_as rfl) ?_
            refine rw_nilk ?_
            refine awp_ret ?_
            refine rt_then ?_
            refine rt_block ?_
            refine rt_then ?_
            refine rt_then ?_
            refine rt_block ?_
            refine rt_then ?_
            injection h with h
            subst h
            exact ret_out (v := dB false) (resV_one (resVs_tmp rfl resVs_nil)) (.keep rfl)
          · replace h := ite_F p202 h
            refine awp_skip ?_
            refine nx_then ?_
            refine awp_jn (fun (s207 : Bool) (g208 : Unit) => [(1, .ptr 1001 0 0 0), (3, dI .i64 ((a0.Lines.length : Nat) : Int)), (4, dI .i64 ((j118 : Nat) : Int)), (61, dB s207)]) (fun (s207 : Bool) (g208 : Unit) => [(1001, .row 0 25 [[dB s111.2, dL 5 e_S_api_Line a0.Lines]])]) h ?_ ?_
            · clear h
              intro s207 g208 h
              refine awp_ite (b := s207) rfl (fun p210 => ?_) (fun p210 => ?_)
              · replace h := ite_T p210 h
                refine awp_rs ?_
                refine ro rfl rfl (st_as rfl) ?_
                refine rw_nilk ?_
                refine awp_ret ?_
                refine rt_block ?_
                refine rt_then ?_
                refine rt_then ?_
                refine rt_block ?_
                refine rt_then ?_
                injection h with h
                subst h
                exact ret_out (v := dB false) (resV_one (resVs_tmp rfl resVs_nil)) (.keep rfl)
              · replace h := ite_F p210 h
                refine awp_skip ?_
                refine nx_block ?_
                refine nx_then ?_
                refine awp_rw ?_
                refine ro rfl rfl (st_mv rfl) ?_
                refine ro rfl rfl (st_inc rfl rfl hj118 hl118) ?_
                refine ro rfl rfl (st_as rfl) ?_
                refine rw_nil ?_
                refine nx_then ?_
                refine awp_gh ?_ (ih117 () () h)
                exact (gh_frz rfl rfl ⟨⟨_, rfl, .keep rfl⟩, ⟨_, rfl, .keep rfl⟩, ⟨_, rfl, .keep rfl⟩, trivial⟩ ⟨⟨_, rfl, objOne ⟨⟨rfl, .keep rfl⟩, ⟨rfl, .keep rfl⟩, trivial⟩⟩, trivial⟩)
            · clear h
              intro k209 h J209
              refine awp_rw ?_
              refine ro rfl rfl (st_faP fo58_0 rfl) ?_
              refine ro rfl rfl (st_ldP (v := dI .u8 x119.Rule) ta56 rfl rfl rfl rfl) ?_
              refine ro rfl rfl (st_bin (v := dB (x119.Rule == (2 : Int))) rfl rfl rfl) ?_
              refine ro rfl rfl (st_mv rfl) ?_
              refine bool_split (x119.Rule == (2 : Int)) (fun p211 => ?_) (fun p211 => ?_)
              · replace h := ite_T p211 h
                rw [p211]
                refine ro rfl rfl (st_faP fo58_1 rfl) ?_
                refine ro rfl rfl (st_ldP (v := dI .i64 x119.A) ta3 rfl rfl rfl rfl) ?_
                refine ro rfl rfl (st_bin (v := dB (decide (x119.A < (0 : Int)))) rfl rfl rfl) ?_
                refine ro rfl rfl (st_mv rfl) ?_
                refine bool_split (decide (x119.A < (0 : Int))) (fun p212 => ?_) (fun p212 => ?_)
                · replace h := ite_T p212 h
                  rw [p212]
                  refine rz rfl rfl ?_
                  refine rz rfl rfl ?_
                  refine rz rfl rfl ?_
                  refine rz rfl rfl ?_
                  refine ro rfl rfl (st_pickT rfl rfl) ?_
                  refine ro rfl rfl (st_mv rfl) ?_
                  refine rz rfl rfl ?_
                  refine rz rfl rfl ?_
                  refine rz rfl rfl ?_
                  refine ro rfl rfl (st_pickT rfl rfl) ?_
                  refine ro rfl rfl (st_mv rfl) ?_
                  refine rz rfl rfl ?_
                  refine rz rfl rfl ?_
                  refine rz rfl rfl ?_
                  refine rz rfl rfl ?_
                  refine ro rfl rfl (st_pickT rfl rfl) ?_
                  refine ro rfl rfl (st_pickT rfl rfl) ?_
                  refine rw_nil ?_
                  refine nx_then ?_
                  exact J209 true () _ _ h (gh_frz rfl rfl ⟨⟨_, rfl, .keep rfl⟩, ⟨_, rfl, .keep rfl⟩, ⟨_, rfl, .keep rfl⟩, ⟨_, rfl, .keep rfl⟩, trivial⟩ ⟨⟨_, rfl, objOne ⟨⟨rfl, .keep rfl⟩, ⟨rfl, .keep rfl⟩, trivial⟩⟩, trivial⟩)
                · replace h := ite_F p212 h
                  rw [p212]
                  refine ro rfl rfl (st_faP fo58_1 rfl) ?_
                  refine ro rfl rfl (st_ldP (v := dI .i64 x119.A) ta3 rfl rfl rfl rfl) ?_
                  refine ro rfl rfl (st_mv rfl) ?_
                  refine ro rfl rfl (st_bin (v := dB (decide (x119.A ≥ ((j118 : Nat) : Int)))) rfl rfl rfl) ?_
                  refine ro rfl rfl (st_pickF rfl rfl) ?_
                  refine ro rfl rfl (st_mv rfl) ?_
                  refine bool_split (decide (x119.A ≥ ((j118 : Nat) : Int))) (fun p213 => ?_) (fun p213 => ?_)
                  · replace h := ite_T p213 h
                    rw [p213]
                    refine rz rfl rfl ?_
                    refine rz rfl rfl ?_
                    refine rz rfl rfl ?_
                    refine ro rfl rfl (st_pickT rfl rfl) ?_
                    refine ro rfl rfl (st_mv rfl) ?_
                    refine rz rfl rfl ?_
                    refine rz rfl rfl ?_
                    refine rz rfl rfl ?_
                    refine rz rfl rfl ?_
                    refine ro rfl rfl (st_pickT rfl rfl) ?_
                    refine ro rfl rfl (st_pickT rfl rfl) ?_
                    refine rw_nil ?_
                    refine nx_then ?_
                    exact J209 true () _ _ h (gh_frz rfl rfl ⟨⟨_, rfl, .keep rfl⟩, ⟨_, rfl, .keep rfl⟩, ⟨_, rfl, .keep rfl⟩, ⟨_, rfl, .keep rfl⟩, trivial⟩ ⟨⟨_, rfl, objOne ⟨⟨rfl, .keep rfl⟩, ⟨rfl, .keep rfl⟩, trivial⟩⟩, trivial⟩)
                  · replace h := ite_F p213 h
                    rw [p213]
                    refine ro rfl rfl (st_faP fo58_2 rfl) ?_
                    refine ro rfl rfl (st_ldP (v := dI .i64 x119.B) ta3 rfl rfl rfl rfl) ?_
                    refine ro rfl rfl (st_bin (v := dB (decide (x119.B < (0 : Int)))) rfl rfl rfl) ?_
                    refine ro rfl rfl (st_pickF rfl rfl) ?_
                    refine ro rfl rfl (st_mv rfl) ?_
                    refine bool_split (decide (x119.B < (0 : Int))) (fun p214 => ?_) (fun p214 => ?_)
                    · replace h := ite_T p214 h
                      rw [p214]
                      refine rz rfl rfl ?_
                      refine rz rfl rfl ?_
                      refine rz rfl rfl ?_
                      refine rz rfl rfl ?_
                      refine ro rfl rfl (st_pickT rfl rfl) ?_
                      refine ro rfl rfl (st_pickT rfl rfl) ?_
                      refine rw_nil ?_
                      refine nx_then ?_
                      exact J209 true () _ _ h (gh_frz rfl rfl ⟨⟨_, rfl, .keep rfl⟩, ⟨_, rfl, .keep rfl⟩, ⟨_, rfl, .keep rfl⟩, ⟨_, rfl, .keep rfl⟩, trivial⟩ ⟨⟨_, rfl, objOne ⟨⟨rfl, .keep rfl⟩, ⟨rfl, .keep rfl⟩, trivial⟩⟩, trivial⟩)
                    · replace h := ite_F p214 h
                      rw [p214]
                      refine ro rfl rfl (st_faP fo58_2 rfl) ?_
                      refine ro rfl rfl (st_ldP (v := dI .i64 x119.B) ta3 rfl rfl rfl rfl) ?_
                      refine ro rfl rfl (st_mv rfl) ?_
                      refine ro rfl rfl (st_bin (v := dB (decide (x119.B ≥ ((j118 : Nat) : Int)))) rfl rfl rfl) ?_
                      refine ro rfl rfl (st_pickF rfl rfl) ?_
                      refine ro rfl rfl (st_pickT rfl rfl) ?_
                      refine rw_nil ?_
                      refine nx_then ?_
                      exact J209 (decide (x119.B ≥ ((j118 : Nat) : Int))) () _ _ h (gh_frz rfl rfl ⟨⟨_, rfl, .keep rfl⟩, ⟨_, rfl, .keep rfl⟩, ⟨_, rfl, .keep rfl⟩, ⟨_, rfl, .keep rfl⟩, trivial⟩ ⟨⟨_, rfl, objOne ⟨⟨rfl, .keep rfl⟩, ⟨rfl, .keep rfl⟩, trivial⟩⟩, trivial⟩)
              · replace h := ite_F p211 h
                rw [p211]
                refine rz rfl rfl ?_
                refine rz rfl rfl ?_
                refine rz rfl rfl ?_
                refine rz rfl rfl ?_
                refine rz rfl rfl ?_
                refine rz rfl rfl ?_
                refine rz rfl rfl ?_
                refine rz rfl rfl ?_
                refine rz rfl rfl ?_
                refine rz rfl rfl ?_
                refine rz rfl rfl ?_
                refine rz rfl rfl ?_
                refine rz rfl rfl ?_
                refine rz rfl rfl ?_
                refine rz rfl rfl ?_
                refine rz rfl rfl ?_
                refine rz rfl rfl ?_
                refine rz rfl rfl ?_
                refine rz rfl rfl ?_
                refine rz rfl rfl ?_
                refine ro rfl rfl (st_pickF rfl rfl) ?_
                refine rw_nil ?_
                refine nx_then ?_
                exact J209 false () _ _ h (gh_frz rfl rfl ⟨⟨_, rfl, .keep rfl⟩, ⟨_, rfl, .keep rfl⟩, ⟨_, rfl, .keep rfl⟩, ⟨_, rfl, .keep rfl⟩, trivial⟩ ⟨⟨_, rfl, objOne ⟨⟨rfl, .keep rfl⟩, ⟨rfl, .keep rfl⟩, trivial⟩⟩, trivial⟩)
        · clear h
          intro k201 h J201
          refine awp_rw ?_
          refine ro rfl rfl (st_faP fo58_0 rfl) ?_
          refine ro rfl rfl (st_ldP (v := dI .u8 x119.Rule) ta56 rfl rfl rfl rfl) ?_
          refine ro rfl rfl (st_bin (v := dB (x119.Rule != (1 : Int))) rfl rfl rfl) ?_
          refine ro rfl rfl (st_mv rfl) ?_
          refine bool_split (x119.Rule != (1 : Int)) (fun p215 => ?_) (fun p215 => ?_)
          · replace h := ite_T p215 h
            rw [p215]
            refine ro rfl rfl (st_faP fo58_0 rfl) ?_
            refine ro rfl rfl (st_ldP (v := dI .u8 x119.Rule) ta56 rfl rfl rfl rfl) ?_
            refine ro rfl rfl (st_bin (v := dB (x119.Rule != (2 : Int))) rfl rfl rfl) ?_
            refine ro rfl rfl (st_pickT rfl rfl) ?_
            refine rw_nil ?_
            refine nx_then ?_
            exact J201 (x119.Rule != (2 : Int)) () _ _ h (gh_frz rfl rfl ⟨⟨_, rfl, .keep rfl⟩, ⟨_, rfl, .keep rfl⟩, ⟨_, rfl, .keep rfl⟩, ⟨_, rfl, .keep rfl⟩, ⟨_, rfl, .keep rfl⟩, trivial⟩ ⟨⟨_, rfl, objOne ⟨⟨rfl, .keep rfl⟩, ⟨rfl, .keep rfl⟩, trivial⟩⟩, ⟨_, rfl, objOne ⟨⟨rfl, .keep rfl⟩, ⟨rfl, .keep rfl⟩, ⟨rfl, .keep rfl⟩, ⟨rfl, .keep rfl⟩, ⟨rfl, .keep rfl⟩, trivial⟩⟩, trivial⟩)
          · replace h := ite_F p215 h
            rw [p215]
            refine rz rfl rfl ?_
            refine rz rfl rfl ?_
            refine rz rfl rfl ?_
            refine ro rfl rfl (st_pickF rfl rfl) ?_
            refine rw_nil ?_
            refine nx_then ?_
            exact J201 false () _ _ h (gh_frz rfl rfl ⟨⟨_, rfl, .keep rfl⟩, ⟨_, rfl, .keep rfl⟩, ⟨_, rfl, .keep rfl⟩, ⟨_, rfl, .keep rfl⟩, ⟨_, rfl, .keep rfl⟩, trivial⟩ ⟨⟨_, rfl, objOne ⟨⟨rfl, .keep rfl⟩, ⟨rfl, .keep rfl⟩, trivial⟩⟩, ⟨_, rfl, objOne ⟨⟨rfl, .keep rfl⟩, ⟨rfl, .keep rfl⟩, ⟨rfl, .keep rfl⟩, ⟨rfl, .keep rfl⟩, ⟨rfl, .keep rfl⟩, trivial⟩⟩, trivial⟩)
      · clear h
        intro s115 g116 h
        refine awp_seq ?_
        refine awp_rs ?_
        refine ro rfl rfl (st_mv rfl) ?_
        refine ro rfl rfl (st_mv rfl) ?_
        refine ro rfl rfl (st_bin (v := dB (decide (((a0.Lines.length : Nat) : Int) < ((a0.Lines.length : Nat) : Int)))) rfl rfl rfl) ?_
        refine rw_nilk ?_
        refine awp_ifF rfl dge ?_
        refine awp_exit ?_
        refine ex_out ?_
        refine ex_out ?_
        refine ex_in ?_
        refine nx_then ?_
        refine awp_rs ?_
        refine ro rfl rfl (st_as rfl) ?_
        refine rw_nilk ?_
        refine awp_ret ?_
        injection h with h
        subst h
        exact ret_out (v := dB true) (resV_one (resVs_tmp rfl resVs_nil)) (.keep rfl)
  · clear h
    intro k113 h J113
    refine awp_rw ?_
    refine ro rfl rfl (st_faP fo25_0 rfl) ?_
    refine ro rfl rfl (st_ldP (v := dB a0.Cubes) ta4 rfl rfl rfl rfl) ?_
    refine ro rfl rfl (st_mv rfl) ?_
    refine bool_split a0.Cubes (fun p216 => ?_) (fun p216 => ?_)
    · replace h := ite_T p216 h
      rw [p216]
      refine rz rfl rfl ?_
      refine rz rfl rfl ?_
      refine ro rfl rfl (st_pickT rfl rfl) ?_
      refine ro rfl rfl (st_mv rfl) ?_
      refine rz rfl rfl ?_
      refine rz rfl rfl ?_
      refine ro rfl rfl (st_pickT rfl rfl) ?_
      refine rw_nil ?_
      refine nx_then ?_
      exact J113 (true, true) () _ _ h (gh_frz rfl rfl ⟨⟨_, rfl, .keep rfl⟩, ⟨_, rfl, .keep rfl⟩, ⟨_, rfl, .keep rfl⟩, trivial⟩ ⟨⟨_, rfl, objOne ⟨⟨rfl, .keep rfl⟩, ⟨rfl, .keep rfl⟩, trivial⟩⟩, trivial⟩)
    · replace h := ite_F p216 h
      rw [p216]
      refine ro rfl rfl (st_mv rfl) ?_
      refine ro rfl rfl (st_bin (v := dB (((a0.Lines.length : Nat) : Int) == (0 : Int))) rfl rfl rfl) ?_
      refine ro rfl rfl (st_pickF rfl rfl) ?_
      refine ro rfl rfl (st_mv rfl) ?_
      refine bool_split (((a0.Lines.length : Nat) : Int) == (0 : Int)) (fun p217 => ?_) (fun p217 => ?_)
      · replace h := ite_T p217 h
        rw [p217]
        refine rz rfl rfl ?_
        refine rz rfl rfl ?_
        refine ro rfl rfl (st_pickT rfl rfl) ?_
        refine rw_nil ?_
        refine nx_then ?_
        exact J113 (true, false) () _ _ h (gh_frz rfl rfl ⟨⟨_, rfl, .keep rfl⟩, ⟨_, rfl, .keep rfl⟩, ⟨_, rfl, .keep rfl⟩, trivial⟩ ⟨⟨_, rfl, objOne ⟨⟨rfl, .keep rfl⟩, ⟨rfl, .keep rfl⟩, trivial⟩⟩, trivial⟩)
      · replace h := ite_F p217 h
        rw [p217]
        refine ro rfl rfl (st_mv rfl) ?_
        refine ro rfl rfl (st_bin (v := dB (decide (((a0.Lines.length : Nat) : Int) > (1000000 : Int)))) rfl rfl rfl) ?_
        refine ro rfl rfl (st_pickF rfl rfl) ?_
        refine rw_nil ?_
        refine nx_then ?_
        exact J113 ((decide (((a0.Lines.length : Nat) : Int) > (1000000 : Int))), false) () _ _ h (gh_frz rfl rfl ⟨⟨_, rfl, .keep rfl⟩, ⟨_, rfl, .keep rfl⟩, ⟨_, rfl, .keep rfl⟩, trivial⟩ ⟨⟨_, rfl, objOne ⟨⟨rfl, .keep rfl⟩, ⟨rfl, .keep rfl⟩, trivial⟩⟩, trivial⟩)

theorem ok_skolemref10_Join {a0 : S_api_Proof} {a1 : S_api_Proof} {a2 : Int} {r : (S_api_Proof × Int)} (h : F_skolemref10_Join a0 a1 a2 = some r) : Fn Try.prog 37 [.agg [dB a0.Cubes, dL 5 e_S_api_Line a0.Lines], .agg [dB a1.Cubes, dL 5 e_S_api_Line a1.Lines], dI .i64 a2] (.tup [.agg [dB r.1.Cubes, dL 5 e_S_api_Line r.1.Lines], dI .i64 r.2]) := by
  unfold F_skolemref10_Join at h
  refine Fn.of_body (N := 140) (rs := [.cell 6 25, .tmp 7]) Try.func37 (c := _) rfl rfl rfl (by kernel_rfl) (Nat.le_of_ble_eq_true rfl) (fun _B => ?_)
  refine awp_rs ?_
  refine rn (r := 1001) rfl rfl (st_box rfl rfl rfl co25 rfl rfl) rfl ?_
  refine rn (r := 1002) rfl rfl (st_box rfl rfl rfl co25 rfl rfl) rfl ?_
  refine rn (r := 1003) rfl rfl (st_alloc zc25 rfl rfl) rfl ?_
  refine ro rfl rfl (st_as rfl) ?_
  refine rw_nilk ?_
  refine awp_seq ?_
  refine awp_jn (fun (s120 : Bool) (g121 : Unit) => [(2, dI .i64 a2), (3, .ptr 1001 0 0 0), (4, .ptr 1002 0 0 0), (6, .ptr 1003 0 0 0), (32, dB s120)]) (fun (s120 : Bool) (g121 : Unit) => [(1001, .row 0 25 [[dB a0.Cubes, dL 5 e_S_api_Line a0.Lines]]), (1002, .row 0 25 [[dB a1.Cubes, dL 5 e_S_api_Line a1.Lines]]), (1003, .row 0 25 [[dB false, .nilS]])]) h ?_ ?_
  · clear h
    intro s120 g121 h
    refine awp_ite (b := s120) rfl (fun p123 => ?_) (fun p123 => ?_)
    · replace h := ite_T p123 h
      refine awp_rs ?_
      refine ro rfl rfl (st_build (vs := [dB false, .nilS]) bl25 rfl rfl) ?_
      refine rx (L' := [(1001, .row 0 25 [[dB a0.Cubes, dL 5 e_S_api_Line a0.Lines]]), (1002, .row 0 25 [[dB a1.Cubes, dL 5 e_S_api_Line a1.Lines]]), (1003, .row 0 25 [[dB false, .nilS]])]) rfl rfl (st_stP ta25 rfl rfl rfl rfl rfl rfl rfl rfl) rfl ?_
      refine ro rfl rfl (st_as rfl) ?_
      refine rw_nilk ?_
      refine awp_ret ?_
      refine rt_then ?_
      injection h with h
      subst h
      exact ret_out (v := .tup [.agg [dB false, .nilS], dI .i64 (2 : Int)]) (resV_many (resVs_cell (v := .agg [dB false, .nilS]) ta25 rfl rfl rfl rfl (resVs_tmp rfl resVs_nil))) (frz_tup ⟨(frz_agg ⟨(.keep rfl), (.nilS _), trivial⟩), (.keep rfl), trivial⟩)
    · replace h := ite_F p123 h
      refine awp_skip ?_
      refine nx_then ?_
      refine awp_rds hmix ?_
      refine do_ rfl rfl (st_faP fo25_1 rfl) rfl rfl rfl ?_
      refine do_ rfl rfl (st_ldP (v := dL 5 e_S_api_Line a0.Lines) ta23 rfl rfl rfl rfl) rfl rfl rfl ?_
      refine do_ rfl rfl (st_lenD rfl un23) rfl rfl rfl ?_
      refine do_ rfl rfl (st_faP fo25_1 rfl) rfl rfl rfl ?_
      refine do_ rfl rfl (st_ldP (v := dL 5 e_S_api_Line a1.Lines) ta23 rfl rfl rfl rfl) rfl rfl rfl ?_
      refine do_ rfl rfl (st_lenD rfl un23) rfl rfl rfl ?_
      refine do_ rfl rfl (st_as rfl) rfl rfl rfl ?_
      refine do_ rfl rfl (st_as rfl) rfl rfl rfl ?_
      refine rd_nil (by kernel_rfl) ?_
      refine awp_rds hmix ?_
      refine do_ rfl rfl (st_faP fo25_1 rfl) rfl rfl rfl ?_
      refine do_ rfl rfl (st_ldP (v := dL 5 e_S_api_Line a0.Lines) ta23 rfl rfl rfl rfl) rfl rfl rfl ?_
      refine do_ rfl rfl (st_mv rfl) rfl rfl rfl ?_
      refine do_ rfl rfl (st_bin (v := dI .i64 (IntKind.wrap .i64 (((a0.Lines.length : Nat) : Int) - (1 : Int)))) rfl rfl rfl) rfl rfl rfl ?_
      obtain ⟨x124, h0124, hx124, h⟩ := getI_some h
      refine do_ rfl rfl (st_ixD sl23 rfl rfl h0124 hx124) rfl rfl rfl ?_
      refine do_ rfl rfl (st_faD fo58_4 rfl) rfl rfl rfl ?_
      refine do_ rfl rfl (st_ldD (v := dL 1 (eI .i64) x124.Lits) ta28 rfl rfl) rfl rfl rfl ?_
      refine do_ rfl rfl (st_faP fo25_1 rfl) rfl rfl rfl ?_
      refine do_ rfl rfl (st_ldP (v := dL 5 e_S_api_Line a1.Lines) ta23 rfl rfl rfl rfl) rfl rfl rfl ?_
      refine do_ rfl rfl (st_mv rfl) rfl rfl rfl ?_
      refine do_ rfl rfl (st_bin (v := dI .i64 (IntKind.wrap .i64 (((a1.Lines.length : Nat) : Int) - (1 : Int)))) rfl rfl rfl) rfl rfl rfl ?_
      obtain ⟨x125, h0125, hx125, h⟩ := getI_some h
      refine do_ rfl rfl (st_ixD sl23 rfl rfl h0125 hx125) rfl rfl rfl ?_
      refine do_ rfl rfl (st_faD fo58_4 rfl) rfl rfl rfl ?_
      refine do_ rfl rfl (st_ldD (v := dL 1 (eI .i64) x125.Lits) ta28 rfl rfl) rfl rfl rfl ?_
      refine do_ rfl rfl (st_as rfl) rfl rfl rfl ?_
      refine do_ rfl rfl (st_as rfl) rfl rfl rfl ?_
      refine rd_nil (by kernel_rfl) ?_
      refine awp_seq ?_
      refine awp_jn (fun (s139 : Bool) (g140 : Unit) => [(2, dI .i64 a2), (3, .ptr 1001 0 0 0), (4, .ptr 1002 0 0 0), (6, .ptr 1003 0 0 0), (8, dI .i64 ((a0.Lines.length : Nat) : Int)), (9, dI .i64 ((a1.Lines.length : Nat) : Int)), (10, dL 1 (eI .i64) x124.Lits), (11, dL 1 (eI .i64) x125.Lits), (61, dB s139)]) (fun (s139 : Bool) (g140 : Unit) => [(1001, .row 0 25 [[dB a0.Cubes, dL 5 e_S_api_Line a0.Lines]]), (1002, .row 0 25 [[dB a1.Cubes, dL 5 e_S_api_Line a1.Lines]]), (1003, .row 0 25 [[dB false, .nilS]])]) h ?_ ?_
      · clear h
        intro s139 g140 h
        refine awp_ite (b := s139) rfl (fun p142 => ?_) (fun p142 => ?_)
        · replace h := ite_T p142 h
          refine awp_rs ?_
          refine ro rfl rfl (st_build (vs := [dB false, .nilS]) bl25 rfl rfl) ?_
          refine rx (L' := [(1001, .row 0 25 [[dB a0.Cubes, dL 5 e_S_api_Line a0.Lines]]), (1002, .row 0 25 [[dB a1.Cubes, dL 5 e_S_api_Line a1.Lines]]), (1003, .row 0 25 [[dB false, .nilS]])]) rfl rfl (st_stP ta25 rfl rfl rfl rfl rfl rfl rfl rfl) rfl ?_
          refine ro rfl rfl (st_as rfl) ?_
          refine rw_nilk ?_
          refine awp_ret ?_
          refine rt_then ?_
          injection h with h
          subst h
          exact ret_out (v := .tup [.agg [dB false, .nilS], dI .i64 (2 : Int)]) (resV_many (resVs_cell (v := .agg [dB false, .nilS]) ta25 rfl rfl rfl rfl (resVs_tmp rfl resVs_nil))) (frz_tup ⟨(frz_agg ⟨(.keep rfl), (.nilS _), trivial⟩), (.keep rfl), trivial⟩)
        · replace h := ite_F p142 h
          refine awp_skip ?_
          refine nx_then ?_
          refine awp_seq ?_
          refine awp_rs ?_
          refine ro rfl rfl (st_mv rfl) ?_
          refine ro rfl rfl (st_mv rfl) ?_
          obtain ⟨y143, hy143, h⟩ := bind_some_elim h
          refine rf rfl rfl (ok_skolemref09_Has hy143) rfl rfl ?_
          refine ro rfl rfl (st_un (v := dB (!y143)) rfl rfl) ?_
          refine rw_nilk ?_
          refine awp_ite (b := (!y143)) rfl (fun p144 => ?_) (fun p144 => ?_)
          · replace h := ite_T p144 h
            refine awp_rs ?_
            refine ro rfl rfl (st_ldP (v := .agg [dB a0.Cubes, dL 5 e_S_api_Line a0.Lines]) ta25 rfl rfl rfl rfl) ?_
            refine rx (L' := [(1001, .row 0 25 [[dB a0.Cubes, dL 5 e_S_api_Line a0.Lines]]), (1002, .row 0 25 [[dB a1.Cubes, dL 5 e_S_api_Line a1.Lines]]), (1003, .row 0 25 [[dB a0.Cubes, dL 5 e_S_api_Line a0.Lines]])]) rfl rfl (st_stP ta25 rfl rfl rfl rfl rfl rfl rfl rfl) rfl ?_
            refine ro rfl rfl (st_as rfl) ?_
            refine rw_nilk ?_
            refine awp_ret ?_
            refine rt_then ?_
            injection h with h
            subst h
            exact ret_out (v := .tup [.agg [dB a0.Cubes, dL 5 e_S_api_Line a0.Lines], dI .i64 (0 : Int)]) (resV_many (resVs_cell (v := .agg [dB a0.Cubes, dL 5 e_S_api_Line a0.Lines]) ta25 rfl rfl rfl rfl (resVs_tmp rfl resVs_nil))) (.keep rfl)
          · replace h := ite_F p144 h
            refine awp_skip ?_
            refine nx_then ?_
            refine awp_seq ?_
            refine awp_rs ?_
            refine ro rfl rfl (st_mv rfl) ?_
            refine ro rfl rfl (st_mv rfl) ?_
            refine ro rfl rfl (st_un (v := dI .i64 (IntKind.wrap .i64 (0 - a2))) rfl rfl) ?_
            obtain ⟨y145, hy145, h⟩ := bind_some_elim h
            refine rf rfl rfl (ok_skolemref09_Has hy145) rfl rfl ?_
            refine ro rfl rfl (st_un (v := dB (!y145)) rfl rfl) ?_
            refine rw_nilk ?_
            refine awp_ite (b := (!y145)) rfl (fun p146 => ?_) (fun p146 => ?_)
            · replace h := ite_T p146 h
              refine awp_rs ?_
              refine ro rfl rfl (st_ldP (v := .agg [dB a1.Cubes, dL 5 e_S_api_Line a1.Lines]) ta25 rfl rfl rfl rfl) ?_
              refine rx (L' := [(1001, .row 0 25 [[dB a0.Cubes, dL 5 e_S_api_Line a0.Lines]]), (1002, .row 0 25 [[dB a1.Cubes, dL 5 e_S_api_Line a1.Lines]]), (1003, .row 0 25 [[dB a1.Cubes, dL 5 e_S_api_Line a1.Lines]])]) rfl rfl (st_stP ta25 rfl rfl rfl rfl rfl rfl rfl rfl) rfl ?_
              refine ro rfl rfl (st_as rfl) ?_
              refine rw_nilk ?_
              refine awp_ret ?_
              refine rt_then ?_
              injection h with h
              subst h
              exact ret_out (v := .tup [.agg [dB a1.Cubes, dL 5 e_S_api_Line a1.Lines], dI .i64 (0 : Int)]) (resV_many (resVs_cell (v := .agg [dB a1.Cubes, dL 5 e_S_api_Line a1.Lines]) ta25 rfl rfl rfl rfl (resVs_tmp rfl resVs_nil))) (.keep rfl)
            · replace h := ite_F p146 h
              refine awp_skip ?_
              refine nx_then ?_
              refine awp_rs ?_
              refine ro rfl rfl (st_mv rfl) ?_
              refine ro rfl rfl (st_mv rfl) ?_
              refine ro rfl rfl (st_mv rfl) ?_
              obtain ⟨y147, hy147, h⟩ := bind_some_elim h
              refine rf rfl rfl (ok_skolemref09_Resolvent hy147) rfl rfl ?_
              refine ro rfl rfl (st_mv rfl) ?_
              refine ro rfl rfl (st_ext rfl rfl) ?_
              refine ro rfl rfl (st_ext rfl rfl) ?_
              refine ro rfl rfl (st_as rfl) ?_
              refine ro rfl rfl (st_as rfl) ?_
              refine rw_nilk ?_
              refine awp_seq ?_
              refine awp_rs ?_
              refine ro rfl rfl (st_mv rfl) ?_
              refine ro rfl rfl (st_un (v := dB (!y147.2)) rfl rfl) ?_
              refine rw_nilk ?_
              refine awp_ite (b := (!y147.2)) rfl (fun p148 => ?_) (fun p148 => ?_)
              · replace h := ite_T p148 h
                refine awp_rs ?_
                refine ro rfl rfl (st_build (vs := [dB false, .nilS]) bl25 rfl rfl) ?_
                refine rx (L' := [(1001, .row 0 25 [[dB a0.Cubes, dL 5 e_S_api_Line a0.Lines]]), (1002, .row 0 25 [[dB a1.Cubes, dL 5 e_S_api_Line a1.Lines]]), (1003, .row 0 25 [[dB false, .nilS]])]) rfl rfl (st_stP ta25 rfl rfl rfl rfl rfl rfl rfl rfl) rfl ?_
                refine ro rfl rfl (st_as rfl) ?_
                refine rw_nilk ?_
                refine awp_ret ?_
                refine rt_then ?_
                injection h with h
                subst h
                exact ret_out (v := .tup [.agg [dB false, .nilS], dI .i64 (8 : Int)]) (resV_many (resVs_cell (v := .agg [dB false, .nilS]) ta25 rfl rfl rfl rfl (resVs_tmp rfl resVs_nil))) (frz_tup ⟨(frz_agg ⟨(.keep rfl), (.nilS _), trivial⟩), (.keep rfl), trivial⟩)
              · replace h := ite_F p148 h
                refine awp_skip ?_
                refine nx_then ?_
                refine awp_seq ?_
                refine awp_rs ?_
                refine ro rfl rfl (st_mv rfl) ?_
                refine ro rfl rfl (st_mv rfl) ?_
                refine ro rfl rfl (st_bin (v := dI .i64 (IntKind.wrap .i64 (((a0.Lines.length : Nat) : Int) + ((a1.Lines.length : Nat) : Int)))) rfl rfl rfl) ?_
                refine ro rfl rfl (st_bin (v := dI .i64 (IntKind.wrap .i64 ((IntKind.wrap .i64 (((a0.Lines.length : Nat) : Int) + ((a1.Lines.length : Nat) : Int))) + (1 : Int)))) rfl rfl rfl) ?_
                refine ro rfl rfl (st_bin (v := dB (decide ((IntKind.wrap .i64 ((IntKind.wrap .i64 (((a0.Lines.length : Nat) : Int) + ((a1.Lines.length : Nat) : Int))) + (1 : Int))) > (1000000 : Int)))) rfl rfl rfl) ?_
                refine rw_nilk ?_
                refine awp_ite (b := (decide ((IntKind.wrap .i64 ((IntKind.wrap .i64 (((a0.Lines.length : Nat) : Int) + ((a1.Lines.length : Nat) : Int))) + (1 : Int))) > (1000000 : Int)))) rfl (fun p149 => ?_) (fun p149 => ?_)
                · replace h := ite_T p149 h
                  refine awp_rs ?_
                  refine ro rfl rfl (st_build (vs := [dB false, .nilS]) bl25 rfl rfl) ?_
                  refine rx (L' := [(1001, .row 0 25 [[dB a0.Cubes, dL 5 e_S_api_Line a0.Lines]]), (1002, .row 0 25 [[dB a1.Cubes, dL 5 e_S_api_Line a1.Lines]]), (1003, .row 0 25 [[dB false, .nilS]])]) rfl rfl (st_stP ta25 rfl rfl rfl rfl rfl rfl rfl rfl) rfl ?_
                  refine ro rfl rfl (st_as rfl) ?_
                  refine rw_nilk ?_
                  refine awp_ret ?_
                  refine rt_then ?_
                  injection h with h
                  subst h
                  exact ret_out (v := .tup [.agg [dB false, .nilS], dI .i64 (3 : Int)]) (resV_many (resVs_cell (v := .agg [dB false, .nilS]) ta25 rfl rfl rfl rfl (resVs_tmp rfl resVs_nil))) (frz_tup ⟨(frz_agg ⟨(.keep rfl), (.nilS _), trivial⟩), (.keep rfl), trivial⟩)
                · replace h := ite_F p149 h
                  refine awp_skip ?_
                  refine nx_then ?_
                  refine awp_rs ?_
                  refine rn (r := 1004) rfl rfl (st_alloc zc25 rfl rfl) rfl ?_
                  refine rw_nilk ?_
                  refine awp_rs ?_
                  refine ro rfl rfl (st_faP fo25_1 rfl) ?_
                  refine ro rfl rfl (st_ldP (v := .nilS) ta23 rfl rfl rfl rfl) ?_
                  refine ro rfl rfl (st_faP fo25_1 rfl) ?_
                  refine ro rfl rfl (st_ldP (v := dL 5 e_S_api_Line a0.Lines) ta23 rfl rfl rfl rfl) ?_
                  obtain ⟨c150, h⟩ := capN_some h
                  refine rn (r := 1005) rfl rfl (st_appN (f := e_S_api_Line) (ys := a0.Lines) sl23 zc58 rfl rfl rfl rfl news_dat c150) rfl ?_
                  refine ro rfl rfl (st_faP fo25_1 rfl) ?_
                  refine rx (L' := [(1001, .row 0 25 [[dB a0.Cubes, dL 5 e_S_api_Line a0.Lines]]), (1002, .row 0 25 [[dB a1.Cubes, dL 5 e_S_api_Line a1.Lines]]), (1003, .row 0 25 [[dB false, .nilS]]), (1004, .row 0 25 [[dB false, .slice 1005 0 0 a0.Lines.length]]), (1005, rw' 0 58 e_S_api_Line a0.Lines)]) rfl rfl (st_stP ta23 rfl rfl rfl rfl rfl rfl rfl rfl) rfl ?_
                  refine rw_nilk ?_
                  refine awp_seq ?_
                  refine awp_rs ?_
                  refine ro rfl rfl (st_as rfl) ?_
                  refine rw_nilk ?_
                  refine awp_block ?_
                  refine awp_lenC (r := 1002) (i := 1) rfl rfl (fun hl154 => ?_)
                  rw [List.length_map] at hl154
                  refine awp_range (fun (j154 : Nat) (s151 : (List S_api_Line)) (g152 : Nat) => [(2, dI .i64 a2), (4, .ptr 1002 0 0 0), (6, .ptr 1003 0 0 0), (8, dI .i64 ((a0.Lines.length : Nat) : Int)), (9, dI .i64 ((a1.Lines.length : Nat) : Int)), (12, dL 1 (eI .i64) y147.1), (14, .ptr 1004 0 0 0), (15, dI .i64 ((j154 : Nat) : Int))]) (fun (s151 : (List S_api_Line)) (g152 : Nat) => [(1002, .row 0 25 [[dB a1.Cubes, dL 5 e_S_api_Line a1.Lines]]), (1003, .row 0 25 [[dB false, .nilS]]), (1004, .row 0 25 [[dB false, .slice 1005 g152 0 s151.length]]), (1005, rw' g152 58 e_S_api_Line s151)]) 0 (fun _ _ _ h => h) h (gh_frz rfl rfl ⟨⟨_, rfl, .keep rfl⟩, ⟨_, rfl, .keep rfl⟩, ⟨_, rfl, .keep rfl⟩, ⟨_, rfl, .keep rfl⟩, ⟨_, rfl, .keep rfl⟩, ⟨_, rfl, .keep rfl⟩, ⟨_, rfl, .keep rfl⟩, ⟨_, rfl, .keep rfl⟩, trivial⟩ ⟨⟨_, rfl, objOne ⟨⟨rfl, .keep rfl⟩, ⟨rfl, .keep rfl⟩, trivial⟩⟩, ⟨_, rfl, objOne ⟨⟨rfl, .keep rfl⟩, ⟨rfl, .keep rfl⟩, trivial⟩⟩, ⟨_, rfl, objOne ⟨⟨rfl, .keep rfl⟩, ⟨rfl, .keep rfl⟩, trivial⟩⟩, ⟨_, rfl, objRow _⟩, trivial⟩) ?_ ?_
                  · clear h
                    intro j154 x155 s151 g152 k153 hj154 hx154 h ih153
                    refine awp_seq ?_
                    refine awp_rs ?_
                    refine ro rfl rfl (st_mv rfl) ?_
                    refine ro rfl rfl (st_mv rfl) ?_
                    refine ro rfl rfl (st_bin (v := dB (decide (((j154 : Nat) : Int) < ((a1.Lines.length : Nat) : Int)))) rfl rfl rfl) ?_
                    refine rw_nilk ?_
                    refine awp_ifT rfl (dlt hj154) ?_
                    refine awp_skip ?_
                    refine nx_then ?_
                    refine awp_seq ?_
                    refine awp_block ?_
                    refine awp_rs ?_
                    refine ro rfl rfl (st_faP fo25_1 rfl) ?_
                    refine ro rfl rfl (st_ldP (v := dL 5 e_S_api_Line a1.Lines) ta23 rfl rfl rfl rfl) ?_
                    refine ro rfl rfl (st_mv rfl) ?_
                    refine ro rfl rfl (st_ixDn sl23 rfl rfl hx154) ?_
                    refine ro rfl rfl (st_ldD (v := .agg [dI .u8 x155.Rule, dI .i64 x155.A, dI .i64 x155.B, dI .i64 x155.Piv, dL 1 (eI .i64) x155.Lits]) ta58 rfl rfl) ?_
                    refine rn (r := 1006) rfl rfl (st_alloc zc58 rfl rfl) rfl ?_
                    refine rx (L' := [(1002, .row 0 25 [[dB a1.Cubes, dL 5 e_S_api_Line a1.Lines]]), (1003, .row 0 25 [[dB false, .nilS]]), (1004, .row 0 25 [[dB false, .slice 1005 g152 0 s151.length]]), (1005, rw' g152 58 e_S_api_Line s151), (1006, .row 0 58 [[dI .u8 x155.Rule, dI .i64 x155.A, dI .i64 x155.B, dI .i64 x155.Piv, dL 1 (eI .i64) x155.Lits]])]) rfl rfl (st_stP ta58 rfl rfl rfl rfl rfl rfl rfl rfl) rfl ?_
                    refine rw_nilk ?_
                    refine awp_jn (fun (s187 : (Int × Int)) (g188 : Unit) => [(2, dI .i64 a2), (4, .ptr 1002 0 0 0), (6, .ptr 1003 0 0 0), (8, dI .i64 ((a0.Lines.length : Nat) : Int)), (9, dI .i64 ((a1.Lines.length : Nat) : Int)), (12, dL 1 (eI .i64) y147.1), (14, .ptr 1004 0 0 0), (15, dI .i64 ((j154 : Nat) : Int)), (16, .ptr 1006 0 0 0)]) (fun (s187 : (Int × Int)) (g188 : Unit) => [(1002, .row 0 25 [[dB a1.Cubes, dL 5 e_S_api_Line a1.Lines]]), (1003, .row 0 25 [[dB false, .nilS]]), (1004, .row 0 25 [[dB false, .slice 1005 g152 0 s151.length]]), (1005, rw' g152 58 e_S_api_Line s151), (1006, .row 0 58 [[dI .u8 x155.Rule, dI .i64 s187.1, dI .i64 s187.2, dI .i64 x155.Piv, dL 1 (eI .i64) x155.Lits]])]) h ?_ ?_
                    · clear h
                      intro s187 g188 h
                      refine awp_rw ?_
                      refine ro rfl rfl (st_faP fo25_1 rfl) ?_
                      refine ro rfl rfl (st_ldP (v := .slice 1005 g152 0 s151.length) ta23 rfl rfl rfl rfl) ?_
                      refine ro rfl rfl (st_ldP (v := .agg [dI .u8 x155.Rule, dI .i64 s187.1, dI .i64 s187.2, dI .i64 x155.Piv, dL 1 (eI .i64) x155.Lits]) ta58 rfl rfl rfl rfl) ?_
                      refine rn (r := 1007) rfl rfl (st_bsl (els := [[dI .u8 x155.Rule, dI .i64 s187.1, dI .i64 s187.2, dI .i64 x155.Piv, dL 1 (eI .i64) x155.Lits]]) sl23 zc58 rfl rfl rfl rfl rfl) rfl ?_
                      obtain ⟨c190, h⟩ := capN_some h
                      refine rn (r := 0) (L' := [(1002, .row 0 25 [[dB a1.Cubes, dL 5 e_S_api_Line a1.Lines]]), (1003, .row 0 25 [[dB false, .nilS]]), (1004, .row 0 25 [[dB false, .slice 1005 g152 0 s151.length]]), (1005, rw' (g152 + 2) 58 e_S_api_Line (s151 ++ [(S_api_Line.mk x155.Rule s187.1 s187.2 x155.Piv x155.Lits)])), (1006, .row 0 58 [[dI .u8 x155.Rule, dI .i64 s187.1, dI .i64 s187.2, dI .i64 x155.Piv, dL 1 (eI .i64) x155.Lits]]), (1007, .row 1 58 [[dI .u8 x155.Rule, dI .i64 s187.1, dI .i64 s187.2, dI .i64 x155.Piv, dL 1 (eI .i64) x155.Lits]])]) rfl rfl (st_appR (f := e_S_api_Line) (xs := s151) (ys := [(S_api_Line.mk x155.Rule s187.1 s187.2 x155.Piv x155.Lits)]) sl23 zc58 rfl rfl rfl rfl rfl (news_one (a := (S_api_Line.mk x155.Rule s187.1 s187.2 x155.Piv x155.Lits)) rfl rfl) c190) rfl ?_
                      refine ro rfl rfl (st_faP fo25_1 rfl) ?_
                      refine rx (L' := [(1002, .row 0 25 [[dB a1.Cubes, dL 5 e_S_api_Line a1.Lines]]), (1003, .row 0 25 [[dB false, .nilS]]), (1004, .row 0 25 [[dB false, .slice 1005 (g152 + 2) 0 ((s151 ++ [(S_api_Line.mk x155.Rule s187.1 s187.2 x155.Piv x155.Lits)]).length)]]), (1005, rw' (g152 + 2) 58 e_S_api_Line (s151 ++ [(S_api_Line.mk x155.Rule s187.1 s187.2 x155.Piv x155.Lits)])), (1006, .row 0 58 [[dI .u8 x155.Rule, dI .i64 s187.1, dI .i64 s187.2, dI .i64 x155.Piv, dL 1 (eI .i64) x155.Lits]]), (1007, .row 1 58 [[dI .u8 x155.Rule, dI .i64 s187.1, dI .i64 s187.2, dI .i64 x155.Piv, dL 1 (eI .i64) x155.Lits]])]) rfl rfl (st_stP ta23 rfl rfl rfl rfl rfl rfl rfl rfl) rfl ?_
                      refine rw_nil ?_
                      refine nx_block ?_
                      refine nx_then ?_
                      refine awp_rw ?_
                      refine ro rfl rfl (st_mv rfl) ?_
                      refine ro rfl rfl (st_inc rfl rfl hj154 hl154) ?_
                      refine ro rfl rfl (st_as rfl) ?_
                      refine rw_nil ?_
                      refine nx_then ?_
                      refine awp_gh ?_ (ih153 (s151 ++ [(S_api_Line.mk x155.Rule s187.1 s187.2 x155.Piv x155.Lits)]) (g152 + 2) h)
                      exact (gh_frz rfl rfl ⟨⟨_, rfl, .keep rfl⟩, ⟨_, rfl, .keep rfl⟩, ⟨_, rfl, .keep rfl⟩, ⟨_, rfl, .keep rfl⟩, ⟨_, rfl, .keep rfl⟩, ⟨_, rfl, .keep rfl⟩, ⟨_, rfl, .keep rfl⟩, ⟨_, rfl, .keep rfl⟩, trivial⟩ ⟨⟨_, rfl, objOne ⟨⟨rfl, .keep rfl⟩, ⟨rfl, .keep rfl⟩, trivial⟩⟩, ⟨_, rfl, objOne ⟨⟨rfl, .keep rfl⟩, ⟨rfl, .keep rfl⟩, trivial⟩⟩, ⟨_, rfl, objOne ⟨⟨rfl, .keep rfl⟩, ⟨rfl, .keep rfl⟩, trivial⟩⟩, ⟨_, rfl, objRow _⟩, trivial⟩)
                    · clear h
                      intro k189 h J189
                      refine awp_rs ?_
                      refine ro rfl rfl (st_faP fo58_0 rfl) ?_
                      refine ro rfl rfl (st_ldP (v := dI .u8 x155.Rule) ta56 rfl rfl rfl rfl) ?_
                      refine ro rfl rfl (st_bin (v := dB (x155.Rule == (2 : Int))) rfl rfl rfl) ?_
                      refine rw_nilk ?_
                      refine awp_ite (b := (x155.Rule == (2 : Int))) rfl (fun p191 => ?_) (fun p191 => ?_)
                      · replace h := ite_T p191 h
                        refine awp_rs ?_
                        refine ro rfl rfl (st_faP fo58_1 rfl) ?_
                        refine ro rfl rfl (st_ldP (v := dI .i64 x155.A) ta3 rfl rfl rfl rfl) ?_
                        refine ro rfl rfl (st_mv rfl) ?_
                        refine ro rfl rfl (st_bin (v := dI .i64 (IntKind.wrap .i64 (x155.A + ((a0.Lines.length : Nat) : Int)))) rfl rfl rfl) ?_
                        refine ro rfl rfl (st_faP fo58_1 rfl) ?_
                        refine rx (L' := [(1002, .row 0 25 [[dB a1.Cubes, dL 5 e_S_api_Line a1.Lines]]), (1003, .row 0 25 [[dB false, .nilS]]), (1004, .row 0 25 [[dB false, .slice 1005 g152 0 s151.length]]), (1005, rw' g152 58 e_S_api_Line s151), (1006, .row 0 58 [[dI .u8 x155.Rule, dI .i64 (IntKind.wrap .i64 (x155.A + ((a0.Lines.length : Nat) : Int))), dI .i64 x155.B, dI .i64 x155.Piv, dL 1 (eI .i64) x155.Lits]])]) rfl rfl (st_stP ta3 rfl rfl rfl rfl rfl rfl rfl rfl) rfl ?_
                        refine rw_nilk ?_
                        refine awp_rw ?_
                        refine ro rfl rfl (st_faP fo58_2 rfl) ?_
                        refine ro rfl rfl (st_ldP (v := dI .i64 x155.B) ta3 rfl rfl rfl rfl) ?_
                        refine ro rfl rfl (st_mv rfl) ?_
                        refine ro rfl rfl (st_bin (v := dI .i64 (IntKind.wrap .i64 (x155.B + ((a0.Lines.length : Nat) : Int)))) rfl rfl rfl) ?_
                        refine ro rfl rfl (st_faP fo58_2 rfl) ?_
                        refine rx (L' := [(1002, .row 0 25 [[dB a1.Cubes, dL 5 e_S_api_Line a1.Lines]]), (1003, .row 0 25 [[dB false, .nilS]]), (1004, .row 0 25 [[dB false, .slice 1005 g152 0 s151.length]]), (1005, rw' g152 58 e_S_api_Line s151), (1006, .row 0 58 [[dI .u8 x155.Rule, dI .i64 (IntKind.wrap .i64 (x155.A + ((a0.Lines.length : Nat) : Int))), dI .i64 (IntKind.wrap .i64 (x155.B + ((a0.Lines.length : Nat) : Int))), dI .i64 x155.Piv, dL 1 (eI .i64) x155.Lits]])]) rfl rfl (st_stP ta3 rfl rfl rfl rfl rfl rfl rfl rfl) rfl ?_
                        refine rw_nil ?_
                        refine nx_then ?_
                        exact J189 ((IntKind.wrap .i64 (x155.A + ((a0.Lines.length : Nat) : Int))), (IntKind.wrap .i64 (x155.B + ((a0.Lines.length : Nat) : Int)))) () _ _ h (gh_frz rfl rfl ⟨⟨_, rfl, .keep rfl⟩, ⟨_, rfl, .keep rfl⟩, ⟨_, rfl, .keep rfl⟩, ⟨_, rfl, .keep rfl⟩, ⟨_, rfl, .keep rfl⟩, ⟨_, rfl, .keep rfl⟩, ⟨_, rfl, .keep rfl⟩, ⟨_, rfl, .keep rfl⟩, ⟨_, rfl, .keep rfl⟩, trivial⟩ ⟨⟨_, rfl, objOne ⟨⟨rfl, .keep rfl⟩, ⟨rfl, .keep rfl⟩, trivial⟩⟩, ⟨_, rfl, objOne ⟨⟨rfl, .keep rfl⟩, ⟨rfl, .keep rfl⟩, trivial⟩⟩, ⟨_, rfl, objOne ⟨⟨rfl, .keep rfl⟩, ⟨rfl, .keep rfl⟩, trivial⟩⟩, ⟨_, rfl, objRow _⟩, ⟨_, rfl, objOne ⟨⟨rfl, .keep rfl⟩, ⟨rfl, .keep rfl⟩, ⟨rfl, .keep rfl⟩, ⟨rfl, .keep rfl⟩, ⟨rfl, .keep rfl⟩, trivial⟩⟩, trivial⟩)
                      · replace h := ite_F p191 h
                        refine awp_skip ?_
                        refine nx_then ?_
                        exact J189 (x155.A, x155.B) () _ _ h (gh_frz rfl rfl ⟨⟨_, rfl, .keep rfl⟩, ⟨_, rfl, .keep rfl⟩, ⟨_, rfl, .keep rfl⟩, ⟨_, rfl, .keep rfl⟩, ⟨_, rfl, .keep rfl⟩, ⟨_, rfl, .keep rfl⟩, ⟨_, rfl, .keep rfl⟩, ⟨_, rfl, .keep rfl⟩, ⟨_, rfl, .keep rfl⟩, trivial⟩ ⟨⟨_, rfl, objOne ⟨⟨rfl, .keep rfl⟩, ⟨rfl, .keep rfl⟩, trivial⟩⟩, ⟨_, rfl, objOne ⟨⟨rfl, .keep rfl⟩, ⟨rfl, .keep rfl⟩, trivial⟩⟩, ⟨_, rfl, objOne ⟨⟨rfl, .keep rfl⟩, ⟨rfl, .keep rfl⟩, trivial⟩⟩, ⟨_, rfl, objRow _⟩, ⟨_, rfl, objOne ⟨⟨rfl, .keep rfl⟩, ⟨rfl, .keep rfl⟩, ⟨rfl, .keep rfl⟩, ⟨rfl, .keep rfl⟩, ⟨rfl, .keep rfl⟩, trivial⟩⟩, trivial⟩)
                  · clear h
                    intro s151 g152 h
                    refine awp_seq ?_
                    refine awp_rs ?_
                    refine ro rfl rfl (st_mv rfl) ?_
                    refine ro rfl rfl (st_mv rfl) ?_
                    refine ro rfl rfl (st_bin (v := dB (decide (((a1.Lines.length : Nat) : Int) < ((a1.Lines.length : Nat) : Int)))) rfl rfl rfl) ?_
                    refine rw_nilk ?_
                    refine awp_ifF rfl dge ?_
                    refine awp_exit ?_
                    refine ex_out ?_
                    refine ex_out ?_
                    refine ex_in ?_
                    refine nx_then ?_
                    refine awp_rs ?_
                    refine ro rfl rfl (st_faP fo25_1 rfl) ?_
                    refine ro rfl rfl (st_ldP (v := .slice 1005 g152 0 s151.length) ta23 rfl rfl rfl rfl) ?_
                    refine ro rfl rfl (st_mv rfl) ?_
                    refine ro rfl rfl (st_bin (v := dI .i64 (IntKind.wrap .i64 (((a0.Lines.length : Nat) : Int) - (1 : Int)))) rfl rfl rfl) ?_
                    refine ro rfl rfl (st_mv rfl) ?_
                    refine ro rfl rfl (st_mv rfl) ?_
                    refine ro rfl rfl (st_bin (v := dI .i64 (IntKind.wrap .i64 (((a0.Lines.length : Nat) : Int) + ((a1.Lines.length : Nat) : Int)))) rfl rfl rfl) ?_
                    refine ro rfl rfl (st_bin (v := dI .i64 (IntKind.wrap .i64 ((IntKind.wrap .i64 (((a0.Lines.length : Nat) : Int) + ((a1.Lines.length : Nat) : Int))) - (1 : Int)))) rfl rfl rfl) ?_
                    refine ro rfl rfl (st_mv rfl) ?_
                    refine ro rfl rfl (st_mv rfl) ?_
                    refine ro rfl rfl (st_build (vs := [dI .u8 (2 : Int), dI .i64 (IntKind.wrap .i64 (((a0.Lines.length : Nat) : Int) - (1 : Int))), dI .i64 (IntKind.wrap .i64 ((IntKind.wrap .i64 (((a0.Lines.length : Nat) : Int) + ((a1.Lines.length : Nat) : Int))) - (1 : Int))), dI .i64 a2, dL 1 (eI .i64) y147.1]) bl58 rfl rfl) ?_
                    refine rn (r := 1008) rfl rfl (st_bsl (els := [[dI .u8 (2 : Int), dI .i64 (IntKind.wrap .i64 (((a0.Lines.length : Nat) : Int) - (1 : Int))), dI .i64 (IntKind.wrap .i64 ((IntKind.wrap .i64 (((a0.Lines.length : Nat) : Int) + ((a1.Lines.length : Nat) : Int))) - (1 : Int))), dI .i64 a2, dL 1 (eI .i64) y147.1]]) sl23 zc58 rfl rfl rfl rfl rfl) rfl ?_
                    obtain ⟨c192, h⟩ := capN_some h
                    refine rn (r := 0) (L' := [(1002, .row 0 25 [[dB a1.Cubes, dL 5 e_S_api_Line a1.Lines]]), (1003, .row 0 25 [[dB false, .nilS]]), (1004, .row 0 25 [[dB false, .slice 1005 g152 0 s151.length]]), (1005, rw' (g152 + 2) 58 e_S_api_Line (s151 ++ [(S_api_Line.mk (2 : Int) (IntKind.wrap .i64 (((a0.Lines.length : Nat) : Int) - (1 : Int))) (IntKind.wrap .i64 ((IntKind.wrap .i64 (((a0.Lines.length : Nat) : Int) + ((a1.Lines.length : Nat) : Int))) - (1 : Int))) a2 y147.1)])), (1008, .row 1 58 [[dI .u8 (2 : Int), dI .i64 (IntKind.wrap .i64 (((a0.Lines.length : Nat) : Int) - (1 : Int))), dI .i64 (IntKind.wrap .i64 ((IntKind.wrap .i64 (((a0.Lines.length : Nat) : Int) + ((a1.Lines.length : Nat) : Int))) - (1 : Int))), dI .i64 a2, dL 1 (eI .i64) y147.1]])]) rfl rfl (st_appR (f := e_S_api_Line) (xs := s151) (ys := [(S_api_Line.mk (2 : Int) (IntKind.wrap .i64 (((a0.Lines.length : Nat) : Int) - (1 : Int))) (IntKind.wrap .i64 ((IntKind.wrap .i64 (((a0.Lines.length : Nat) : Int) + ((a1.Lines.length : Nat) : Int))) - (1 : Int))) a2 y147.1)]) sl23 zc58 rfl rfl rfl rfl rfl (news_one (a := (S_api_Line.mk (2 : Int) (IntKind.wrap .i64 (((a0.Lines.length : Nat) : Int) - (1 : Int))) (IntKind.wrap .i64 ((IntKind.wrap .i64 (((a0.Lines.length : Nat) : Int) + ((a1.Lines.length : Nat) : Int))) - (1 : Int))) a2 y147.1)) rfl rfl) c192) rfl ?_
                    refine ro rfl rfl (st_faP fo25_1 rfl) ?_
                    refine rx (L' := [(1002, .row 0 25 [[dB a1.Cubes, dL 5 e_S_api_Line a1.Lines]]), (1003, .row 0 25 [[dB false, .nilS]]), (1004, .row 0 25 [[dB false, .slice 1005 (g152 + 2) 0 ((s151 ++ [(S_api_Line.mk (2 : Int) (IntKind.wrap .i64 (((a0.Lines.length : Nat) : Int) - (1 : Int))) (IntKind.wrap .i64 ((IntKind.wrap .i64 (((a0.Lines.length : Nat) : Int) + ((a1.Lines.length : Nat) : Int))) - (1 : Int))) a2 y147.1)]).length)]]), (1005, rw' (g152 + 2) 58 e_S_api_Line (s151 ++ [(S_api_Line.mk (2 : Int) (IntKind.wrap .i64 (((a0.Lines.length : Nat) : Int) - (1 : Int))) (IntKind.wrap .i64 ((IntKind.wrap .i64 (((a0.Lines.length : Nat) : Int) + ((a1.Lines.length : Nat) : Int))) - (1 : Int))) a2 y147.1)])), (1008, .row 1 58 [[dI .u8 (2 : Int), dI .i64 (IntKind.wrap .i64 (((a0.Lines.length : Nat) : Int) - (1 : Int))), dI .i64 (IntKind.wrap .i64 ((IntKind.wrap .i64 (((a0.Lines.length : Nat) : Int) + ((a1.Lines.length : Nat) : Int))) - (1 : Int))), dI .i64 a2, dL 1 (eI .i64) y147.1]])]) rfl rfl (st_stP ta23 rfl rfl rfl rfl rfl rfl rfl rfl) rfl ?_
                    refine rw_nilk ?_
                    refine awp_rs ?_
                    refine ro rfl rfl (st_ldP (v := .agg [dB false, .slice 1005 (g152 + 2) 0 ((s151 ++ [(S_api_Line.mk (2 : Int) (IntKind.wrap .i64 (((a0.Lines.length : Nat) : Int) - (1 : Int))) (IntKind.wrap .i64 ((IntKind.wrap .i64 (((a0.Lines.length : Nat) : Int) + ((a1.Lines.length : Nat) : Int))) - (1 : Int))) a2 y147.1)]).length)]) ta25 rfl rfl rfl rfl) ?_
                    refine rx (L' := [(1002, .row 0 25 [[dB a1.Cubes, dL 5 e_S_api_Line a1.Lines]]), (1003, .row 0 25 [[dB false, .slice 1005 (g152 + 2) 0 ((s151 ++ [(S_api_Line.mk (2 : Int) (IntKind.wrap .i64 (((a0.Lines.length : Nat) : Int) - (1 : Int))) (IntKind.wrap .i64 ((IntKind.wrap .i64 (((a0.Lines.length : Nat) : Int) + ((a1.Lines.length : Nat) : Int))) - (1 : Int))) a2 y147.1)]).length)]]), (1004, .row 0 25 [[dB false, .slice 1005 (g152 + 2) 0 ((s151 ++ [(S_api_Line.mk (2 : Int) (IntKind.wrap .i64 (((a0.Lines.length : Nat) : Int) - (1 : Int))) (IntKind.wrap .i64 ((IntKind.wrap .i64 (((a0.Lines.length : Nat) : Int) + ((a1.Lines.length : Nat) : Int))) - (1 : Int))) a2 y147.1)]).length)]]), (1005, rw' (g152 + 2) 58 e_S_api_Line (s151 ++ [(S_api_Line.mk (2 : Int) (IntKind.wrap .i64 (((a0.Lines.length : Nat) : Int) - (1 : Int))) (IntKind.wrap .i64 ((IntKind.wrap .i64 (((a0.Lines.length : Nat) : Int) + ((a1.Lines.length : Nat) : Int))) - (1 : Int))) a2 y147.1)])), (1008, .row 1 58 [[dI .u8 (2 : Int), dI .i64 (IntKind.wrap .i64 (((a0.Lines.length : Nat) : Int) - (1 : Int))), dI .i64 (IntKind.wrap .i64 ((IntKind.wrap .i64 (((a0.Lines.length : Nat) : Int) + ((a1.Lines.length : Nat) : Int))) - (1 : Int))), dI .i64 a2, dL 1 (eI .i64) y147.1]])]) rfl rfl (st_stP ta25 rfl rfl rfl rfl rfl rfl rfl rfl) rfl ?_
                    refine ro rfl rfl (st_as rfl) ?_
                    refine rw_nilk ?_
                    refine awp_ret ?_
                    injection h with h
                    subst h
                    exact ret_out (v := .tup [.agg [dB false, .slice 1005 (g152 + 2) 0 ((s151 ++ [(S_api_Line.mk (2 : Int) (IntKind.wrap .i64 (((a0.Lines.length : Nat) : Int) - (1 : Int))) (IntKind.wrap .i64 ((IntKind.wrap .i64 (((a0.Lines.length : Nat) : Int) + ((a1.Lines.length : Nat) : Int))) - (1 : Int))) a2 y147.1)]).length)], dI .i64 (0 : Int)]) (resV_many (resVs_cell (v := .agg [dB false, .slice 1005 (g152 + 2) 0 ((s151 ++ [(S_api_Line.mk (2 : Int) (IntKind.wrap .i64 (((a0.Lines.length : Nat) : Int) - (1 : Int))) (IntKind.wrap .i64 ((IntKind.wrap .i64 (((a0.Lines.length : Nat) : Int) + ((a1.Lines.length : Nat) : Int))) - (1 : Int))) a2 y147.1)]).length)]) ta25 rfl rfl rfl rfl (resVs_tmp rfl resVs_nil))) (frz_tup ⟨(frz_agg ⟨(.keep rfl), (frzT rfl rfl co58 rfl), trivial⟩), (.keep rfl), trivial⟩)
      · clear h
        intro k141 h J141
        refine awp_rw ?_
        refine ro rfl rfl (st_mv rfl) ?_
        obtain ⟨y193, hy193, h⟩ := bind_some_elim h
        refine rf rfl rfl (ok_skolemref09_Normal hy193) rfl rfl ?_
        refine ro rfl rfl (st_un (v := dB (!y193)) rfl rfl) ?_
        refine ro rfl rfl (st_mv rfl) ?_
        refine bool_split (!y193) (fun p194 => ?_) (fun p194 => ?_)
        · replace h := ite_T p194 h
          rw [p194]
          refine rz rfl rfl ?_
          refine rz rfl rfl ?_
          refine rz rfl rfl ?_
          refine ro rfl rfl (st_pickT rfl rfl) ?_
          refine rw_nil ?_
          refine nx_then ?_
          exact J141 true () _ _ h (gh_frz rfl rfl ⟨⟨_, rfl, .keep rfl⟩, ⟨_, rfl, .keep rfl⟩, ⟨_, rfl, .keep rfl⟩, ⟨_, rfl, .keep rfl⟩, ⟨_, rfl, .keep rfl⟩, ⟨_, rfl, .keep rfl⟩, ⟨_, rfl, .keep rfl⟩, ⟨_, rfl, .keep rfl⟩, ⟨_, rfl, .keep rfl⟩, trivial⟩ ⟨⟨_, rfl, objOne ⟨⟨rfl, .keep rfl⟩, ⟨rfl, .keep rfl⟩, trivial⟩⟩, ⟨_, rfl, objOne ⟨⟨rfl, .keep rfl⟩, ⟨rfl, .keep rfl⟩, trivial⟩⟩, ⟨_, rfl, objOne ⟨⟨rfl, .keep rfl⟩, ⟨rfl, .keep rfl⟩, trivial⟩⟩, trivial⟩)
        · replace h := ite_F p194 h
          rw [p194]
          refine ro rfl rfl (st_mv rfl) ?_
          obtain ⟨y195, hy195, h⟩ := bind_some_elim h
          refine rf rfl rfl (ok_skolemref09_Normal hy195) rfl rfl ?_
          refine ro rfl rfl (st_un (v := dB (!y195)) rfl rfl) ?_
          refine ro rfl rfl (st_pickF rfl rfl) ?_
          refine rw_nil ?_
          refine nx_then ?_
          exact J141 (!y195) () _ _ h (gh_frz rfl rfl ⟨⟨_, rfl, .keep rfl⟩, ⟨_, rfl, .keep rfl⟩, ⟨_, rfl, .keep rfl⟩, ⟨_, rfl, .keep rfl⟩, ⟨_, rfl, .keep rfl⟩, ⟨_, rfl, .keep rfl⟩, ⟨_, rfl, .keep rfl⟩, ⟨_, rfl, .keep rfl⟩, ⟨_, rfl, .keep rfl⟩, trivial⟩ ⟨⟨_, rfl, objOne ⟨⟨rfl, .keep rfl⟩, ⟨rfl, .keep rfl⟩, trivial⟩⟩, ⟨_, rfl, objOne ⟨⟨rfl, .keep rfl⟩, ⟨rfl, .keep rfl⟩, trivial⟩⟩, ⟨_, rfl, objOne ⟨⟨rfl, .keep rfl⟩, ⟨rfl, .keep rfl⟩, trivial⟩⟩, trivial⟩)
  · clear h
    intro k122 h J122
    refine awp_rw ?_
    refine ro rfl rfl (st_ldP (v := .agg [dB a0.Cubes, dL 5 e_S_api_Line a0.Lines]) ta25 rfl rfl rfl rfl) ?_
    obtain ⟨y196, hy196, h⟩ := bind_some_elim h
    refine rf rfl rfl (ok_skolemref10_Ordered hy196) rfl rfl ?_
    refine ro rfl rfl (st_un (v := dB (!y196)) rfl rfl) ?_
    refine ro rfl rfl (st_mv rfl) ?_
    refine bool_split (!y196) (fun p197 => ?_) (fun p197 => ?_)
    · replace h := ite_T p197 h
      rw [p197]
      refine rz rfl rfl ?_
      refine rz rfl rfl ?_
      refine rz rfl rfl ?_
      refine ro rfl rfl (st_pickT rfl rfl) ?_
      refine ro rfl rfl (st_mv rfl) ?_
      refine rz rfl rfl ?_
      refine rz rfl rfl ?_
      refine ro rfl rfl (st_pickT rfl rfl) ?_
      refine ro rfl rfl (st_mv rfl) ?_
      refine rz rfl rfl ?_
      refine rz rfl rfl ?_
      refine ro rfl rfl (st_pickT rfl rfl) ?_
      refine rw_nil ?_
      refine nx_then ?_
      exact J122 true () _ _ h (gh_frz rfl rfl ⟨⟨_, rfl, .keep rfl⟩, ⟨_, rfl, .keep rfl⟩, ⟨_, rfl, .keep rfl⟩, ⟨_, rfl, .keep rfl⟩, ⟨_, rfl, .keep rfl⟩, trivial⟩ ⟨⟨_, rfl, objOne ⟨⟨rfl, .keep rfl⟩, ⟨rfl, .keep rfl⟩, trivial⟩⟩, ⟨_, rfl, objOne ⟨⟨rfl, .keep rfl⟩, ⟨rfl, .keep rfl⟩, trivial⟩⟩, ⟨_, rfl, objOne ⟨⟨rfl, .keep rfl⟩, ⟨rfl, .keep rfl⟩, trivial⟩⟩, trivial⟩)
    · replace h := ite_F p197 h
      rw [p197]
      refine ro rfl rfl (st_ldP (v := .agg [dB a1.Cubes, dL 5 e_S_api_Line a1.Lines]) ta25 rfl rfl rfl rfl) ?_
      obtain ⟨y198, hy198, h⟩ := bind_some_elim h
      refine rf rfl rfl (ok_skolemref10_Ordered hy198) rfl rfl ?_
      refine ro rfl rfl (st_un (v := dB (!y198)) rfl rfl) ?_
      refine ro rfl rfl (st_pickF rfl rfl) ?_
      refine ro rfl rfl (st_mv rfl) ?_
      refine bool_split (!y198) (fun p199 => ?_) (fun p199 => ?_)
      · replace h := ite_T p199 h
        rw [p199]
        refine rz rfl rfl ?_
        refine rz rfl rfl ?_
        refine ro rfl rfl (st_pickT rfl rfl) ?_
        refine ro rfl rfl (st_mv rfl) ?_
        refine rz rfl rfl ?_
        refine rz rfl rfl ?_
        refine ro rfl rfl (st_pickT rfl rfl) ?_
        refine rw_nil ?_
        refine nx_then ?_
        exact J122 true () _ _ h (gh_frz rfl rfl ⟨⟨_, rfl, .keep rfl⟩, ⟨_, rfl, .keep rfl⟩, ⟨_, rfl, .keep rfl⟩, ⟨_, rfl, .keep rfl⟩, ⟨_, rfl, .keep rfl⟩, trivial⟩ ⟨⟨_, rfl, objOne ⟨⟨rfl, .keep rfl⟩, ⟨rfl, .keep rfl⟩, trivial⟩⟩, ⟨_, rfl, objOne ⟨⟨rfl, .keep rfl⟩, ⟨rfl, .keep rfl⟩, trivial⟩⟩, ⟨_, rfl, objOne ⟨⟨rfl, .keep rfl⟩, ⟨rfl, .keep rfl⟩, trivial⟩⟩, trivial⟩)
      · replace h := ite_F p199 h
        rw [p199]
        refine ro rfl rfl (st_mv rfl) ?_
        refine ro rfl rfl (st_bin (v := dB (decide (a2 < (1 : Int)))) rfl rfl rfl) ?_
        refine ro rfl rfl (st_pickF rfl rfl) ?_
        refine ro rfl rfl (st_mv rfl) ?_
        refine bool_split (decide (a2 < (1 : Int))) (fun p200 => ?_) (fun p200 => ?_)
        · replace h := ite_T p200 h
          rw [p200]
          refine rz rfl rfl ?_
          refine rz rfl rfl ?_
          refine ro rfl rfl (st_pickT rfl rfl) ?_
          refine rw_nil ?_
          refine nx_then ?_
          exact J122 true () _ _ h (gh_frz rfl rfl ⟨⟨_, rfl, .keep rfl⟩, ⟨_, rfl, .keep rfl⟩, ⟨_, rfl, .keep rfl⟩, ⟨_, rfl, .keep rfl⟩, ⟨_, rfl, .keep rfl⟩, trivial⟩ ⟨⟨_, rfl, objOne ⟨⟨rfl, .keep rfl⟩, ⟨rfl, .keep rfl⟩, trivial⟩⟩, ⟨_, rfl, objOne ⟨⟨rfl, .keep rfl⟩, ⟨rfl, .keep rfl⟩, trivial⟩⟩, ⟨_, rfl, objOne ⟨⟨rfl, .keep rfl⟩, ⟨rfl, .keep rfl⟩, trivial⟩⟩, trivial⟩)
        · replace h := ite_F p200 h
          rw [p200]
          refine ro rfl rfl (st_mv rfl) ?_
          refine ro rfl rfl (st_bin (v := dB (decide (a2 > (65536 : Int)))) rfl rfl rfl) ?_
          refine ro rfl rfl (st_pickF rfl rfl) ?_
          refine rw_nil ?_
          refine nx_then ?_
          exact J122 (decide (a2 > (65536 : Int))) () _ _ h (gh_frz rfl rfl ⟨⟨_, rfl, .keep rfl⟩, ⟨_, rfl, .keep rfl⟩, ⟨_, rfl, .keep rfl⟩, ⟨_, rfl, .keep rfl⟩, ⟨_, rfl, .keep rfl⟩, trivial⟩ ⟨⟨_, rfl, objOne ⟨⟨rfl, .keep rfl⟩, ⟨rfl, .keep rfl⟩, trivial⟩⟩, ⟨_, rfl, objOne ⟨⟨rfl, .keep rfl⟩, ⟨rfl, .keep rfl⟩, trivial⟩⟩, ⟨_, rfl, objOne ⟨⟨rfl, .keep rfl⟩, ⟨rfl, .keep rfl⟩, trivial⟩⟩, trivial⟩)

theorem ok_skolemlaw10_ProofJoins {a0 : S_api_Proof} {a1 : S_api_Proof} {a2 : Int} {r : Bool} (h : F_skolemlaw10_ProofJoins a0 a1 a2 = some r) : Fn Try.prog 9 [.agg [dB a0.Cubes, dL 5 e_S_api_Line a0.Lines], .agg [dB a1.Cubes, dL 5 e_S_api_Line a1.Lines], dI .i64 a2] (dB r) := by
  unfold F_skolemlaw10_ProofJoins at h
  refine Fn.of_body (N := 43) (rs := [.tmp 6]) Try.func9 (c := _) rfl rfl rfl (by kernel_rfl) (Nat.le_of_ble_eq_true rfl) (fun _B => ?_)
  refine awp_rs ?_
  refine rn (r := 1001) rfl rfl (st_box rfl rfl rfl co25 rfl rfl) rfl ?_
  refine rn (r := 1002) rfl rfl (st_box rfl rfl rfl co25 rfl rfl) rfl ?_
  refine ro rfl rfl (st_as rfl) ?_
  refine rw_nilk ?_
  refine awp_seq ?_
  refine awp_jn (fun (s115 : Bool) (g116 : Unit) => [(2, dI .i64 a2), (3, .ptr 1001 0 0 0), (4, .ptr 1002 0 0 0), (16, dB s115)]) (fun (s115 : Bool) (g116 : Unit) => [(1001, .row 0 25 [[dB a0.Cubes, dL 5 e_S_api_Line a0.Lines]]), (1002, .row 0 25 [[dB a1.Cubes, dL 5 e_S_api_Line a1.Lines]])]) h ?_ ?_
  · clear h
    intro s115 g116 h
    refine awp_ite (b := s115) rfl (fun p118 => ?_) (fun p118 => ?_)
    · replace h := ite_T p118 h
      refine awp_rs ?_
      obtain ⟨y119, hy119, h⟩ := bind_some_elim h
      refine rf rfl rfl (ok_skolemlaw10_head hy119) rfl rfl ?_
      refine ro rfl rfl (st_as rfl) ?_
      refine rw_nilk ?_
      refine awp_ret ?_
      refine rt_then ?_
      injection h with h
      subst h
      exact ret_out (v := dB y119) (resV_one (resVs_tmp rfl resVs_nil)) (.keep rfl)
    · replace h := ite_F p118 h
      refine awp_skip ?_
      refine nx_then ?_
      refine awp_rs ?_
      refine ro rfl rfl (st_ldP (v := .agg [dB a0.Cubes, dL 5 e_S_api_Line a0.Lines]) ta25 rfl rfl rfl rfl) ?_
      refine ro rfl rfl (st_ldP (v := .agg [dB a1.Cubes, dL 5 e_S_api_Line a1.Lines]) ta25 rfl rfl rfl rfl) ?_
      refine ro rfl rfl (st_mv rfl) ?_
      obtain ⟨y120, hy120, h⟩ := bind_some_elim h
      refine rf rfl rfl (ok_proof_Join hy120) rfl rfl ?_
      refine ro rfl rfl (st_mv rfl) ?_
      refine ro rfl rfl (st_ext rfl rfl) ?_
      refine ro rfl rfl (st_ext rfl rfl) ?_
      refine rn (r := 1003) rfl rfl (st_alloc zc25 rfl rfl) rfl ?_
      refine rx (L' := [(1001, .row 0 25 [[dB a0.Cubes, dL 5 e_S_api_Line a0.Lines]]), (1002, .row 0 25 [[dB a1.Cubes, dL 5 e_S_api_Line a1.Lines]]), (1003, .row 0 25 [[dB y120.1.Cubes, dL 5 e_S_api_Line y120.1.Lines]])]) rfl rfl (st_stP ta25 rfl rfl rfl rfl rfl rfl rfl rfl) rfl ?_
      refine ro rfl rfl (st_as rfl) ?_
      refine rw_nilk ?_
      refine awp_rs ?_
      refine ro rfl rfl (st_ldP (v := .agg [dB a0.Cubes, dL 5 e_S_api_Line a0.Lines]) ta25 rfl rfl rfl rfl) ?_
      refine ro rfl rfl (st_ldP (v := .agg [dB a1.Cubes, dL 5 e_S_api_Line a1.Lines]) ta25 rfl rfl rfl rfl) ?_
      refine ro rfl rfl (st_mv rfl) ?_
      obtain ⟨y121, hy121, h⟩ := bind_some_elim h
      refine rf rfl rfl (ok_skolemref10_Join hy121) rfl rfl ?_
      refine ro rfl rfl (st_mv rfl) ?_
      refine ro rfl rfl (st_ext rfl rfl) ?_
      refine ro rfl rfl (st_ext rfl rfl) ?_
      refine rn (r := 1004) rfl rfl (st_alloc zc25 rfl rfl) rfl ?_
      refine rx (L' := [(1001, .row 0 25 [[dB a0.Cubes, dL 5 e_S_api_Line a0.Lines]]), (1002, .row 0 25 [[dB a1.Cubes, dL 5 e_S_api_Line a1.Lines]]), (1003, .row 0 25 [[dB y120.1.Cubes, dL 5 e_S_api_Line y120.1.Lines]]), (1004, .row 0 25 [[dB y121.1.Cubes, dL 5 e_S_api_Line y121.1.Lines]])]) rfl rfl (st_stP ta25 rfl rfl rfl rfl rfl rfl rfl rfl) rfl ?_
      refine ro rfl rfl (st_as rfl) ?_
      refine rw_nilk ?_
      refine awp_rs ?_
      refine ro rfl rfl (st_ldP (v := .agg [dB y120.1.Cubes, dL 5 e_S_api_Line y120.1.Lines]) ta25 rfl rfl rfl rfl) ?_
      refine ro rfl rfl (st_ldP (v := .agg [dB y121.1.Cubes, dL 5 e_S_api_Line y121.1.Lines]) ta25 rfl rfl rfl rfl) ?_
      obtain ⟨y126, hy126, h⟩ := bind_some_elim h
      refine rf rfl rfl (ok_skolemref09_SameProof hy126) rfl rfl ?_
      refine ro rfl rfl (st_mv rfl) ?_
      refine bool_split y126 (fun p127 => ?_) (fun p127 => ?_)
      · replace h := ite_T p127 h
        rw [p127]
        refine ro rfl rfl (st_mv rfl) ?_
        refine ro rfl rfl (st_mv rfl) ?_
        refine ro rfl rfl (st_bin (v := dB (y120.2 == y121.2)) rfl rfl rfl) ?_
        refine ro rfl rfl (st_pickT rfl rfl) ?_
        refine ro rfl rfl (st_mv rfl) ?_
        refine bool_split (y120.2 == y121.2) (fun p128 => ?_) (fun p128 => ?_)
        · replace h := ite_T p128 h
          rw [p128]
          obtain ⟨y129, hy129, h⟩ := bind_some_elim h
          refine rf rfl rfl (ok_skolemlaw10_head hy129) rfl rfl ?_
          refine ro rfl rfl (st_pickT rfl rfl) ?_
          refine ro rfl rfl (st_as rfl) ?_
          refine rw_nilk ?_
          refine awp_ret ?_
          injection h with h
          subst h
          exact ret_out (v := dB y129) (resV_one (resVs_tmp rfl resVs_nil)) (.keep rfl)
        · replace h := ite_F p128 h
          rw [p128]
          refine rz rfl rfl ?_
          refine ro rfl rfl (st_pickF rfl rfl) ?_
          refine ro rfl rfl (st_as rfl) ?_
          refine rw_nilk ?_
          refine awp_ret ?_
          injection h with h
          subst h
          exact ret_out (v := dB false) (resV_one (resVs_tmp rfl resVs_nil)) (.keep rfl)
      · replace h := ite_F p127 h
        rw [p127]
        refine rz rfl rfl ?_
        refine rz rfl rfl ?_
        refine rz rfl rfl ?_
        refine ro rfl rfl (st_pickF rfl rfl) ?_
        refine ro rfl rfl (st_mv rfl) ?_
        refine rz rfl rfl ?_
        refine ro rfl rfl (st_pickF rfl rfl) ?_
        refine ro rfl rfl (st_as rfl) ?_
        refine rw_nilk ?_
        refine awp_ret ?_
        injection h with h
        subst h
        exact ret_out (v := dB false) (resV_one (resVs_tmp rfl resVs_nil)) (.keep rfl)
  · clear h
    intro k117 h J117
    refine awp_rw ?_
    refine ro rfl rfl (st_ldP (v := .agg [dB a0.Cubes, dL 5 e_S_api_Line a0.Lines]) ta25 rfl rfl rfl rfl) ?_
    obtain ⟨y130, hy130, h⟩ := bind_some_elim h
    refine rfz rfl rfl (ok_skolemlaw10_large hy130) rfl ⟨.nil _, .keep _, trivial⟩ rfl ?_
    refine ro rfl rfl (st_mv rfl) ?_
    refine bool_split y130 (fun p131 => ?_) (fun p131 => ?_)
    · replace h := ite_T p131 h
      rw [p131]
      refine rz rfl rfl ?_
      refine rz rfl rfl ?_
      refine ro rfl rfl (st_pickT rfl rfl) ?_
      refine rw_nil ?_
      refine nx_then ?_
      exact J117 true () _ _ h (gh_frz rfl rfl ⟨⟨_, rfl, .keep rfl⟩, ⟨_, rfl, .keep rfl⟩, ⟨_, rfl, .keep rfl⟩, ⟨_, rfl, .keep rfl⟩, trivial⟩ ⟨⟨_, rfl, objOne ⟨⟨rfl, .keep rfl⟩, ⟨rfl, .keep rfl⟩, trivial⟩⟩, ⟨_, rfl, objOne ⟨⟨rfl, .keep rfl⟩, ⟨rfl, .keep rfl⟩, trivial⟩⟩, trivial⟩)
    · replace h := ite_F p131 h
      rw [p131]
      refine ro rfl rfl (st_ldP (v := .agg [dB a1.Cubes, dL 5 e_S_api_Line a1.Lines]) ta25 rfl rfl rfl rfl) ?_
      obtain ⟨y132, hy132, h⟩ := bind_some_elim h
      refine rfz rfl rfl (ok_skolemlaw10_large hy132) rfl ⟨.nil _, .keep _, trivial⟩ rfl ?_
      refine ro rfl rfl (st_pickF rfl rfl) ?_
      refine rw_nil ?_
      refine nx_then ?_
      exact J117 y132 () _ _ h (gh_frz rfl rfl ⟨⟨_, rfl, .keep rfl⟩, ⟨_, rfl, .keep rfl⟩, ⟨_, rfl, .keep rfl⟩, ⟨_, rfl, .keep rfl⟩, trivial⟩ ⟨⟨_, rfl, objOne ⟨⟨rfl, .keep rfl⟩, ⟨rfl, .keep rfl⟩, trivial⟩⟩, ⟨_, rfl, objOne ⟨⟨rfl, .keep rfl⟩, ⟨rfl, .keep rfl⟩, trivial⟩⟩, trivial⟩)
end Go.Sk.X
