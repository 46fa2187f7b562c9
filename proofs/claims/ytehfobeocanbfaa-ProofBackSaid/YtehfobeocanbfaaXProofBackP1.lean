/- The program computes these plain functions (law ProofBack, part 1). It has no conditions. -/
import Derived.Test.YtehfobeocanbfaaProg
import Derived.Test.YtehfobeocanbfaaSk7
import Derived.Test.YtehfobeocanbfaaSk5
import Derived.Test.YtehfobeocanbfaaXProofBackF
import Derived.KernelRfl
import Derived.Tactics2
import Derived.TacticsInMore
import Derived.LaidEql
set_option linter.unusedVariables false
set_option linter.unusedSimpArgs false
set_option maxRecDepth 100000
set_option maxHeartbeats 4000000
namespace Go.Sk.X
open Go Go.Sk Go.Proofs
abbrev e_S_proof_source (x : S_proof_source) : List Dat := [.sl 1 (x.b.map (eI .u8))]
abbrev e_S_api_Line (x : S_api_Line) : List Dat := [.int .u8 x.Rule, .int .i64 x.A, .int .i64 x.B, .int .i64 x.Piv, .sl 1 (x.Lits.map (eI .i64))]
abbrev e_S_api_Proof (x : S_api_Proof) : List Dat := [.bool x.Cubes, .sl 5 (x.Lines.map e_S_api_Line)]
abbrev e_S_skolemref10_reader (x : S_skolemref10_reader) : List Dat := [.sl 1 (x.B.map (eI .u8)), .bool x.Bad]
theorem hmix : (Go.Proofs.Try.prog).follows .mixedOrders = true := by kernel_rfl
theorem ta3 : tAgg Go.Proofs.Try.prog 3 = some (false, 1) := by kernel_rfl
theorem co3 : Program.cellsOf Go.Proofs.Try.prog 3 = 1 := by kernel_rfl
theorem un3 : Program.underlying Go.Proofs.Try.prog 3 = some (.int .i64) := Go.Proofs.Try.underlying3
theorem zc3 : zCells Go.Proofs.Try.prog 3 = some [.dat (.int .i64 0)] := by kernel_rfl
theorem ta4 : tAgg Go.Proofs.Try.prog 4 = some (false, 1) := by kernel_rfl
theorem un4 : Program.underlying Go.Proofs.Try.prog 4 = some .bool := Go.Proofs.Try.underlying4
theorem ta5 : tAgg Go.Proofs.Try.prog 5 = some (false, 1) := by kernel_rfl
theorem co5 : Program.cellsOf Go.Proofs.Try.prog 5 = 1 := by kernel_rfl
theorem un5 : Program.underlying Go.Proofs.Try.prog 5 = some (.int .u8) := Go.Proofs.Try.underlying5
theorem zc5 : zCells Go.Proofs.Try.prog 5 = some [.dat (.int .u8 0)] := by kernel_rfl
theorem un9 : Program.underlying Go.Proofs.Try.prog 9 = some .string := Go.Proofs.Try.underlying9
theorem un22 : Program.underlying Go.Proofs.Try.prog 22 = some (.slice 28) := Go.Proofs.Try.underlying22
theorem sl22 : slE Go.Proofs.Try.prog 22 = some (28, 1, 24) := by kernel_rfl
theorem ta23 : tAgg Go.Proofs.Try.prog 23 = some (false, 1) := by kernel_rfl
theorem un23 : Program.underlying Go.Proofs.Try.prog 23 = some (.slice 58) := Go.Proofs.Try.underlying23
theorem sl23 : slE Go.Proofs.Try.prog 23 = some (58, 5, 56) := by kernel_rfl
theorem ta25 : tAgg Go.Proofs.Try.prog 25 = some (true, 2) := by kernel_rfl
theorem co25 : Program.cellsOf Go.Proofs.Try.prog 25 = 2 := by kernel_rfl
theorem fo25_0 : fOff Go.Proofs.Try.prog 25 0 = some (0, 1, false) := by kernel_rfl
theorem fo25_1 : fOff Go.Proofs.Try.prog 25 1 = some (1, 1, false) := by kernel_rfl
theorem zc25 : zCells Go.Proofs.Try.prog 25 = some [.dat (.bool false), .nilS] := by kernel_rfl
theorem ta28 : tAgg Go.Proofs.Try.prog 28 = some (false, 1) := by kernel_rfl
theorem un28 : Program.underlying Go.Proofs.Try.prog 28 = some (.slice 3) := Go.Proofs.Try.underlying28
theorem sl28 : slE Go.Proofs.Try.prog 28 = some (3, 1, 8) := by kernel_rfl
theorem un48 : Program.underlying Go.Proofs.Try.prog 48 = some (.int .u64) := Go.Proofs.Try.underlying48
theorem ta56 : tAgg Go.Proofs.Try.prog 56 = some (false, 1) := by kernel_rfl
theorem ta58 : tAgg Go.Proofs.Try.prog 58 = some (true, 5) := by kernel_rfl
theorem co58 : Program.cellsOf Go.Proofs.Try.prog 58 = 5 := by kernel_rfl
theorem fo58_0 : fOff Go.Proofs.Try.prog 58 0 = some (0, 1, false) := by kernel_rfl
theorem fo58_1 : fOff Go.Proofs.Try.prog 58 1 = some (1, 1, false) := by kernel_rfl
theorem fo58_2 : fOff Go.Proofs.Try.prog 58 2 = some (2, 1, false) := by kernel_rfl
theorem fo58_3 : fOff Go.Proofs.Try.prog 58 3 = some (3, 1, false) := by kernel_rfl
theorem fo58_4 : fOff Go.Proofs.Try.prog 58 4 = some (4, 1, false) := by kernel_rfl
theorem zc58 : zCells Go.Proofs.Try.prog 58 = some [.dat (.int .u8 0), .dat (.int .i64 0), .dat (.int .i64 0), .dat (.int .i64 0), .nilS] := by kernel_rfl
theorem bl58 : bLay Go.Proofs.Try.prog 58 = some ([.dat (.int .u8 0), .dat (.int .i64 0), .dat (.int .i64 0), .dat (.int .i64 0), .nilS], .list [(0, 1), (1, 1), (2, 1), (3, 1), (4, 1)]) := by kernel_rfl
theorem ta67 : tAgg Go.Proofs.Try.prog 67 = some (false, 1) := by kernel_rfl
theorem un67 : Program.underlying Go.Proofs.Try.prog 67 = some (.slice 5) := Go.Proofs.Try.underlying67
theorem sl67 : slE Go.Proofs.Try.prog 67 = some (5, 1, 1) := by kernel_rfl
theorem zc67 : zCells Go.Proofs.Try.prog 67 = some [.nilS] := by kernel_rfl
theorem fo103_0 : fOff Go.Proofs.Try.prog 103 0 = some (0, 1, false) := by kernel_rfl
theorem ic101 : isConc Try.prog 101 = true := by kernel_rfl

theorem ok_skolemlaw10_large {a0 : (List (List Int))} {a1 : S_api_Proof} {r : Bool} (h : F_skolemlaw10_large a0 a1 = some r) : Fn Try.prog 12 [dL 1 (eL 1 (eI .i64)) a0, .agg [dB a1.Cubes, dL 5 e_S_api_Line a1.Lines]] (dB r) := by
  unfold F_skolemlaw10_large at h
  refine Fn.of_body (N := 55) (rs := [.tmp 4]) Try.func12 (c := _) rfl rfl rfl (by kernel_rfl) (Nat.le_of_ble_eq_true rfl) (fun _B => ?_)
  refine awp_rs ?_
  refine rn (r := 1001) rfl rfl (st_box rfl rfl rfl co25 rfl rfl) rfl ?_
  refine ro rfl rfl (st_as rfl) ?_
  refine rw_nilk ?_
  refine awp_rs ?_
  refine ro rfl rfl (st_as rfl) ?_
  refine ro rfl rfl (st_as rfl) ?_
  refine rw_nilk ?_
  refine awp_seq ?_
  refine awp_rs ?_
  refine ro rfl rfl (st_as rfl) ?_
  refine rw_nilk ?_
  refine awp_block ?_
  refine awp_len (t := 0) rfl (fun hl104 => ?_)
  rw [List.length_map] at hl104
  refine awp_range (fun (j104 : Nat) (s101 : Int) (g102 : Unit) => [(0, dL 1 (eL 1 (eI .i64)) a0), (3, .ptr 1001 0 0 0), (5, dI .i64 s101), (6, dI .i64 (0 : Int)), (7, dI .i64 ((j104 : Nat) : Int))]) (fun (s101 : Int) (g102 : Unit) => [(1001, .row 0 25 [[dB a1.Cubes, dL 5 e_S_api_Line a1.Lines]])]) () (fun _ _ _ h => h) h (gh_frz rfl rfl ⟨⟨_, rfl, .keep rfl⟩, ⟨_, rfl, .keep rfl⟩, ⟨_, rfl, .keep rfl⟩, ⟨_, rfl, .keep rfl⟩, ⟨_, rfl, .keep rfl⟩, trivial⟩ ⟨⟨_, rfl, objOne ⟨⟨rfl, .keep rfl⟩, ⟨rfl, .keep rfl⟩, trivial⟩⟩, trivial⟩) ?_ ?_
  · clear h
    intro j104 x105 s101 g102 k103 hj104 hx104 h ih103
    refine awp_seq ?_
    refine awp_rs ?_
    refine ro rfl rfl (st_mv rfl) ?_
    refine ro rfl rfl (st_mv rfl) ?_
    refine ro rfl rfl (st_lenD rfl un22) ?_
    refine ro rfl rfl (st_bin (v := dB (decide (((j104 : Nat) : Int) < ((a0.length : Nat) : Int)))) rfl rfl rfl) ?_
    refine rw_nilk ?_
    refine awp_ifT rfl (dlt hj104) ?_
    refine awp_skip ?_
    refine nx_then ?_
    refine awp_seq ?_
    refine awp_block ?_
    refine awp_rw ?_
    refine ro rfl rfl (st_mv rfl) ?_
    refine ro rfl rfl (st_mv rfl) ?_
    refine ro rfl rfl (st_mv rfl) ?_
    refine ro rfl rfl (st_ixDn sl22 rfl rfl hx104) ?_
    refine ro rfl rfl (st_ldD (v := dL 1 (eI .i64) x105) ta28 rfl rfl) ?_
    refine ro rfl rfl (st_lenD rfl un28) ?_
    refine ro rfl rfl (st_bin (v := dI .i64 (IntKind.wrap .i64 (s101 + ((x105.length : Nat) : Int)))) rfl rfl rfl) ?_
    refine ro rfl rfl (st_as rfl) ?_
    refine rw_nil ?_
    refine nx_block ?_
    refine nx_then ?_
    refine awp_rw ?_
    refine ro rfl rfl (st_mv rfl) ?_
    refine ro rfl rfl (st_inc rfl rfl hj104 hl104) ?_
    refine ro rfl rfl (st_as rfl) ?_
    refine rw_nil ?_
    refine nx_then ?_
    refine awp_gh ?_ (ih103 (IntKind.wrap .i64 (s101 + ((x105.length : Nat) : Int))) () h)
    exact (gh_frz rfl rfl ⟨⟨_, rfl, .keep rfl⟩, ⟨_, rfl, .keep rfl⟩, ⟨_, rfl, .keep rfl⟩, ⟨_, rfl, .keep rfl⟩, ⟨_, rfl, .keep rfl⟩, trivial⟩ ⟨⟨_, rfl, objOne ⟨⟨rfl, .keep rfl⟩, ⟨rfl, .keep rfl⟩, trivial⟩⟩, trivial⟩)
  · clear h
    intro s101 g102 h
    refine awp_seq ?_
    refine awp_rs ?_
    refine ro rfl rfl (st_mv rfl) ?_
    refine ro rfl rfl (st_mv rfl) ?_
    refine ro rfl rfl (st_lenD rfl un22) ?_
    refine ro rfl rfl (st_bin (v := dB (decide (((a0.length : Nat) : Int) < ((a0.length : Nat) : Int)))) rfl rfl rfl) ?_
    refine rw_nilk ?_
    refine awp_ifF rfl dge ?_
    refine awp_exit ?_
    refine ex_out ?_
    refine ex_out ?_
    refine ex_in ?_
    refine nx_then ?_
    refine awp_seq ?_
    refine awp_rs ?_
    refine ro rfl rfl (st_as rfl) ?_
    refine rw_nilk ?_
    refine awp_block ?_
    refine awp_lenC (r := 1001) (i := 1) rfl rfl (fun hl109 => ?_)
    rw [List.length_map] at hl109
    refine awp_range (fun (j109 : Nat) (s106 : Int) (g107 : Unit) => [(0, dL 1 (eL 1 (eI .i64)) a0), (3, .ptr 1001 0 0 0), (5, dI .i64 s101), (6, dI .i64 s106), (8, dI .i64 ((j109 : Nat) : Int))]) (fun (s106 : Int) (g107 : Unit) => [(1001, .row 0 25 [[dB a1.Cubes, dL 5 e_S_api_Line a1.Lines]])]) () (fun _ _ _ h => h) h (gh_frz rfl rfl ⟨⟨_, rfl, .keep rfl⟩, ⟨_, rfl, .keep rfl⟩, ⟨_, rfl, .keep rfl⟩, ⟨_, rfl, .keep rfl⟩, ⟨_, rfl, .keep rfl⟩, trivial⟩ ⟨⟨_, rfl, objOne ⟨⟨rfl, .keep rfl⟩, ⟨rfl, .keep rfl⟩, trivial⟩⟩, trivial⟩) ?_ ?_
    · clear h
      intro j109 x110 s106 g107 k108 hj109 hx109 h ih108
      refine awp_seq ?_
      refine awp_rs ?_
      refine ro rfl rfl (st_mv rfl) ?_
      refine ro rfl rfl (st_faP fo25_1 rfl) ?_
      refine ro rfl rfl (st_ldP (v := dL 5 e_S_api_Line a1.Lines) ta23 rfl rfl rfl rfl) ?_
      refine ro rfl rfl (st_lenD rfl un23) ?_
      refine ro rfl rfl (st_bin (v := dB (decide (((j109 : Nat) : Int) < ((a1.Lines.length : Nat) : Int)))) rfl rfl rfl) ?_
      refine rw_nilk ?_
      refine awp_ifT rfl (dlt hj109) ?_
      refine awp_skip ?_
      refine nx_then ?_
      refine awp_seq ?_
      refine awp_block ?_
      refine awp_rw ?_
      refine ro rfl rfl (st_mv rfl) ?_
      refine ro rfl rfl (st_faP fo25_1 rfl) ?_
      refine ro rfl rfl (st_ldP (v := dL 5 e_S_api_Line a1.Lines) ta23 rfl rfl rfl rfl) ?_
      refine ro rfl rfl (st_mv rfl) ?_
      refine ro rfl rfl (st_ixDn sl23 rfl rfl hx109) ?_
      refine ro rfl rfl (st_faD fo58_4 rfl) ?_
      refine ro rfl rfl (st_ldD (v := dL 1 (eI .i64) x110.Lits) ta28 rfl rfl) ?_
      refine ro rfl rfl (st_lenD rfl un28) ?_
      refine ro rfl rfl (st_bin (v := dI .i64 (IntKind.wrap .i64 (s106 + ((x110.Lits.length : Nat) : Int)))) rfl rfl rfl) ?_
      refine ro rfl rfl (st_as rfl) ?_
      refine rw_nil ?_
      refine nx_block ?_
      refine nx_then ?_
      refine awp_rw ?_
      refine ro rfl rfl (st_mv rfl) ?_
      refine ro rfl rfl (st_inc rfl rfl hj109 hl109) ?_
      refine ro rfl rfl (st_as rfl) ?_
      refine rw_nil ?_
      refine nx_then ?_
      refine awp_gh ?_ (ih108 (IntKind.wrap .i64 (s106 + ((x110.Lits.length : Nat) : Int))) () h)
      exact (gh_frz rfl rfl ⟨⟨_, rfl, .keep rfl⟩, ⟨_, rfl, .keep rfl⟩, ⟨_, rfl, .keep rfl⟩, ⟨_, rfl, .keep rfl⟩, ⟨_, rfl, .keep rfl⟩, trivial⟩ ⟨⟨_, rfl, objOne ⟨⟨rfl, .keep rfl⟩, ⟨rfl, .keep rfl⟩, trivial⟩⟩, trivial⟩)
    · clear h
      intro s106 g107 h
      refine awp_seq ?_
      refine awp_rs ?_
      refine ro rfl rfl (st_mv rfl) ?_
      refine ro rfl rfl (st_faP fo25_1 rfl) ?_
      refine ro rfl rfl (st_ldP (v := dL 5 e_S_api_Line a1.Lines) ta23 rfl rfl rfl rfl) ?_
      refine ro rfl rfl (st_lenD rfl un23) ?_
      refine ro rfl rfl (st_bin (v := dB (decide (((a1.Lines.length : Nat) : Int) < ((a1.Lines.length : Nat) : Int)))) rfl rfl rfl) ?_
      refine rw_nilk ?_
      refine awp_ifF rfl dge ?_
      refine awp_exit ?_
      refine ex_out ?_
      refine ex_out ?_
      refine ex_in ?_
      refine nx_then ?_
      refine awp_rs ?_
      refine ro rfl rfl (st_mv rfl) ?_
      refine ro rfl rfl (st_lenD rfl un22) ?_
      refine ro rfl rfl (st_bin (v := dB (decide (((a0.length : Nat) : Int) > (200 : Int)))) rfl rfl rfl) ?_
      refine ro rfl rfl (st_mv rfl) ?_
      refine bool_split (decide (((a0.length : Nat) : Int) > (200 : Int))) (fun p114 => ?_) (fun p114 => ?_)
      · replace h := ite_T p114 h
        rw [p114]
        refine rz rfl rfl ?_
        refine rz rfl rfl ?_
        refine ro rfl rfl (st_pickT rfl rfl) ?_
        refine ro rfl rfl (st_mv rfl) ?_
        refine rz rfl rfl ?_
        refine rz rfl rfl ?_
        refine rz rfl rfl ?_
        refine rz rfl rfl ?_
        refine ro rfl rfl (st_pickT rfl rfl) ?_
        refine ro rfl rfl (st_mv rfl) ?_
        refine rz rfl rfl ?_
        refine rz rfl rfl ?_
        refine ro rfl rfl (st_pickT rfl rfl) ?_
        refine ro rfl rfl (st_as rfl) ?_
        refine rw_nilk ?_
        refine awp_ret ?_
        injection h with h
        subst h
        exact ret_out (v := dB true) (resV_one (resVs_tmp rfl resVs_nil)) (.keep rfl)
      · replace h := ite_F p114 h
        rw [p114]
        refine ro rfl rfl (st_mv rfl) ?_
        refine ro rfl rfl (st_bin (v := dB (decide (s101 > (1000 : Int)))) rfl rfl rfl) ?_
        refine ro rfl rfl (st_pickF rfl rfl) ?_
        refine ro rfl rfl (st_mv rfl) ?_
        refine bool_split (decide (s101 > (1000 : Int))) (fun p115 => ?_) (fun p115 => ?_)
        · replace h := ite_T p115 h
          rw [p115]
          refine rz rfl rfl ?_
          refine rz rfl rfl ?_
          refine rz rfl rfl ?_
          refine rz rfl rfl ?_
          refine ro rfl rfl (st_pickT rfl rfl) ?_
          refine ro rfl rfl (st_mv rfl) ?_
          refine rz rfl rfl ?_
          refine rz rfl rfl ?_
          refine ro rfl rfl (st_pickT rfl rfl) ?_
          refine ro rfl rfl (st_as rfl) ?_
          refine rw_nilk ?_
          refine awp_ret ?_
          injection h with h
          subst h
          exact ret_out (v := dB true) (resV_one (resVs_tmp rfl resVs_nil)) (.keep rfl)
        · replace h := ite_F p115 h
          rw [p115]
          refine ro rfl rfl (st_faP fo25_1 rfl) ?_
          refine ro rfl rfl (st_ldP (v := dL 5 e_S_api_Line a1.Lines) ta23 rfl rfl rfl rfl) ?_
          refine ro rfl rfl (st_lenD rfl un23) ?_
          refine ro rfl rfl (st_bin (v := dB (decide (((a1.Lines.length : Nat) : Int) > (300 : Int)))) rfl rfl rfl) ?_
          refine ro rfl rfl (st_pickF rfl rfl) ?_
          refine ro rfl rfl (st_mv rfl) ?_
          refine bool_split (decide (((a1.Lines.length : Nat) : Int) > (300 : Int))) (fun p116 => ?_) (fun p116 => ?_)
          · replace h := ite_T p116 h
            rw [p116]
            refine rz rfl rfl ?_
            refine rz rfl rfl ?_
            refine ro rfl rfl (st_pickT rfl rfl) ?_
            refine ro rfl rfl (st_as rfl) ?_
            refine rw_nilk ?_
            refine awp_ret ?_
            injection h with h
            subst h
            exact ret_out (v := dB true) (resV_one (resVs_tmp rfl resVs_nil)) (.keep rfl)
          · replace h := ite_F p116 h
            rw [p116]
            refine ro rfl rfl (st_mv rfl) ?_
            refine ro rfl rfl (st_bin (v := dB (decide (s106 > (2000 : Int)))) rfl rfl rfl) ?_
            refine ro rfl rfl (st_pickF rfl rfl) ?_
            refine ro rfl rfl (st_as rfl) ?_
            refine rw_nilk ?_
            refine awp_ret ?_
            injection h with h
            subst h
            exact ret_out (v := dB (decide (s106 > (2000 : Int)))) (resV_one (resVs_tmp rfl resVs_nil)) (.keep rfl)

theorem ok_skolemlaw10_head {r : Bool} (h : F_skolemlaw10_head = some r) : Fn Try.prog 13 [] (dB r) := by
  unfold F_skolemlaw10_head at h
  injection h with h
  subst h
  exact fn_eval (n := 5000) (by kernel_rfl) (by kernel_rfl)

theorem ok_skolemref09_Same {a0 : (List Int)} {a1 : (List Int)} {r : Bool} (h : F_skolemref09_Same a0 a1 = some r) : Fn Try.prog 16 [dL 1 (eI .i64) a0, dL 1 (eI .i64) a1] (dB r) := by
  unfold F_skolemref09_Same at h
  refine Fn.of_body (N := 26) (rs := [.tmp 4]) Try.func16 (c := _) rfl rfl rfl (by kernel_rfl) (Nat.le_of_ble_eq_true rfl) (fun _B => ?_)
  refine awp_rs ?_
  refine ro rfl rfl (st_as rfl) ?_
  refine rw_nilk ?_
  refine awp_seq ?_
  refine awp_rs ?_
  refine ro rfl rfl (st_mv rfl) ?_
  refine ro rfl rfl (st_lenD rfl un28) ?_
  refine ro rfl rfl (st_mv rfl) ?_
  refine ro rfl rfl (st_lenD rfl un28) ?_
  refine ro rfl rfl (st_bin (v := dB (((a0.length : Nat) : Int) != ((a1.length : Nat) : Int))) rfl rfl rfl) ?_
  refine rw_nilk ?_
  refine awp_ite (b := (((a0.length : Nat) : Int) != ((a1.length : Nat) : Int))) rfl (fun p101 => ?_) (fun p101 => ?_)
  · replace h := ite_T p101 h
    refine awp_rs ?_
    refine ro rfl rfl (st_as rfl) ?_
    refine rw_nilk ?_
    refine awp_ret ?_
    refine rt_then ?_
    injection h with h
    subst h
    exact ret_out (v := dB false) (resV_one (resVs_tmp rfl resVs_nil)) (.keep rfl)
  · replace h := ite_F p101 h
    refine awp_skip ?_
    refine nx_then ?_
    refine awp_seq ?_
    refine awp_rs ?_
    refine ro rfl rfl (st_as rfl) ?_
    refine rw_nilk ?_
    refine awp_block ?_
    refine awp_len (t := 0) rfl (fun hl105 => ?_)
    rw [List.length_map] at hl105
    refine awp_range (fun (j105 : Nat) (s102 : Unit) (g103 : Unit) => [(0, dL 1 (eI .i64) a0), (1, dL 1 (eI .i64) a1), (5, dI .i64 ((j105 : Nat) : Int))]) (fun (s102 : Unit) (g103 : Unit) => []) () (fun _ _ _ h => h) h (gh_frz rfl rfl ⟨⟨_, rfl, .keep rfl⟩, ⟨_, rfl, .keep rfl⟩, ⟨_, rfl, .keep rfl⟩, trivial⟩ trivial) ?_ ?_
    · clear h
      intro j105 x106 s102 g103 k104 hj105 hx105 h ih104
      refine awp_seq ?_
      refine awp_rs ?_
      refine ro rfl rfl (st_mv rfl) ?_
      refine ro rfl rfl (st_mv rfl) ?_
      refine ro rfl rfl (st_lenD rfl un28) ?_
      refine ro rfl rfl (st_bin (v := dB (decide (((j105 : Nat) : Int) < ((a0.length : Nat) : Int)))) rfl rfl rfl) ?_
      refine rw_nilk ?_
      refine awp_ifT rfl (dlt hj105) ?_
      refine awp_skip ?_
      refine nx_then ?_
      refine awp_seq ?_
      refine awp_block ?_
      refine awp_rds hmix ?_
      refine do_ rfl rfl (st_mv rfl) rfl rfl rfl ?_
      refine do_ rfl rfl (st_mv rfl) rfl rfl rfl ?_
      refine do_ rfl rfl (st_ixDn sl28 rfl rfl hx105) rfl rfl rfl ?_
      refine do_ rfl rfl (st_ldD (v := dI .i64 x106) ta3 rfl rfl) rfl rfl rfl ?_
      refine do_ rfl rfl (st_mv rfl) rfl rfl rfl ?_
      refine do_ rfl rfl (st_mv rfl) rfl rfl rfl ?_
      obtain ⟨x109, h0109, hx109, h⟩ := getI_some h
      refine do_ rfl rfl (st_ixD sl28 rfl rfl h0109 hx109) rfl rfl rfl ?_
      refine do_ rfl rfl (st_ldD (v := dI .i64 x109) ta3 rfl rfl) rfl rfl rfl ?_
      refine do_ rfl rfl (st_bin (v := dB (x106 != x109)) rfl rfl rfl) rfl rfl rfl ?_
      refine rd_nil (by kernel_rfl) ?_
      refine awp_ite (b := (x106 != x109)) rfl (fun p110 => ?_) (fun p110 => ?_)
      · replace h := ite_T p110 h
        refine awp_rs ?_
        refine ro rfl rfl (st_as rfl) ?_
        refine rw_nilk ?_
        refine awp_ret ?_
        refine rt_block ?_
        refine rt_then ?_
        refine rt_then ?_
        refine rt_block ?_
        refine rt_then ?_
        injection h with h
        subst h
        exact ret_out (v := dB false) (resV_one (resVs_tmp rfl resVs_nil)) (.keep rfl)
      · replace h := ite_F p110 h
        refine awp_skip ?_
        refine nx_block ?_
        refine nx_then ?_
        refine awp_rw ?_
        refine ro rfl rfl (st_mv rfl) ?_
        refine ro rfl rfl (st_inc rfl rfl hj105 hl105) ?_
        refine ro rfl rfl (st_as rfl) ?_
        refine rw_nil ?_
        refine nx_then ?_
        refine awp_gh ?_ (ih104 () () h)
        exact (gh_frz rfl rfl ⟨⟨_, rfl, .keep rfl⟩, ⟨_, rfl, .keep rfl⟩, ⟨_, rfl, .keep rfl⟩, trivial⟩ trivial)
    · clear h
      intro s102 g103 h
      refine awp_seq ?_
      refine awp_rs ?_
      refine ro rfl rfl (st_mv rfl) ?_
      refine ro rfl rfl (st_mv rfl) ?_
      refine ro rfl rfl (st_lenD rfl un28) ?_
      refine ro rfl rfl (st_bin (v := dB (decide (((a0.length : Nat) : Int) < ((a0.length : Nat) : Int)))) rfl rfl rfl) ?_
      refine rw_nilk ?_
      refine awp_ifF rfl dge ?_
      refine awp_exit ?_
      refine ex_out ?_
      refine ex_out ?_
      refine ex_in ?_
      refine nx_then ?_
      refine awp_rs ?_
      refine ro rfl rfl (st_as rfl) ?_
      refine rw_nilk ?_
      refine awp_ret ?_
      injection h with h
      subst h
      exact ret_out (v := dB true) (resV_one (resVs_tmp rfl resVs_nil)) (.keep rfl)

theorem ok_skolemref09_SameProof {a0 : S_api_Proof} {a1 : S_api_Proof} {r : Bool} (h : F_skolemref09_SameProof a0 a1 = some r) : Fn Try.prog 24 [.agg [dB a0.Cubes, dL 5 e_S_api_Line a0.Lines], .agg [dB a1.Cubes, dL 5 e_S_api_Line a1.Lines]] (dB r) := by
  unfold F_skolemref09_SameProof at h
  refine Fn.of_body (N := 73) (rs := [.tmp 4]) Try.func24 (c := _) rfl rfl rfl (by kernel_rfl) (Nat.le_of_ble_eq_true rfl) (fun _B => ?_)
  refine awp_rs ?_
  refine rn (r := 1001) rfl rfl (st_box rfl rfl rfl co25 rfl rfl) rfl ?_
  refine rn (r := 1002) rfl rfl (st_box rfl rfl rfl co25 rfl rfl) rfl ?_
  refine ro rfl rfl (st_as rfl) ?_
  refine rw_nilk ?_
  refine awp_seq ?_
  refine awp_jn (fun (s108 : Bool) (g109 : Unit) => [(2, .ptr 1001 0 0 0), (3, .ptr 1002 0 0 0), (21, dB s108)]) (fun (s108 : Bool) (g109 : Unit) => [(1001, .row 0 25 [[dB a0.Cubes, dL 5 e_S_api_Line a0.Lines]]), (1002, .row 0 25 [[dB a1.Cubes, dL 5 e_S_api_Line a1.Lines]])]) h ?_ ?_
  · clear h
    intro s108 g109 h
    refine awp_ite (b := s108) rfl (fun p111 => ?_) (fun p111 => ?_)
    · replace h := ite_T p111 h
      refine awp_rs ?_
      refine ro rfl rfl (st_as rfl) ?_
      refine rw_nilk ?_
      refine awp_ret ?_
      refine rt_then ?_
      injection h with h
      subst h
      exact ret_out (v := dB false) (resV_one (resVs_tmp rfl resVs_nil)) (.keep rfl)
    · replace h := ite_F p111 h
      refine awp_skip ?_
      refine nx_then ?_
      refine awp_seq ?_
      refine awp_rs ?_
      refine ro rfl rfl (st_as rfl) ?_
      refine rw_nilk ?_
      refine awp_block ?_
      refine awp_lenC (r := 1001) (i := 1) rfl rfl (fun hl115 => ?_)
      rw [List.length_map] at hl115
      refine awp_range (fun (j115 : Nat) (s112 : Unit) (g113 : Unit) => [(2, .ptr 1001 0 0 0), (3, .ptr 1002 0 0 0), (5, dI .i64 ((j115 : Nat) : Int))]) (fun (s112 : Unit) (g113 : Unit) => [(1001, .row 0 25 [[dB a0.Cubes, dL 5 e_S_api_Line a0.Lines]]), (1002, .row 0 25 [[dB a1.Cubes, dL 5 e_S_api_Line a1.Lines]])]) () (fun _ _ _ h => h) h (gh_frz rfl rfl ⟨⟨_, rfl, .keep rfl⟩, ⟨_, rfl, .keep rfl⟩, ⟨_, rfl, .keep rfl⟩, trivial⟩ ⟨⟨_, rfl, objOne ⟨⟨rfl, .keep rfl⟩, ⟨rfl, .keep rfl⟩, trivial⟩⟩, ⟨_, rfl, objOne ⟨⟨rfl, .keep rfl⟩, ⟨rfl, .keep rfl⟩, trivial⟩⟩, trivial⟩) ?_ ?_
      · clear h
        intro j115 x116 s112 g113 k114 hj115 hx115 h ih114
        refine awp_seq ?_
        refine awp_rs ?_
        refine ro rfl rfl (st_mv rfl) ?_
        refine ro rfl rfl (st_faP fo25_1 rfl) ?_
        refine ro rfl rfl (st_ldP (v := dL 5 e_S_api_Line a0.Lines) ta23 rfl rfl rfl rfl) ?_
        refine ro rfl rfl (st_lenD rfl un23) ?_
        refine ro rfl rfl (st_bin (v := dB (decide (((j115 : Nat) : Int) < ((a0.Lines.length : Nat) : Int)))) rfl rfl rfl) ?_
        refine rw_nilk ?_
        refine awp_ifT rfl (dlt hj115) ?_
        refine awp_skip ?_
        refine nx_then ?_
        refine awp_seq ?_
        refine awp_block ?_
        refine awp_rds hmix ?_
        refine do_ rfl rfl (st_faP fo25_1 rfl) rfl rfl rfl ?_
        refine do_ rfl rfl (st_ldP (v := dL 5 e_S_api_Line a0.Lines) ta23 rfl rfl rfl rfl) rfl rfl rfl ?_
        refine do_ rfl rfl (st_mv rfl) rfl rfl rfl ?_
        refine do_ rfl rfl (st_ixDn sl23 rfl rfl hx115) rfl rfl rfl ?_
        refine do_ rfl rfl (st_ldD (v := .agg [dI .u8 x116.Rule, dI .i64 x116.A, dI .i64 x116.B, dI .i64 x116.Piv, dL 1 (eI .i64) x116.Lits]) ta58 rfl rfl) rfl rfl rfl ?_
        refine do_ rfl rfl (st_faP fo25_1 rfl) rfl rfl rfl ?_
        refine do_ rfl rfl (st_ldP (v := dL 5 e_S_api_Line a1.Lines) ta23 rfl rfl rfl rfl) rfl rfl rfl ?_
        refine do_ rfl rfl (st_mv rfl) rfl rfl rfl ?_
        obtain ⟨x162, h0162, hx162, h⟩ := getI_some h
        refine do_ rfl rfl (st_ixD sl23 rfl rfl h0162 hx162) rfl rfl rfl ?_
        refine do_ rfl rfl (st_ldD (v := .agg [dI .u8 x162.Rule, dI .i64 x162.A, dI .i64 x162.B, dI .i64 x162.Piv, dL 1 (eI .i64) x162.Lits]) ta58 rfl rfl) rfl rfl rfl ?_
        refine dn (r := 1003) rfl rfl (st_alloc zc58 rfl rfl) rfl rfl rfl rfl ?_
        refine dn (r := 1004) rfl rfl (st_alloc zc58 rfl rfl) rfl rfl rfl rfl ?_
        refine dx (L' := [(1001, .row 0 25 [[dB a0.Cubes, dL 5 e_S_api_Line a0.Lines]]), (1002, .row 0 25 [[dB a1.Cubes, dL 5 e_S_api_Line a1.Lines]]), (1003, .row 0 58 [[dI .u8 x116.Rule, dI .i64 x116.A, dI .i64 x116.B, dI .i64 x116.Piv, dL 1 (eI .i64) x116.Lits]]), (1004, .row 0 58 [[dI .u8 (0 : Int), dI .i64 (0 : Int), dI .i64 (0 : Int), dI .i64 (0 : Int), .nilS]])]) rfl rfl (st_stP ta58 rfl rfl rfl rfl rfl rfl rfl rfl) rfl rfl rfl rfl ?_
        refine dx (L' := [(1001, .row 0 25 [[dB a0.Cubes, dL 5 e_S_api_Line a0.Lines]]), (1002, .row 0 25 [[dB a1.Cubes, dL 5 e_S_api_Line a1.Lines]]), (1003, .row 0 58 [[dI .u8 x116.Rule, dI .i64 x116.A, dI .i64 x116.B, dI .i64 x116.Piv, dL 1 (eI .i64) x116.Lits]]), (1004, .row 0 58 [[dI .u8 x162.Rule, dI .i64 x162.A, dI .i64 x162.B, dI .i64 x162.Piv, dL 1 (eI .i64) x162.Lits]])]) rfl rfl (st_stP ta58 rfl rfl rfl rfl rfl rfl rfl rfl) rfl rfl rfl rfl ?_
        refine rd_nil (by kernel_rfl) ?_
        refine awp_jn (fun (s168 : Bool) (g169 : Unit) => [(2, .ptr 1001 0 0 0), (3, .ptr 1002 0 0 0), (5, dI .i64 ((j115 : Nat) : Int)), (72, dB s168)]) (fun (s168 : Bool) (g169 : Unit) => [(1001, .row 0 25 [[dB a0.Cubes, dL 5 e_S_api_Line a0.Lines]]), (1002, .row 0 25 [[dB a1.Cubes, dL 5 e_S_api_Line a1.Lines]])]) h ?_ ?_
        · clear h
          intro s168 g169 h
          refine awp_ite (b := s168) rfl (fun p171 => ?_) (fun p171 => ?_)
          · replace h := ite_T p171 h
            refine awp_rs ?_
            refine ro rfl rfl (st_as rfl) ?_
            refine rw_nilk ?_
            refine awp_ret ?_
            refine rt_block ?_
            refine rt_then ?_
            refine rt_then ?_
            refine rt_block ?_
            refine rt_then ?_
            injection h with h
            subst h
            exact ret_out (v := dB false) (resV_one (resVs_tmp rfl resVs_nil)) (.keep rfl)
          · replace h := ite_F p171 h
            refine awp_skip ?_
            refine nx_block ?_
            refine nx_then ?_
            refine awp_rw ?_
            refine ro rfl rfl (st_mv rfl) ?_
            refine ro rfl rfl (st_inc rfl rfl hj115 hl115) ?_
            refine ro rfl rfl (st_as rfl) ?_
            refine rw_nil ?_
            refine nx_then ?_
            refine awp_gh ?_ (ih114 () () h)
            exact (gh_frz rfl rfl ⟨⟨_, rfl, .keep rfl⟩, ⟨_, rfl, .keep rfl⟩, ⟨_, rfl, .keep rfl⟩, trivial⟩ ⟨⟨_, rfl, objOne ⟨⟨rfl, .keep rfl⟩, ⟨rfl, .keep rfl⟩, trivial⟩⟩, ⟨_, rfl, objOne ⟨⟨rfl, .keep rfl⟩, ⟨rfl, .keep rfl⟩, trivial⟩⟩, trivial⟩)
        · clear h
          intro k170 h J170
          refine awp_rw ?_
          refine ro rfl rfl (st_faP fo58_0 rfl) ?_
          refine ro rfl rfl (st_ldP (v := dI .u8 x116.Rule) ta56 rfl rfl rfl rfl) ?_
          refine ro rfl rfl (st_faP fo58_0 rfl) ?_
          refine ro rfl rfl (st_ldP (v := dI .u8 x162.Rule) ta56 rfl rfl rfl rfl) ?_
          refine ro rfl rfl (st_bin (v := dB (x116.Rule != x162.Rule)) rfl rfl rfl) ?_
          refine ro rfl rfl (st_mv rfl) ?_
          refine bool_split (x116.Rule != x162.Rule) (fun p172 => ?_) (fun p172 => ?_)
          · replace h := ite_T p172 h
            rw [p172]
            refine rz rfl rfl ?_
            refine rz rfl rfl ?_
            refine rz rfl rfl ?_
            refine rz rfl rfl ?_
            refine rz rfl rfl ?_
            refine ro rfl rfl (st_pickT rfl rfl) ?_
            refine ro rfl rfl (st_mv rfl) ?_
            refine rz rfl rfl ?_
            refine rz rfl rfl ?_
            refine rz rfl rfl ?_
            refine rz rfl rfl ?_
            refine rz rfl rfl ?_
            refine ro rfl rfl (st_pickT rfl rfl) ?_
            refine ro rfl rfl (st_mv rfl) ?_
            refine rz rfl rfl ?_
            refine rz rfl rfl ?_
            refine rz rfl rfl ?_
            refine rz rfl rfl ?_
            refine rz rfl rfl ?_
            refine ro rfl rfl (st_pickT rfl rfl) ?_
            refine ro rfl rfl (st_mv rfl) ?_
            refine rz rfl rfl ?_
            refine rz rfl rfl ?_
            refine rz rfl rfl ?_
            refine rz rfl rfl ?_
            refine rz rfl rfl ?_
            refine rz rfl rfl ?_
            refine ro rfl rfl (st_pickT rfl rfl) ?_
            refine rw_nil ?_
            refine nx_then ?_
            exact J170 true () _ _ h (gh_frz rfl rfl ⟨⟨_, rfl, .keep rfl⟩, ⟨_, rfl, .keep rfl⟩, ⟨_, rfl, .keep rfl⟩, ⟨_, rfl, .keep rfl⟩, trivial⟩ ⟨⟨_, rfl, objOne ⟨⟨rfl, .keep rfl⟩, ⟨rfl, .keep rfl⟩, trivial⟩⟩, ⟨_, rfl, objOne ⟨⟨rfl, .keep rfl⟩, ⟨rfl, .keep rfl⟩, trivial⟩⟩, trivial⟩)
          · replace h := ite_F p172 h
            rw [p172]
            refine ro rfl rfl (st_faP fo58_1 rfl) ?_
            refine ro rfl rfl (st_ldP (v := dI .i64 x116.A) ta3 rfl rfl rfl rfl) ?_
            refine ro rfl rfl (st_faP fo58_1 rfl) ?_
            refine ro rfl rfl (st_ldP (v := dI .i64 x162.A) ta3 rfl rfl rfl rfl) ?_
            refine ro rfl rfl (st_bin (v := dB (x116.A != x162.A)) rfl rfl rfl) ?_
            refine ro rfl rfl (st_pickF rfl rfl) ?_
            refine ro rfl rfl (st_mv rfl) ?_
            refine bool_split (x116.A != x162.A) (fun p173 => ?_) (fun p173 => ?_)
            · replace h := ite_T p173 h
              rw [p173]
              refine rz rfl rfl ?_
              refine rz rfl rfl ?_
              refine rz rfl rfl ?_
              refine rz rfl rfl ?_
              refine rz rfl rfl ?_
              refine ro rfl rfl (st_pickT rfl rfl) ?_
              refine ro rfl rfl (st_mv rfl) ?_
              refine rz rfl rfl ?_
              refine rz rfl rfl ?_
              refine rz rfl rfl ?_
              refine rz rfl rfl ?_
              refine rz rfl rfl ?_
              refine ro rfl rfl (st_pickT rfl rfl) ?_
              refine ro rfl rfl (st_mv rfl) ?_
              refine rz rfl rfl ?_
              refine rz rfl rfl ?_
              refine rz rfl rfl ?_
              refine rz rfl rfl ?_
              refine rz rfl rfl ?_
              refine rz rfl rfl ?_
              refine ro rfl rfl (st_pickT rfl rfl) ?_
              refine rw_nil ?_
              refine nx_then ?_
              exact J170 true () _ _ h (gh_frz rfl rfl ⟨⟨_, rfl, .keep rfl⟩, ⟨_, rfl, .keep rfl⟩, ⟨_, rfl, .keep rfl⟩, ⟨_, rfl, .keep rfl⟩, trivial⟩ ⟨⟨_, rfl, objOne ⟨⟨rfl, .keep rfl⟩, ⟨rfl, .keep rfl⟩, trivial⟩⟩, ⟨_, rfl, objOne ⟨⟨rfl, .keep rfl⟩, ⟨rfl, .keep rfl⟩, trivial⟩⟩, trivial⟩)
            · replace h := ite_F p173 h
              rw [p173]
              refine ro rfl rfl (st_faP fo58_2 rfl) ?_
              refine ro rfl rfl (st_ldP (v := dI .i64 x116.B) ta3 rfl rfl rfl rfl) ?_
              refine ro rfl rfl (st_faP fo58_2 rfl) ?_
              refine ro rfl rfl (st_ldP (v := dI .i64 x162.B) ta3 rfl rfl rfl rfl) ?_
              refine ro rfl rfl (st_bin (v := dB (x116.B != x162.B)) rfl rfl rfl) ?_
              refine ro rfl rfl (st_pickF rfl rfl) ?_
              refine ro rfl rfl (st_mv rfl) ?_
              refine bool_split (x116.B != x162.B) (fun p174 => ?_) (fun p174 => ?_)
              · replace h := ite_T p174 h
                rw [p174]
                refine rz rfl rfl ?_
                refine rz rfl rfl ?_
                refine rz rfl rfl ?_
                refine rz rfl rfl ?_
                refine rz rfl rfl ?_
                refine ro rfl rfl (st_pickT rfl rfl) ?_
                refine ro rfl rfl (st_mv rfl) ?_
                refine rz rfl rfl ?_
                refine rz rfl rfl ?_
                refine rz rfl rfl ?_
                refine rz rfl rfl ?_
                refine rz rfl rfl ?_
                refine rz rfl rfl ?_
                refine ro rfl rfl (st_pickT rfl rfl) ?_
                refine rw_nil ?_
                refine nx_then ?_
                exact J170 true () _ _ h (gh_frz rfl rfl ⟨⟨_, rfl, .keep rfl⟩, ⟨_, rfl, .keep rfl⟩, ⟨_, rfl, .keep rfl⟩, ⟨_, rfl, .keep rfl⟩, trivial⟩ ⟨⟨_, rfl, objOne ⟨⟨rfl, .keep rfl⟩, ⟨rfl, .keep rfl⟩, trivial⟩⟩, ⟨_, rfl, objOne ⟨⟨rfl, .keep rfl⟩, ⟨rfl, .keep rfl⟩, trivial⟩⟩, trivial⟩)
              · replace h := ite_F p174 h
                rw [p174]
                refine ro rfl rfl (st_faP fo58_3 rfl) ?_
                refine ro rfl rfl (st_ldP (v := dI .i64 x116.Piv) ta3 rfl rfl rfl rfl) ?_
                refine ro rfl rfl (st_faP fo58_3 rfl) ?_
                refine ro rfl rfl (st_ldP (v := dI .i64 x162.Piv) ta3 rfl rfl rfl rfl) ?_
                refine ro rfl rfl (st_bin (v := dB (x116.Piv != x162.Piv)) rfl rfl rfl) ?_
                refine ro rfl rfl (st_pickF rfl rfl) ?_
                refine ro rfl rfl (st_mv rfl) ?_
                refine bool_split (x116.Piv != x162.Piv) (fun p175 => ?_) (fun p175 => ?_)
                · replace h := ite_T p175 h
                  rw [p175]
                  refine rz rfl rfl ?_
                  refine rz rfl rfl ?_
                  refine rz rfl rfl ?_
                  refine rz rfl rfl ?_
                  refine rz rfl rfl ?_
                  refine rz rfl rfl ?_
                  refine ro rfl rfl (st_pickT rfl rfl) ?_
                  refine rw_nil ?_
                  refine nx_then ?_
                  exact J170 true () _ _ h (gh_frz rfl rfl ⟨⟨_, rfl, .keep rfl⟩, ⟨_, rfl, .keep rfl⟩, ⟨_, rfl, .keep rfl⟩, ⟨_, rfl, .keep rfl⟩, trivial⟩ ⟨⟨_, rfl, objOne ⟨⟨rfl, .keep rfl⟩, ⟨rfl, .keep rfl⟩, trivial⟩⟩, ⟨_, rfl, objOne ⟨⟨rfl, .keep rfl⟩, ⟨rfl, .keep rfl⟩, trivial⟩⟩, trivial⟩)
                · replace h := ite_F p175 h
                  rw [p175]
                  refine ro rfl rfl (st_faP fo58_4 rfl) ?_
                  refine ro rfl rfl (st_ldP (v := dL 1 (eI .i64) x116.Lits) ta28 rfl rfl rfl rfl) ?_
                  refine ro rfl rfl (st_faP fo58_4 rfl) ?_
                  refine ro rfl rfl (st_ldP (v := dL 1 (eI .i64) x162.Lits) ta28 rfl rfl rfl rfl) ?_
                  obtain ⟨y176, hy176, h⟩ := bind_some_elim h
                  refine rf rfl rfl (ok_skolemref09_Same hy176) rfl rfl ?_
                  refine ro rfl rfl (st_un (v := dB (!y176)) rfl rfl) ?_
                  refine ro rfl rfl (st_pickF rfl rfl) ?_
                  refine rw_nil ?_
                  refine nx_then ?_
                  exact J170 (!y176) () _ _ h (gh_frz rfl rfl ⟨⟨_, rfl, .keep rfl⟩, ⟨_, rfl, .keep rfl⟩, ⟨_, rfl, .keep rfl⟩, ⟨_, rfl, .keep rfl⟩, trivial⟩ ⟨⟨_, rfl, objOne ⟨⟨rfl, .keep rfl⟩, ⟨rfl, .keep rfl⟩, trivial⟩⟩, ⟨_, rfl, objOne ⟨⟨rfl, .keep rfl⟩, ⟨rfl, .keep rfl⟩, trivial⟩⟩, trivial⟩)
      · clear h
        intro s112 g113 h
        refine awp_seq ?_
        refine awp_rs ?_
        refine ro rfl rfl (st_mv rfl) ?_
        refine ro rfl rfl (st_faP fo25_1 rfl) ?_
        refine ro rfl rfl (st_ldP (v := dL 5 e_S_api_Line a0.Lines) ta23 rfl rfl rfl rfl) ?_
        refine ro rfl rfl (st_lenD rfl un23) ?_
        refine ro rfl rfl (st_bin (v := dB (decide (((a0.Lines.length : Nat) : Int) < ((a0.Lines.length : Nat) : Int)))) rfl rfl rfl) ?_
        refine rw_nilk ?_
        refine awp_ifF rfl dge ?_
        refine awp_exit ?_
        refine ex_out ?_
        refine ex_out ?_
        refine ex_in ?_
        refine nx_then ?_
        refine awp_rs ?_
        refine ro rfl rfl (st_as rfl) ?_
        refine rw_nilk ?_
        refine awp_ret ?_
        injection h with h
        subst h
        exact ret_out (v := dB true) (resV_one (resVs_tmp rfl resVs_nil)) (.keep rfl)
  · clear h
    intro k110 h J110
    refine awp_rw ?_
    refine ro rfl rfl (st_faP fo25_0 rfl) ?_
    refine ro rfl rfl (st_ldP (v := dB a0.Cubes) ta4 rfl rfl rfl rfl) ?_
    refine ro rfl rfl (st_faP fo25_0 rfl) ?_
    refine ro rfl rfl (st_ldP (v := dB a1.Cubes) ta4 rfl rfl rfl rfl) ?_
    refine ro rfl rfl (st_binB (v := dB (!(a0.Cubes == a1.Cubes))) rfl rfl un4 rfl) ?_
    refine ro rfl rfl (st_mv rfl) ?_
    refine bool_split (!(a0.Cubes == a1.Cubes)) (fun p177 => ?_) (fun p177 => ?_)
    · replace h := ite_T p177 h
      rw [p177]
      refine rz rfl rfl ?_
      refine rz rfl rfl ?_
      refine rz rfl rfl ?_
      refine rz rfl rfl ?_
      refine rz rfl rfl ?_
      refine rz rfl rfl ?_
      refine rz rfl rfl ?_
      refine ro rfl rfl (st_pickT rfl rfl) ?_
      refine rw_nil ?_
      refine nx_then ?_
      exact J110 true () _ _ h (gh_frz rfl rfl ⟨⟨_, rfl, .keep rfl⟩, ⟨_, rfl, .keep rfl⟩, ⟨_, rfl, .keep rfl⟩, trivial⟩ ⟨⟨_, rfl, objOne ⟨⟨rfl, .keep rfl⟩, ⟨rfl, .keep rfl⟩, trivial⟩⟩, ⟨_, rfl, objOne ⟨⟨rfl, .keep rfl⟩, ⟨rfl, .keep rfl⟩, trivial⟩⟩, trivial⟩)
    · replace h := ite_F p177 h
      rw [p177]
      refine ro rfl rfl (st_faP fo25_1 rfl) ?_
      refine ro rfl rfl (st_ldP (v := dL 5 e_S_api_Line a0.Lines) ta23 rfl rfl rfl rfl) ?_
      refine ro rfl rfl (st_lenD rfl un23) ?_
      refine ro rfl rfl (st_faP fo25_1 rfl) ?_
      refine ro rfl rfl (st_ldP (v := dL 5 e_S_api_Line a1.Lines) ta23 rfl rfl rfl rfl) ?_
      refine ro rfl rfl (st_lenD rfl un23) ?_
      refine ro rfl rfl (st_bin (v := dB (((a0.Lines.length : Nat) : Int) != ((a1.Lines.length : Nat) : Int))) rfl rfl rfl) ?_
      refine ro rfl rfl (st_pickF rfl rfl) ?_
      refine rw_nil ?_
      refine nx_then ?_
      exact J110 (((a0.Lines.length : Nat) : Int) != ((a1.Lines.length : Nat) : Int)) () _ _ h (gh_frz rfl rfl ⟨⟨_, rfl, .keep rfl⟩, ⟨_, rfl, .keep rfl⟩, ⟨_, rfl, .keep rfl⟩, trivial⟩ ⟨⟨_, rfl, objOne ⟨⟨rfl, .keep rfl⟩, ⟨rfl, .keep rfl⟩, trivial⟩⟩, ⟨_, rfl, objOne ⟨⟨rfl, .keep rfl⟩, ⟨rfl, .keep rfl⟩, trivial⟩⟩, trivial⟩)

theorem ok_proof_Put {a0 : S_api_Proof} {r : ((List Int) × Int)} (h : F_proof_Put a0 = some r) : Fn Try.prog 38 [.agg [dB a0.Cubes, dL 5 e_S_api_Line a0.Lines]] (.tup [dL 1 (eI .u8) r.1, dI .i64 r.2]) := by
  unfold F_proof_Put at h
  refine Fn.of_body (N := 54) (rs := [.tmp 2, .tmp 3]) Try.func38 (c := _) rfl rfl rfl (by kernel_rfl) (Nat.le_of_ble_eq_true rfl) (fun _B => ?_)
  refine awp_rs ?_
  refine rn (r := 1001) rfl rfl (st_box rfl rfl rfl co25 rfl rfl) rfl ?_
  refine ro rfl rfl (st_as rfl) ?_
  refine ro rfl rfl (st_as rfl) ?_
  refine rw_nilk ?_
  refine awp_seq ?_
  refine awp_rs ?_
  refine ro rfl rfl (st_faP fo25_1 rfl) ?_
  refine ro rfl rfl (st_ldP (v := dL 5 e_S_api_Line a0.Lines) ta23 rfl rfl rfl rfl) ?_
  refine ro rfl rfl (st_lenD rfl un23) ?_
  refine ro rfl rfl (st_bin (v := dB (decide (((a0.Lines.length : Nat) : Int) > (1000000 : Int)))) rfl rfl rfl) ?_
  refine rw_nilk ?_
  refine awp_ite (b := (decide (((a0.Lines.length : Nat) : Int) > (1000000 : Int)))) rfl (fun p101 => ?_) (fun p101 => ?_)
  · replace h := ite_T p101 h
    refine awp_rs ?_
    refine ro rfl rfl (st_as rfl) ?_
    refine ro rfl rfl (st_as rfl) ?_
    refine rw_nilk ?_
    refine awp_ret ?_
    refine rt_then ?_
    injection h with h
    subst h
    exact ret_out (v := .tup [.nilS, dI .i64 (3 : Int)]) (resV_many (resVs_tmp rfl (resVs_tmp rfl resVs_nil))) (frz_tup ⟨(.nilS _), (.keep rfl), trivial⟩)
  · replace h := ite_F p101 h
    refine awp_skip ?_
    refine nx_then ?_
    refine awp_rs ?_
    refine rn (r := 1002) rfl rfl (st_bsl (els := [[dI .u8 (82 : Int)], [dI .u8 (80 : Int)], [dI .u8 (1 : Int)], [dI .u8 (0 : Int)]]) sl67 zc5 rfl rfl rfl rfl rfl) rfl ?_
    refine rn (r := 1003) rfl rfl (st_alloc zc67 rfl rfl) rfl ?_
    refine rx (L' := [(1001, .row 0 25 [[dB a0.Cubes, dL 5 e_S_api_Line a0.Lines]]), (1002, .row 1 5 [[dI .u8 (82 : Int)], [dI .u8 (80 : Int)], [dI .u8 (1 : Int)], [dI .u8 (0 : Int)]]), (1003, .row 0 67 [[.slice 1002 1 0 4]])]) rfl rfl (st_stP ta67 rfl rfl rfl rfl rfl rfl rfl rfl) rfl ?_
    refine rw_nilk ?_
    refine awp_jn (fun (s103 : (List Int)) (g104 : Unit) => [(1, .ptr 1001 0 0 0), (4, .ptr 1003 0 0 0)]) (fun (s103 : (List Int)) (g104 : Unit) => [(1001, .row 0 25 [[dB a0.Cubes, dL 5 e_S_api_Line a0.Lines]]), (1002, rw' 1 5 (eI .u8) s103), (1003, .row 0 67 [[.slice 1002 1 0 s103.length]])]) h ?_ ?_
    · clear h
      intro s103 g104 h
      refine awp_rs ?_
      refine ro rfl rfl (st_fn rfl rfl) ?_
      refine ro rfl rfl (st_as rfl) ?_
      refine rw_nilk ?_
      refine awp_rs ?_
      refine ro rfl rfl (st_mv rfl) ?_
      refine ro rfl rfl (st_faP fo25_1 rfl) ?_
      refine ro rfl rfl (st_ldP (v := dL 5 e_S_api_Line a0.Lines) ta23 rfl rfl rfl rfl) ?_
      refine ro rfl rfl (st_lenD rfl un23) ?_
      refine rn (r := 1004) rfl rfl (st_bsl (els := [[dI .i64 ((a0.Lines.length : Nat) : Int)]]) sl28 zc3 rfl rfl rfl rfl rfl) rfl ?_
      refine ri (N := 35) (rs := []) rfl rfl rfl rfl Try.func72 rfl rfl rfl (by kernel_rfl) rfl (fun _B => ?_)
      refine awp_rs ?_
      refine ro rfl rfl (st_mv rfl) ?_
      refine ro rfl rfl (st_lenR rfl un28 rfl) ?_
      refine ro rfl rfl (st_mv rfl) ?_
      refine rw_nilk ?_
      refine awp_block ?_
      obtain ⟨hl367, h⟩ := okI_some h
      refine awp_up (fun (j367 : Int) (s364 : (List Int)) (g365 : Nat) => [(1, .ptr 1003 0 0 0), (6, .slice 1004 1 0 ([((a0.Lines.length : Nat) : Int)].length)), (7, dI .i64 ((1 : Nat) : Int)), (8, dI .i64 j367)]) (fun (s364 : (List Int)) (g365 : Nat) => [(1001, .row 0 25 [[dB a0.Cubes, dL 5 e_S_api_Line a0.Lines]]), (1002, rw' g365 5 (eI .u8) s364), (1003, .row 0 67 [[.slice 1002 g365 0 s364.length]]), (1004, rw' 1 3 (eI .i64) [((a0.Lines.length : Nat) : Int)])]) 1 (fun _ _ _ h => h) h (gh_frz rfl rfl ⟨⟨_, rfl, .keep rfl⟩, ⟨_, rfl, .keep rfl⟩, ⟨_, rfl, .keep rfl⟩, ⟨_, rfl, .keep rfl⟩, trivial⟩ ⟨⟨_, rfl, objOne ⟨⟨rfl, .keep rfl⟩, ⟨rfl, .keep rfl⟩, trivial⟩⟩, ⟨_, rfl, objRow _⟩, ⟨_, rfl, objOne ⟨⟨rfl, .keep rfl⟩, trivial⟩⟩, ⟨_, rfl, objRow (List.map (eI .i64) [((a0.Lines.length : Nat) : Int)])⟩, trivial⟩) ?_ ?_
      · clear h
        intro j367 s364 g365 k366 hj367 hx367 h ih366
        refine awp_rs ?_
        refine ro rfl rfl (st_bin (v := dB (decide (j367 < ((1 : Nat) : Int)))) rfl rfl rfl) ?_
        refine rw_nilk ?_
        refine awp_seq ?_
        refine awp_ifT rfl (dltI (upT hj367 hx367)) ?_
        refine awp_skip ?_
        refine nx_then ?_
        refine awp_seq ?_
        refine awp_block ?_
        refine awp_rs ?_
        obtain ⟨x430, h0430, hx430, h⟩ := getI_some h
        refine ro rfl rfl (st_ixRi sl28 rfl rfl rfl h0430 hx430 rfl) ?_
        refine ro rfl rfl (st_ldP (v := dI .i64 x430) ta3 rfl rfl (rowOf_map_get hx430) rfl) ?_
        refine ro rfl rfl (st_as rfl) ?_
        refine rw_nilk ?_
        refine awp_rs ?_
        refine ro rfl rfl (st_mv rfl) ?_
        obtain ⟨c431, h⟩ := okI_some h
        refine ro rfl rfl (st_shl rfl rfl c431) ?_
        refine ro rfl rfl (st_conv rfl un3 un48) ?_
        refine ro rfl rfl (st_mv rfl) ?_
        obtain ⟨c432, h⟩ := okI_some h
        refine ro rfl rfl (st_shr rfl rfl c432) ?_
        refine ro rfl rfl (st_conv rfl un3 un48) ?_
        refine ro rfl rfl (st_bin (v := dI .u64 (IntKind.wrap .u64 ((BitVec.ofInt (IntKind.bits .u64) (IntKind.wrap .u64 (IntKind.wrap .i64 (x430 * 2 ^ (min (1 : Int).toNat (IntKind.bits .i64))))) ^^^ BitVec.ofInt (IntKind.bits .u64) (IntKind.wrap .u64 (Int.fdiv x430 (2 ^ (min (63 : Int).toNat (IntKind.bits .i64)))))).toNat : Int))) rfl rfl rfl) ?_
        refine ro rfl rfl (st_as rfl) ?_
        refine rw_nilk ?_
        refine awp_seq ?_
        refine awp_block ?_
        refine awp_while (fun (s433 : (Int × (List Int))) (g434 : Nat) => [(1, .ptr 1003 0 0 0), (5, dI .u64 s433.1), (6, .slice 1004 1 0 ([((a0.Lines.length : Nat) : Int)].length)), (7, dI .i64 ((1 : Nat) : Int)), (8, dI .i64 j367)]) (fun (s433 : (Int × (List Int))) (g434 : Nat) => [(1001, .row 0 25 [[dB a0.Cubes, dL 5 e_S_api_Line a0.Lines]]), (1002, rw' g434 5 (eI .u8) s433.2), (1003, .row 0 67 [[.slice 1002 g434 0 s433.2.length]]), (1004, rw' 1 3 (eI .i64) [((a0.Lines.length : Nat) : Int)])]) g365 (fun _ _ _ h => h) h (gh_frz rfl rfl ⟨⟨_, rfl, .keep rfl⟩, ⟨_, rfl, .keep rfl⟩, ⟨_, rfl, .keep rfl⟩, ⟨_, rfl, .keep rfl⟩, ⟨_, rfl, .keep rfl⟩, trivial⟩ ⟨⟨_, rfl, objOne ⟨⟨rfl, .keep rfl⟩, ⟨rfl, .keep rfl⟩, trivial⟩⟩, ⟨_, rfl, objRow _⟩, ⟨_, rfl, objOne ⟨⟨rfl, .keep rfl⟩, trivial⟩⟩, ⟨_, rfl, objRow _⟩, trivial⟩) ?_
        clear h
        intro s433 g434 k435 h ih435
        refine awp_seq ?_
        refine awp_rs ?_
        refine ro rfl rfl (st_mv rfl) ?_
        refine ro rfl rfl (st_bin (v := dB (decide (s433.1 ≥ (128 : Int)))) rfl rfl rfl) ?_
        refine rw_nilk ?_
        refine awp_ite (b := (decide (s433.1 ≥ (128 : Int)))) rfl (fun p446 => ?_) (fun p446 => ?_)
        · replace h := ite_T p446 h
          refine awp_skip ?_
          refine nx_then ?_
          refine awp_seq ?_
          refine awp_block ?_
          refine awp_rw ?_
          refine ro rfl rfl (st_ldP (v := .slice 1002 g434 0 s433.2.length) ta67 rfl rfl rfl rfl) ?_
          refine ro rfl rfl (st_mv rfl) ?_
          refine ro rfl rfl (st_conv rfl un48 un5) ?_
          refine ro rfl rfl (st_bin (v := dI .u8 (IntKind.wrap .u8 ((BitVec.ofInt (IntKind.bits .u8) (IntKind.wrap .u8 s433.1) ||| BitVec.ofInt (IntKind.bits .u8) (128 : Int)).toNat : Int))) rfl rfl rfl) ?_
          refine rn (r := 1005) rfl rfl (st_bsl (els := [[dI .u8 (IntKind.wrap .u8 ((BitVec.ofInt (IntKind.bits .u8) (IntKind.wrap .u8 s433.1) ||| BitVec.ofInt (IntKind.bits .u8) (128 : Int)).toNat : Int))]]) sl67 zc5 rfl rfl rfl rfl rfl) rfl ?_
          obtain ⟨c447, h⟩ := capN_some h
          refine rn (r := 0) (L' := [(1001, .row 0 25 [[dB a0.Cubes, dL 5 e_S_api_Line a0.Lines]]), (1002, rw' (g434 + 2) 5 (eI .u8) (s433.2 ++ [(IntKind.wrap .u8 ((BitVec.ofInt (IntKind.bits .u8) (IntKind.wrap .u8 s433.1) ||| BitVec.ofInt (IntKind.bits .u8) (128 : Int)).toNat : Int))])), (1003, .row 0 67 [[.slice 1002 g434 0 s433.2.length]]), (1004, rw' 1 3 (eI .i64) [((a0.Lines.length : Nat) : Int)]), (1005, .row 1 5 [[dI .u8 (IntKind.wrap .u8 ((BitVec.ofInt (IntKind.bits .u8) (IntKind.wrap .u8 s433.1) ||| BitVec.ofInt (IntKind.bits .u8) (128 : Int)).toNat : Int))]])]) rfl rfl (st_appR (f := (eI .u8)) (xs := s433.2) (ys := [(IntKind.wrap .u8 ((BitVec.ofInt (IntKind.bits .u8) (IntKind.wrap .u8 s433.1) ||| BitVec.ofInt (IntKind.bits .u8) (128 : Int)).toNat : Int))]) sl67 zc5 rfl rfl rfl rfl rfl (news_one (a := (IntKind.wrap .u8 ((BitVec.ofInt (IntKind.bits .u8) (IntKind.wrap .u8 s433.1) ||| BitVec.ofInt (IntKind.bits .u8) (128 : Int)).toNat : Int))) rfl rfl) c447) rfl ?_
          refine rx (L' := [(1001, .row 0 25 [[dB a0.Cubes, dL 5 e_S_api_Line a0.Lines]]), (1002, rw' (g434 + 2) 5 (eI .u8) (s433.2 ++ [(IntKind.wrap .u8 ((BitVec.ofInt (IntKind.bits .u8) (IntKind.wrap .u8 s433.1) ||| BitVec.ofInt (IntKind.bits .u8) (128 : Int)).toNat : Int))])), (1003, .row 0 67 [[.slice 1002 (g434 + 2) 0 ((s433.2 ++ [(IntKind.wrap .u8 ((BitVec.ofInt (IntKind.bits .u8) (IntKind.wrap .u8 s433.1) ||| BitVec.ofInt (IntKind.bits .u8) (128 : Int)).toNat : Int))]).length)]]), (1004, rw' 1 3 (eI .i64) [((a0.Lines.length : Nat) : Int)]), (1005, .row 1 5 [[dI .u8 (IntKind.wrap .u8 ((BitVec.ofInt (IntKind.bits .u8) (IntKind.wrap .u8 s433.1) ||| BitVec.ofInt (IntKind.bits .u8) (128 : Int)).toNat : Int))]])]) rfl rfl (st_stP ta67 rfl rfl rfl rfl rfl rfl rfl rfl) rfl ?_
          refine rw_nil ?_
          refine nx_block ?_
          refine nx_then ?_
          refine awp_rw ?_
          refine ro rfl rfl (st_mv rfl) ?_
          obtain ⟨c448, h⟩ := okI_some h
          refine ro rfl rfl (st_shr rfl rfl c448) ?_
          refine ro rfl rfl (st_as rfl) ?_
          refine rw_nil ?_
          refine nx_then ?_
          refine awp_gh ?_ (ih435 ((Int.fdiv s433.1 (2 ^ (min (7 : Int).toNat (IntKind.bits .u64)))), (s433.2 ++ [(IntKind.wrap .u8 ((BitVec.ofInt (IntKind.bits .u8) (IntKind.wrap .u8 s433.1) ||| BitVec.ofInt (IntKind.bits .u8) (128 : Int)).toNat : Int))])) (g434 + 2) h)
          exact (gh_frz rfl rfl ⟨⟨_, rfl, .keep rfl⟩, ⟨_, rfl, .keep rfl⟩, ⟨_, rfl, .keep rfl⟩, ⟨_, rfl, .keep rfl⟩, ⟨_, rfl, .keep rfl⟩, trivial⟩ ⟨⟨_, rfl, objOne ⟨⟨rfl, .keep rfl⟩, ⟨rfl, .keep rfl⟩, trivial⟩⟩, ⟨_, rfl, objRow _⟩, ⟨_, rfl, objOne ⟨⟨rfl, .keep rfl⟩, trivial⟩⟩, ⟨_, rfl, objRow _⟩, trivial⟩)
        · replace h := ite_F p446 h
          refine awp_exit ?_
          refine ex_out ?_
          refine ex_out ?_
          refine ex_in ?_
          refine nx_then ?_
          refine awp_rw ?_
          refine ro rfl rfl (st_ldP (v := .slice 1002 g434 0 s433.2.length) ta67 rfl rfl rfl rfl) ?_
          refine ro rfl rfl (st_mv rfl) ?_
          refine ro rfl rfl (st_conv rfl un48 un5) ?_
          refine rn (r := 1005) rfl rfl (st_bsl (els := [[dI .u8 (IntKind.wrap .u8 s433.1)]]) sl67 zc5 rfl rfl rfl rfl rfl) rfl ?_
          obtain ⟨c449, h⟩ := capN_some h
          refine rn (r := 0) (L' := [(1001, .row 0 25 [[dB a0.Cubes, dL 5 e_S_api_Line a0.Lines]]), (1002, rw' (g434 + 2) 5 (eI .u8) (s433.2 ++ [(IntKind.wrap .u8 s433.1)])), (1003, .row 0 67 [[.slice 1002 g434 0 s433.2.length]]), (1004, rw' 1 3 (eI .i64) [((a0.Lines.length : Nat) : Int)]), (1005, .row 1 5 [[dI .u8 (IntKind.wrap .u8 s433.1)]])]) rfl rfl (st_appR (f := (eI .u8)) (xs := s433.2) (ys := [(IntKind.wrap .u8 s433.1)]) sl67 zc5 rfl rfl rfl rfl rfl (news_one (a := (IntKind.wrap .u8 s433.1)) rfl rfl) c449) rfl ?_
          refine rx (L' := [(1001, .row 0 25 [[dB a0.Cubes, dL 5 e_S_api_Line a0.Lines]]), (1002, rw' (g434 + 2) 5 (eI .u8) (s433.2 ++ [(IntKind.wrap .u8 s433.1)])), (1003, .row 0 67 [[.slice 1002 (g434 + 2) 0 ((s433.2 ++ [(IntKind.wrap .u8 s433.1)]).length)]]), (1004, rw' 1 3 (eI .i64) [((a0.Lines.length : Nat) : Int)]), (1005, .row 1 5 [[dI .u8 (IntKind.wrap .u8 s433.1)]])]) rfl rfl (st_stP ta67 rfl rfl rfl rfl rfl rfl rfl rfl) rfl ?_
          refine rw_nil ?_
          refine nx_block ?_
          refine nx_then ?_
          refine awp_rw ?_
          refine ro rfl rfl (st_incU rfl rfl hl367 hj367 hx367) ?_
          refine ro rfl rfl (st_mv rfl) ?_
          refine rw_nil ?_
          refine nx_then ?_
          refine awp_gh ?_ (ih366 (s433.2 ++ [(IntKind.wrap .u8 s433.1)]) (g434 + 2) h)
          exact (gh_frz rfl rfl ⟨⟨_, rfl, .keep rfl⟩, ⟨_, rfl, .keep rfl⟩, ⟨_, rfl, .keep rfl⟩, ⟨_, rfl, .keep rfl⟩, trivial⟩ ⟨⟨_, rfl, objOne ⟨⟨rfl, .keep rfl⟩, ⟨rfl, .keep rfl⟩, trivial⟩⟩, ⟨_, rfl, objRow _⟩, ⟨_, rfl, objOne ⟨⟨rfl, .keep rfl⟩, trivial⟩⟩, ⟨_, rfl, objRow _⟩, trivial⟩)
      · clear h
        intro s364 g365 h
        refine awp_rs ?_
        refine ro rfl rfl (st_bin (v := dB (decide (((0 : Int) + (((((1 : Nat) : Int) - (0 : Int)).toNat : Nat) : Int)) < ((1 : Nat) : Int)))) rfl rfl rfl) ?_
        refine rw_nilk ?_
        refine awp_seq ?_
        refine awp_ifF rfl (dgeI upD) ?_
        refine awp_exit ?_
        refine ex_out ?_
        refine ex_out ?_
        refine ex_in ?_
        refine ret_inN (v := .tup []) (resV_none resVs_nil) ?_
        show RW _ _ _ _ _ _ _
        refine rw_nilk ?_
        refine awp_seq ?_
        refine awp_rs ?_
        refine ro rfl rfl (st_faP fo25_1 rfl) ?_
        refine ro rfl rfl (st_ldP (v := dL 5 e_S_api_Line a0.Lines) ta23 rfl rfl rfl rfl) ?_
        refine ro rfl rfl (st_lenD rfl un23) ?_
        refine ro rfl rfl (st_mv rfl) ?_
        refine rw_nilk ?_
        refine awp_block ?_
        refine awp_len (t := 20) rfl (fun hl453 => ?_)
        rw [List.length_map] at hl453
        refine awp_range (fun (j453 : Nat) (s450 : (List Int)) (g451 : Nat) => [(4, .ptr 1003 0 0 0), (5, .fn 72 [] [.ptr 1003 0 0 0]), (25, dL 5 e_S_api_Line a0.Lines), (26, dI .i64 ((a0.Lines.length : Nat) : Int)), (27, dI .i64 ((j453 : Nat) : Int))]) (fun (s450 : (List Int)) (g451 : Nat) => [(1002, rw' g451 5 (eI .u8) s450), (1003, .row 0 67 [[.slice 1002 g451 0 s450.length]])]) g365 (fun _ _ _ h => h) h (gh_frz rfl rfl ⟨⟨_, rfl, .keep rfl⟩, ⟨_, rfl, .keep rfl⟩, ⟨_, rfl, .keep rfl⟩, ⟨_, rfl, .keep rfl⟩, ⟨_, rfl, .keep rfl⟩, trivial⟩ ⟨⟨_, rfl, objRow _⟩, ⟨_, rfl, objOne ⟨⟨rfl, .keep rfl⟩, trivial⟩⟩, trivial⟩) ?_ ?_
        · clear h
          intro j453 x454 s450 g451 k452 hj453 hx453 h ih452
          refine awp_rs ?_
          refine ro rfl rfl (st_bin (v := dB (decide (((j453 : Nat) : Int) < ((a0.Lines.length : Nat) : Int)))) rfl rfl rfl) ?_
          refine rw_nilk ?_
          refine awp_seq ?_
          refine awp_ifT rfl (dlt hj453) ?_
          refine awp_skip ?_
          refine nx_then ?_
          refine awp_seq ?_
          refine awp_block ?_
          refine awp_rs ?_
          refine ro rfl rfl (st_ixDn sl23 rfl rfl hx453) ?_
          refine ro rfl rfl (st_ldD (v := .agg [dI .u8 x454.Rule, dI .i64 x454.A, dI .i64 x454.B, dI .i64 x454.Piv, dL 1 (eI .i64) x454.Lits]) ta58 rfl rfl) ?_
          refine rn (r := 1006) rfl rfl (st_alloc zc58 rfl rfl) rfl ?_
          refine rx (L' := [(1002, rw' g451 5 (eI .u8) s450), (1003, .row 0 67 [[.slice 1002 g451 0 s450.length]]), (1006, .row 0 58 [[dI .u8 x454.Rule, dI .i64 x454.A, dI .i64 x454.B, dI .i64 x454.Piv, dL 1 (eI .i64) x454.Lits]])]) rfl rfl (st_stP ta58 rfl rfl rfl rfl rfl rfl rfl rfl) rfl ?_
          refine rw_nilk ?_
          refine awp_rs ?_
          refine ro rfl rfl (st_ldP (v := .slice 1002 g451 0 s450.length) ta67 rfl rfl rfl rfl) ?_
          refine ro rfl rfl (st_faP fo58_0 rfl) ?_
          refine ro rfl rfl (st_ldP (v := dI .u8 x454.Rule) ta56 rfl rfl rfl rfl) ?_
          refine rn (r := 1007) rfl rfl (st_bsl (els := [[dI .u8 x454.Rule]]) sl67 zc5 rfl rfl rfl rfl rfl) rfl ?_
          obtain ⟨c2800, h⟩ := capN_some h
          refine rn (r := 0) (L' := [(1002, rw' (g451 + 2) 5 (eI .u8) (s450 ++ [x454.Rule])), (1003, .row 0 67 [[.slice 1002 g451 0 s450.length]]), (1006, .row 0 58 [[dI .u8 x454.Rule, dI .i64 x454.A, dI .i64 x454.B, dI .i64 x454.Piv, dL 1 (eI .i64) x454.Lits]]), (1007, .row 1 5 [[dI .u8 x454.Rule]])]) rfl rfl (st_appR (f := (eI .u8)) (xs := s450) (ys := [x454.Rule]) sl67 zc5 rfl rfl rfl rfl rfl (news_one (a := x454.Rule) rfl rfl) c2800) rfl ?_
          refine rx (L' := [(1002, rw' (g451 + 2) 5 (eI .u8) (s450 ++ [x454.Rule])), (1003, .row 0 67 [[.slice 1002 (g451 + 2) 0 ((s450 ++ [x454.Rule]).length)]]), (1006, .row 0 58 [[dI .u8 x454.Rule, dI .i64 x454.A, dI .i64 x454.B, dI .i64 x454.Piv, dL 1 (eI .i64) x454.Lits]]), (1007, .row 1 5 [[dI .u8 x454.Rule]])]) rfl rfl (st_stP ta67 rfl rfl rfl rfl rfl rfl rfl rfl) rfl ?_
          refine rw_nilk ?_
          refine awp_rs ?_
          refine ro rfl rfl (st_mv rfl) ?_
          refine ro rfl rfl (st_faP fo58_1 rfl) ?_
          refine ro rfl rfl (st_ldP (v := dI .i64 x454.A) ta3 rfl rfl rfl rfl) ?_
          refine ro rfl rfl (st_faP fo58_2 rfl) ?_
          refine ro rfl rfl (st_ldP (v := dI .i64 x454.B) ta3 rfl rfl rfl rfl) ?_
          refine ro rfl rfl (st_faP fo58_3 rfl) ?_
          refine ro rfl rfl (st_ldP (v := dI .i64 x454.Piv) ta3 rfl rfl rfl rfl) ?_
          refine ro rfl rfl (st_faP fo58_4 rfl) ?_
          refine ro rfl rfl (st_ldP (v := dL 1 (eI .i64) x454.Lits) ta28 rfl rfl rfl rfl) ?_
          refine ro rfl rfl (st_lenD rfl un28) ?_
          refine rn (r := 1008) rfl rfl (st_bsl (els := [[dI .i64 x454.A], [dI .i64 x454.B], [dI .i64 x454.Piv], [dI .i64 ((x454.Lits.length : Nat) : Int)]]) sl28 zc3 rfl rfl rfl rfl rfl) rfl ?_
          refine ri (N := 35) (rs := []) rfl rfl rfl rfl Try.func72 rfl rfl rfl (by kernel_rfl) rfl (fun _B => ?_)
          refine awp_rs ?_
          refine ro rfl rfl (st_mv rfl) ?_
          refine ro rfl rfl (st_lenR rfl un28 rfl) ?_
          refine ro rfl rfl (st_mv rfl) ?_
          refine rw_nilk ?_
          refine awp_block ?_
          obtain ⟨hl3062, h⟩ := okI_some h
          refine awp_up (fun (j3062 : Int) (s3059 : (List Int)) (g3060 : Nat) => [(1, .ptr 1003 0 0 0), (6, .slice 1008 1 0 ([x454.A, x454.B, x454.Piv, ((x454.Lits.length : Nat) : Int)].length)), (7, dI .i64 ((4 : Nat) : Int)), (8, dI .i64 j3062)]) (fun (s3059 : (List Int)) (g3060 : Nat) => [(1002, rw' g3060 5 (eI .u8) s3059), (1003, .row 0 67 [[.slice 1002 g3060 0 s3059.length]]), (1006, .row 0 58 [[dI .u8 x454.Rule, dI .i64 x454.A, dI .i64 x454.B, dI .i64 x454.Piv, dL 1 (eI .i64) x454.Lits]]), (1007, .row 1 5 [[dI .u8 x454.Rule]]), (1008, rw' 1 3 (eI .i64) [x454.A, x454.B, x454.Piv, ((x454.Lits.length : Nat) : Int)])]) (g451 + 2) (fun _ _ _ h => h) h (gh_frz rfl rfl ⟨⟨_, rfl, .keep rfl⟩, ⟨_, rfl, .keep rfl⟩, ⟨_, rfl, .keep rfl⟩, ⟨_, rfl, .keep rfl⟩, trivial⟩ ⟨⟨_, rfl, objRow _⟩, ⟨_, rfl, objOne ⟨⟨rfl, .keep rfl⟩, trivial⟩⟩, ⟨_, rfl, objOne ⟨⟨rfl, .keep rfl⟩, ⟨rfl, .keep rfl⟩, ⟨rfl, .keep rfl⟩, ⟨rfl, .keep rfl⟩, ⟨rfl, .keep rfl⟩, trivial⟩⟩, ⟨_, rfl, objOne ⟨⟨rfl, .keep rfl⟩, trivial⟩⟩, ⟨_, rfl, objRow (List.map (eI .i64) [x454.A, x454.B, x454.Piv, ((x454.Lits.length : Nat) : Int)])⟩, trivial⟩) ?_ ?_
          · clear h
            intro j3062 s3059 g3060 k3061 hj3062 hx3062 h ih3061
            refine awp_rs ?_
            refine ro rfl rfl (st_bin (v := dB (decide (j3062 < ((4 : Nat) : Int)))) rfl rfl rfl) ?_
            refine rw_nilk ?_
            refine awp_seq ?_
            refine awp_ifT rfl (dltI (upT hj3062 hx3062)) ?_
            refine awp_skip ?_
            refine nx_then ?_
            refine awp_seq ?_
            refine awp_block ?_
            refine awp_rs ?_
            obtain ⟨x3125, h03125, hx3125, h⟩ := getI_some h
            refine ro rfl rfl (st_ixRi sl28 rfl rfl rfl h03125 hx3125 rfl) ?_
            refine ro rfl rfl (st_ldP (v := dI .i64 x3125) ta3 rfl rfl (rowOf_map_get hx3125) rfl) ?_
            refine ro rfl rfl (st_as rfl) ?_
            refine rw_nilk ?_
            refine awp_rs ?_
            refine ro rfl rfl (st_mv rfl) ?_
            obtain ⟨c3126, h⟩ := okI_some h
            refine ro rfl rfl (st_shl rfl rfl c3126) ?_
            refine ro rfl rfl (st_conv rfl un3 un48) ?_
            refine ro rfl rfl (st_mv rfl) ?_
            obtain ⟨c3127, h⟩ := okI_some h
            refine ro rfl rfl (st_shr rfl rfl c3127) ?_
            refine ro rfl rfl (st_conv rfl un3 un48) ?_
            refine ro rfl rfl (st_bin (v := dI .u64 (IntKind.wrap .u64 ((BitVec.ofInt (IntKind.bits .u64) (IntKind.wrap .u64 (IntKind.wrap .i64 (x3125 * 2 ^ (min (1 : Int).toNat (IntKind.bits .i64))))) ^^^ BitVec.ofInt (IntKind.bits .u64) (IntKind.wrap .u64 (Int.fdiv x3125 (2 ^ (min (63 : Int).toNat (IntKind.bits .i64)))))).toNat : Int))) rfl rfl rfl) ?_
            refine ro rfl rfl (st_as rfl) ?_
            refine rw_nilk ?_
            refine awp_seq ?_
            refine awp_block ?_
            refine awp_while (fun (s3128 : (Int × (List Int))) (g3129 : Nat) => [(1, .ptr 1003 0 0 0), (5, dI .u64 s3128.1), (6, .slice 1008 1 0 ([x454.A, x454.B, x454.Piv, ((x454.Lits.length : Nat) : Int)].length)), (7, dI .i64 ((4 : Nat) : Int)), (8, dI .i64 j3062)]) (fun (s3128 : (Int × (List Int))) (g3129 : Nat) => [(1002, rw' g3129 5 (eI .u8) s3128.2), (1003, .row 0 67 [[.slice 1002 g3129 0 s3128.2.length]]), (1006, .row 0 58 [[dI .u8 x454.Rule, dI .i64 x454.A, dI .i64 x454.B, dI .i64 x454.Piv, dL 1 (eI .i64) x454.Lits]]), (1007, .row 1 5 [[dI .u8 x454.Rule]]), (1008, rw' 1 3 (eI .i64) [x454.A, x454.B, x454.Piv, ((x454.Lits.length : Nat) : Int)])]) g3060 (fun _ _ _ h => h) h (gh_frz rfl rfl ⟨⟨_, rfl, .keep rfl⟩, ⟨_, rfl, .keep rfl⟩, ⟨_, rfl, .keep rfl⟩, ⟨_, rfl, .keep rfl⟩, ⟨_, rfl, .keep rfl⟩, trivial⟩ ⟨⟨_, rfl, objRow _⟩, ⟨_, rfl, objOne ⟨⟨rfl, .keep rfl⟩, trivial⟩⟩, ⟨_, rfl, objOne ⟨⟨rfl, .keep rfl⟩, ⟨rfl, .keep rfl⟩, ⟨rfl, .keep rfl⟩, ⟨rfl, .keep rfl⟩, ⟨rfl, .keep rfl⟩, trivial⟩⟩, ⟨_, rfl, objOne ⟨⟨rfl, .keep rfl⟩, trivial⟩⟩, ⟨_, rfl, objRow _⟩, trivial⟩) ?_
            clear h
            intro s3128 g3129 k3130 h ih3130
            refine awp_seq ?_
            refine awp_rs ?_
            refine ro rfl rfl (st_mv rfl) ?_
            refine ro rfl rfl (st_bin (v := dB (decide (s3128.1 ≥ (128 : Int)))) rfl rfl rfl) ?_
            refine rw_nilk ?_
            refine awp_ite (b := (decide (s3128.1 ≥ (128 : Int)))) rfl (fun p3141 => ?_) (fun p3141 => ?_)
            · replace h := ite_T p3141 h
              refine awp_skip ?_
              refine nx_then ?_
              refine awp_seq ?_
              refine awp_block ?_
              refine awp_rw ?_
              refine ro rfl rfl (st_ldP (v := .slice 1002 g3129 0 s3128.2.length) ta67 rfl rfl rfl rfl) ?_
              refine ro rfl rfl (st_mv rfl) ?_
              refine ro rfl rfl (st_conv rfl un48 un5) ?_
              refine ro rfl rfl (st_bin (v := dI .u8 (IntKind.wrap .u8 ((BitVec.ofInt (IntKind.bits .u8) (IntKind.wrap .u8 s3128.1) ||| BitVec.ofInt (IntKind.bits .u8) (128 : Int)).toNat : Int))) rfl rfl rfl) ?_
              refine rn (r := 1009) rfl rfl (st_bsl (els := [[dI .u8 (IntKind.wrap .u8 ((BitVec.ofInt (IntKind.bits .u8) (IntKind.wrap .u8 s3128.1) ||| BitVec.ofInt (IntKind.bits .u8) (128 : Int)).toNat : Int))]]) sl67 zc5 rfl rfl rfl rfl rfl) rfl ?_
              obtain ⟨c3142, h⟩ := capN_some h
              refine rn (r := 0) (L' := [(1002, rw' (g3129 + 2) 5 (eI .u8) (s3128.2 ++ [(IntKind.wrap .u8 ((BitVec.ofInt (IntKind.bits .u8) (IntKind.wrap .u8 s3128.1) ||| BitVec.ofInt (IntKind.bits .u8) (128 : Int)).toNat : Int))])), (1003, .row 0 67 [[.slice 1002 g3129 0 s3128.2.length]]), (1006, .row 0 58 [[dI .u8 x454.Rule, dI .i64 x454.A, dI .i64 x454.B, dI .i64 x454.Piv, dL 1 (eI .i64) x454.Lits]]), (1007, .row 1 5 [[dI .u8 x454.Rule]]), (1008, rw' 1 3 (eI .i64) [x454.A, x454.B, x454.Piv, ((x454.Lits.length : Nat) : Int)]), (1009, .row 1 5 [[dI .u8 (IntKind.wrap .u8 ((BitVec.ofInt (IntKind.bits .u8) (IntKind.wrap .u8 s3128.1) ||| BitVec.ofInt (IntKind.bits .u8) (128 : Int)).toNat : Int))]])]) rfl rfl (st_appR (f := (eI .u8)) (xs := s3128.2) (ys := [(IntKind.wrap .u8 ((BitVec.ofInt (IntKind.bits .u8) (IntKind.wrap .u8 s3128.1) ||| BitVec.ofInt (IntKind.bits .u8) (128 : Int)).toNat : Int))]) sl67 zc5 rfl rfl rfl rfl rfl (news_one (a := (IntKind.wrap .u8 ((BitVec.ofInt (IntKind.bits .u8) (IntKind.wrap .u8 s3128.1) ||| BitVec.ofInt (IntKind.bits .u8) (128 : Int)).toNat : Int))) rfl rfl) c3142) rfl ?_
              refine rx (L' := [(1002, rw' (g3129 + 2) 5 (eI .u8) (s3128.2 ++ [(IntKind.wrap .u8 ((BitVec.ofInt (IntKind.bits .u8) (IntKind.wrap .u8 s3128.1) ||| BitVec.ofInt (IntKind.bits .u8) (128 : Int)).toNat : Int))])), (1003, .row 0 67 [[.slice 1002 (g3129 + 2) 0 ((s3128.2 ++ [(IntKind.wrap .u8 ((BitVec.ofInt (IntKind.bits .u8) (IntKind.wrap .u8 s3128.1) ||| BitVec.ofInt (IntKind.bits .u8) (128 : Int)).toNat : Int))]).length)]]), (1006, .row 0 58 [[dI .u8 x454.Rule, dI .i64 x454.A, dI .i64 x454.B, dI .i64 x454.Piv, dL 1 (eI .i64) x454.Lits]]), (1007, .row 1 5 [[dI .u8 x454.Rule]]), (1008, rw' 1 3 (eI .i64) [x454.A, x454.B, x454.Piv, ((x454.Lits.length : Nat) : Int)]), (1009, .row 1 5 [[dI .u8 (IntKind.wrap .u8 ((BitVec.ofInt (IntKind.bits .u8) (IntKind.wrap .u8 s3128.1) ||| BitVec.ofInt (IntKind.bits .u8) (128 : Int)).toNat : Int))]])]) rfl rfl (st_stP ta67 rfl rfl rfl rfl rfl rfl rfl rfl) rfl ?_
              refine rw_nil ?_
              refine nx_block ?_
              refine nx_then ?_
              refine awp_rw ?_
              refine ro rfl rfl (st_mv rfl) ?_
              obtain ⟨c3143, h⟩ := okI_some h
              refine ro rfl rfl (st_shr rfl rfl c3143) ?_
              refine ro rfl rfl (st_as rfl) ?_
              refine rw_nil ?_
              refine nx_then ?_
              refine awp_gh ?_ (ih3130 ((Int.fdiv s3128.1 (2 ^ (min (7 : Int).toNat (IntKind.bits .u64)))), (s3128.2 ++ [(IntKind.wrap .u8 ((BitVec.ofInt (IntKind.bits .u8) (IntKind.wrap .u8 s3128.1) ||| BitVec.ofInt (IntKind.bits .u8) (128 : Int)).toNat : Int))])) (g3129 + 2) h)
              exact (gh_frz rfl rfl ⟨⟨_, rfl, .keep rfl⟩, ⟨_, rfl, .keep rfl⟩, ⟨_, rfl, .keep rfl⟩, ⟨_, rfl, .keep rfl⟩, ⟨_, rfl, .keep rfl⟩, trivial⟩ ⟨⟨_, rfl, objRow _⟩, ⟨_, rfl, objOne ⟨⟨rfl, .keep rfl⟩, trivial⟩⟩, ⟨_, rfl, objOne ⟨⟨rfl, .keep rfl⟩, ⟨rfl, .keep rfl⟩, ⟨rfl, .keep rfl⟩, ⟨rfl, .keep rfl⟩, ⟨rfl, .keep rfl⟩, trivial⟩⟩, ⟨_, rfl, objOne ⟨⟨rfl, .keep rfl⟩, trivial⟩⟩, ⟨_, rfl, objRow _⟩, trivial⟩)
            · replace h := ite_F p3141 h
              refine awp_exit ?_
              refine ex_out ?_
              refine ex_out ?_
              refine ex_in ?_
              refine nx_then ?_
              refine awp_rw ?_
              refine ro rfl rfl (st_ldP (v := .slice 1002 g3129 0 s3128.2.length) ta67 rfl rfl rfl rfl) ?_
              refine ro rfl rfl (st_mv rfl) ?_
              refine ro rfl rfl (st_conv rfl un48 un5) ?_
              refine rn (r := 1009) rfl rfl (st_bsl (els := [[dI .u8 (IntKind.wrap .u8 s3128.1)]]) sl67 zc5 rfl rfl rfl rfl rfl) rfl ?_
              obtain ⟨c3144, h⟩ := capN_some h
              refine rn (r := 0) (L' := [(1002, rw' (g3129 + 2) 5 (eI .u8) (s3128.2 ++ [(IntKind.wrap .u8 s3128.1)])), (1003, .row 0 67 [[.slice 1002 g3129 0 s3128.2.length]]), (1006, .row 0 58 [[dI .u8 x454.Rule, dI .i64 x454.A, dI .i64 x454.B, dI .i64 x454.Piv, dL 1 (eI .i64) x454.Lits]]), (1007, .row 1 5 [[dI .u8 x454.Rule]]), (1008, rw' 1 3 (eI .i64) [x454.A, x454.B, x454.Piv, ((x454.Lits.length : Nat) : Int)]), (1009, .row 1 5 [[dI .u8 (IntKind.wrap .u8 s3128.1)]])]) rfl rfl (st_appR (f := (eI .u8)) (xs := s3128.2) (ys := [(IntKind.wrap .u8 s3128.1)]) sl67 zc5 rfl rfl rfl rfl rfl (news_one (a := (IntKind.wrap .u8 s3128.1)) rfl rfl) c3144) rfl ?_
              refine rx (L' := [(1002, rw' (g3129 + 2) 5 (eI .u8) (s3128.2 ++ [(IntKind.wrap .u8 s3128.1)])), (1003, .row 0 67 [[.slice 1002 (g3129 + 2) 0 ((s3128.2 ++ [(IntKind.wrap .u8 s3128.1)]).length)]]), (1006, .row 0 58 [[dI .u8 x454.Rule, dI .i64 x454.A, dI .i64 x454.B, dI .i64 x454.Piv, dL 1 (eI .i64) x454.Lits]]), (1007, .row 1 5 [[dI .u8 x454.Rule]]), (1008, rw' 1 3 (eI .i64) [x454.A, x454.B, x454.Piv, ((x454.Lits.length : Nat) : Int)]), (1009, .row 1 5 [[dI .u8 (IntKind.wrap .u8 s3128.1)]])]) rfl rfl (st_stP ta67 rfl rfl rfl rfl rfl rfl rfl rfl) rfl ?_
              refine rw_nil ?_
              refine nx_block ?_
              refine nx_then ?_
              refine awp_rw ?_
              refine ro rfl rfl (st_incU rfl rfl hl3062 hj3062 hx3062) ?_
              refine ro rfl rfl (st_mv rfl) ?_
              refine rw_nil ?_
              refine nx_then ?_
              refine awp_gh ?_ (ih3061 (s3128.2 ++ [(IntKind.wrap .u8 s3128.1)]) (g3129 + 2) h)
              exact (gh_frz rfl rfl ⟨⟨_, rfl, .keep rfl⟩, ⟨_, rfl, .keep rfl⟩, ⟨_, rfl, .keep rfl⟩, ⟨_, rfl, .keep rfl⟩, trivial⟩ ⟨⟨_, rfl, objRow _⟩, ⟨_, rfl, objOne ⟨⟨rfl, .keep rfl⟩, trivial⟩⟩, ⟨_, rfl, objOne ⟨⟨rfl, .keep rfl⟩, ⟨rfl, .keep rfl⟩, ⟨rfl, .keep rfl⟩, ⟨rfl, .keep rfl⟩, ⟨rfl, .keep rfl⟩, trivial⟩⟩, ⟨_, rfl, objOne ⟨⟨rfl, .keep rfl⟩, trivial⟩⟩, ⟨_, rfl, objRow _⟩, trivial⟩)
          · clear h
            intro s3059 g3060 h
            refine awp_rs ?_
            refine ro rfl rfl (st_bin (v := dB (decide (((0 : Int) + (((((4 : Nat) : Int) - (0 : Int)).toNat : Nat) : Int)) < ((4 : Nat) : Int)))) rfl rfl rfl) ?_
            refine rw_nilk ?_
            refine awp_seq ?_
            refine awp_ifF rfl (dgeI upD) ?_
            refine awp_exit ?_
            refine ex_out ?_
            refine ex_out ?_
            refine ex_in ?_
            refine ret_inN (v := .tup []) (resV_none resVs_nil) ?_
            show RW _ _ _ _ _ _ _
            refine rw_nilk ?_
            refine awp_rw ?_
            refine ro rfl rfl (st_mv rfl) ?_
            refine ro rfl rfl (st_faP fo58_4 rfl) ?_
            refine ro rfl rfl (st_ldP (v := dL 1 (eI .i64) x454.Lits) ta28 rfl rfl rfl rfl) ?_
            refine ri (N := 35) (rs := []) rfl rfl rfl rfl Try.func72 rfl rfl rfl (by kernel_rfl) rfl (fun _B => ?_)
            refine awp_rs ?_
            refine ro rfl rfl (st_mv rfl) ?_
            refine ro rfl rfl (st_lenD rfl un28) ?_
            refine ro rfl rfl (st_mv rfl) ?_
            refine rw_nilk ?_
            refine awp_block ?_
            refine awp_len (t := 0) rfl (fun hl3210 => ?_)
            rw [List.length_map] at hl3210
            refine awp_range (fun (j3210 : Nat) (s3207 : (List Int)) (g3208 : Nat) => [(1, .ptr 1003 0 0 0), (6, dL 1 (eI .i64) x454.Lits), (7, dI .i64 ((x454.Lits.length : Nat) : Int)), (8, dI .i64 ((j3210 : Nat) : Int))]) (fun (s3207 : (List Int)) (g3208 : Nat) => [(1002, rw' g3208 5 (eI .u8) s3207), (1003, .row 0 67 [[.slice 1002 g3208 0 s3207.length]]), (1006, .row 0 58 [[dI .u8 x454.Rule, dI .i64 x454.A, dI .i64 x454.B, dI .i64 x454.Piv, dL 1 (eI .i64) x454.Lits]]), (1007, .row 1 5 [[dI .u8 x454.Rule]]), (1008, rw' 1 3 (eI .i64) [x454.A, x454.B, x454.Piv, ((x454.Lits.length : Nat) : Int)])]) g3060 (fun _ _ _ h => h) h (gh_frz rfl rfl ⟨⟨_, rfl, .keep rfl⟩, ⟨_, rfl, .keep rfl⟩, ⟨_, rfl, .keep rfl⟩, ⟨_, rfl, .keep rfl⟩, trivial⟩ ⟨⟨_, rfl, objRow _⟩, ⟨_, rfl, objOne ⟨⟨rfl, .keep rfl⟩, trivial⟩⟩, ⟨_, rfl, objOne ⟨⟨rfl, .keep rfl⟩, ⟨rfl, .keep rfl⟩, ⟨rfl, .keep rfl⟩, ⟨rfl, .keep rfl⟩, ⟨rfl, .keep rfl⟩, trivial⟩⟩, ⟨_, rfl, objOne ⟨⟨rfl, .keep rfl⟩, trivial⟩⟩, ⟨_, rfl, objRow _⟩, trivial⟩) ?_ ?_
            · clear h
              intro j3210 x3211 s3207 g3208 k3209 hj3210 hx3210 h ih3209
              refine awp_rs ?_
              refine ro rfl rfl (st_bin (v := dB (decide (((j3210 : Nat) : Int) < ((x454.Lits.length : Nat) : Int)))) rfl rfl rfl) ?_
              refine rw_nilk ?_
              refine awp_seq ?_
              refine awp_ifT rfl (dlt hj3210) ?_
              refine awp_skip ?_
              refine nx_then ?_
              refine awp_seq ?_
              refine awp_block ?_
              refine awp_rs ?_
              refine ro rfl rfl (st_ixDn sl28 rfl rfl hx3210) ?_
              refine ro rfl rfl (st_ldD (v := dI .i64 x3211) ta3 rfl rfl) ?_
              refine ro rfl rfl (st_as rfl) ?_
              refine rw_nilk ?_
              refine awp_rs ?_
              refine ro rfl rfl (st_mv rfl) ?_
              obtain ⟨c3250, h⟩ := okI_some h
              refine ro rfl rfl (st_shl rfl rfl c3250) ?_
              refine ro rfl rfl (st_conv rfl un3 un48) ?_
              refine ro rfl rfl (st_mv rfl) ?_
              obtain ⟨c3251, h⟩ := okI_some h
              refine ro rfl rfl (st_shr rfl rfl c3251) ?_
              refine ro rfl rfl (st_conv rfl un3 un48) ?_
              refine ro rfl rfl (st_bin (v := dI .u64 (IntKind.wrap .u64 ((BitVec.ofInt (IntKind.bits .u64) (IntKind.wrap .u64 (IntKind.wrap .i64 (x3211 * 2 ^ (min (1 : Int).toNat (IntKind.bits .i64))))) ^^^ BitVec.ofInt (IntKind.bits .u64) (IntKind.wrap .u64 (Int.fdiv x3211 (2 ^ (min (63 : Int).toNat (IntKind.bits .i64)))))).toNat : Int))) rfl rfl rfl) ?_
              refine ro rfl rfl (st_as rfl) ?_
              refine rw_nilk ?_
              refine awp_seq ?_
              refine awp_block ?_
              refine awp_while (fun (s3252 : (Int × (List Int))) (g3253 : Nat) => [(1, .ptr 1003 0 0 0), (5, dI .u64 s3252.1), (6, dL 1 (eI .i64) x454.Lits), (7, dI .i64 ((x454.Lits.length : Nat) : Int)), (8, dI .i64 ((j3210 : Nat) : Int))]) (fun (s3252 : (Int × (List Int))) (g3253 : Nat) => [(1002, rw' g3253 5 (eI .u8) s3252.2), (1003, .row 0 67 [[.slice 1002 g3253 0 s3252.2.length]]), (1006, .row 0 58 [[dI .u8 x454.Rule, dI .i64 x454.A, dI .i64 x454.B, dI .i64 x454.Piv, dL 1 (eI .i64) x454.Lits]]), (1007, .row 1 5 [[dI .u8 x454.Rule]]), (1008, rw' 1 3 (eI .i64) [x454.A, x454.B, x454.Piv, ((x454.Lits.length : Nat) : Int)])]) g3208 (fun _ _ _ h => h) h (gh_frz rfl rfl ⟨⟨_, rfl, .keep rfl⟩, ⟨_, rfl, .keep rfl⟩, ⟨_, rfl, .keep rfl⟩, ⟨_, rfl, .keep rfl⟩, ⟨_, rfl, .keep rfl⟩, trivial⟩ ⟨⟨_, rfl, objRow _⟩, ⟨_, rfl, objOne ⟨⟨rfl, .keep rfl⟩, trivial⟩⟩, ⟨_, rfl, objOne ⟨⟨rfl, .keep rfl⟩, ⟨rfl, .keep rfl⟩, ⟨rfl, .keep rfl⟩, ⟨rfl, .keep rfl⟩, ⟨rfl, .keep rfl⟩, trivial⟩⟩, ⟨_, rfl, objOne ⟨⟨rfl, .keep rfl⟩, trivial⟩⟩, ⟨_, rfl, objRow _⟩, trivial⟩) ?_
              clear h
              intro s3252 g3253 k3254 h ih3254
              refine awp_seq ?_
              refine awp_rs ?_
              refine ro rfl rfl (st_mv rfl) ?_
              refine ro rfl rfl (st_bin (v := dB (decide (s3252.1 ≥ (128 : Int)))) rfl rfl rfl) ?_
              refine rw_nilk ?_
              refine awp_ite (b := (decide (s3252.1 ≥ (128 : Int)))) rfl (fun p3265 => ?_) (fun p3265 => ?_)
              · replace h := ite_T p3265 h
                refine awp_skip ?_
                refine nx_then ?_
                refine awp_seq ?_
                refine awp_block ?_
                refine awp_rw ?_
                refine ro rfl rfl (st_ldP (v := .slice 1002 g3253 0 s3252.2.length) ta67 rfl rfl rfl rfl) ?_
                refine ro rfl rfl (st_mv rfl) ?_
                refine ro rfl rfl (st_conv rfl un48 un5) ?_
                refine ro rfl rfl (st_bin (v := dI .u8 (IntKind.wrap .u8 ((BitVec.ofInt (IntKind.bits .u8) (IntKind.wrap .u8 s3252.1) ||| BitVec.ofInt (IntKind.bits .u8) (128 : Int)).toNat : Int))) rfl rfl rfl) ?_
                refine rn (r := 1010) rfl rfl (st_bsl (els := [[dI .u8 (IntKind.wrap .u8 ((BitVec.ofInt (IntKind.bits .u8) (IntKind.wrap .u8 s3252.1) ||| BitVec.ofInt (IntKind.bits .u8) (128 : Int)).toNat : Int))]]) sl67 zc5 rfl rfl rfl rfl rfl) rfl ?_
                obtain ⟨c3266, h⟩ := capN_some h
                refine rn (r := 0) (L' := [(1002, rw' (g3253 + 2) 5 (eI .u8) (s3252.2 ++ [(IntKind.wrap .u8 ((BitVec.ofInt (IntKind.bits .u8) (IntKind.wrap .u8 s3252.1) ||| BitVec.ofInt (IntKind.bits .u8) (128 : Int)).toNat : Int))])), (1003, .row 0 67 [[.slice 1002 g3253 0 s3252.2.length]]), (1006, .row 0 58 [[dI .u8 x454.Rule, dI .i64 x454.A, dI .i64 x454.B, dI .i64 x454.Piv, dL 1 (eI .i64) x454.Lits]]), (1007, .row 1 5 [[dI .u8 x454.Rule]]), (1008, rw' 1 3 (eI .i64) [x454.A, x454.B, x454.Piv, ((x454.Lits.length : Nat) : Int)]), (1010, .row 1 5 [[dI .u8 (IntKind.wrap .u8 ((BitVec.ofInt (IntKind.bits .u8) (IntKind.wrap .u8 s3252.1) ||| BitVec.ofInt (IntKind.bits .u8) (128 : Int)).toNat : Int))]])]) rfl rfl (st_appR (f := (eI .u8)) (xs := s3252.2) (ys := [(IntKind.wrap .u8 ((BitVec.ofInt (IntKind.bits .u8) (IntKind.wrap .u8 s3252.1) ||| BitVec.ofInt (IntKind.bits .u8) (128 : Int)).toNat : Int))]) sl67 zc5 rfl rfl rfl rfl rfl (news_one (a := (IntKind.wrap .u8 ((BitVec.ofInt (IntKind.bits .u8) (IntKind.wrap .u8 s3252.1) ||| BitVec.ofInt (IntKind.bits .u8) (128 : Int)).toNat : Int))) rfl rfl) c3266) rfl ?_
                refine rx (L' := [(1002, rw' (g3253 + 2) 5 (eI .u8) (s3252.2 ++ [(IntKind.wrap .u8 ((BitVec.ofInt (IntKind.bits .u8) (IntKind.wrap .u8 s3252.1) ||| BitVec.ofInt (IntKind.bits .u8) (128 : Int)).toNat : Int))])), (1003, .row 0 67 [[.slice 1002 (g3253 + 2) 0 ((s3252.2 ++ [(IntKind.wrap .u8 ((BitVec.ofInt (IntKind.bits .u8) (IntKind.wrap .u8 s3252.1) ||| BitVec.ofInt (IntKind.bits .u8) (128 : Int)).toNat : Int))]).length)]]), (1006, .row 0 58 [[dI .u8 x454.Rule, dI .i64 x454.A, dI .i64 x454.B, dI .i64 x454.Piv, dL 1 (eI .i64) x454.Lits]]), (1007, .row 1 5 [[dI .u8 x454.Rule]]), (1008, rw' 1 3 (eI .i64) [x454.A, x454.B, x454.Piv, ((x454.Lits.length : Nat) : Int)]), (1010, .row 1 5 [[dI .u8 (IntKind.wrap .u8 ((BitVec.ofInt (IntKind.bits .u8) (IntKind.wrap .u8 s3252.1) ||| BitVec.ofInt (IntKind.bits .u8) (128 : Int)).toNat : Int))]])]) rfl rfl (st_stP ta67 rfl rfl rfl rfl rfl rfl rfl rfl) rfl ?_
                refine rw_nil ?_
                refine nx_block ?_
                refine nx_then ?_
                refine awp_rw ?_
                refine ro rfl rfl (st_mv rfl) ?_
                obtain ⟨c3267, h⟩ := okI_some h
                refine ro rfl rfl (st_shr rfl rfl c3267) ?_
                refine ro rfl rfl (st_as rfl) ?_
                refine rw_nil ?_
                refine nx_then ?_
                refine awp_gh ?_ (ih3254 ((Int.fdiv s3252.1 (2 ^ (min (7 : Int).toNat (IntKind.bits .u64)))), (s3252.2 ++ [(IntKind.wrap .u8 ((BitVec.ofInt (IntKind.bits .u8) (IntKind.wrap .u8 s3252.1) ||| BitVec.ofInt (IntKind.bits .u8) (128 : Int)).toNat : Int))])) (g3253 + 2) h)
                exact (gh_frz rfl rfl ⟨⟨_, rfl, .keep rfl⟩, ⟨_, rfl, .keep rfl⟩, ⟨_, rfl, .keep rfl⟩, ⟨_, rfl, .keep rfl⟩, ⟨_, rfl, .keep rfl⟩, trivial⟩ ⟨⟨_, rfl, objRow _⟩, ⟨_, rfl, objOne ⟨⟨rfl, .keep rfl⟩, trivial⟩⟩, ⟨_, rfl, objOne ⟨⟨rfl, .keep rfl⟩, ⟨rfl, .keep rfl⟩, ⟨rfl, .keep rfl⟩, ⟨rfl, .keep rfl⟩, ⟨rfl, .keep rfl⟩, trivial⟩⟩, ⟨_, rfl, objOne ⟨⟨rfl, .keep rfl⟩, trivial⟩⟩, ⟨_, rfl, objRow _⟩, trivial⟩)
              · replace h := ite_F p3265 h
                refine awp_exit ?_
                refine ex_out ?_
                refine ex_out ?_
                refine ex_in ?_
                refine nx_then ?_
                refine awp_rw ?_
                refine ro rfl rfl (st_ldP (v := .slice 1002 g3253 0 s3252.2.length) ta67 rfl rfl rfl rfl) ?_
                refine ro rfl rfl (st_mv rfl) ?_
                refine ro rfl rfl (st_conv rfl un48 un5) ?_
                refine rn (r := 1010) rfl rfl (st_bsl (els := [[dI .u8 (IntKind.wrap .u8 s3252.1)]]) sl67 zc5 rfl rfl rfl rfl rfl) rfl ?_
                obtain ⟨c3268, h⟩ := capN_some h
                refine rn (r := 0) (L' := [(1002, rw' (g3253 + 2) 5 (eI .u8) (s3252.2 ++ [(IntKind.wrap .u8 s3252.1)])), (1003, .row 0 67 [[.slice 1002 g3253 0 s3252.2.length]]), (1006, .row 0 58 [[dI .u8 x454.Rule, dI .i64 x454.A, dI .i64 x454.B, dI .i64 x454.Piv, dL 1 (eI .i64) x454.Lits]]), (1007, .row 1 5 [[dI .u8 x454.Rule]]), (1008, rw' 1 3 (eI .i64) [x454.A, x454.B, x454.Piv, ((x454.Lits.length : Nat) : Int)]), (1010, .row 1 5 [[dI .u8 (IntKind.wrap .u8 s3252.1)]])]) rfl rfl (st_appR (f := (eI .u8)) (xs := s3252.2) (ys := [(IntKind.wrap .u8 s3252.1)]) sl67 zc5 rfl rfl rfl rfl rfl (news_one (a := (IntKind.wrap .u8 s3252.1)) rfl rfl) c3268) rfl ?_
                refine rx (L' := [(1002, rw' (g3253 + 2) 5 (eI .u8) (s3252.2 ++ [(IntKind.wrap .u8 s3252.1)])), (1003, .row 0 67 [[.slice 1002 (g3253 + 2) 0 ((s3252.2 ++ [(IntKind.wrap .u8 s3252.1)]).length)]]), (1006, .row 0 58 [[dI .u8 x454.Rule, dI .i64 x454.A, dI .i64 x454.B, dI .i64 x454.Piv, dL 1 (eI .i64) x454.Lits]]), (1007, .row 1 5 [[dI .u8 x454.Rule]]), (1008, rw' 1 3 (eI .i64) [x454.A, x454.B, x454.Piv, ((x454.Lits.length : Nat) : Int)]), (1010, .row 1 5 [[dI .u8 (IntKind.wrap .u8 s3252.1)]])]) rfl rfl (st_stP ta67 rfl rfl rfl rfl rfl rfl rfl rfl) rfl ?_
                refine rw_nil ?_
                refine nx_block ?_
                refine nx_then ?_
                refine awp_rw ?_
                refine ro rfl rfl (st_inc rfl rfl hj3210 hl3210) ?_
                refine ro rfl rfl (st_mv rfl) ?_
                refine rw_nil ?_
                refine nx_then ?_
                refine awp_gh ?_ (ih3209 (s3252.2 ++ [(IntKind.wrap .u8 s3252.1)]) (g3253 + 2) h)
                exact (gh_frz rfl rfl ⟨⟨_, rfl, .keep rfl⟩, ⟨_, rfl, .keep rfl⟩, ⟨_, rfl, .keep rfl⟩, ⟨_, rfl, .keep rfl⟩, trivial⟩ ⟨⟨_, rfl, objRow _⟩, ⟨_, rfl, objOne ⟨⟨rfl, .keep rfl⟩, trivial⟩⟩, ⟨_, rfl, objOne ⟨⟨rfl, .keep rfl⟩, ⟨rfl, .keep rfl⟩, ⟨rfl, .keep rfl⟩, ⟨rfl, .keep rfl⟩, ⟨rfl, .keep rfl⟩, trivial⟩⟩, ⟨_, rfl, objOne ⟨⟨rfl, .keep rfl⟩, trivial⟩⟩, ⟨_, rfl, objRow _⟩, trivial⟩)
            · clear h
              intro s3207 g3208 h
              refine awp_rs ?_
              refine ro rfl rfl (st_bin (v := dB (decide (((x454.Lits.length : Nat) : Int) < ((x454.Lits.length : Nat) : Int)))) rfl rfl rfl) ?_
              refine rw_nilk ?_
              refine awp_seq ?_
              refine awp_ifF rfl dge ?_
              refine awp_exit ?_
              refine ex_out ?_
              refine ex_out ?_
              refine ex_in ?_
              refine ret_inN (v := .tup []) (resV_none resVs_nil) ?_
              show RW _ _ _ _ _ _ _
              refine rw_nil ?_
              refine nx_block ?_
              refine nx_then ?_
              refine awp_rw ?_
              refine ro rfl rfl (st_inc rfl rfl hj453 hl453) ?_
              refine ro rfl rfl (st_mv rfl) ?_
              refine rw_nil ?_
              refine nx_then ?_
              refine awp_gh ?_ (ih452 s3207 g3208 h)
              exact (gh_frz rfl rfl ⟨⟨_, rfl, .keep rfl⟩, ⟨_, rfl, .keep rfl⟩, ⟨_, rfl, .keep rfl⟩, ⟨_, rfl, .keep rfl⟩, ⟨_, rfl, .keep rfl⟩, trivial⟩ ⟨⟨_, rfl, objRow _⟩, ⟨_, rfl, objOne ⟨⟨rfl, .keep rfl⟩, trivial⟩⟩, trivial⟩)
        · clear h
          intro s450 g451 h
          refine awp_rs ?_
          refine ro rfl rfl (st_bin (v := dB (decide (((a0.Lines.length : Nat) : Int) < ((a0.Lines.length : Nat) : Int)))) rfl rfl rfl) ?_
          refine rw_nilk ?_
          refine awp_seq ?_
          refine awp_ifF rfl dge ?_
          refine awp_exit ?_
          refine ex_out ?_
          refine ex_out ?_
          refine ex_in ?_
          refine nx_then ?_
          refine awp_rs ?_
          refine ro rfl rfl (st_ldP (v := .slice 1002 g451 0 s450.length) ta67 rfl rfl rfl rfl) ?_
          refine ro rfl rfl (st_as rfl) ?_
          refine ro rfl rfl (st_as rfl) ?_
          refine rw_nilk ?_
          refine awp_ret ?_
          injection h with h
          subst h
          exact ret_out (v := .tup [.slice 1002 g451 0 s450.length, dI .i64 (0 : Int)]) (resV_many (resVs_tmp rfl (resVs_tmp rfl resVs_nil))) (frz_tup ⟨(frzT rfl rfl co5 rfl), (.keep rfl), trivial⟩)
    · clear h
      intro k105 h J105
      refine awp_rs ?_
      refine ro rfl rfl (st_faP fo25_0 rfl) ?_
      refine ro rfl rfl (st_ldP (v := dB a0.Cubes) ta4 rfl rfl rfl rfl) ?_
      refine rw_nilk ?_
      refine awp_ite (b := a0.Cubes) rfl (fun p3269 => ?_) (fun p3269 => ?_)
      · replace h := ite_T p3269 h
        refine awp_rw ?_
        refine ro rfl rfl (st_ldP (v := .slice 1002 1 0 4) ta67 rfl rfl rfl rfl) ?_
        refine ro rfl rfl (st_ixRc (j := 3) sl67 rfl rfl rfl rfl) ?_
        refine rx (L' := [(1001, .row 0 25 [[dB a0.Cubes, dL 5 e_S_api_Line a0.Lines]]), (1002, .row 1 5 [[dI .u8 (82 : Int)], [dI .u8 (80 : Int)], [dI .u8 (1 : Int)], [dI .u8 (1 : Int)]]), (1003, .row 0 67 [[.slice 1002 1 0 4]])]) rfl rfl (st_stP ta5 rfl rfl rfl rfl rfl rfl rfl rfl) rfl ?_
        refine rw_nil ?_
        refine nx_then ?_
        exact J105 [(82 : Int), (80 : Int), (1 : Int), (1 : Int)] () _ _ h (gh_frz rfl rfl ⟨⟨_, rfl, .keep rfl⟩, ⟨_, rfl, .keep rfl⟩, trivial⟩ ⟨⟨_, rfl, objOne ⟨⟨rfl, .keep rfl⟩, ⟨rfl, .keep rfl⟩, trivial⟩⟩, ⟨_, rfl, objRow (List.map (eI .u8) [(82 : Int), (80 : Int), (1 : Int), (1 : Int)])⟩, ⟨_, rfl, objOne ⟨⟨rfl, .keep rfl⟩, trivial⟩⟩, trivial⟩)
      · replace h := ite_F p3269 h
        refine awp_skip ?_
        refine nx_then ?_
        exact J105 [(82 : Int), (80 : Int), (1 : Int), (0 : Int)] () _ _ h (gh_frz rfl rfl ⟨⟨_, rfl, .keep rfl⟩, ⟨_, rfl, .keep rfl⟩, trivial⟩ ⟨⟨_, rfl, objOne ⟨⟨rfl, .keep rfl⟩, ⟨rfl, .keep rfl⟩, trivial⟩⟩, ⟨_, rfl, objRow (List.map (eI .u8) [(82 : Int), (80 : Int), (1 : Int), (0 : Int)])⟩, ⟨_, rfl, objOne ⟨⟨rfl, .keep rfl⟩, trivial⟩⟩, trivial⟩)

theorem om_proof_source_byte {a0 : S_proof_source} {r : Option Int × S_proof_source} (h : F_proof_source_byte a0 = some r) : Ev Try.prog 92 [.ptr 1001 0 0 0] [(1001, .row 0 103 [[dL 1 (eI .u8) a0.b]])] (outP (fun (q : Int) => dI .u8 q) (.iface 101 (.ptr 1001 0 0 0)) r.1) [(1001, .row 0 103 [[dL 1 (eI .u8) r.2.b]])] := by
  unfold F_proof_source_byte at h
  refine Ev.of_bodyM (N := 27) (rs := [.tmp 2]) Try.func92 (c := _) rfl rfl rfl (by kernel_rfl) rfl (Nat.le_of_ble_eq_true rfl) (fun _B => ?_)
  refine awp_rs ?_
  refine ro rfl rfl (st_as rfl) ?_
  refine rw_nilk ?_
  refine awp_rs ?_
  refine ro rfl rfl (st_mv rfl) ?_
  refine ro rfl rfl (st_mv rfl) ?_
  refine ro rfl rfl (st_nilP rfl) ?_
  refine ro rfl rfl (st_faP fo103_0 rfl) ?_
  refine ro rfl rfl (st_ldP (v := dL 1 (eI .u8) a0.b) ta67 rfl rfl rfl rfl) ?_
  refine ro rfl rfl (st_lenD rfl un67) ?_
  refine ro rfl rfl (st_bin (v := dB (decide (((a0.b.length : Nat) : Int) > (0 : Int)))) rfl rfl rfl) ?_
  refine ri (N := 8) (rs := []) rfl rfl rfl rfl Try.func91 rfl rfl rfl (by kernel_rfl) rfl (fun _B => ?_)
  refine awp_rs ?_
  refine ro rfl rfl (st_mv rfl) ?_
  refine ro rfl rfl (st_un (v := dB (!(decide (((a0.b.length : Nat) : Int) > (0 : Int))))) rfl rfl) ?_
  refine rw_nilk ?_
  refine awp_ite (b := (!(decide (((a0.b.length : Nat) : Int) > (0 : Int))))) rfl (fun p102 => ?_) (fun p102 => ?_)
  · replace h := ite_T p102 h
    refine awp_rw ?_
    refine ro rfl rfl (st_mv rfl) ?_
    refine ro rfl rfl (st_mkIf ic101 rfl) ?_
    refine rw_panic rfl rfl ?_
    refine pn_in ?_
    refine pn_then ?_
    injection h with h
    subst h
    exact panM rfl rfl ⟨⟨_, rfl, objOne ⟨⟨rfl, .keep rfl⟩, trivial⟩⟩, trivial⟩
  · replace h := ite_F p102 h
    refine awp_skip ?_
    refine ret_inN (v := .tup []) (resV_none resVs_nil) ?_
    show RW _ _ _ _ _ _ _
    refine rw_nilk ?_
    refine awp_rs ?_
    refine ro rfl rfl (st_mv rfl) ?_
    refine ro rfl rfl (st_nilP rfl) ?_
    refine ro rfl rfl (st_faP fo103_0 rfl) ?_
    refine ro rfl rfl (st_ldP (v := dL 1 (eI .u8) a0.b) ta67 rfl rfl rfl rfl) ?_
    obtain ⟨x103, h0103, hx103, h⟩ := getI_some h
    refine ro rfl rfl (st_ixD sl67 rfl rfl h0103 hx103) ?_
    refine ro rfl rfl (st_ldD (v := dI .u8 x103) ta5 rfl rfl) ?_
    refine ro rfl rfl (st_as rfl) ?_
    refine rw_nilk ?_
    refine awp_rs ?_
    refine ro rfl rfl (st_mv rfl) ?_
    refine ro rfl rfl (st_mv rfl) ?_
    refine ro rfl rfl (st_nilP rfl) ?_
    refine ro rfl rfl (st_faP fo103_0 rfl) ?_
    refine ro rfl rfl (st_ldP (v := dL 1 (eI .u8) a0.b) ta67 rfl rfl rfl rfl) ?_
    obtain ⟨c104, h⟩ := okI_some h
    refine ro rfl rfl (st_slLo sl67 rfl rfl c104.1 c104.2) ?_
    refine ro rfl rfl (st_nilP rfl) ?_
    refine ro rfl rfl (st_faP fo103_0 rfl) ?_
    refine rx (L' := [(1001, .row 0 103 [[dL 1 (eI .u8) (a0.b.drop (1 : Int).toNat)]])]) rfl rfl (st_stP ta67 rfl rfl rfl rfl rfl rfl rfl rfl) rfl ?_
    refine rw_nilk ?_
    refine awp_rs ?_
    refine ro rfl rfl (st_mv rfl) ?_
    refine ro rfl rfl (st_as rfl) ?_
    refine rw_nilk ?_
    refine awp_ret ?_
    injection h with h
    subst h
    exact retM (v := dI .u8 x103) (resV_one (resVs_tmp rfl resVs_nil)) rfl (.keep rfl) ⟨⟨_, rfl, objOne ⟨⟨rfl, .keep rfl⟩, trivial⟩⟩, trivial⟩

theorem om_proof_source_number {a0 : S_proof_source} {r : Option Int × S_proof_source} (h : F_proof_source_number a0 = some r) : Ev Try.prog 93 [.ptr 1001 0 0 0] [(1001, .row 0 103 [[dL 1 (eI .u8) a0.b]])] (outP (fun (q : Int) => dI .i64 q) (.iface 101 (.ptr 1001 0 0 0)) r.1) [(1001, .row 0 103 [[dL 1 (eI .u8) r.2.b]])] := by
  unfold F_proof_source_number at h
  refine Ev.of_bodyM (N := 43) (rs := [.tmp 2]) Try.func93 (c := _) rfl rfl rfl (by kernel_rfl) rfl (Nat.le_of_ble_eq_true rfl) (fun _B => ?_)
  refine awp_rs ?_
  refine ro rfl rfl (st_as rfl) ?_
  refine rw_nilk ?_
  refine awp_rs ?_
  refine ro rfl rfl (st_as rfl) ?_
  refine rw_nilk ?_
  refine awp_rs ?_
  refine ro rfl rfl (st_as rfl) ?_
  refine rw_nilk ?_
  refine awp_block ?_
  refine awp_while (fun (s101 : (Int × Int × (List Int))) (g102 : Unit) => [(0, .ptr 1001 0 0 0), (3, dI .u64 s101.1), (4, dI .i64 s101.2.1)]) (fun (s101 : (Int × Int × (List Int))) (g102 : Unit) => [(1001, .row 0 103 [[dL 1 (eI .u8) s101.2.2]])]) () (fun _ _ _ h => h) h (gh_frz rfl rfl ⟨⟨_, rfl, .keep rfl⟩, ⟨_, rfl, .keep rfl⟩, ⟨_, rfl, .keep rfl⟩, trivial⟩ ⟨⟨_, rfl, objOne ⟨⟨rfl, .keep rfl⟩, trivial⟩⟩, trivial⟩) ?_
  clear h
  intro s101 g102 k103 h ih103
  refine awp_seq ?_
  refine awp_block ?_
  refine awp_rs ?_
  refine ro rfl rfl (st_mv rfl) ?_
  obtain ⟨y226, hy226, h⟩ := bind_some_elim h
  rcases pcase_split h with ⟨he227, h⟩ | ⟨z227, he227, h⟩
  · refine rcallP (v := .iface 101 (.ptr 1001 0 0 0)) (L0 := [(1001, .row 0 103 [[dL 1 (eI .u8) s101.2.2]])]) (L1 := [(1001, .row 0 103 [[dL 1 (eI .u8) y226.2.b]])]) (L' := [(1001, .row 0 103 [[dL 1 (eI .u8) y226.2.b]])]) rfl rfl rfl rfl (by have q := om_proof_source_byte hy226; rw [he227] at q; exact q) ⟨rfl, trivial⟩ rfl ⟨rfl, trivial⟩ rfl rfl ?_
    refine pn_then ?_
    refine pn_block ?_
    refine pn_then ?_
    refine pn_then ?_
    refine pn_block ?_
    injection h with h
    subst h
    exact panM rfl rfl ⟨⟨_, rfl, objOne ⟨⟨rfl, .keep rfl⟩, trivial⟩⟩, trivial⟩
  · refine rcall (v := dI .u8 z227) (L0 := [(1001, .row 0 103 [[dL 1 (eI .u8) s101.2.2]])]) (L1 := [(1001, .row 0 103 [[dL 1 (eI .u8) y226.2.b]])]) (L' := [(1001, .row 0 103 [[dL 1 (eI .u8) y226.2.b]])]) rfl rfl rfl rfl (by have q := om_proof_source_byte hy226; rw [he227] at q; exact q) ⟨rfl, trivial⟩ rfl ⟨rfl, trivial⟩ rfl rfl ?_
    refine ro rfl rfl (st_as rfl) ?_
    refine rw_nilk ?_
    refine awp_jn (fun (s236 : (Bool × Bool × Bool)) (g237 : Unit) => [(0, .ptr 1001 0 0 0), (3, dI .u64 s101.1), (4, dI .i64 s101.2.1), (5, dI .u8 z227), (18, dI .u8 z227), (19, dB s236.1), (20, dB s236.2.1), (23, dB s236.2.2)]) (fun (s236 : (Bool × Bool × Bool)) (g237 : Unit) => [(1001, .row 0 103 [[dL 1 (eI .u8) y226.2.b]])]) h ?_ ?_
    · clear h
      intro s236 g237 h
      refine awp_rs ?_
      refine ro rfl rfl (st_mv rfl) ?_
      refine ro rfl rfl (st_mv rfl) ?_
      refine ro rfl rfl (st_bin (v := dI .u8 (IntKind.wrap .u8 ((BitVec.ofInt (IntKind.bits .u8) z227 &&& BitVec.ofInt (IntKind.bits .u8) (127 : Int)).toNat : Int))) rfl rfl rfl) ?_
      refine ro rfl rfl (st_conv rfl un5 un48) ?_
      refine ro rfl rfl (st_mv rfl) ?_
      obtain ⟨c239, h⟩ := okI_some h
      refine ro rfl rfl (st_shl rfl rfl c239) ?_
      refine ro rfl rfl (st_bin (v := dI .u64 (IntKind.wrap .u64 ((BitVec.ofInt (IntKind.bits .u64) s101.1 ||| BitVec.ofInt (IntKind.bits .u64) (IntKind.wrap .u64 ((IntKind.wrap .u64 (IntKind.wrap .u8 ((BitVec.ofInt (IntKind.bits .u8) z227 &&& BitVec.ofInt (IntKind.bits .u8) (127 : Int)).toNat : Int))) * 2 ^ (min s101.2.1.toNat (IntKind.bits .u64))))).toNat : Int))) rfl rfl rfl) ?_
      refine ro rfl rfl (st_as rfl) ?_
      refine rw_nilk ?_
      refine awp_rs ?_
      refine ro rfl rfl (st_mv rfl) ?_
      refine ro rfl rfl (st_bin (v := dB (decide (z227 < (128 : Int)))) rfl rfl rfl) ?_
      refine rw_nilk ?_
      refine awp_ite (b := (decide (z227 < (128 : Int)))) rfl (fun p240 => ?_) (fun p240 => ?_)
      · replace h := ite_T p240 h
        refine awp_rs ?_
        refine ro rfl rfl (st_mv rfl) ?_
        obtain ⟨c241, h⟩ := okI_some h
        refine ro rfl rfl (st_shr rfl rfl c241) ?_
        refine ro rfl rfl (st_conv rfl un48 un3) ?_
        refine ro rfl rfl (st_mv rfl) ?_
        refine ro rfl rfl (st_bin (v := dI .u64 (IntKind.wrap .u64 ((BitVec.ofInt (IntKind.bits .u64) (IntKind.wrap .u64 ((BitVec.ofInt (IntKind.bits .u64) s101.1 ||| BitVec.ofInt (IntKind.bits .u64) (IntKind.wrap .u64 ((IntKind.wrap .u64 (IntKind.wrap .u8 ((BitVec.ofInt (IntKind.bits .u8) z227 &&& BitVec.ofInt (IntKind.bits .u8) (127 : Int)).toNat : Int))) * 2 ^ (min s101.2.1.toNat (IntKind.bits .u64))))).toNat : Int)) &&& BitVec.ofInt (IntKind.bits .u64) (1 : Int)).toNat : Int))) rfl rfl rfl) ?_
        refine ro rfl rfl (st_conv rfl un48 un3) ?_
        refine ro rfl rfl (st_un (v := dI .i64 (IntKind.wrap .i64 (0 - (IntKind.wrap .i64 (IntKind.wrap .u64 ((BitVec.ofInt (IntKind.bits .u64) (IntKind.wrap .u64 ((BitVec.ofInt (IntKind.bits .u64) s101.1 ||| BitVec.ofInt (IntKind.bits .u64) (IntKind.wrap .u64 ((IntKind.wrap .u64 (IntKind.wrap .u8 ((BitVec.ofInt (IntKind.bits .u8) z227 &&& BitVec.ofInt (IntKind.bits .u8) (127 : Int)).toNat : Int))) * 2 ^ (min s101.2.1.toNat (IntKind.bits .u64))))).toNat : Int)) &&& BitVec.ofInt (IntKind.bits .u64) (1 : Int)).toNat : Int)))))) rfl rfl) ?_
        refine ro rfl rfl (st_bin (v := dI .i64 (IntKind.wrap .i64 ((BitVec.ofInt (IntKind.bits .i64) (IntKind.wrap .i64 (Int.fdiv (IntKind.wrap .u64 ((BitVec.ofInt (IntKind.bits .u64) s101.1 ||| BitVec.ofInt (IntKind.bits .u64) (IntKind.wrap .u64 ((IntKind.wrap .u64 (IntKind.wrap .u8 ((BitVec.ofInt (IntKind.bits .u8) z227 &&& BitVec.ofInt (IntKind.bits .u8) (127 : Int)).toNat : Int))) * 2 ^ (min s101.2.1.toNat (IntKind.bits .u64))))).toNat : Int)) (2 ^ (min (1 : Int).toNat (IntKind.bits .u64))))) ^^^ BitVec.ofInt (IntKind.bits .i64) (IntKind.wrap .i64 (0 - (IntKind.wrap .i64 (IntKind.wrap .u64 ((BitVec.ofInt (IntKind.bits .u64) (IntKind.wrap .u64 ((BitVec.ofInt (IntKind.bits .u64) s101.1 ||| BitVec.ofInt (IntKind.bits .u64) (IntKind.wrap .u64 ((IntKind.wrap .u64 (IntKind.wrap .u8 ((BitVec.ofInt (IntKind.bits .u8) z227 &&& BitVec.ofInt (IntKind.bits .u8) (127 : Int)).toNat : Int))) * 2 ^ (min s101.2.1.toNat (IntKind.bits .u64))))).toNat : Int)) &&& BitVec.ofInt (IntKind.bits .u64) (1 : Int)).toNat : Int)))))).toNat : Int))) rfl rfl rfl) ?_
        refine ro rfl rfl (st_as rfl) ?_
        refine rw_nilk ?_
        refine awp_ret ?_
        refine rt_block ?_
        refine rt_then ?_
        refine rt_then ?_
        refine rt_block ?_
        injection h with h
        subst h
        exact retM (v := dI .i64 (IntKind.wrap .i64 ((BitVec.ofInt (IntKind.bits .i64) (IntKind.wrap .i64 (Int.fdiv (IntKind.wrap .u64 ((BitVec.ofInt (IntKind.bits .u64) s101.1 ||| BitVec.ofInt (IntKind.bits .u64) (IntKind.wrap .u64 ((IntKind.wrap .u64 (IntKind.wrap .u8 ((BitVec.ofInt (IntKind.bits .u8) z227 &&& BitVec.ofInt (IntKind.bits .u8) (127 : Int)).toNat : Int))) * 2 ^ (min s101.2.1.toNat (IntKind.bits .u64))))).toNat : Int)) (2 ^ (min (1 : Int).toNat (IntKind.bits .u64))))) ^^^ BitVec.ofInt (IntKind.bits .i64) (IntKind.wrap .i64 (0 - (IntKind.wrap .i64 (IntKind.wrap .u64 ((BitVec.ofInt (IntKind.bits .u64) (IntKind.wrap .u64 ((BitVec.ofInt (IntKind.bits .u64) s101.1 ||| BitVec.ofInt (IntKind.bits .u64) (IntKind.wrap .u64 ((IntKind.wrap .u64 (IntKind.wrap .u8 ((BitVec.ofInt (IntKind.bits .u8) z227 &&& BitVec.ofInt (IntKind.bits .u8) (127 : Int)).toNat : Int))) * 2 ^ (min s101.2.1.toNat (IntKind.bits .u64))))).toNat : Int)) &&& BitVec.ofInt (IntKind.bits .u64) (1 : Int)).toNat : Int)))))).toNat : Int))) (resV_one (resVs_tmp rfl resVs_nil)) rfl (.keep rfl) ⟨⟨_, rfl, objOne ⟨⟨rfl, .keep rfl⟩, trivial⟩⟩, trivial⟩
      · replace h := ite_F p240 h
        refine awp_skip ?_
        refine nx_block ?_
        refine nx_then ?_
        refine awp_rw ?_
        refine ro rfl rfl (st_mv rfl) ?_
        refine ro rfl rfl (st_bin (v := dI .i64 (IntKind.wrap .i64 (s101.2.1 + (7 : Int)))) rfl rfl rfl) ?_
        refine ro rfl rfl (st_as rfl) ?_
        refine rw_nil ?_
        refine nx_then ?_
        refine awp_gh ?_ (ih103 ((IntKind.wrap .u64 ((BitVec.ofInt (IntKind.bits .u64) s101.1 ||| BitVec.ofInt (IntKind.bits .u64) (IntKind.wrap .u64 ((IntKind.wrap .u64 (IntKind.wrap .u8 ((BitVec.ofInt (IntKind.bits .u8) z227 &&& BitVec.ofInt (IntKind.bits .u8) (127 : Int)).toNat : Int))) * 2 ^ (min s101.2.1.toNat (IntKind.bits .u64))))).toNat : Int)), (IntKind.wrap .i64 (s101.2.1 + (7 : Int))), y226.2.b) () h)
        exact (gh_frz rfl rfl ⟨⟨_, rfl, .keep rfl⟩, ⟨_, rfl, .keep rfl⟩, ⟨_, rfl, .keep rfl⟩, trivial⟩ ⟨⟨_, rfl, objOne ⟨⟨rfl, .keep rfl⟩, trivial⟩⟩, trivial⟩)
    · clear h
      intro k238 h J238
      refine awp_rw ?_
      refine ro rfl rfl (st_mv rfl) ?_
      refine ro rfl rfl (st_mv rfl) ?_
      refine ro rfl rfl (st_bin (v := dB (decide (s101.2.1 < (63 : Int)))) rfl rfl rfl) ?_
      refine ro rfl rfl (st_mv rfl) ?_
      refine bool_split (decide (s101.2.1 < (63 : Int))) (fun p242 => ?_) (fun p242 => ?_)
      · replace h := ite_T p242 h
        rw [p242]
        refine rz rfl rfl ?_
        refine rz rfl rfl ?_
        refine ro rfl rfl (st_pickT rfl rfl) ?_
        refine ro rfl rfl (st_mv rfl) ?_
        refine ro rfl rfl (st_mv rfl) ?_
        refine ro rfl rfl (st_bin (v := dB (decide (z227 > (0 : Int)))) rfl rfl rfl) ?_
        refine ro rfl rfl (st_mv rfl) ?_
        refine bool_split (decide (z227 > (0 : Int))) (fun p243 => ?_) (fun p243 => ?_)
        · replace h := ite_T p243 h
          rw [p243]
          refine rz rfl rfl ?_
          refine rz rfl rfl ?_
          refine ro rfl rfl (st_pickT rfl rfl) ?_
          refine ro rfl rfl (st_pickT rfl rfl) ?_
          refine ri (N := 8) (rs := []) rfl rfl rfl rfl Try.func91 rfl rfl rfl (by kernel_rfl) rfl (fun _B => ?_)
          refine awp_rs ?_
          refine ro rfl rfl (st_mv rfl) ?_
          refine ro rfl rfl (st_un (v := dB false) rfl rfl) ?_
          refine rw_nilk ?_
          refine awp_condF rfl ?_
          refine awp_skip ?_
          refine ret_inN (v := .tup []) (resV_none resVs_nil) ?_
          show RW _ _ _ _ _ _ _
          refine rw_nil ?_
          refine nx_then ?_
          exact J238 (true, true, true) () _ _ h (gh_frz rfl rfl ⟨⟨_, rfl, .keep rfl⟩, ⟨_, rfl, .keep rfl⟩, ⟨_, rfl, .keep rfl⟩, ⟨_, rfl, .keep rfl⟩, ⟨_, rfl, .keep rfl⟩, ⟨_, rfl, .keep rfl⟩, ⟨_, rfl, .keep rfl⟩, ⟨_, rfl, .keep rfl⟩, trivial⟩ ⟨⟨_, rfl, objOne ⟨⟨rfl, .keep rfl⟩, trivial⟩⟩, trivial⟩)
        · replace h := ite_F p243 h
          rw [p243]
          refine ro rfl rfl (st_mv rfl) ?_
          refine ro rfl rfl (st_bin (v := dB (s101.2.1 == (0 : Int))) rfl rfl rfl) ?_
          refine ro rfl rfl (st_pickF rfl rfl) ?_
          refine ro rfl rfl (st_pickT rfl rfl) ?_
          refine ri (N := 8) (rs := []) rfl rfl rfl rfl Try.func91 rfl rfl rfl (by kernel_rfl) rfl (fun _B => ?_)
          refine awp_rs ?_
          refine ro rfl rfl (st_mv rfl) ?_
          refine ro rfl rfl (st_un (v := dB (!(s101.2.1 == (0 : Int)))) rfl rfl) ?_
          refine rw_nilk ?_
          refine awp_ite (b := (!(s101.2.1 == (0 : Int)))) rfl (fun p245 => ?_) (fun p245 => ?_)
          · replace h := ite_T p245 h
            refine awp_rw ?_
            refine ro rfl rfl (st_mv rfl) ?_
            refine ro rfl rfl (st_mkIf ic101 rfl) ?_
            refine rw_panic rfl rfl ?_
            refine pn_in ?_
            refine pn_then ?_
            refine pn_block ?_
            refine pn_then ?_
            refine pn_then ?_
            refine pn_block ?_
            injection h with h
            subst h
            exact panM rfl rfl ⟨⟨_, rfl, objOne ⟨⟨rfl, .keep rfl⟩, trivial⟩⟩, trivial⟩
          · replace h := ite_F p245 h
            refine awp_skip ?_
            refine ret_inN (v := .tup []) (resV_none resVs_nil) ?_
            show RW _ _ _ _ _ _ _
            refine rw_nil ?_
            refine nx_then ?_
            exact J238 (false, false, (s101.2.1 == (0 : Int))) () _ _ h (gh_frz rfl rfl ⟨⟨_, rfl, .keep rfl⟩, ⟨_, rfl, .keep rfl⟩, ⟨_, rfl, .keep rfl⟩, ⟨_, rfl, .keep rfl⟩, ⟨_, rfl, .keep rfl⟩, ⟨_, rfl, .keep rfl⟩, ⟨_, rfl, .keep rfl⟩, ⟨_, rfl, .keep rfl⟩, trivial⟩ ⟨⟨_, rfl, objOne ⟨⟨rfl, .keep rfl⟩, trivial⟩⟩, trivial⟩)
      · replace h := ite_F p242 h
        rw [p242]
        refine ro rfl rfl (st_mv rfl) ?_
        refine ro rfl rfl (st_bin (v := dB (decide (z227 < (2 : Int)))) rfl rfl rfl) ?_
        refine ro rfl rfl (st_pickF rfl rfl) ?_
        refine ro rfl rfl (st_mv rfl) ?_
        refine bool_split (decide (z227 < (2 : Int))) (fun p246 => ?_) (fun p246 => ?_)
        · replace h := ite_T p246 h
          rw [p246]
          refine ro rfl rfl (st_mv rfl) ?_
          refine ro rfl rfl (st_bin (v := dB (decide (z227 > (0 : Int)))) rfl rfl rfl) ?_
          refine ro rfl rfl (st_mv rfl) ?_
          refine bool_split (decide (z227 > (0 : Int))) (fun p247 => ?_) (fun p247 => ?_)
          · replace h := ite_T p247 h
            rw [p247]
            refine rz rfl rfl ?_
            refine rz rfl rfl ?_
            refine ro rfl rfl (st_pickT rfl rfl) ?_
            refine ro rfl rfl (st_pickT rfl rfl) ?_
            refine ri (N := 8) (rs := []) rfl rfl rfl rfl Try.func91 rfl rfl rfl (by kernel_rfl) rfl (fun _B => ?_)
            refine awp_rs ?_
            refine ro rfl rfl (st_mv rfl) ?_
            refine ro rfl rfl (st_un (v := dB false) rfl rfl) ?_
            refine rw_nilk ?_
            refine awp_condF rfl ?_
            refine awp_skip ?_
            refine ret_inN (v := .tup []) (resV_none resVs_nil) ?_
            show RW _ _ _ _ _ _ _
            refine rw_nil ?_
            refine nx_then ?_
            exact J238 (true, true, true) () _ _ h (gh_frz rfl rfl ⟨⟨_, rfl, .keep rfl⟩, ⟨_, rfl, .keep rfl⟩, ⟨_, rfl, .keep rfl⟩, ⟨_, rfl, .keep rfl⟩, ⟨_, rfl, .keep rfl⟩, ⟨_, rfl, .keep rfl⟩, ⟨_, rfl, .keep rfl⟩, ⟨_, rfl, .keep rfl⟩, trivial⟩ ⟨⟨_, rfl, objOne ⟨⟨rfl, .keep rfl⟩, trivial⟩⟩, trivial⟩)
          · replace h := ite_F p247 h
            rw [p247]
            refine ro rfl rfl (st_mv rfl) ?_
            refine ro rfl rfl (st_bin (v := dB (s101.2.1 == (0 : Int))) rfl rfl rfl) ?_
            refine ro rfl rfl (st_pickF rfl rfl) ?_
            refine ro rfl rfl (st_pickT rfl rfl) ?_
            refine ri (N := 8) (rs := []) rfl rfl rfl rfl Try.func91 rfl rfl rfl (by kernel_rfl) rfl (fun _B => ?_)
            refine awp_rs ?_
            refine ro rfl rfl (st_mv rfl) ?_
            refine ro rfl rfl (st_un (v := dB (!(s101.2.1 == (0 : Int)))) rfl rfl) ?_
            refine rw_nilk ?_
            refine awp_ite (b := (!(s101.2.1 == (0 : Int)))) rfl (fun p249 => ?_) (fun p249 => ?_)
            · replace h := ite_T p249 h
              refine awp_rw ?_
              refine ro rfl rfl (st_mv rfl) ?_
              refine ro rfl rfl (st_mkIf ic101 rfl) ?_
              refine rw_panic rfl rfl ?_
              refine pn_in ?_
              refine pn_then ?_
              refine pn_block ?_
              refine pn_then ?_
              refine pn_then ?_
              refine pn_block ?_
              injection h with h
              subst h
              exact panM rfl rfl ⟨⟨_, rfl, objOne ⟨⟨rfl, .keep rfl⟩, trivial⟩⟩, trivial⟩
            · replace h := ite_F p249 h
              refine awp_skip ?_
              refine ret_inN (v := .tup []) (resV_none resVs_nil) ?_
              show RW _ _ _ _ _ _ _
              refine rw_nil ?_
              refine nx_then ?_
              exact J238 (false, false, (s101.2.1 == (0 : Int))) () _ _ h (gh_frz rfl rfl ⟨⟨_, rfl, .keep rfl⟩, ⟨_, rfl, .keep rfl⟩, ⟨_, rfl, .keep rfl⟩, ⟨_, rfl, .keep rfl⟩, ⟨_, rfl, .keep rfl⟩, ⟨_, rfl, .keep rfl⟩, ⟨_, rfl, .keep rfl⟩, ⟨_, rfl, .keep rfl⟩, trivial⟩ ⟨⟨_, rfl, objOne ⟨⟨rfl, .keep rfl⟩, trivial⟩⟩, trivial⟩)
        · replace h := ite_F p246 h
          rw [p246]
          refine rz rfl rfl ?_
          refine rz rfl rfl ?_
          refine rz rfl rfl ?_
          refine rz rfl rfl ?_
          refine rz rfl rfl ?_
          refine rz rfl rfl ?_
          refine ro rfl rfl (st_pickF rfl rfl) ?_
          refine ri (N := 8) (rs := []) rfl rfl rfl rfl Try.func91 rfl rfl rfl (by kernel_rfl) rfl (fun _B => ?_)
          refine awp_rs ?_
          refine ro rfl rfl (st_mv rfl) ?_
          refine ro rfl rfl (st_un (v := dB true) rfl rfl) ?_
          refine rw_nilk ?_
          refine awp_condT rfl ?_
          refine awp_rw ?_
          refine ro rfl rfl (st_mv rfl) ?_
          refine ro rfl rfl (st_mkIf ic101 rfl) ?_
          refine rw_panic rfl rfl ?_
          refine pn_in ?_
          refine pn_then ?_
          refine pn_block ?_
          refine pn_then ?_
          refine pn_then ?_
          refine pn_block ?_
          injection h with h
          subst h
          exact panM rfl rfl ⟨⟨_, rfl, objOne ⟨⟨rfl, .keep rfl⟩, trivial⟩⟩, trivial⟩

theorem om_proof_source_proof {a0 : S_proof_source} {r : Option S_api_Proof × S_proof_source} (h : F_proof_source_proof a0 = some r) : Ev Try.prog 75 [.ptr 1001 0 0 0] [(1001, .row 0 103 [[dL 1 (eI .u8) a0.b]])] (outP (fun (q : S_api_Proof) => .agg [dB q.Cubes, dL 5 e_S_api_Line q.Lines]) (.iface 101 (.ptr 1001 0 0 0)) r.1) [(1001, .row 0 103 [[dL 1 (eI .u8) r.2.b]])] := by
  unfold F_proof_source_proof at h
  refine Ev.of_bodyM (N := 95) (rs := [.cell 2 25]) Try.func75 (c := _) rfl rfl rfl (by kernel_rfl) rfl (Nat.le_of_ble_eq_true rfl) (fun _B => ?_)
  refine awp_rs ?_
  refine rn (r := 1002) rfl rfl (st_alloc zc25 rfl rfl) rfl ?_
  refine rw_nilk ?_
  refine awp_rs ?_
  refine ro rfl rfl (st_mv rfl) ?_
  refine ro rfl rfl (st_mv rfl) ?_
  obtain ⟨y111, hy111, h⟩ := bind_some_elim h
  rcases pcase_split h with ⟨he112, h⟩ | ⟨z112, he112, h⟩
  · refine rcallP (v := .iface 101 (.ptr 1001 0 0 0)) (L0 := [(1001, .row 0 103 [[dL 1 (eI .u8) a0.b]])]) (L1 := [(1001, .row 0 103 [[dL 1 (eI .u8) y111.2.b]])]) (L' := [(1001, .row 0 103 [[dL 1 (eI .u8) y111.2.b]]), (1002, .row 0 25 [[dB false, .nilS]])]) rfl rfl rfl rfl (by have q := om_proof_source_byte hy111; rw [he112] at q; exact q) ⟨rfl, trivial⟩ rfl ⟨rfl, trivial⟩ rfl rfl ?_
    refine pn_then ?_
    injection h with h
    subst h
    exact panM rfl rfl ⟨⟨_, rfl, objOne ⟨⟨rfl, .keep rfl⟩, trivial⟩⟩, trivial⟩
  · refine rcall (v := dI .u8 z112) (L0 := [(1001, .row 0 103 [[dL 1 (eI .u8) a0.b]])]) (L1 := [(1001, .row 0 103 [[dL 1 (eI .u8) y111.2.b]])]) (L' := [(1001, .row 0 103 [[dL 1 (eI .u8) y111.2.b]]), (1002, .row 0 25 [[dB false, .nilS]])]) rfl rfl rfl rfl (by have q := om_proof_source_byte hy111; rw [he112] at q; exact q) ⟨rfl, trivial⟩ rfl ⟨rfl, trivial⟩ rfl rfl ?_
    refine ro rfl rfl (st_bin (v := dB (z112 == (82 : Int))) rfl rfl rfl) ?_
    refine ro rfl rfl (st_mv rfl) ?_
    refine bool_split (z112 == (82 : Int)) (fun p113 => ?_) (fun p113 => ?_)
    · replace h := ite_T p113 h
      rw [p113]
      refine ro rfl rfl (st_mv rfl) ?_
      obtain ⟨y114, hy114, h⟩ := bind_some_elim h
      rcases pcase_split h with ⟨he115, h⟩ | ⟨z115, he115, h⟩
      · refine rcallP (v := .iface 101 (.ptr 1001 0 0 0)) (L0 := [(1001, .row 0 103 [[dL 1 (eI .u8) y111.2.b]])]) (L1 := [(1001, .row 0 103 [[dL 1 (eI .u8) y114.2.b]])]) (L' := [(1001, .row 0 103 [[dL 1 (eI .u8) y114.2.b]]), (1002, .row 0 25 [[dB false, .nilS]])]) rfl rfl rfl rfl (by have q := om_proof_source_byte hy114; rw [he115] at q; exact q) ⟨rfl, trivial⟩ rfl ⟨rfl, trivial⟩ rfl rfl ?_
        refine pn_then ?_
        injection h with h
        subst h
        exact panM rfl rfl ⟨⟨_, rfl, objOne ⟨⟨rfl, .keep rfl⟩, trivial⟩⟩, trivial⟩
      · refine rcall (v := dI .u8 z115) (L0 := [(1001, .row 0 103 [[dL 1 (eI .u8) y111.2.b]])]) (L1 := [(1001, .row 0 103 [[dL 1 (eI .u8) y114.2.b]])]) (L' := [(1001, .row 0 103 [[dL 1 (eI .u8) y114.2.b]]), (1002, .row 0 25 [[dB false, .nilS]])]) rfl rfl rfl rfl (by have q := om_proof_source_byte hy114; rw [he115] at q; exact q) ⟨rfl, trivial⟩ rfl ⟨rfl, trivial⟩ rfl rfl ?_
        refine ro rfl rfl (st_bin (v := dB (z115 == (80 : Int))) rfl rfl rfl) ?_
        refine ro rfl rfl (st_pickT rfl rfl) ?_
        refine ro rfl rfl (st_mv rfl) ?_
        refine bool_split (z115 == (80 : Int)) (fun p116 => ?_) (fun p116 => ?_)
        · replace h := ite_T p116 h
          rw [p116]
          refine ro rfl rfl (st_mv rfl) ?_
          obtain ⟨y117, hy117, h⟩ := bind_some_elim h
          rcases pcase_split h with ⟨he118, h⟩ | ⟨z118, he118, h⟩
          · refine rcallP (v := .iface 101 (.ptr 1001 0 0 0)) (L0 := [(1001, .row 0 103 [[dL 1 (eI .u8) y114.2.b]])]) (L1 := [(1001, .row 0 103 [[dL 1 (eI .u8) y117.2.b]])]) (L' := [(1001, .row 0 103 [[dL 1 (eI .u8) y117.2.b]]), (1002, .row 0 25 [[dB false, .nilS]])]) rfl rfl rfl rfl (by have q := om_proof_source_byte hy117; rw [he118] at q; exact q) ⟨rfl, trivial⟩ rfl ⟨rfl, trivial⟩ rfl rfl ?_
            refine pn_then ?_
            injection h with h
            subst h
            exact panM rfl rfl ⟨⟨_, rfl, objOne ⟨⟨rfl, .keep rfl⟩, trivial⟩⟩, trivial⟩
          · refine rcall (v := dI .u8 z118) (L0 := [(1001, .row 0 103 [[dL 1 (eI .u8) y114.2.b]])]) (L1 := [(1001, .row 0 103 [[dL 1 (eI .u8) y117.2.b]])]) (L' := [(1001, .row 0 103 [[dL 1 (eI .u8) y117.2.b]]), (1002, .row 0 25 [[dB false, .nilS]])]) rfl rfl rfl rfl (by have q := om_proof_source_byte hy117; rw [he118] at q; exact q) ⟨rfl, trivial⟩ rfl ⟨rfl, trivial⟩ rfl rfl ?_
            refine ro rfl rfl (st_bin (v := dB (z118 == (1 : Int))) rfl rfl rfl) ?_
            refine ro rfl rfl (st_pickT rfl rfl) ?_
            refine ri (N := 8) (rs := []) rfl rfl rfl rfl Try.func91 rfl rfl rfl (by kernel_rfl) rfl (fun _B => ?_)
            refine awp_rs ?_
            refine ro rfl rfl (st_mv rfl) ?_
            refine ro rfl rfl (st_un (v := dB (!(z118 == (1 : Int)))) rfl rfl) ?_
            refine rw_nilk ?_
            refine awp_ite (b := (!(z118 == (1 : Int)))) rfl (fun p120 => ?_) (fun p120 => ?_)
            · replace h := ite_T p120 h
              refine awp_rw ?_
              refine ro rfl rfl (st_mv rfl) ?_
              refine ro rfl rfl (st_mkIf ic101 rfl) ?_
              refine rw_panic rfl rfl ?_
              refine pn_in ?_
              refine pn_then ?_
              injection h with h
              subst h
              exact panM rfl rfl ⟨⟨_, rfl, objOne ⟨⟨rfl, .keep rfl⟩, trivial⟩⟩, trivial⟩
            · replace h := ite_F p120 h
              refine awp_skip ?_
              refine ret_inN (v := .tup []) (resV_none resVs_nil) ?_
              show RW _ _ _ _ _ _ _
              refine rw_nilk ?_
              refine awp_rs ?_
              refine ro rfl rfl (st_mv rfl) ?_
              obtain ⟨y121, hy121, h⟩ := bind_some_elim h
              rcases pcase_split h with ⟨he122, h⟩ | ⟨z122, he122, h⟩
              · refine rcallP (v := .iface 101 (.ptr 1001 0 0 0)) (L0 := [(1001, .row 0 103 [[dL 1 (eI .u8) y117.2.b]])]) (L1 := [(1001, .row 0 103 [[dL 1 (eI .u8) y121.2.b]])]) (L' := [(1001, .row 0 103 [[dL 1 (eI .u8) y121.2.b]]), (1002, .row 0 25 [[dB false, .nilS]])]) rfl rfl rfl rfl (by have q := om_proof_source_byte hy121; rw [he122] at q; exact q) ⟨rfl, trivial⟩ rfl ⟨rfl, trivial⟩ rfl rfl ?_
                refine pn_then ?_
                injection h with h
                subst h
                exact panM rfl rfl ⟨⟨_, rfl, objOne ⟨⟨rfl, .keep rfl⟩, trivial⟩⟩, trivial⟩
              · refine rcall (v := dI .u8 z122) (L0 := [(1001, .row 0 103 [[dL 1 (eI .u8) y117.2.b]])]) (L1 := [(1001, .row 0 103 [[dL 1 (eI .u8) y121.2.b]])]) (L' := [(1001, .row 0 103 [[dL 1 (eI .u8) y121.2.b]]), (1002, .row 0 25 [[dB false, .nilS]])]) rfl rfl rfl rfl (by have q := om_proof_source_byte hy121; rw [he122] at q; exact q) ⟨rfl, trivial⟩ rfl ⟨rfl, trivial⟩ rfl rfl ?_
                refine ro rfl rfl (st_mv rfl) ?_
                obtain ⟨y123, hy123, h⟩ := bind_some_elim h
                rcases pcase_split h with ⟨he124, h⟩ | ⟨z124, he124, h⟩
                · refine rcallP (v := .iface 101 (.ptr 1001 0 0 0)) (L0 := [(1001, .row 0 103 [[dL 1 (eI .u8) y121.2.b]])]) (L1 := [(1001, .row 0 103 [[dL 1 (eI .u8) y123.2.b]])]) (L' := [(1001, .row 0 103 [[dL 1 (eI .u8) y123.2.b]]), (1002, .row 0 25 [[dB false, .nilS]])]) rfl rfl rfl rfl (by have q := om_proof_source_number hy123; rw [he124] at q; exact q) ⟨rfl, trivial⟩ rfl ⟨rfl, trivial⟩ rfl rfl ?_
                  refine pn_then ?_
                  injection h with h
                  subst h
                  exact panM rfl rfl ⟨⟨_, rfl, objOne ⟨⟨rfl, .keep rfl⟩, trivial⟩⟩, trivial⟩
                · refine rcall (v := dI .i64 z124) (L0 := [(1001, .row 0 103 [[dL 1 (eI .u8) y121.2.b]])]) (L1 := [(1001, .row 0 103 [[dL 1 (eI .u8) y123.2.b]])]) (L' := [(1001, .row 0 103 [[dL 1 (eI .u8) y123.2.b]]), (1002, .row 0 25 [[dB false, .nilS]])]) rfl rfl rfl rfl (by have q := om_proof_source_number hy123; rw [he124] at q; exact q) ⟨rfl, trivial⟩ rfl ⟨rfl, trivial⟩ rfl rfl ?_
                  refine ro rfl rfl (st_as rfl) ?_
                  refine ro rfl rfl (st_as rfl) ?_
                  refine rw_nilk ?_
                  refine awp_rs ?_
                  refine ro rfl rfl (st_mv rfl) ?_
                  refine ro rfl rfl (st_mv rfl) ?_
                  refine ro rfl rfl (st_bin (v := dB (decide (z122 < (2 : Int)))) rfl rfl rfl) ?_
                  refine ro rfl rfl (st_mv rfl) ?_
                  refine bool_split (decide (z122 < (2 : Int))) (fun p129 => ?_) (fun p129 => ?_)
                  · replace h := ite_T p129 h
                    rw [p129]
                    refine ro rfl rfl (st_mv rfl) ?_
                    refine ro rfl rfl (st_bin (v := dB (decide (z124 ≥ (0 : Int)))) rfl rfl rfl) ?_
                    refine ro rfl rfl (st_pickT rfl rfl) ?_
                    refine ro rfl rfl (st_mv rfl) ?_
                    refine bool_split (decide (z124 ≥ (0 : Int))) (fun p130 => ?_) (fun p130 => ?_)
                    · replace h := ite_T p130 h
                      rw [p130]
                      refine ro rfl rfl (st_mv rfl) ?_
                      refine ro rfl rfl (st_bin (v := dB (decide (z124 ≤ (1000000 : Int)))) rfl rfl rfl) ?_
                      refine ro rfl rfl (st_pickT rfl rfl) ?_
                      refine ri (N := 8) (rs := []) rfl rfl rfl rfl Try.func91 rfl rfl rfl (by kernel_rfl) rfl (fun _B => ?_)
                      refine awp_rs ?_
                      refine ro rfl rfl (st_mv rfl) ?_
                      refine ro rfl rfl (st_un (v := dB (!(decide (z124 ≤ (1000000 : Int))))) rfl rfl) ?_
                      refine rw_nilk ?_
                      refine awp_ite (b := (!(decide (z124 ≤ (1000000 : Int))))) rfl (fun p132 => ?_) (fun p132 => ?_)
                      · replace h := ite_T p132 h
                        refine awp_rw ?_
                        refine ro rfl rfl (st_mv rfl) ?_
                        refine ro rfl rfl (st_mkIf ic101 rfl) ?_
                        refine rw_panic rfl rfl ?_
                        refine pn_in ?_
                        refine pn_then ?_
                        injection h with h
                        subst h
                        exact panM rfl rfl ⟨⟨_, rfl, objOne ⟨⟨rfl, .keep rfl⟩, trivial⟩⟩, trivial⟩
                      · replace h := ite_F p132 h
                        refine awp_skip ?_
                        refine ret_inN (v := .tup []) (resV_none resVs_nil) ?_
                        show RW _ _ _ _ _ _ _
                        refine rw_nilk ?_
                        refine awp_rs ?_
                        refine ro rfl rfl (st_mv rfl) ?_
                        refine ro rfl rfl (st_bin (v := dB (z122 == (1 : Int))) rfl rfl rfl) ?_
                        refine ro rfl rfl (st_faP fo25_0 rfl) ?_
                        refine rx (L' := [(1001, .row 0 103 [[dL 1 (eI .u8) y123.2.b]]), (1002, .row 0 25 [[dB (z122 == (1 : Int)), .nilS]])]) rfl rfl (st_stP ta4 rfl rfl rfl rfl rfl rfl rfl rfl) rfl ?_
                        refine rw_nilk ?_
                        refine awp_seq ?_
                        refine awp_rs ?_
                        refine ro rfl rfl (st_mv rfl) ?_
                        refine ro rfl rfl (st_mv rfl) ?_
                        refine rw_nilk ?_
                        refine awp_block ?_
                        obtain ⟨hl136, h⟩ := okI_some h
                        refine awp_up (fun (j136 : Int) (s133 : ((List Int) × (List S_api_Line))) (g134 : Nat) => [(0, .ptr 1001 0 0 0), (2, .ptr 1002 0 0 0), (41, dI .i64 z124), (42, dI .i64 j136)]) (fun (s133 : ((List Int) × (List S_api_Line))) (g134 : Nat) => [(1001, .row 0 103 [[dL 1 (eI .u8) s133.1]]), (1002, .row 0 25 [[dB (z122 == (1 : Int)), .slice 1008 g134 0 s133.2.length]]), (1008, rw' g134 58 e_S_api_Line s133.2)]) 0 (fun _ _ _ h => h) h (Gh.trans (gh_nil (r := 1008) (E' := [(0, .ptr 1001 0 0 0), (2, .ptr 1002 0 0 0), (41, dI .i64 z124), (42, dI .i64 (0 : Int))]) (L' := [(1001, .row 0 103 [[dL 1 (eI .u8) y123.2.b]]), (1002, .row 0 25 [[dB (z122 == (1 : Int)), .slice 1008 0 0 (([] : List S_api_Line).length)]])]) rfl co58 rfl rfl ⟨⟨_, rfl, .keep _⟩, ⟨_, rfl, .keep _⟩, ⟨_, rfl, .keep _⟩, ⟨_, rfl, .keep _⟩, trivial⟩ ⟨⟨_, rfl, .keep _⟩, ⟨_, rfl, nilOne ⟨.keep _, .nil, trivial⟩⟩, trivial⟩) (gh_frz rfl rfl ⟨⟨_, rfl, .keep rfl⟩, ⟨_, rfl, .keep rfl⟩, ⟨_, rfl, .keep rfl⟩, ⟨_, rfl, .keep rfl⟩, trivial⟩ ⟨⟨_, rfl, objOne ⟨⟨rfl, .keep rfl⟩, trivial⟩⟩, ⟨_, rfl, objOne ⟨⟨rfl, .keep rfl⟩, ⟨rfl, .keep rfl⟩, trivial⟩⟩, ⟨_, rfl, objRow (List.map e_S_api_Line ([] : List S_api_Line))⟩, trivial⟩)) ?_ ?_
                        · clear h
                          intro j136 s133 g134 k135 hj136 hx136 h ih135
                          refine awp_rs ?_
                          refine ro rfl rfl (st_bin (v := dB (decide (j136 < z124))) rfl rfl rfl) ?_
                          refine rw_nilk ?_
                          refine awp_seq ?_
                          refine awp_ifT rfl (dltI (upT hj136 hx136)) ?_
                          refine awp_skip ?_
                          refine nx_then ?_
                          refine awp_seq ?_
                          refine awp_block ?_
                          refine awp_rs ?_
                          refine ro rfl rfl (st_mv rfl) ?_
                          obtain ⟨y824, hy824, h⟩ := bind_some_elim h
                          rcases pcase_split h with ⟨he825, h⟩ | ⟨z825, he825, h⟩
                          · refine rcallP (v := .iface 101 (.ptr 1001 0 0 0)) (L0 := [(1001, .row 0 103 [[dL 1 (eI .u8) s133.1]])]) (L1 := [(1001, .row 0 103 [[dL 1 (eI .u8) y824.2.b]])]) (L' := [(1001, .row 0 103 [[dL 1 (eI .u8) y824.2.b]]), (1002, .row 0 25 [[dB (z122 == (1 : Int)), .slice 1008 g134 0 s133.2.length]]), (1008, rw' g134 58 e_S_api_Line s133.2)]) rfl rfl rfl rfl (by have q := om_proof_source_byte hy824; rw [he825] at q; exact q) ⟨rfl, trivial⟩ rfl ⟨rfl, trivial⟩ rfl rfl ?_
                            refine pn_then ?_
                            refine pn_block ?_
                            refine pn_then ?_
                            refine pn_then ?_
                            refine pn_block ?_
                            refine pn_then ?_
                            injection h with h
                            subst h
                            exact panM rfl rfl ⟨⟨_, rfl, objOne ⟨⟨rfl, .keep rfl⟩, trivial⟩⟩, trivial⟩
                          · refine rcall (v := dI .u8 z825) (L0 := [(1001, .row 0 103 [[dL 1 (eI .u8) s133.1]])]) (L1 := [(1001, .row 0 103 [[dL 1 (eI .u8) y824.2.b]])]) (L' := [(1001, .row 0 103 [[dL 1 (eI .u8) y824.2.b]]), (1002, .row 0 25 [[dB (z122 == (1 : Int)), .slice 1008 g134 0 s133.2.length]]), (1008, rw' g134 58 e_S_api_Line s133.2)]) rfl rfl rfl rfl (by have q := om_proof_source_byte hy824; rw [he825] at q; exact q) ⟨rfl, trivial⟩ rfl ⟨rfl, trivial⟩ rfl rfl ?_
                            refine ro rfl rfl (st_mv rfl) ?_
                            obtain ⟨y826, hy826, h⟩ := bind_some_elim h
                            rcases pcase_split h with ⟨he827, h⟩ | ⟨z827, he827, h⟩
                            · refine rcallP (v := .iface 101 (.ptr 1001 0 0 0)) (L0 := [(1001, .row 0 103 [[dL 1 (eI .u8) y824.2.b]])]) (L1 := [(1001, .row 0 103 [[dL 1 (eI .u8) y826.2.b]])]) (L' := [(1001, .row 0 103 [[dL 1 (eI .u8) y826.2.b]]), (1002, .row 0 25 [[dB (z122 == (1 : Int)), .slice 1008 g134 0 s133.2.length]]), (1008, rw' g134 58 e_S_api_Line s133.2)]) rfl rfl rfl rfl (by have q := om_proof_source_number hy826; rw [he827] at q; exact q) ⟨rfl, trivial⟩ rfl ⟨rfl, trivial⟩ rfl rfl ?_
                              refine pn_then ?_
                              refine pn_block ?_
                              refine pn_then ?_
                              refine pn_then ?_
                              refine pn_block ?_
                              refine pn_then ?_
                              injection h with h
                              subst h
                              exact panM rfl rfl ⟨⟨_, rfl, objOne ⟨⟨rfl, .keep rfl⟩, trivial⟩⟩, trivial⟩
                            · refine rcall (v := dI .i64 z827) (L0 := [(1001, .row 0 103 [[dL 1 (eI .u8) y824.2.b]])]) (L1 := [(1001, .row 0 103 [[dL 1 (eI .u8) y826.2.b]])]) (L' := [(1001, .row 0 103 [[dL 1 (eI .u8) y826.2.b]]), (1002, .row 0 25 [[dB (z122 == (1 : Int)), .slice 1008 g134 0 s133.2.length]]), (1008, rw' g134 58 e_S_api_Line s133.2)]) rfl rfl rfl rfl (by have q := om_proof_source_number hy826; rw [he827] at q; exact q) ⟨rfl, trivial⟩ rfl ⟨rfl, trivial⟩ rfl rfl ?_
                              refine ro rfl rfl (st_mv rfl) ?_
                              obtain ⟨y828, hy828, h⟩ := bind_some_elim h
                              rcases pcase_split h with ⟨he829, h⟩ | ⟨z829, he829, h⟩
                              · refine rcallP (v := .iface 101 (.ptr 1001 0 0 0)) (L0 := [(1001, .row 0 103 [[dL 1 (eI .u8) y826.2.b]])]) (L1 := [(1001, .row 0 103 [[dL 1 (eI .u8) y828.2.b]])]) (L' := [(1001, .row 0 103 [[dL 1 (eI .u8) y828.2.b]]), (1002, .row 0 25 [[dB (z122 == (1 : Int)), .slice 1008 g134 0 s133.2.length]]), (1008, rw' g134 58 e_S_api_Line s133.2)]) rfl rfl rfl rfl (by have q := om_proof_source_number hy828; rw [he829] at q; exact q) ⟨rfl, trivial⟩ rfl ⟨rfl, trivial⟩ rfl rfl ?_
                                refine pn_then ?_
                                refine pn_block ?_
                                refine pn_then ?_
                                refine pn_then ?_
                                refine pn_block ?_
                                refine pn_then ?_
                                injection h with h
                                subst h
                                exact panM rfl rfl ⟨⟨_, rfl, objOne ⟨⟨rfl, .keep rfl⟩, trivial⟩⟩, trivial⟩
                              · refine rcall (v := dI .i64 z829) (L0 := [(1001, .row 0 103 [[dL 1 (eI .u8) y826.2.b]])]) (L1 := [(1001, .row 0 103 [[dL 1 (eI .u8) y828.2.b]])]) (L' := [(1001, .row 0 103 [[dL 1 (eI .u8) y828.2.b]]), (1002, .row 0 25 [[dB (z122 == (1 : Int)), .slice 1008 g134 0 s133.2.length]]), (1008, rw' g134 58 e_S_api_Line s133.2)]) rfl rfl rfl rfl (by have q := om_proof_source_number hy828; rw [he829] at q; exact q) ⟨rfl, trivial⟩ rfl ⟨rfl, trivial⟩ rfl rfl ?_
                                refine ro rfl rfl (st_mv rfl) ?_
                                obtain ⟨y830, hy830, h⟩ := bind_some_elim h
                                rcases pcase_split h with ⟨he831, h⟩ | ⟨z831, he831, h⟩
                                · refine rcallP (v := .iface 101 (.ptr 1001 0 0 0)) (L0 := [(1001, .row 0 103 [[dL 1 (eI .u8) y828.2.b]])]) (L1 := [(1001, .row 0 103 [[dL 1 (eI .u8) y830.2.b]])]) (L' := [(1001, .row 0 103 [[dL 1 (eI .u8) y830.2.b]]), (1002, .row 0 25 [[dB (z122 == (1 : Int)), .slice 1008 g134 0 s133.2.length]]), (1008, rw' g134 58 e_S_api_Line s133.2)]) rfl rfl rfl rfl (by have q := om_proof_source_number hy830; rw [he831] at q; exact q) ⟨rfl, trivial⟩ rfl ⟨rfl, trivial⟩ rfl rfl ?_
                                  refine pn_then ?_
                                  refine pn_block ?_
                                  refine pn_then ?_
                                  refine pn_then ?_
                                  refine pn_block ?_
                                  refine pn_then ?_
                                  injection h with h
                                  subst h
                                  exact panM rfl rfl ⟨⟨_, rfl, objOne ⟨⟨rfl, .keep rfl⟩, trivial⟩⟩, trivial⟩
                                · refine rcall (v := dI .i64 z831) (L0 := [(1001, .row 0 103 [[dL 1 (eI .u8) y828.2.b]])]) (L1 := [(1001, .row 0 103 [[dL 1 (eI .u8) y830.2.b]])]) (L' := [(1001, .row 0 103 [[dL 1 (eI .u8) y830.2.b]]), (1002, .row 0 25 [[dB (z122 == (1 : Int)), .slice 1008 g134 0 s133.2.length]]), (1008, rw' g134 58 e_S_api_Line s133.2)]) rfl rfl rfl rfl (by have q := om_proof_source_number hy830; rw [he831] at q; exact q) ⟨rfl, trivial⟩ rfl ⟨rfl, trivial⟩ rfl rfl ?_
                                  refine ro rfl rfl (st_build (vs := [dI .u8 z825, dI .i64 z827, dI .i64 z829, dI .i64 z831, .nilS]) bl58 rfl rfl) ?_
                                  refine rn (r := 1009) rfl rfl (st_alloc zc58 rfl rfl) rfl ?_
                                  refine rx (L' := [(1001, .row 0 103 [[dL 1 (eI .u8) y830.2.b]]), (1002, .row 0 25 [[dB (z122 == (1 : Int)), .slice 1008 g134 0 s133.2.length]]), (1008, rw' g134 58 e_S_api_Line s133.2), (1009, .row 0 58 [[dI .u8 z825, dI .i64 z827, dI .i64 z829, dI .i64 z831, .nilS]])]) rfl rfl (st_stP ta58 rfl rfl rfl rfl rfl rfl rfl rfl) rfl ?_
                                  refine rw_nilk ?_
                                  refine awp_rs ?_
                                  refine ro rfl rfl (st_mv rfl) ?_
                                  obtain ⟨y832, hy832, h⟩ := bind_some_elim h
                                  rcases pcase_split h with ⟨he833, h⟩ | ⟨z833, he833, h⟩
                                  · refine rcallP (v := .iface 101 (.ptr 1001 0 0 0)) (L0 := [(1001, .row 0 103 [[dL 1 (eI .u8) y830.2.b]])]) (L1 := [(1001, .row 0 103 [[dL 1 (eI .u8) y832.2.b]])]) (L' := [(1001, .row 0 103 [[dL 1 (eI .u8) y832.2.b]]), (1002, .row 0 25 [[dB (z122 == (1 : Int)), .slice 1008 g134 0 s133.2.length]]), (1008, rw' g134 58 e_S_api_Line s133.2), (1009, .row 0 58 [[dI .u8 z825, dI .i64 z827, dI .i64 z829, dI .i64 z831, .nilS]])]) rfl rfl rfl rfl (by have q := om_proof_source_number hy832; rw [he833] at q; exact q) ⟨rfl, trivial⟩ rfl ⟨rfl, trivial⟩ rfl rfl ?_
                                    refine pn_then ?_
                                    refine pn_block ?_
                                    refine pn_then ?_
                                    refine pn_then ?_
                                    refine pn_block ?_
                                    refine pn_then ?_
                                    injection h with h
                                    subst h
                                    exact panM rfl rfl ⟨⟨_, rfl, objOne ⟨⟨rfl, .keep rfl⟩, trivial⟩⟩, trivial⟩
                                  · refine rcall (v := dI .i64 z833) (L0 := [(1001, .row 0 103 [[dL 1 (eI .u8) y830.2.b]])]) (L1 := [(1001, .row 0 103 [[dL 1 (eI .u8) y832.2.b]])]) (L' := [(1001, .row 0 103 [[dL 1 (eI .u8) y832.2.b]]), (1002, .row 0 25 [[dB (z122 == (1 : Int)), .slice 1008 g134 0 s133.2.length]]), (1008, rw' g134 58 e_S_api_Line s133.2), (1009, .row 0 58 [[dI .u8 z825, dI .i64 z827, dI .i64 z829, dI .i64 z831, .nilS]])]) rfl rfl rfl rfl (by have q := om_proof_source_number hy832; rw [he833] at q; exact q) ⟨rfl, trivial⟩ rfl ⟨rfl, trivial⟩ rfl rfl ?_
                                    refine ro rfl rfl (st_as rfl) ?_
                                    refine rw_nilk ?_
                                    refine awp_rs ?_
                                    refine ro rfl rfl (st_mv rfl) ?_
                                    refine ro rfl rfl (st_mv rfl) ?_
                                    refine ro rfl rfl (st_bin (v := dB (decide (z833 ≥ (0 : Int)))) rfl rfl rfl) ?_
                                    refine ro rfl rfl (st_mv rfl) ?_
                                    refine bool_split (decide (z833 ≥ (0 : Int))) (fun p837 => ?_) (fun p837 => ?_)
                                    · replace h := ite_T p837 h
                                      rw [p837]
                                      refine ro rfl rfl (st_mv rfl) ?_
                                      refine ro rfl rfl (st_mv rfl) ?_
                                      refine ro rfl rfl (st_nilP rfl) ?_
                                      refine ro rfl rfl (st_faP fo103_0 rfl) ?_
                                      refine ro rfl rfl (st_ldP (v := dL 1 (eI .u8) y832.2.b) ta67 rfl rfl rfl rfl) ?_
                                      refine ro rfl rfl (st_lenD rfl un67) ?_
                                      refine ro rfl rfl (st_bin (v := dB (decide (z833 ≤ ((y832.2.b.length : Nat) : Int)))) rfl rfl rfl) ?_
                                      refine ro rfl rfl (st_pickT rfl rfl) ?_
                                      refine ri (N := 8) (rs := []) rfl rfl rfl rfl Try.func91 rfl rfl rfl (by kernel_rfl) rfl (fun _B => ?_)
                                      refine awp_rs ?_
                                      refine ro rfl rfl (st_mv rfl) ?_
                                      refine ro rfl rfl (st_un (v := dB (!(decide (z833 ≤ ((y832.2.b.length : Nat) : Int))))) rfl rfl) ?_
                                      refine rw_nilk ?_
                                      refine awp_ite (b := (!(decide (z833 ≤ ((y832.2.b.length : Nat) : Int))))) rfl (fun p839 => ?_) (fun p839 => ?_)
                                      · replace h := ite_T p839 h
                                        refine awp_rw ?_
                                        refine ro rfl rfl (st_mv rfl) ?_
                                        refine ro rfl rfl (st_mkIf ic101 rfl) ?_
                                        refine rw_panic rfl rfl ?_
                                        refine pn_in ?_
                                        refine pn_then ?_
                                        refine pn_block ?_
                                        refine pn_then ?_
                                        refine pn_then ?_
                                        refine pn_block ?_
                                        refine pn_then ?_
                                        injection h with h
                                        subst h
                                        exact panM rfl rfl ⟨⟨_, rfl, objOne ⟨⟨rfl, .keep rfl⟩, trivial⟩⟩, trivial⟩
                                      · replace h := ite_F p839 h
                                        refine awp_skip ?_
                                        refine ret_inN (v := .tup []) (resV_none resVs_nil) ?_
                                        show RW _ _ _ _ _ _ _
                                        refine rw_nilk ?_
                                        refine awp_seq ?_
                                        refine awp_rs ?_
                                        refine ro rfl rfl (st_mv rfl) ?_
                                        refine ro rfl rfl (st_mv rfl) ?_
                                        refine rw_nilk ?_
                                        refine awp_block ?_
                                        obtain ⟨hl843, h⟩ := okI_some h
                                        refine awp_up (fun (j843 : Int) (s840 : ((List Int) × (List Int))) (g841 : Nat) => [(0, .ptr 1001 0 0 0), (2, .ptr 1002 0 0 0), (5, .ptr 1009 0 0 0), (41, dI .i64 z124), (42, dI .i64 j136), (59, dI .i64 z833), (60, .ptr 1001 0 0 0), (61, .ptr 1001 0 0 0), (62, .ptr 1001 0 0 0), (63, dL 1 (eI .u8) y832.2.b), (64, dI .i64 ((y832.2.b.length : Nat) : Int)), (65, dB (decide (z833 ≤ ((y832.2.b.length : Nat) : Int)))), (68, dI .i64 z833), (69, dI .i64 j843)]) (fun (s840 : ((List Int) × (List Int))) (g841 : Nat) => [(1001, .row 0 103 [[dL 1 (eI .u8) s840.1]]), (1002, .row 0 25 [[dB (z122 == (1 : Int)), .slice 1008 g134 0 s133.2.length]]), (1008, rw' g134 58 e_S_api_Line s133.2), (1009, .row 0 58 [[dI .u8 z825, dI .i64 z827, dI .i64 z829, dI .i64 z831, .slice 1011 g841 0 s840.2.length]]), (1011, rw' g841 3 (eI .i64) s840.2)]) 0 (fun _ _ _ h => h) h (Gh.trans (gh_nil (r := 1011) (E' := [(0, .ptr 1001 0 0 0), (2, .ptr 1002 0 0 0), (5, .ptr 1009 0 0 0), (41, dI .i64 z124), (42, dI .i64 j136), (59, dI .i64 z833), (60, .ptr 1001 0 0 0), (61, .ptr 1001 0 0 0), (62, .ptr 1001 0 0 0), (63, dL 1 (eI .u8) y832.2.b), (64, dI .i64 ((y832.2.b.length : Nat) : Int)), (65, dB (decide (z833 ≤ ((y832.2.b.length : Nat) : Int)))), (68, dI .i64 z833), (69, dI .i64 (0 : Int))]) (L' := [(1001, .row 0 103 [[dL 1 (eI .u8) y832.2.b]]), (1002, .row 0 25 [[dB (z122 == (1 : Int)), .slice 1008 g134 0 s133.2.length]]), (1008, rw' g134 58 e_S_api_Line s133.2), (1009, .row 0 58 [[dI .u8 z825, dI .i64 z827, dI .i64 z829, dI .i64 z831, .slice 1011 0 0 (([] : List Int).length)]])]) rfl co3 rfl rfl ⟨⟨_, rfl, .keep _⟩, ⟨_, rfl, .keep _⟩, ⟨_, rfl, .keep _⟩, ⟨_, rfl, .keep _⟩, ⟨_, rfl, .keep _⟩, ⟨_, rfl, .keep _⟩, ⟨_, rfl, .keep _⟩, ⟨_, rfl, .keep _⟩, ⟨_, rfl, .keep _⟩, ⟨_, rfl, .keep _⟩, ⟨_, rfl, .keep _⟩, ⟨_, rfl, .keep _⟩, ⟨_, rfl, .keep _⟩, ⟨_, rfl, .keep _⟩, trivial⟩ ⟨⟨_, rfl, .keep _⟩, ⟨_, rfl, .keep _⟩, ⟨_, rfl, .keep _⟩, ⟨_, rfl, nilOne ⟨.keep _, .keep _, .keep _, .keep _, .nil, trivial⟩⟩, trivial⟩) (gh_frz rfl rfl ⟨⟨_, rfl, .keep rfl⟩, ⟨_, rfl, .keep rfl⟩, ⟨_, rfl, .keep rfl⟩, ⟨_, rfl, .keep rfl⟩, ⟨_, rfl, .keep rfl⟩, ⟨_, rfl, .keep rfl⟩, ⟨_, rfl, .keep rfl⟩, ⟨_, rfl, .keep rfl⟩, ⟨_, rfl, .keep rfl⟩, ⟨_, rfl, .keep rfl⟩, ⟨_, rfl, .keep rfl⟩, ⟨_, rfl, .keep rfl⟩, ⟨_, rfl, .keep rfl⟩, ⟨_, rfl, .keep rfl⟩, trivial⟩ ⟨⟨_, rfl, objOne ⟨⟨rfl, .keep rfl⟩, trivial⟩⟩, ⟨_, rfl, objOne ⟨⟨rfl, .keep rfl⟩, ⟨rfl, .keep rfl⟩, trivial⟩⟩, ⟨_, rfl, objRow _⟩, ⟨_, rfl, objOne ⟨⟨rfl, .keep rfl⟩, ⟨rfl, .keep rfl⟩, ⟨rfl, .keep rfl⟩, ⟨rfl, .keep rfl⟩, ⟨rfl, .keep rfl⟩, trivial⟩⟩, ⟨_, rfl, objRow (List.map (eI .i64) ([] : List Int))⟩, trivial⟩)) ?_ ?_
                                        · clear h
                                          intro j843 s840 g841 k842 hj843 hx843 h ih842
                                          refine awp_rs ?_
                                          refine ro rfl rfl (st_bin (v := dB (decide (j843 < z833))) rfl rfl rfl) ?_
                                          refine rw_nilk ?_
                                          refine awp_seq ?_
                                          refine awp_ifT rfl (dltI (upT hj843 hx843)) ?_
                                          refine awp_skip ?_
                                          refine nx_then ?_
                                          refine awp_seq ?_
                                          refine awp_block ?_
                                          obtain ⟨y904, hy904, h⟩ := bind_some_elim h
                                          rcases pcase_split h with ⟨he905, h⟩ | ⟨z905, he905, h⟩
                                          · refine awp_dpan hmix 8 rfl ?_
                                            refine da_step [0, 2] (by kernel_rfl) rfl ?_
                                            refine ⟨?_, ?_, trivial⟩
                                            · refine do_op rfl rfl (st_faP fo58_4 rfl) ?_
                                              refine da_step [1, 2] (by kernel_rfl) rfl ?_
                                              refine ⟨?_, ?_, trivial⟩
                                              · refine do_op rfl rfl (st_ldP (v := .slice 1011 g841 0 s840.2.length) ta28 rfl rfl rfl rfl) ?_
                                                refine da_step [2] (by kernel_rfl) rfl ?_
                                                refine ⟨?_, trivial⟩
                                                · refine do_op rfl rfl (st_mv rfl) ?_
                                                  refine da_step [3] (by kernel_rfl) rfl ?_
                                                  refine ⟨?_, trivial⟩
                                                  · refine do_pan (v := .iface 101 (.ptr 1001 0 0 0)) (L0 := [(1001, .row 0 103 [[dL 1 (eI .u8) s840.1]])]) (L1 := [(1001, .row 0 103 [[dL 1 (eI .u8) y904.2.b]])]) (L' := [(1001, .row 0 103 [[dL 1 (eI .u8) y904.2.b]]), (1002, .row 0 25 [[dB (z122 == (1 : Int)), .slice 1008 g134 0 s133.2.length]]), (1008, rw' g134 58 e_S_api_Line s133.2), (1009, .row 0 58 [[dI .u8 z825, dI .i64 z827, dI .i64 z829, dI .i64 z831, .slice 1011 g841 0 s840.2.length]]), (1011, rw' g841 3 (eI .i64) s840.2)]) rfl rfl rfl (by have q := om_proof_source_number hy904; rw [he905] at q; exact q) ⟨rfl, trivial⟩ rfl ⟨rfl, trivial⟩ rfl rfl ?_
                                                    refine pn_block ?_
                                                    refine pn_then ?_
                                                    refine pn_then ?_
                                                    refine pn_block ?_
                                                    refine pn_then ?_
                                                    refine pn_block ?_
                                                    refine pn_then ?_
                                                    refine pn_then ?_
                                                    refine pn_block ?_
                                                    refine pn_then ?_
                                                    injection h with h
                                                    subst h
                                                    exact panM rfl rfl ⟨⟨_, rfl, objOne ⟨⟨rfl, .keep rfl⟩, trivial⟩⟩, trivial⟩
                                              · refine do_op rfl rfl (st_mv rfl) ?_
                                                refine da_step [1, 3] (by kernel_rfl) rfl ?_
                                                refine ⟨?_, ?_, trivial⟩
                                                · refine do_op rfl rfl (st_ldP (v := .slice 1011 g841 0 s840.2.length) ta28 rfl rfl rfl rfl) ?_
                                                  refine da_step [3] (by kernel_rfl) rfl ?_
                                                  refine ⟨?_, trivial⟩
                                                  · refine do_pan (v := .iface 101 (.ptr 1001 0 0 0)) (L0 := [(1001, .row 0 103 [[dL 1 (eI .u8) s840.1]])]) (L1 := [(1001, .row 0 103 [[dL 1 (eI .u8) y904.2.b]])]) (L' := [(1001, .row 0 103 [[dL 1 (eI .u8) y904.2.b]]), (1002, .row 0 25 [[dB (z122 == (1 : Int)), .slice 1008 g134 0 s133.2.length]]), (1008, rw' g134 58 e_S_api_Line s133.2), (1009, .row 0 58 [[dI .u8 z825, dI .i64 z827, dI .i64 z829, dI .i64 z831, .slice 1011 g841 0 s840.2.length]]), (1011, rw' g841 3 (eI .i64) s840.2)]) rfl rfl rfl (by have q := om_proof_source_number hy904; rw [he905] at q; exact q) ⟨rfl, trivial⟩ rfl ⟨rfl, trivial⟩ rfl rfl ?_
                                                    refine pn_block ?_
                                                    refine pn_then ?_
                                                    refine pn_then ?_
                                                    refine pn_block ?_
                                                    refine pn_then ?_
                                                    refine pn_block ?_
                                                    refine pn_then ?_
                                                    refine pn_then ?_
                                                    refine pn_block ?_
                                                    refine pn_then ?_
                                                    injection h with h
                                                    subst h
                                                    exact panM rfl rfl ⟨⟨_, rfl, objOne ⟨⟨rfl, .keep rfl⟩, trivial⟩⟩, trivial⟩
                                                · refine do_pan (v := .iface 101 (.ptr 1001 0 0 0)) (L0 := [(1001, .row 0 103 [[dL 1 (eI .u8) s840.1]])]) (L1 := [(1001, .row 0 103 [[dL 1 (eI .u8) y904.2.b]])]) (L' := [(1001, .row 0 103 [[dL 1 (eI .u8) y904.2.b]]), (1002, .row 0 25 [[dB (z122 == (1 : Int)), .slice 1008 g134 0 s133.2.length]]), (1008, rw' g134 58 e_S_api_Line s133.2), (1009, .row 0 58 [[dI .u8 z825, dI .i64 z827, dI .i64 z829, dI .i64 z831, .slice 1011 g841 0 s840.2.length]]), (1011, rw' g841 3 (eI .i64) s840.2)]) rfl rfl rfl (by have q := om_proof_source_number hy904; rw [he905] at q; exact q) ⟨rfl, trivial⟩ rfl ⟨rfl, trivial⟩ rfl rfl ?_
                                                  refine pn_block ?_
                                                  refine pn_then ?_
                                                  refine pn_then ?_
                                                  refine pn_block ?_
                                                  refine pn_then ?_
                                                  refine pn_block ?_
                                                  refine pn_then ?_
                                                  refine pn_then ?_
                                                  refine pn_block ?_
                                                  refine pn_then ?_
                                                  injection h with h
                                                  subst h
                                                  exact panM rfl rfl ⟨⟨_, rfl, objOne ⟨⟨rfl, .keep rfl⟩, trivial⟩⟩, trivial⟩
                                            · refine do_op rfl rfl (st_mv rfl) ?_
                                              refine da_step [0, 3] (by kernel_rfl) rfl ?_
                                              refine ⟨?_, ?_, trivial⟩
                                              · refine do_op rfl rfl (st_faP fo58_4 rfl) ?_
                                                refine da_step [1, 3] (by kernel_rfl) rfl ?_
                                                refine ⟨?_, ?_, trivial⟩
                                                · refine do_op rfl rfl (st_ldP (v := .slice 1011 g841 0 s840.2.length) ta28 rfl rfl rfl rfl) ?_
                                                  refine da_step [3] (by kernel_rfl) rfl ?_
                                                  refine ⟨?_, trivial⟩
                                                  · refine do_pan (v := .iface 101 (.ptr 1001 0 0 0)) (L0 := [(1001, .row 0 103 [[dL 1 (eI .u8) s840.1]])]) (L1 := [(1001, .row 0 103 [[dL 1 (eI .u8) y904.2.b]])]) (L' := [(1001, .row 0 103 [[dL 1 (eI .u8) y904.2.b]]), (1002, .row 0 25 [[dB (z122 == (1 : Int)), .slice 1008 g134 0 s133.2.length]]), (1008, rw' g134 58 e_S_api_Line s133.2), (1009, .row 0 58 [[dI .u8 z825, dI .i64 z827, dI .i64 z829, dI .i64 z831, .slice 1011 g841 0 s840.2.length]]), (1011, rw' g841 3 (eI .i64) s840.2)]) rfl rfl rfl (by have q := om_proof_source_number hy904; rw [he905] at q; exact q) ⟨rfl, trivial⟩ rfl ⟨rfl, trivial⟩ rfl rfl ?_
                                                    refine pn_block ?_
                                                    refine pn_then ?_
                                                    refine pn_then ?_
                                                    refine pn_block ?_
                                                    refine pn_then ?_
                                                    refine pn_block ?_
                                                    refine pn_then ?_
                                                    refine pn_then ?_
                                                    refine pn_block ?_
                                                    refine pn_then ?_
                                                    injection h with h
                                                    subst h
                                                    exact panM rfl rfl ⟨⟨_, rfl, objOne ⟨⟨rfl, .keep rfl⟩, trivial⟩⟩, trivial⟩
                                                · refine do_pan (v := .iface 101 (.ptr 1001 0 0 0)) (L0 := [(1001, .row 0 103 [[dL 1 (eI .u8) s840.1]])]) (L1 := [(1001, .row 0 103 [[dL 1 (eI .u8) y904.2.b]])]) (L' := [(1001, .row 0 103 [[dL 1 (eI .u8) y904.2.b]]), (1002, .row 0 25 [[dB (z122 == (1 : Int)), .slice 1008 g134 0 s133.2.length]]), (1008, rw' g134 58 e_S_api_Line s133.2), (1009, .row 0 58 [[dI .u8 z825, dI .i64 z827, dI .i64 z829, dI .i64 z831, .slice 1011 g841 0 s840.2.length]]), (1011, rw' g841 3 (eI .i64) s840.2)]) rfl rfl rfl (by have q := om_proof_source_number hy904; rw [he905] at q; exact q) ⟨rfl, trivial⟩ rfl ⟨rfl, trivial⟩ rfl rfl ?_
                                                  refine pn_block ?_
                                                  refine pn_then ?_
                                                  refine pn_then ?_
                                                  refine pn_block ?_
                                                  refine pn_then ?_
                                                  refine pn_block ?_
                                                  refine pn_then ?_
                                                  refine pn_then ?_
                                                  refine pn_block ?_
                                                  refine pn_then ?_
                                                  injection h with h
                                                  subst h
                                                  exact panM rfl rfl ⟨⟨_, rfl, objOne ⟨⟨rfl, .keep rfl⟩, trivial⟩⟩, trivial⟩
                                              · refine do_pan (v := .iface 101 (.ptr 1001 0 0 0)) (L0 := [(1001, .row 0 103 [[dL 1 (eI .u8) s840.1]])]) (L1 := [(1001, .row 0 103 [[dL 1 (eI .u8) y904.2.b]])]) (L' := [(1001, .row 0 103 [[dL 1 (eI .u8) y904.2.b]]), (1002, .row 0 25 [[dB (z122 == (1 : Int)), .slice 1008 g134 0 s133.2.length]]), (1008, rw' g134 58 e_S_api_Line s133.2), (1009, .row 0 58 [[dI .u8 z825, dI .i64 z827, dI .i64 z829, dI .i64 z831, .slice 1011 g841 0 s840.2.length]]), (1011, rw' g841 3 (eI .i64) s840.2)]) rfl rfl rfl (by have q := om_proof_source_number hy904; rw [he905] at q; exact q) ⟨rfl, trivial⟩ rfl ⟨rfl, trivial⟩ rfl rfl ?_
                                                refine pn_block ?_
                                                refine pn_then ?_
                                                refine pn_then ?_
                                                refine pn_block ?_
                                                refine pn_then ?_
                                                refine pn_block ?_
                                                refine pn_then ?_
                                                refine pn_then ?_
                                                refine pn_block ?_
                                                refine pn_then ?_
                                                injection h with h
                                                subst h
                                                exact panM rfl rfl ⟨⟨_, rfl, objOne ⟨⟨rfl, .keep rfl⟩, trivial⟩⟩, trivial⟩
                                          · refine awp_rd hmix ?_
                                            refine do_ rfl rfl (st_faP fo58_4 rfl) rfl rfl rfl ?_
                                            refine do_ rfl rfl (st_ldP (v := .slice 1011 g841 0 s840.2.length) ta28 rfl rfl rfl rfl) rfl rfl rfl ?_
                                            refine do_ rfl rfl (st_mv rfl) rfl rfl rfl ?_
                                            refine dcall (v := dI .i64 z905) (L0 := [(1001, .row 0 103 [[dL 1 (eI .u8) s840.1]])]) (L1 := [(1001, .row 0 103 [[dL 1 (eI .u8) y904.2.b]])]) (L' := [(1001, .row 0 103 [[dL 1 (eI .u8) y904.2.b]]), (1002, .row 0 25 [[dB (z122 == (1 : Int)), .slice 1008 g134 0 s133.2.length]]), (1008, rw' g134 58 e_S_api_Line s133.2), (1009, .row 0 58 [[dI .u8 z825, dI .i64 z827, dI .i64 z829, dI .i64 z831, .slice 1011 g841 0 s840.2.length]]), (1011, rw' g841 3 (eI .i64) s840.2)]) rfl rfl rfl rfl (by have q := om_proof_source_number hy904; rw [he905] at q; exact q) ⟨rfl, trivial⟩ rfl ⟨rfl, trivial⟩ rfl rfl ?_
                                            refine dn (r := 1012) rfl rfl (st_bsl (els := [[dI .i64 z905]]) sl28 zc3 rfl rfl rfl rfl rfl) rfl rfl rfl rfl ?_
                                            obtain ⟨c920, h⟩ := capN_some h
                                            refine dn (r := 0) (L' := [(1001, .row 0 103 [[dL 1 (eI .u8) y904.2.b]]), (1002, .row 0 25 [[dB (z122 == (1 : Int)), .slice 1008 g134 0 s133.2.length]]), (1008, rw' g134 58 e_S_api_Line s133.2), (1009, .row 0 58 [[dI .u8 z825, dI .i64 z827, dI .i64 z829, dI .i64 z831, .slice 1011 g841 0 s840.2.length]]), (1011, rw' (g841 + 2) 3 (eI .i64) (s840.2 ++ [z905])), (1012, .row 1 3 [[dI .i64 z905]])]) rfl rfl (st_appR (f := (eI .i64)) (xs := s840.2) (ys := [z905]) sl28 zc3 rfl rfl rfl rfl rfl (news_one (a := z905) rfl rfl) c920) rfl rfl rfl rfl ?_
                                            refine do_ rfl rfl (st_faP fo58_4 rfl) rfl rfl rfl ?_
                                            refine dx (L' := [(1001, .row 0 103 [[dL 1 (eI .u8) y904.2.b]]), (1002, .row 0 25 [[dB (z122 == (1 : Int)), .slice 1008 g134 0 s133.2.length]]), (1008, rw' g134 58 e_S_api_Line s133.2), (1009, .row 0 58 [[dI .u8 z825, dI .i64 z827, dI .i64 z829, dI .i64 z831, .slice 1011 (g841 + 2) 0 ((s840.2 ++ [z905]).length)]]), (1011, rw' (g841 + 2) 3 (eI .i64) (s840.2 ++ [z905])), (1012, .row 1 3 [[dI .i64 z905]])]) rfl rfl (st_stP ta28 rfl rfl rfl rfl rfl rfl rfl rfl) rfl rfl rfl rfl ?_
                                            refine rd_nil (by kernel_rfl) ?_
                                            refine nx_block ?_
                                            refine nx_then ?_
                                            refine awp_rw ?_
                                            refine ro rfl rfl (st_incU rfl rfl hl843 hj843 hx843) ?_
                                            refine ro rfl rfl (st_mv rfl) ?_
                                            refine rw_nil ?_
                                            refine nx_then ?_
                                            refine awp_gh ?_ (ih842 (y904.2.b, (s840.2 ++ [z905])) (g841 + 2) h)
                                            exact (gh_frz rfl rfl ⟨⟨_, rfl, .keep rfl⟩, ⟨_, rfl, .keep rfl⟩, ⟨_, rfl, .keep rfl⟩, ⟨_, rfl, .keep rfl⟩, ⟨_, rfl, .keep rfl⟩, ⟨_, rfl, .keep rfl⟩, ⟨_, rfl, .keep rfl⟩, ⟨_, rfl, .keep rfl⟩, ⟨_, rfl, .keep rfl⟩, ⟨_, rfl, .keep rfl⟩, ⟨_, rfl, .keep rfl⟩, ⟨_, rfl, .keep rfl⟩, ⟨_, rfl, .keep rfl⟩, ⟨_, rfl, .keep rfl⟩, trivial⟩ ⟨⟨_, rfl, objOne ⟨⟨rfl, .keep rfl⟩, trivial⟩⟩, ⟨_, rfl, objOne ⟨⟨rfl, .keep rfl⟩, ⟨rfl, .keep rfl⟩, trivial⟩⟩, ⟨_, rfl, objRow _⟩, ⟨_, rfl, objOne ⟨⟨rfl, .keep rfl⟩, ⟨rfl, .keep rfl⟩, ⟨rfl, .keep rfl⟩, ⟨rfl, .keep rfl⟩, ⟨rfl, .keep rfl⟩, trivial⟩⟩, ⟨_, rfl, objRow _⟩, trivial⟩)
                                        · clear h
                                          intro s840 g841 h
                                          refine awp_rs ?_
                                          refine ro rfl rfl (st_bin (v := dB (decide (((0 : Int) + (((z833 - (0 : Int)).toNat : Nat) : Int)) < z833))) rfl rfl rfl) ?_
                                          refine rw_nilk ?_
                                          refine awp_seq ?_
                                          refine awp_ifF rfl (dgeI upD) ?_
                                          refine awp_exit ?_
                                          refine ex_out ?_
                                          refine ex_out ?_
                                          refine ex_in ?_
                                          refine nx_then ?_
                                          refine awp_rw ?_
                                          refine ro rfl rfl (st_faP fo25_1 rfl) ?_
                                          refine ro rfl rfl (st_ldP (v := .slice 1008 g134 0 s133.2.length) ta23 rfl rfl rfl rfl) ?_
                                          refine ro rfl rfl (st_ldP (v := .agg [dI .u8 z825, dI .i64 z827, dI .i64 z829, dI .i64 z831, .slice 1011 g841 0 s840.2.length]) ta58 rfl rfl rfl rfl) ?_
                                          refine rn (r := 1013) rfl rfl (st_bsl (els := [[dI .u8 z825, dI .i64 z827, dI .i64 z829, dI .i64 z831, .slice 1011 g841 0 s840.2.length]]) sl23 zc58 rfl rfl rfl rfl rfl) rfl ?_
                                          refine RW.gh (gh_frz (E' := [(0, .ptr 1001 0 0 0), (2, .ptr 1002 0 0 0), (41, dI .i64 z124), (42, dI .i64 j136), (59, dI .i64 z833), (60, .ptr 1001 0 0 0), (61, .ptr 1001 0 0 0), (62, .ptr 1001 0 0 0), (63, dL 1 (eI .u8) y832.2.b), (64, dI .i64 ((y832.2.b.length : Nat) : Int)), (65, dB (decide (z833 ≤ ((y832.2.b.length : Nat) : Int)))), (80, .slice 1008 g134 0 s133.2.length), (82, .slice 1013 1 0 1)]) (L' := [(1001, .row 0 103 [[dL 1 (eI .u8) s840.1]]), (1002, .row 0 25 [[dB (z122 == (1 : Int)), .slice 1008 g134 0 s133.2.length]]), (1008, rw' g134 58 e_S_api_Line s133.2), (1009, .row 0 58 [[dI .u8 z825, dI .i64 z827, dI .i64 z829, dI .i64 z831, dL 1 (eI .i64) s840.2]]), (1013, .row 1 58 [[dI .u8 z825, dI .i64 z827, dI .i64 z829, dI .i64 z831, dL 1 (eI .i64) s840.2]])]) rfl rfl ⟨⟨_, rfl, .keep rfl⟩, ⟨_, rfl, .keep rfl⟩, ⟨_, rfl, .keep rfl⟩, ⟨_, rfl, .keep rfl⟩, ⟨_, rfl, .keep rfl⟩, ⟨_, rfl, .keep rfl⟩, ⟨_, rfl, .keep rfl⟩, ⟨_, rfl, .keep rfl⟩, ⟨_, rfl, .keep rfl⟩, ⟨_, rfl, .keep rfl⟩, ⟨_, rfl, .keep rfl⟩, ⟨_, rfl, .keep rfl⟩, ⟨_, rfl, .keep rfl⟩, trivial⟩ ⟨⟨_, rfl, objOne ⟨⟨rfl, .keep rfl⟩, trivial⟩⟩, ⟨_, rfl, objOne ⟨⟨rfl, .keep rfl⟩, ⟨rfl, .keep rfl⟩, trivial⟩⟩, ⟨_, rfl, objRow _⟩, ⟨_, rfl, objOne ⟨⟨rfl, .keep rfl⟩, ⟨rfl, .keep rfl⟩, ⟨rfl, .keep rfl⟩, ⟨rfl, .keep rfl⟩, ⟨rfl, frzT rfl rfl co3 rfl⟩, trivial⟩⟩, ⟨_, rfl, objOne ⟨⟨rfl, .keep rfl⟩, ⟨rfl, .keep rfl⟩, ⟨rfl, .keep rfl⟩, ⟨rfl, .keep rfl⟩, ⟨rfl, frzT rfl rfl co3 rfl⟩, trivial⟩⟩, trivial⟩) ?_
                                          obtain ⟨c921, h⟩ := capN_some h
                                          refine rn (r := 0) (L' := [(1001, .row 0 103 [[dL 1 (eI .u8) s840.1]]), (1002, .row 0 25 [[dB (z122 == (1 : Int)), .slice 1008 g134 0 s133.2.length]]), (1008, rw' (g134 + 2) 58 e_S_api_Line (s133.2 ++ [(S_api_Line.mk z825 z827 z829 z831 s840.2)])), (1009, .row 0 58 [[dI .u8 z825, dI .i64 z827, dI .i64 z829, dI .i64 z831, dL 1 (eI .i64) s840.2]]), (1013, .row 1 58 [[dI .u8 z825, dI .i64 z827, dI .i64 z829, dI .i64 z831, dL 1 (eI .i64) s840.2]])]) rfl rfl (st_appR (f := e_S_api_Line) (xs := s133.2) (ys := [(S_api_Line.mk z825 z827 z829 z831 s840.2)]) sl23 zc58 rfl rfl rfl rfl rfl (news_one (a := (S_api_Line.mk z825 z827 z829 z831 s840.2)) rfl rfl) c921) rfl ?_
                                          refine ro rfl rfl (st_faP fo25_1 rfl) ?_
                                          refine rx (L' := [(1001, .row 0 103 [[dL 1 (eI .u8) s840.1]]), (1002, .row 0 25 [[dB (z122 == (1 : Int)), .slice 1008 (g134 + 2) 0 ((s133.2 ++ [(S_api_Line.mk z825 z827 z829 z831 s840.2)]).length)]]), (1008, rw' (g134 + 2) 58 e_S_api_Line (s133.2 ++ [(S_api_Line.mk z825 z827 z829 z831 s840.2)])), (1009, .row 0 58 [[dI .u8 z825, dI .i64 z827, dI .i64 z829, dI .i64 z831, dL 1 (eI .i64) s840.2]]), (1013, .row 1 58 [[dI .u8 z825, dI .i64 z827, dI .i64 z829, dI .i64 z831, dL 1 (eI .i64) s840.2]])]) rfl rfl (st_stP ta23 rfl rfl rfl rfl rfl rfl rfl rfl) rfl ?_
                                          refine rw_nil ?_
                                          refine nx_block ?_
                                          refine nx_then ?_
                                          refine awp_rw ?_
                                          refine ro rfl rfl (st_incU rfl rfl hl136 hj136 hx136) ?_
                                          refine ro rfl rfl (st_mv rfl) ?_
                                          refine rw_nil ?_
                                          refine nx_then ?_
                                          refine awp_gh ?_ (ih135 (s840.1, (s133.2 ++ [(S_api_Line.mk z825 z827 z829 z831 s840.2)])) (g134 + 2) h)
                                          exact (gh_frz rfl rfl ⟨⟨_, rfl, .keep rfl⟩, ⟨_, rfl, .keep rfl⟩, ⟨_, rfl, .keep rfl⟩, ⟨_, rfl, .keep rfl⟩, trivial⟩ ⟨⟨_, rfl, objOne ⟨⟨rfl, .keep rfl⟩, trivial⟩⟩, ⟨_, rfl, objOne ⟨⟨rfl, .keep rfl⟩, ⟨rfl, .keep rfl⟩, trivial⟩⟩, ⟨_, rfl, objRow _⟩, trivial⟩)
                                    · replace h := ite_F p837 h
                                      rw [p837]
                                      refine rz rfl rfl ?_
                                      refine rz rfl rfl ?_
                                      refine rz rfl rfl ?_
                                      refine rz rfl rfl ?_
                                      refine rz rfl rfl ?_
                                      refine rz rfl rfl ?_
                                      refine rz rfl rfl ?_
                                      refine ro rfl rfl (st_pickF rfl rfl) ?_
                                      refine ri (N := 8) (rs := []) rfl rfl rfl rfl Try.func91 rfl rfl rfl (by kernel_rfl) rfl (fun _B => ?_)
                                      refine awp_rs ?_
                                      refine ro rfl rfl (st_mv rfl) ?_
                                      refine ro rfl rfl (st_un (v := dB true) rfl rfl) ?_
                                      refine rw_nilk ?_
                                      refine awp_condT rfl ?_
                                      refine awp_rw ?_
                                      refine ro rfl rfl (st_mv rfl) ?_
                                      refine ro rfl rfl (st_mkIf ic101 rfl) ?_
                                      refine rw_panic rfl rfl ?_
                                      refine pn_in ?_
                                      refine pn_then ?_
                                      refine pn_block ?_
                                      refine pn_then ?_
                                      refine pn_then ?_
                                      refine pn_block ?_
                                      refine pn_then ?_
                                      injection h with h
                                      subst h
                                      exact panM rfl rfl ⟨⟨_, rfl, objOne ⟨⟨rfl, .keep rfl⟩, trivial⟩⟩, trivial⟩
                        · clear h
                          intro s133 g134 h
                          refine awp_rs ?_
                          refine ro rfl rfl (st_bin (v := dB (decide (((0 : Int) + (((z124 - (0 : Int)).toNat : Nat) : Int)) < z124))) rfl rfl rfl) ?_
                          refine rw_nilk ?_
                          refine awp_seq ?_
                          refine awp_ifF rfl (dgeI upD) ?_
                          refine awp_exit ?_
                          refine ex_out ?_
                          refine ex_out ?_
                          refine ex_in ?_
                          refine nx_then ?_
                          refine awp_rs ?_
                          refine ro rfl rfl (st_mv rfl) ?_
                          refine ro rfl rfl (st_mv rfl) ?_
                          refine ro rfl rfl (st_nilP rfl) ?_
                          refine ro rfl rfl (st_faP fo103_0 rfl) ?_
                          refine ro rfl rfl (st_ldP (v := dL 1 (eI .u8) s133.1) ta67 rfl rfl rfl rfl) ?_
                          refine ro rfl rfl (st_lenD rfl un67) ?_
                          refine ro rfl rfl (st_bin (v := dB (((s133.1.length : Nat) : Int) == (0 : Int))) rfl rfl rfl) ?_
                          refine ri (N := 8) (rs := []) rfl rfl rfl rfl Try.func91 rfl rfl rfl (by kernel_rfl) rfl (fun _B => ?_)
                          refine awp_rs ?_
                          refine ro rfl rfl (st_mv rfl) ?_
                          refine ro rfl rfl (st_un (v := dB (!(((s133.1.length : Nat) : Int) == (0 : Int)))) rfl rfl) ?_
                          refine rw_nilk ?_
                          refine awp_ite (b := (!(((s133.1.length : Nat) : Int) == (0 : Int)))) rfl (fun p923 => ?_) (fun p923 => ?_)
                          · replace h := ite_T p923 h
                            refine awp_rw ?_
                            refine ro rfl rfl (st_mv rfl) ?_
                            refine ro rfl rfl (st_mkIf ic101 rfl) ?_
                            refine rw_panic rfl rfl ?_
                            refine pn_in ?_
                            refine pn_then ?_
                            injection h with h
                            subst h
                            exact panM rfl rfl ⟨⟨_, rfl, objOne ⟨⟨rfl, .keep rfl⟩, trivial⟩⟩, trivial⟩
                          · replace h := ite_F p923 h
                            refine awp_skip ?_
                            refine ret_inN (v := .tup []) (resV_none resVs_nil) ?_
                            show RW _ _ _ _ _ _ _
                            refine rw_nilk ?_
                            refine awp_rs ?_
                            refine ro rfl rfl (st_ldP (v := .agg [dB (z122 == (1 : Int)), .slice 1008 g134 0 s133.2.length]) ta25 rfl rfl rfl rfl) ?_
                            refine rx (L' := [(1001, .row 0 103 [[dL 1 (eI .u8) s133.1]]), (1002, .row 0 25 [[dB (z122 == (1 : Int)), .slice 1008 g134 0 s133.2.length]]), (1008, rw' g134 58 e_S_api_Line s133.2)]) rfl rfl (st_stP ta25 rfl rfl rfl rfl rfl rfl rfl rfl) rfl ?_
                            refine rw_nilk ?_
                            refine awp_ret ?_
                            injection h with h
                            subst h
                            exact retM (v := .agg [dB (z122 == (1 : Int)), .slice 1008 g134 0 s133.2.length]) (resV_one (resVs_cell (v := .agg [dB (z122 == (1 : Int)), .slice 1008 g134 0 s133.2.length]) ta25 rfl rfl rfl rfl resVs_nil)) rfl (frz_agg ⟨(.keep rfl), (frzT rfl rfl co58 rfl), trivial⟩) ⟨⟨_, rfl, objOne ⟨⟨rfl, .keep rfl⟩, trivial⟩⟩, trivial⟩
                    · replace h := ite_F p130 h
                      rw [p130]
                      refine rz rfl rfl ?_
                      refine rz rfl rfl ?_
                      refine ro rfl rfl (st_pickF rfl rfl) ?_
                      refine ri (N := 8) (rs := []) rfl rfl rfl rfl Try.func91 rfl rfl rfl (by kernel_rfl) rfl (fun _B => ?_)
                      refine awp_rs ?_
                      refine ro rfl rfl (st_mv rfl) ?_
                      refine ro rfl rfl (st_un (v := dB true) rfl rfl) ?_
                      refine rw_nilk ?_
                      refine awp_condT rfl ?_
                      refine awp_rw ?_
                      refine ro rfl rfl (st_mv rfl) ?_
                      refine ro rfl rfl (st_mkIf ic101 rfl) ?_
                      refine rw_panic rfl rfl ?_
                      refine pn_in ?_
                      refine pn_then ?_
                      injection h with h
                      subst h
                      exact panM rfl rfl ⟨⟨_, rfl, objOne ⟨⟨rfl, .keep rfl⟩, trivial⟩⟩, trivial⟩
                  · replace h := ite_F p129 h
                    rw [p129]
                    refine rz rfl rfl ?_
                    refine rz rfl rfl ?_
                    refine ro rfl rfl (st_pickF rfl rfl) ?_
                    refine ro rfl rfl (st_mv rfl) ?_
                    refine rz rfl rfl ?_
                    refine rz rfl rfl ?_
                    refine ro rfl rfl (st_pickF rfl rfl) ?_
                    refine ri (N := 8) (rs := []) rfl rfl rfl rfl Try.func91 rfl rfl rfl (by kernel_rfl) rfl (fun _B => ?_)
                    refine awp_rs ?_
                    refine ro rfl rfl (st_mv rfl) ?_
                    refine ro rfl rfl (st_un (v := dB true) rfl rfl) ?_
                    refine rw_nilk ?_
                    refine awp_condT rfl ?_
                    refine awp_rw ?_
                    refine ro rfl rfl (st_mv rfl) ?_
                    refine ro rfl rfl (st_mkIf ic101 rfl) ?_
                    refine rw_panic rfl rfl ?_
                    refine pn_in ?_
                    refine pn_then ?_
                    injection h with h
                    subst h
                    exact panM rfl rfl ⟨⟨_, rfl, objOne ⟨⟨rfl, .keep rfl⟩, trivial⟩⟩, trivial⟩
        · replace h := ite_F p116 h
          rw [p116]
          refine rz rfl rfl ?_
          refine rz rfl rfl ?_
          refine rz rfl rfl ?_
          refine ro rfl rfl (st_pickF rfl rfl) ?_
          refine ri (N := 8) (rs := []) rfl rfl rfl rfl Try.func91 rfl rfl rfl (by kernel_rfl) rfl (fun _B => ?_)
          refine awp_rs ?_
          refine ro rfl rfl (st_mv rfl) ?_
          refine ro rfl rfl (st_un (v := dB true) rfl rfl) ?_
          refine rw_nilk ?_
          refine awp_condT rfl ?_
          refine awp_rw ?_
          refine ro rfl rfl (st_mv rfl) ?_
          refine ro rfl rfl (st_mkIf ic101 rfl) ?_
          refine rw_panic rfl rfl ?_
          refine pn_in ?_
          refine pn_then ?_
          injection h with h
          subst h
          exact panM rfl rfl ⟨⟨_, rfl, objOne ⟨⟨rfl, .keep rfl⟩, trivial⟩⟩, trivial⟩
    · replace h := ite_F p113 h
      rw [p113]
      refine rz rfl rfl ?_
      refine rz rfl rfl ?_
      refine rz rfl rfl ?_
      refine ro rfl rfl (st_pickF rfl rfl) ?_
      refine ro rfl rfl (st_mv rfl) ?_
      refine rz rfl rfl ?_
      refine rz rfl rfl ?_
      refine rz rfl rfl ?_
      refine ro rfl rfl (st_pickF rfl rfl) ?_
      refine ri (N := 8) (rs := []) rfl rfl rfl rfl Try.func91 rfl rfl rfl (by kernel_rfl) rfl (fun _B => ?_)
      refine awp_rs ?_
      refine ro rfl rfl (st_mv rfl) ?_
      refine ro rfl rfl (st_un (v := dB true) rfl rfl) ?_
      refine rw_nilk ?_
      refine awp_condT rfl ?_
      refine awp_rw ?_
      refine ro rfl rfl (st_mv rfl) ?_
      refine ro rfl rfl (st_mkIf ic101 rfl) ?_
      refine rw_panic rfl rfl ?_
      refine pn_in ?_
      refine pn_then ?_
      injection h with h
      subst h
      exact panM rfl rfl ⟨⟨_, rfl, objOne ⟨⟨rfl, .keep rfl⟩, trivial⟩⟩, trivial⟩

theorem g_ta25 : tAgg Go.Proofs.Try.prog 25 = some (true, 2) := by kernel_rfl
theorem g_ta29 : tAgg Go.Proofs.Try.prog 29 = some (false, 1) := by kernel_rfl
theorem g_ta101 : tAgg Go.Proofs.Try.prog 101 = some (false, 1) := by kernel_rfl
theorem g_ic101 : isConc Go.Proofs.Try.prog 101 = true := by kernel_rfl
theorem g_bl25 : bLay Go.Proofs.Try.prog 25 = some ([.dat (.bool false), .nilS], .list [(0, 1), (1, 1)]) := by kernel_rfl
theorem clo_idle {ps pp pe : Value} {w : World} :
    CallsDIn Fence.wide 0 Try.prog 74 #[ps, pp, pe] .returning w fun e u' w' => e = .returned (.tuple #[]) ∧ u' = .returning ∧ w' = w := by
  refine callsDIn_of_wpSIn Try.func74 rfl trivial fun c₀ st hu => ?_
  refine wpSIn_seq (wpSIn_region ?_)
  simp [wpOpsSIn, go_sem, recoverD, hu, Exit.thenS, Fence.wide]
  refine wpSIn_seq (wpSIn_region ?_)
  simp [wpOpsSIn, go_sem, Exit.thenS]
  refine wpSIn_cond (t := false) (by simp [Act.eval, Array.replicate]) ?_
  simp only [Bool.false_eq_true, if_false]
  refine wpSIn_of_wpIn rfl (wpIn_skip ?_)
  cases c₀
  simp_all [bodyPostS, results]
theorem ev_iface {P : Program} {N : Nat} {D : List Deferred} {ρ : Rho} {E : Env} {L : LH} {a : Act} {w : World} {x : Operand} {t : TypeId} {v : AVal} (h : Now P N D ρ E L a w) (hx : ev E x = some (.iface t v)) : ∃ c, a.eval x = .iface t c ∧ VRel w ρ v c := by
  have := h.env.ev hx
  generalize a.eval x = q at this ⊢
  cases this with
  | iface h => exact ⟨_, rfl, h⟩
theorem ptr_form {P : Program} {ρ : Rho} {L : LH} {w : World} {r e : Nat} {els : List (List AVal)} {c : Value} (h : VRel w ρ (.ptr r 0 0 0) c) : ∃ A, c = .pointer (some A) := by
  cases h; exact ⟨_, rfl⟩
theorem neq_same (A : Addr) (w : World) : (binOp .neq 20 (.iface 101 (.pointer (some A))) (.iface 101 (.pointer (some A)))).run Try.prog w = .ok (.bool false) w := by
  have h1 : (Try.prog.info? 101).map (·.comparable) = some true := by kernel_rfl
  have h2 : (Try.prog.info? 103).isSome = true := by kernel_rfl
  obtain ⟨i, hi, hc⟩ := Option.map_eq_some_iff.1 h1
  obtain ⟨j, hj⟩ := Option.isSome_iff_exists.1 h2
  simp only [binOp]
  simp [Op.equal, Op.maxDepth, run_equalIn_iface_ptr_same w 9998 A Try.underlying20 Try.underlying101 hi hc hj]
theorem clo_pan {ρ : Rho} {L : LH} {w : World} {ps pp pe c : Value} {x y z : AVal} {els : List (List AVal)} (hL : SatL Try.prog ρ L w) (h4 : VRel w ρ (.ptr 1004 0 0 0) ps) (h2 : VRel w ρ (.ptr 1002 0 0 0) pp) (h3 : VRel w ρ (.ptr 1003 0 0 0) pe)
    (hc : VRel w ρ (.iface 101 (.ptr 1001 0 0 0)) c) (r1 : aget L 1001 = some (.row 0 103 els)) (r4 : aget L 1004 = some (.row 0 101 [[.ptr 1001 0 0 0]])) (r2 : aget L 1002 = some (.row 0 25 [[x, y]])) (r3 : aget L 1003 = some (.row 0 29 [[z]])) :
    CallsDIn Fence.wide 0 Try.prog 74 #[ps, pp, pe] (.panicking (chain1 c)) w fun e u' w' => e = .returned (.tuple #[]) ∧ u' = .panicking [{ v := c, recovered := true }] ∧
      ∃ ρ', SatL Try.prog ρ' (aset (aset L 1002 (.row 0 25 [[.dat (.bool false), .nilS]])) 1003 (.row 0 29 [[dI .i64 (5 : Int)]])) w' ∧ Fr All ρ w ρ' w' := by
  refine callsDIn_of_wpSIn Try.func74 rfl trivial fun c₀ st hu => ?_
  refine wpSIn_seq (wpSIn_region ?_)
  simp [wpOpsSIn, go_sem, recoverD, hu, Exit.thenS, Fence.wide, chain1]
  refine wpSIn_of_wpIn rfl ?_
  generalize ha0 : ({ tmps := _, defers := [] } : Act) = a0
  have N0 : Now Try.prog 13 [] ρ [(3, .iface 101 (.ptr 1001 0 0 0)), (0, .ptr 1004 0 0 0), (1, .ptr 1002 0 0 0), (2, .ptr 1003 0 0 0)] L a0 w := by
    subst ha0
    refine ⟨by simp, fun t v ht => ?_, hL, rfl⟩
    simp only [aget] at ht
    split at ht
    · rename_i e; subst e; injection ht with ht; subst ht; exact ⟨by simp, by simpa [Array.replicate] using hc⟩
    split at ht
    · rename_i e; subst e; injection ht with ht; subst ht; exact ⟨by simp, by simpa [Array.replicate] using h4⟩
    split at ht
    · rename_i e; subst e; injection ht with ht; subst ht; exact ⟨by simp, by simpa [Array.replicate] using h2⟩
    split at ht
    · rename_i e; subst e; injection ht with ht; subst ht; exact ⟨by simp, by simpa [Array.replicate] using h3⟩
    · simp at ht
  clear ha0
  refine wpIn_seq (wpIn_region ?_)
  show wpOpsIn Fence.wide 0 _ _ _ [0, 1] _ _
  refine now_at rfl rfl (now_op (r0 := none) N0 rfl (st_mv rfl) fun ρ1 a1 w1 N1 f1 => ?_)
  obtain ⟨c1, e1, v1⟩ := ev_iface N1 (x := .tmp 5) rfl
  replace e1 : a1.tmps[5]?.getD undef = .iface 101 c1 := by simpa [Act.eval] using e1
  refine now_at rfl rfl (now_raw (v := dB true) (c := .bool true) N1 rfl (by intro c h; cases h) (by simp [execOp, e1, go_sem]) (.dat (.bool true)) fun a2 N2 => ?_)
  show Code.wpIn _ _ _ _ _ _ _
  refine wpIn_cond (t := true) (by
    have := N2.env.ev (x := .tmp 6) (v := dB true) rfl
    generalize a2.eval (.tmp 6) = q at this ⊢
    cases this with | dat h => cases h; rfl) ?_
  simp only [if_true]
  refine wpIn_seq (wpIn_seq (wpIn_region ?_))
  show wpOpsIn Fence.wide 0 _ _ _ [0, 1, 2, 3] _ _
  refine now_at rfl rfl (now_op (r0 := none) N2 rfl (st_mv rfl) fun ρ3 a3 w3 N3 f3 => ?_)
  refine now_at rfl rfl (now_op (r0 := none) N3 rfl (st_ldP (v := .ptr 1001 0 0 0) g_ta101 rfl r4 rfl rfl) fun ρ4 a4 w4 N4 f4 => ?_)
  refine now_at rfl rfl (now_op (r0 := none) N4 rfl (st_mkIf g_ic101 rfl) fun ρ5 a5 w5 N5 f5 => ?_)
  obtain ⟨c7, e7, v7⟩ := ev_iface N5 (x := .tmp 7) rfl
  obtain ⟨c9, e9, v9⟩ := ev_iface N5 (x := .tmp 9) rfl
  replace e7 : a5.tmps[7]?.getD undef = .iface 101 c7 := by simpa [Act.eval] using e7
  replace e9 : a5.tmps[9]?.getD undef = .iface 101 c9 := by simpa [Act.eval] using e9
  have e79 := ptr_same N5.heap r1 v7 v9
  subst e79
  obtain ⟨A, rfl⟩ : ∃ A, c7 = .pointer (some A) := by cases v7; exact ⟨_, rfl⟩
  refine now_at rfl rfl (now_raw (v := dB false) (c := .bool false) N5 rfl (by intro c h; cases h) (by simp [execOp, e7, e9, go_sem, neq_same]) (.dat (.bool false)) fun a6 N6 => ?_)
  show Code.wpIn _ _ _ _ _ _ _
  refine wpIn_cond (t := false) (by
    have := N6.env.ev (x := .tmp 10) (v := dB false) rfl
    generalize a6.eval (.tmp 10) = q at this ⊢
    cases this with | dat h => cases h; rfl) ?_
  simp only [Bool.false_eq_true, if_false]
  refine wpIn_skip ?_
  show Code.wpIn _ _ _ _ _ _ _
  refine wpIn_region ?_
  show wpOpsIn Fence.wide 0 _ _ _ [0, 1, 2] _ _
  refine now_at rfl rfl (now_op (r0 := none) N6 rfl (st_build (vs := [.dat (.bool false), .nilS]) g_bl25 rfl rfl) fun ρ7 a7 w7 N7 f7 => ?_)
  refine now_at rfl rfl (now_op (r0 := none) N7 rfl (st_stP g_ta25 rfl rfl r2 rfl rfl rfl rfl rfl) fun ρ8 a8 w8 N8 f8 => ?_)
  refine now_at rfl rfl (now_op (r0 := none) N8 rfl (st_stP (els := [[z]]) g_ta29 rfl rfl (by rw [aget_aset, if_neg (by decide)]; exact r3) rfl rfl rfl rfl rfl) fun ρ9 a9 w9 N9 f9 => ?_)
  simp only [wpOpsIn, bodyPostS]
  refine ⟨N9.defs, _, rfl, .tuple #[], by simp [results], rfl, rfl, ρ9, N9.heap, ?_⟩
  exact (((((((f1.trans f3).trans f4).trans f5).trans f7).trans f8).trans f9))

theorem g_zc25 : zCells Go.Proofs.Try.prog 25 = some [.dat (.bool false), .nilS] := by kernel_rfl
theorem g_zc29 : zCells Go.Proofs.Try.prog 29 = some [dI .i64 (0 : Int)] := by kernel_rfl
theorem g_zc101 : zCells Go.Proofs.Try.prog 101 = some [.raw (.pointer none)] := by kernel_rfl
theorem g_co103 : Program.cellsOf Go.Proofs.Try.prog 103 = 1 := by kernel_rfl
theorem g_bl103 : bLay Go.Proofs.Try.prog 103 = some ([.nilS], .list [(0, 1)]) := by kernel_rfl
theorem cs3 {w : World} {ρ : Rho} {x y z : AVal} {cs : Array Value} (h : CsRel w ρ [x, y, z] cs) : ∃ a b c, cs = #[a, b, c] ∧ VRel w ρ x a ∧ VRel w ρ y b ∧ VRel w ρ z c := by
  obtain ⟨h1, h2⟩ := h
  match cs, h1, h2 with
  | ⟨[a, b, c]⟩, _, h2 => exact ⟨a, b, c, rfl, by simpa using h2 0 x rfl, by simpa using h2 1 y rfl, by simpa using h2 2 z rfl⟩
  | ⟨[]⟩, h1, _ => simp at h1
  | ⟨[_]⟩, h1, _ => simp at h1
  | ⟨[_, _]⟩, h1, _ => simp at h1
  | ⟨_ :: _ :: _ :: _ :: _⟩, h1, _ => simp at h1
theorem now_fin {P : Program} {ρ0 ρ : Rho} {w0 w : World} {L : LH} {v u : AVal} {c : Value} (h0 : SatL P ρ0 [] w0) (hL : SatL P ρ L w) (hv : VRel w ρ v c) (hz : Frz P L (inL []) v u) (hf : Fr All ρ0 w0 ρ w) :
    ∃ ρ', OutR w ρ' (.ret u) (.returned c) ∧ SatL P ρ' [] w ∧ Fr All ρ0 w0 ρ' w := by
  have hk : Wk P L [] := ⟨fun r o ho => by simp [aget] at ho⟩
  refine ⟨restr ρ (inL []), hz.sound hL (restr_agree ..) (fun r x hx => restr_m hx) rfl hv, hk.sound hL, hf.os, hf.tape, hf.output, hf.size, hf.blk, fun b hb hb2 => ?_, hf.ext, fun r x _ hx => ?_⟩
  · obtain ⟨r, g, l, q1, q2⟩ := hb2
    exact hf.new b hb ⟨r, g, l, (restr_m q1).2, q2⟩
  · obtain ⟨o, ho⟩ := h0.dom r x hx
    simp [aget] at ho
theorem ok_proof_Get {a0 : List Int} {r : S_api_Proof × Int} (h : F_proof_Get a0 = some r) : Fn Try.prog 40 [dL 1 (eI .u8) a0] (.tup [.agg [dB r.1.Cubes, dL 5 e_S_api_Line r.1.Lines], dI .i64 r.2]) := by
  obtain ⟨y, hy, h⟩ := bind_some_elim h
  have om := om_proof_source_proof hy
  refine ⟨by kernel_rfl, fun ρ w cs hcs hL => callsIn_of_wp_defers Try.func40 rfl trivial ?_⟩
  have hl := hcs.len
  have N0 : Now Try.prog 11 [] ρ (argE 0 [dL 1 (eI .u8) a0]) [] { tmps := cs.toArray ++ Array.replicate (11 - cs.toArray.size) undef, defers := [] } w := by
    refine ⟨by simp at hl ⊢; omega, fun t v ht => ?_, hL, rfl⟩
    obtain ⟨j, rfl, hj⟩ := argE_get ht
    obtain ⟨c, hc, hv⟩ := hcs.get hj
    have hjl : j < cs.length := (List.getElem?_eq_some_iff.1 hc).1
    refine ⟨by simp; omega, ?_⟩
    have e : (cs.toArray ++ Array.replicate (11 - cs.toArray.size) undef).getD (0 + j) undef = c := by
      rw [Nat.zero_add]
      simp only [Array.getD_eq_getD_getElem?]
      rw [Array.getElem?_append_left (by simpa using hjl)]
      simp [hc]
    rw [e]
    exact hv
  show Code.wpIn _ _ _ _ _ { tmps := cs.toArray ++ Array.replicate (11 - cs.toArray.size) undef, defers := [] } _
  generalize ({ tmps := cs.toArray ++ Array.replicate (11 - cs.toArray.size) undef, defers := [] } : Act) = a at N0 ⊢
  refine wpIn_seq (wpIn_region ?_)
  show wpOpsIn Fence.wide 0 _ _ _ [0, 1] _ _
  refine now_at rfl rfl (now_op (r0 := some 1002) N0 rfl (st_alloc g_zc25 rfl rfl) fun ρ1 a1 w1 N1 f1 => ?_)
  refine now_at rfl rfl (now_op (r0 := some 1003) N1 rfl (st_alloc g_zc29 rfl rfl) fun ρ2 a2 w2 N2 f2 => ?_)
  show Code.wpIn _ _ _ _ _ _ _
  refine wpIn_seq (wpIn_region ?_)
  show wpOpsIn Fence.wide 0 _ _ _ [0, 1, 2, 3, 4] _ _
  refine now_at rfl rfl (now_op (r0 := none) N2 rfl (st_mv rfl) fun ρ3 a3 w3 N3 f3 => ?_)
  refine now_at rfl rfl (now_op (r0 := none) N3 rfl (st_build (vs := [dL 1 (eI .u8) a0]) g_bl103 rfl rfl) fun ρ4 a4 w4 N4 f4 => ?_)
  refine now_at rfl rfl (now_op (r0 := some 1001) N4 rfl (st_box rfl rfl rfl g_co103 rfl rfl) fun ρ5 a5 w5 N5 f5 => ?_)
  refine now_at rfl rfl (now_op (r0 := some 1004) N5 rfl (st_alloc g_zc101 rfl rfl) fun ρ6 a6 w6 N6 f6 => ?_)
  refine now_at rfl rfl (now_op (r0 := none) N6 rfl (st_stP g_ta101 rfl rfl rfl rfl rfl rfl rfl rfl) fun ρ7 a7 w7 N7 f7 => ?_)
  show Code.wpIn _ _ _ _ _ _ _
  refine wpIn_seq (wpIn_region ?_)
  show wpOpsIn Fence.wide 0 _ _ _ [0, 1] _ _
  refine now_at rfl rfl (now_op (r0 := none) N7 rfl (st_fn rfl rfl) fun ρ8 a8 w8 N8 f8 => ?_)
  refine now_at rfl rfl (now_defer N8 rfl rfl fun dcs a9 hdc N9 => ?_)
  obtain ⟨ps, pp, pe, rfl, v4, v2, v3⟩ := cs3 hdc
  show Code.wpIn _ _ _ _ _ _ _
  refine wpIn_seq (wpIn_region ?_)
  show wpOpsIn Fence.wide 0 _ _ _ [0, 1, 2, 3] _ _
  refine now_at rfl rfl (now_op (r0 := none) N9 rfl (st_ldP (v := .ptr 1001 0 0 0) g_ta101 rfl rfl rfl rfl) fun ρ10 a10 w10 N10 f10 => ?_)
  have F10 := (((((((f1.trans f2).trans f3).trans f4).trans f5).trans f6).trans f7).trans f8).trans f10
  cases hq : y.1 with
  | some q =>
    rw [hq] at h om
    injection h with h
    subst h
    refine now_at rfl rfl (now_call N10 rfl rfl rfl om ⟨rfl, trivial⟩ rfl ⟨rfl, trivial⟩ rfl rfl (fun v hv ρ11 a11 w11 N11 f11 => ?_) (fun v hv => by cases hv))
    injection hv with hv
    subst hv
    refine now_at rfl rfl (now_op (r0 := none) N11 rfl (st_stP g_ta25 rfl rfl rfl rfl rfl rfl rfl rfl) fun ρ12 a12 w12 N12 f12 => ?_)
    refine now_at rfl rfl (now_op (r0 := none) N12 rfl (st_stP g_ta29 rfl rfl rfl rfl rfl rfl rfl rfl) fun ρ13 a13 w13 N13 f13 => ?_)
    show Code.wpIn _ _ _ _ _ _ _
    refine wpIn_ret ?_
    show LeavesIn Fence.wide 0 _ _ _ _ a13.defers .returning w13
    rw [N13.defs]
    refine leavesIn_cons (f := 74) (args := #[ps, pp, pe]) (by simp) (by simp [Fence.wide]) (by simp [invoke, run_callFunc (P := Try.prog) (f := 74) (by kernel_rfl)]) (fun _ _ => trivial) ?_
    refine clo_idle.mono ?_
    rintro e u' w'' ⟨rfl, rfl, rfl⟩
    obtain ⟨c, g1, g2⟩ := resV_sound (fn := Try.f40) N13.env N13.heap (v := .tup [.agg [dB q.Cubes, dL 5 e_S_api_Line q.Lines], dI .i64 (0 : Int)]) (resV_many (resVs_cell (v := .agg [dB q.Cubes, dL 5 e_S_api_Line q.Lines]) g_ta25 rfl rfl rfl rfl (resVs_cell (v := dI .i64 (0 : Int)) g_ta29 rfl rfl rfl rfl resVs_nil)))
    exact ⟨c, g1, now_fin hL N13.heap g2 (.keep rfl) (((F10.trans f11).trans f12).trans f13)⟩
  | none =>
    rw [hq] at h om
    injection h with h
    subst h
    refine now_at rfl rfl (now_call N10 rfl rfl rfl om ⟨rfl, trivial⟩ rfl ⟨rfl, trivial⟩ rfl rfl (fun v hv => by cases hv) (fun v hv ρ11 c11 w11 N11 f11 vc => ?_))
    injection hv with hv
    subst hv
    show LeavesIn Fence.wide 0 _ _ _ _ a10.defers (.panicking (chain1 c11)) w11
    rw [N11.defs]
    refine leavesIn_cons (f := 74) (args := #[ps, pp, pe]) (by simp) (by simp [Fence.wide]) (by simp [invoke, run_callFunc (P := Try.prog) (f := 74) (by kernel_rfl)]) (fun _ _ => trivial) ?_
    have f911 := f10.trans f11
    refine (clo_pan N11.heap (v4.fr f911) (v2.fr f911) (v3.fr f911) vc rfl rfl rfl rfl).mono ?_
    rintro e u' w'' ⟨rfl, rfl, ρ12, S12, f12⟩
    have E12 : SatE ρ12 _ a10 w'' := N11.env.fr f12
    obtain ⟨c, g1, g2⟩ := resV_sound (fn := Try.f40) E12 S12 (v := .tup [.agg [.dat (.bool false), .nilS], dI .i64 (5 : Int)]) (resV_many (resVs_cell (v := .agg [.dat (.bool false), .nilS]) g_ta25 rfl rfl rfl rfl (resVs_cell (v := dI .i64 (5 : Int)) g_ta29 rfl rfl rfl rfl resVs_nil)))
    exact ⟨c, g1, now_fin hL S12 g2 (frz_tup ⟨frz_agg ⟨.keep rfl, .nilS _, trivial⟩, .keep rfl, trivial⟩) ((F10.trans f11).trans f12)⟩

theorem ok_skolemlaw10_ProofBack {a0 : S_api_Proof} {a1 : (List Int)} {r : Bool} (h : F_skolemlaw10_ProofBack a0 a1 = some r) : Fn Try.prog 11 [.agg [dB a0.Cubes, dL 5 e_S_api_Line a0.Lines], dL 1 (eI .u8) a1] (dB r) := by
  unfold F_skolemlaw10_ProofBack at h
  refine Fn.of_body (N := 66) (rs := [.tmp 4]) Try.func11 (c := _) rfl rfl rfl (by kernel_rfl) (Nat.le_of_ble_eq_true rfl) (fun _B => ?_)
  refine awp_rs ?_
  refine rn (r := 1001) rfl rfl (st_box rfl rfl rfl co25 rfl rfl) rfl ?_
  refine ro rfl rfl (st_as rfl) ?_
  refine rw_nilk ?_
  refine awp_seq ?_
  refine awp_jn (fun (s112 : Bool) (g113 : Unit) => [(1, dL 1 (eI .u8) a1), (2, .ptr 1001 0 0 0), (19, dB s112)]) (fun (s112 : Bool) (g113 : Unit) => [(1001, .row 0 25 [[dB a0.Cubes, dL 5 e_S_api_Line a0.Lines]])]) h ?_ ?_
  · clear h
    intro s112 g113 h
    refine awp_ite (b := s112) rfl (fun p115 => ?_) (fun p115 => ?_)
    · replace h := ite_T p115 h
      refine awp_rs ?_
      obtain ⟨y116, hy116, h⟩ := bind_some_elim h
      refine rf rfl rfl (ok_skolemlaw10_head hy116) rfl rfl ?_
      refine ro rfl rfl (st_as rfl) ?_
      refine rw_nilk ?_
      refine awp_ret ?_
      refine rt_then ?_
      injection h with h
      subst h
      exact ret_out (v := dB y116) (resV_one (resVs_tmp rfl resVs_nil)) (.keep rfl)
    · replace h := ite_F p115 h
      refine awp_skip ?_
      refine nx_then ?_
      refine awp_rs ?_
      refine ro rfl rfl (st_ldP (v := .agg [dB a0.Cubes, dL 5 e_S_api_Line a0.Lines]) ta25 rfl rfl rfl rfl) ?_
      obtain ⟨y117, hy117, h⟩ := bind_some_elim h
      refine rf rfl rfl (ok_proof_Put hy117) rfl rfl ?_
      refine ro rfl rfl (st_mv rfl) ?_
      refine ro rfl rfl (st_ext rfl rfl) ?_
      refine ro rfl rfl (st_ext rfl rfl) ?_
      refine ro rfl rfl (st_as rfl) ?_
      refine ro rfl rfl (st_as rfl) ?_
      refine rw_nilk ?_
      refine awp_rs ?_
      refine ro rfl rfl (st_mv rfl) ?_
      obtain ⟨y118, hy118, h⟩ := bind_some_elim h
      refine rf rfl rfl (ok_proof_Get hy118) rfl rfl ?_
      refine ro rfl rfl (st_mv rfl) ?_
      refine ro rfl rfl (st_ext rfl rfl) ?_
      refine ro rfl rfl (st_ext rfl rfl) ?_
      refine rn (r := 1002) rfl rfl (st_alloc zc25 rfl rfl) rfl ?_
      refine rx (L' := [(1001, .row 0 25 [[dB a0.Cubes, dL 5 e_S_api_Line a0.Lines]]), (1002, .row 0 25 [[dB y118.1.Cubes, dL 5 e_S_api_Line y118.1.Lines]])]) rfl rfl (st_stP ta25 rfl rfl rfl rfl rfl rfl rfl rfl) rfl ?_
      refine ro rfl rfl (st_as rfl) ?_
      refine rw_nilk ?_
      refine awp_rs ?_
      refine ro rfl rfl (st_mv rfl) ?_
      obtain ⟨y119, hy119, h⟩ := bind_some_elim h
      refine rf rfl rfl (ok_proof_Get hy119) rfl rfl ?_
      refine ro rfl rfl (st_mv rfl) ?_
      refine ro rfl rfl (st_ext rfl rfl) ?_
      refine ro rfl rfl (st_ext rfl rfl) ?_
      refine rn (r := 1003) rfl rfl (st_alloc zc25 rfl rfl) rfl ?_
      refine rx (L' := [(1001, .row 0 25 [[dB a0.Cubes, dL 5 e_S_api_Line a0.Lines]]), (1002, .row 0 25 [[dB y118.1.Cubes, dL 5 e_S_api_Line y118.1.Lines]]), (1003, .row 0 25 [[dB y119.1.Cubes, dL 5 e_S_api_Line y119.1.Lines]])]) rfl rfl (st_stP ta25 rfl rfl rfl rfl rfl rfl rfl rfl) rfl ?_
      refine ro rfl rfl (st_as rfl) ?_
      refine rw_nilk ?_
      refine awp_jn (fun (s128 : Unit) (g129 : Unit) => [(2, .ptr 1001 0 0 0), (6, dI .i64 y117.2), (7, .ptr 1002 0 0 0), (8, dI .i64 y118.2)]) (fun (s128 : Unit) (g129 : Unit) => [(1001, .row 0 25 [[dB a0.Cubes, dL 5 e_S_api_Line a0.Lines]]), (1002, .row 0 25 [[dB y118.1.Cubes, dL 5 e_S_api_Line y118.1.Lines]])]) h ?_ ?_
      · clear h
        intro s128 g129 h
        refine awp_rs ?_
        refine ro rfl rfl (st_mv rfl) ?_
        refine ro rfl rfl (st_bin (v := dB (y117.2 == (0 : Int))) rfl rfl rfl) ?_
        refine ro rfl rfl (st_mv rfl) ?_
        refine bool_split (y117.2 == (0 : Int)) (fun p136 => ?_) (fun p136 => ?_)
        · replace h := ite_T p136 h
          rw [p136]
          refine ro rfl rfl (st_mv rfl) ?_
          refine ro rfl rfl (st_bin (v := dB (y118.2 == (0 : Int))) rfl rfl rfl) ?_
          refine ro rfl rfl (st_pickT rfl rfl) ?_
          refine ro rfl rfl (st_mv rfl) ?_
          refine bool_split (y118.2 == (0 : Int)) (fun p137 => ?_) (fun p137 => ?_)
          · replace h := ite_T p137 h
            rw [p137]
            refine ro rfl rfl (st_ldP (v := .agg [dB a0.Cubes, dL 5 e_S_api_Line a0.Lines]) ta25 rfl rfl rfl rfl) ?_
            refine ro rfl rfl (st_ldP (v := .agg [dB y118.1.Cubes, dL 5 e_S_api_Line y118.1.Lines]) ta25 rfl rfl rfl rfl) ?_
            obtain ⟨y138, hy138, h⟩ := bind_some_elim h
            refine rf rfl rfl (ok_skolemref09_SameProof hy138) rfl rfl ?_
            refine ro rfl rfl (st_pickT rfl rfl) ?_
            refine ro rfl rfl (st_mv rfl) ?_
            refine bool_split y138 (fun p139 => ?_) (fun p139 => ?_)
            · replace h := ite_T p139 h
              rw [p139]
              obtain ⟨y140, hy140, h⟩ := bind_some_elim h
              refine rf rfl rfl (ok_skolemlaw10_head hy140) rfl rfl ?_
              refine ro rfl rfl (st_pickT rfl rfl) ?_
              refine ro rfl rfl (st_as rfl) ?_
              refine rw_nilk ?_
              refine awp_ret ?_
              injection h with h
              subst h
              exact ret_out (v := dB y140) (resV_one (resVs_tmp rfl resVs_nil)) (.keep rfl)
            · replace h := ite_F p139 h
              rw [p139]
              refine rz rfl rfl ?_
              refine ro rfl rfl (st_pickF rfl rfl) ?_
              refine ro rfl rfl (st_as rfl) ?_
              refine rw_nilk ?_
              refine awp_ret ?_
              injection h with h
              subst h
              exact ret_out (v := dB false) (resV_one (resVs_tmp rfl resVs_nil)) (.keep rfl)
          · replace h := ite_F p137 h
            rw [p137]
            refine rz rfl rfl ?_
            refine rz rfl rfl ?_
            refine rz rfl rfl ?_
            refine ro rfl rfl (st_pickF rfl rfl) ?_
            refine ro rfl rfl (st_mv rfl) ?_
            refine rz rfl rfl ?_
            refine ro rfl rfl (st_pickF rfl rfl) ?_
            refine ro rfl rfl (st_as rfl) ?_
            refine rw_nilk ?_
            refine awp_ret ?_
            injection h with h
            subst h
            exact ret_out (v := dB false) (resV_one (resVs_tmp rfl resVs_nil)) (.keep rfl)
        · replace h := ite_F p136 h
          rw [p136]
          refine rz rfl rfl ?_
          refine rz rfl rfl ?_
          refine ro rfl rfl (st_pickF rfl rfl) ?_
          refine ro rfl rfl (st_mv rfl) ?_
          refine rz rfl rfl ?_
          refine rz rfl rfl ?_
          refine rz rfl rfl ?_
          refine ro rfl rfl (st_pickF rfl rfl) ?_
          refine ro rfl rfl (st_mv rfl) ?_
          refine rz rfl rfl ?_
          refine ro rfl rfl (st_pickF rfl rfl) ?_
          refine ro rfl rfl (st_as rfl) ?_
          refine rw_nilk ?_
          refine awp_ret ?_
          injection h with h
          subst h
          exact ret_out (v := dB false) (resV_one (resVs_tmp rfl resVs_nil)) (.keep rfl)
      · clear h
        intro k130 h J130
        refine awp_rs ?_
        refine ro rfl rfl (st_mv rfl) ?_
        refine ro rfl rfl (st_bin (v := dB (y119.2 == (0 : Int))) rfl rfl rfl) ?_
        refine rw_nilk ?_
        refine awp_ite (b := (y119.2 == (0 : Int))) rfl (fun p141 => ?_) (fun p141 => ?_)
        · replace h := ite_T p141 h
          refine awp_rs ?_
          refine ro rfl rfl (st_ldP (v := .agg [dB y119.1.Cubes, dL 5 e_S_api_Line y119.1.Lines]) ta25 rfl rfl rfl rfl) ?_
          obtain ⟨y142, hy142, h⟩ := bind_some_elim h
          refine rf rfl rfl (ok_proof_Put hy142) rfl rfl ?_
          refine ro rfl rfl (st_mv rfl) ?_
          refine ro rfl rfl (st_ext rfl rfl) ?_
          refine ro rfl rfl (st_ext rfl rfl) ?_
          refine ro rfl rfl (st_as rfl) ?_
          refine ro rfl rfl (st_as rfl) ?_
          refine rw_nilk ?_
          refine awp_jn (fun (s144 : Bool) (g145 : Unit) => [(2, .ptr 1001 0 0 0), (6, dI .i64 y117.2), (7, .ptr 1002 0 0 0), (8, dI .i64 y118.2), (51, dB s144)]) (fun (s144 : Bool) (g145 : Unit) => [(1001, .row 0 25 [[dB a0.Cubes, dL 5 e_S_api_Line a0.Lines]]), (1002, .row 0 25 [[dB y118.1.Cubes, dL 5 e_S_api_Line y118.1.Lines]])]) h ?_ ?_
          · clear h
            intro s144 g145 h
            refine awp_ite (b := s144) rfl (fun p147 => ?_) (fun p147 => ?_)
            · replace h := ite_T p147 h
              refine awp_rs ?_
              refine ro rfl rfl (st_as rfl) ?_
              refine rw_nilk ?_
              refine awp_ret ?_
              refine rt_then ?_
              injection h with h
              subst h
              exact ret_out (v := dB false) (resV_one (resVs_tmp rfl resVs_nil)) (.keep rfl)
            · replace h := ite_F p147 h
              refine awp_skip ?_
              refine nx_then ?_
              exact J130 () () _ _ h (gh_frz rfl rfl ⟨⟨_, rfl, .keep rfl⟩, ⟨_, rfl, .keep rfl⟩, ⟨_, rfl, .keep rfl⟩, ⟨_, rfl, .keep rfl⟩, trivial⟩ ⟨⟨_, rfl, objOne ⟨⟨rfl, .keep rfl⟩, ⟨rfl, .keep rfl⟩, trivial⟩⟩, ⟨_, rfl, objOne ⟨⟨rfl, .keep rfl⟩, ⟨rfl, .keep rfl⟩, trivial⟩⟩, trivial⟩)
          · clear h
            intro k146 h J146
            refine awp_rw ?_
            refine ro rfl rfl (st_mv rfl) ?_
            refine ro rfl rfl (st_bin (v := dB (y142.2 != (0 : Int))) rfl rfl rfl) ?_
            refine ro rfl rfl (st_mv rfl) ?_
            refine bool_split (y142.2 != (0 : Int)) (fun p148 => ?_) (fun p148 => ?_)
            · replace h := ite_T p148 h
              rw [p148]
              refine rz rfl rfl ?_
              refine rz rfl rfl ?_
              refine rz rfl rfl ?_
              refine rz rfl rfl ?_
              refine rz rfl rfl ?_
              refine ro rfl rfl (st_pickT rfl rfl) ?_
              refine rw_nil ?_
              refine nx_then ?_
              exact J146 true () _ _ h (gh_frz rfl rfl ⟨⟨_, rfl, .keep rfl⟩, ⟨_, rfl, .keep rfl⟩, ⟨_, rfl, .keep rfl⟩, ⟨_, rfl, .keep rfl⟩, ⟨_, rfl, .keep rfl⟩, trivial⟩ ⟨⟨_, rfl, objOne ⟨⟨rfl, .keep rfl⟩, ⟨rfl, .keep rfl⟩, trivial⟩⟩, ⟨_, rfl, objOne ⟨⟨rfl, .keep rfl⟩, ⟨rfl, .keep rfl⟩, trivial⟩⟩, trivial⟩)
            · replace h := ite_F p148 h
              rw [p148]
              refine ro rfl rfl (st_mv rfl) ?_
              refine ro rfl rfl (st_strD un67 un9 un5 co5 rfl) ?_
              refine ro rfl rfl (st_mv rfl) ?_
              refine ro rfl rfl (st_strD un67 un9 un5 co5 rfl) ?_
              refine ro rfl rfl (st_binS (v := dB (!((strNs y142.1).toList == (strNs a1).toList))) rfl rfl rfl) ?_
              refine ro rfl rfl (st_pickF rfl rfl) ?_
              refine rw_nil ?_
              refine nx_then ?_
              exact J146 (!((strNs y142.1).toList == (strNs a1).toList)) () _ _ h (gh_frz rfl rfl ⟨⟨_, rfl, .keep rfl⟩, ⟨_, rfl, .keep rfl⟩, ⟨_, rfl, .keep rfl⟩, ⟨_, rfl, .keep rfl⟩, ⟨_, rfl, .keep rfl⟩, trivial⟩ ⟨⟨_, rfl, objOne ⟨⟨rfl, .keep rfl⟩, ⟨rfl, .keep rfl⟩, trivial⟩⟩, ⟨_, rfl, objOne ⟨⟨rfl, .keep rfl⟩, ⟨rfl, .keep rfl⟩, trivial⟩⟩, trivial⟩)
        · replace h := ite_F p141 h
          refine awp_skip ?_
          refine nx_then ?_
          exact J130 () () _ _ h (gh_frz rfl rfl ⟨⟨_, rfl, .keep rfl⟩, ⟨_, rfl, .keep rfl⟩, ⟨_, rfl, .keep rfl⟩, ⟨_, rfl, .keep rfl⟩, trivial⟩ ⟨⟨_, rfl, objOne ⟨⟨rfl, .keep rfl⟩, ⟨rfl, .keep rfl⟩, trivial⟩⟩, ⟨_, rfl, objOne ⟨⟨rfl, .keep rfl⟩, ⟨rfl, .keep rfl⟩, trivial⟩⟩, trivial⟩)
  · clear h
    intro k114 h J114
    refine awp_rw ?_
    refine ro rfl rfl (st_ldP (v := .agg [dB a0.Cubes, dL 5 e_S_api_Line a0.Lines]) ta25 rfl rfl rfl rfl) ?_
    obtain ⟨y149, hy149, h⟩ := bind_some_elim h
    refine rfz rfl rfl (ok_skolemlaw10_large hy149) rfl ⟨.nil _, .keep _, trivial⟩ rfl ?_
    refine ro rfl rfl (st_mv rfl) ?_
    refine bool_split y149 (fun p150 => ?_) (fun p150 => ?_)
    · replace h := ite_T p150 h
      rw [p150]
      refine rz rfl rfl ?_
      refine rz rfl rfl ?_
      refine rz rfl rfl ?_
      refine ro rfl rfl (st_pickT rfl rfl) ?_
      refine rw_nil ?_
      refine nx_then ?_
      exact J114 true () _ _ h (gh_frz rfl rfl ⟨⟨_, rfl, .keep rfl⟩, ⟨_, rfl, .keep rfl⟩, ⟨_, rfl, .keep rfl⟩, trivial⟩ ⟨⟨_, rfl, objOne ⟨⟨rfl, .keep rfl⟩, ⟨rfl, .keep rfl⟩, trivial⟩⟩, trivial⟩)
    · replace h := ite_F p150 h
      rw [p150]
      refine ro rfl rfl (st_mv rfl) ?_
      refine ro rfl rfl (st_lenD rfl un67) ?_
      refine ro rfl rfl (st_bin (v := dB (decide (((a1.length : Nat) : Int) > (5000 : Int)))) rfl rfl rfl) ?_
      refine ro rfl rfl (st_pickF rfl rfl) ?_
      refine rw_nil ?_
      refine nx_then ?_
      exact J114 (decide (((a1.length : Nat) : Int) > (5000 : Int))) () _ _ h (gh_frz rfl rfl ⟨⟨_, rfl, .keep rfl⟩, ⟨_, rfl, .keep rfl⟩, ⟨_, rfl, .keep rfl⟩, trivial⟩ ⟨⟨_, rfl, objOne ⟨⟨rfl, .keep rfl⟩, ⟨rfl, .keep rfl⟩, trivial⟩⟩, trivial⟩)
end Go.Sk.X
