/- The program computes these plain functions (law ProofLess, part 2). It has no conditions. -/
import Derived.Test.YtehfobeocanbfaaXProofLessP1
set_option linter.unusedVariables false
set_option linter.unusedSimpArgs false
set_option maxRecDepth 100000
set_option maxHeartbeats 4000000
namespace Go.Sk.X
open Go Go.Sk Go.Proofs
theorem ok_skolemlaw10_ProofLess {a0 : (List (List Int))} {a1 : S_api_Proof} {r : Bool} (h : F_skolemlaw10_ProofLess a0 a1 = some r) : Fn Try.prog 6 [dL 1 (eL 1 (eI .i64)) a0, .agg [dB a1.Cubes, dL 5 e_S_api_Line a1.Lines]] (dB r) := by
  unfold F_skolemlaw10_ProofLess at h
  refine Fn.of_body (N := 138) (rs := [.tmp 4]) Try.func6 (c := _) rfl rfl rfl (by kernel_rfl) (Nat.le_of_ble_eq_true rfl) (fun _B => ?_)
  refine awp_rs ?_
  refine rn (r := 1001) rfl rfl (st_box rfl rfl rfl co25 rfl rfl) rfl ?_
  refine ro rfl rfl (st_as rfl) ?_
  refine rw_nilk ?_
  refine awp_seq ?_
  refine awp_rs ?_
  refine ro rfl rfl (st_mv rfl) ?_
  refine ro rfl rfl (st_ldP (v := .agg [dB a1.Cubes, dL 5 e_S_api_Line a1.Lines]) ta25 rfl rfl rfl rfl) ?_
  obtain ⟨y101, hy101, h⟩ := bind_some_elim h
  refine rf rfl rfl (ok_skolemlaw10_large hy101) rfl rfl ?_
  refine rw_nilk ?_
  refine awp_ite (b := y101) rfl (fun p102 => ?_) (fun p102 => ?_)
  · replace h := ite_T p102 h
    refine awp_rs ?_
    obtain ⟨y103, hy103, h⟩ := bind_some_elim h
    refine rf rfl rfl (ok_skolemlaw10_head hy103) rfl rfl ?_
    refine ro rfl rfl (st_as rfl) ?_
    refine rw_nilk ?_
    refine awp_ret ?_
    refine rt_then ?_
    injection h with h
    subst h
    exact ret_out (v := dB y103) (resV_one (resVs_tmp rfl resVs_nil)) (.keep rfl)
  · replace h := ite_F p102 h
    refine awp_skip ?_
    refine nx_then ?_
    refine awp_rs ?_
    refine ro rfl rfl (st_mv rfl) ?_
    refine ro rfl rfl (st_ldP (v := .agg [dB a1.Cubes, dL 5 e_S_api_Line a1.Lines]) ta25 rfl rfl rfl rfl) ?_
    obtain ⟨y104, hy104, h⟩ := bind_some_elim h
    refine rf rfl rfl (ok_skolemref09_Check hy104) rfl rfl ?_
    refine ro rfl rfl (st_mv rfl) ?_
    refine ro rfl rfl (st_ext rfl rfl) ?_
    refine ro rfl rfl (st_ext rfl rfl) ?_
    refine ro rfl rfl (st_as rfl) ?_
    refine ro rfl rfl (st_as rfl) ?_
    refine rw_nilk ?_
    refine awp_seq ?_
    refine awp_rs ?_
    refine ro rfl rfl (st_mv rfl) ?_
    refine ro rfl rfl (st_un (v := dB (!y104.2)) rfl rfl) ?_
    refine rw_nilk ?_
    refine awp_ite (b := (!y104.2)) rfl (fun p105 => ?_) (fun p105 => ?_)
    · replace h := ite_T p105 h
      refine awp_rs ?_
      obtain ⟨y106, hy106, h⟩ := bind_some_elim h
      refine rf rfl rfl (ok_skolemlaw10_head hy106) rfl rfl ?_
      refine ro rfl rfl (st_as rfl) ?_
      refine rw_nilk ?_
      refine awp_ret ?_
      refine rt_then ?_
      injection h with h
      subst h
      exact ret_out (v := dB y106) (resV_one (resVs_tmp rfl resVs_nil)) (.keep rfl)
    · replace h := ite_F p105 h
      refine awp_skip ?_
      refine nx_then ?_
      refine awp_rs ?_
      refine ro rfl rfl (st_ldP (v := .agg [dB a1.Cubes, dL 5 e_S_api_Line a1.Lines]) ta25 rfl rfl rfl rfl) ?_
      obtain ⟨y107, hy107, h⟩ := bind_some_elim h
      refine rf rfl rfl (ok_proof_Trim hy107) rfl rfl ?_
      refine ro rfl rfl (st_mv rfl) ?_
      refine ro rfl rfl (st_ext rfl rfl) ?_
      refine ro rfl rfl (st_ext rfl rfl) ?_
      refine rn (r := 1002) rfl rfl (st_alloc zc25 rfl rfl) rfl ?_
      refine rx (L' := [(1001, .row 0 25 [[dB a1.Cubes, dL 5 e_S_api_Line a1.Lines]]), (1002, .row 0 25 [[dB y107.1.Cubes, dL 5 e_S_api_Line y107.1.Lines]])]) rfl rfl (st_stP ta25 rfl rfl rfl rfl rfl rfl rfl rfl) rfl ?_
      refine ro rfl rfl (st_as rfl) ?_
      refine rw_nilk ?_
      refine awp_rs ?_
      refine ro rfl rfl (st_mv rfl) ?_
      refine ro rfl rfl (st_ldP (v := .agg [dB y107.1.Cubes, dL 5 e_S_api_Line y107.1.Lines]) ta25 rfl rfl rfl rfl) ?_
      obtain ⟨y108, hy108, h⟩ := bind_some_elim h
      refine rf rfl rfl (ok_proof_Check hy108) rfl rfl ?_
      refine ro rfl rfl (st_mv rfl) ?_
      refine ro rfl rfl (st_ext rfl rfl) ?_
      refine ro rfl rfl (st_ext rfl rfl) ?_
      refine ro rfl rfl (st_ext rfl rfl) ?_
      refine ro rfl rfl (st_as rfl) ?_
      refine ro rfl rfl (st_as rfl) ?_
      refine ro rfl rfl (st_as rfl) ?_
      refine rw_nilk ?_
      refine awp_rs ?_
      refine ro rfl rfl (st_ldP (v := .agg [dB a1.Cubes, dL 5 e_S_api_Line a1.Lines]) ta25 rfl rfl rfl rfl) ?_
      obtain ⟨y109, hy109, h⟩ := bind_some_elim h
      refine rf rfl rfl (ok_proof_Core hy109) rfl rfl ?_
      refine ro rfl rfl (st_mv rfl) ?_
      refine ro rfl rfl (st_ext rfl rfl) ?_
      refine ro rfl rfl (st_ext rfl rfl) ?_
      refine ro rfl rfl (st_as rfl) ?_
      refine ro rfl rfl (st_as rfl) ?_
      refine rw_nilk ?_
      refine awp_seq ?_
      refine awp_jn (fun (s126 : Bool) (g127 : Unit) => [(7, .ptr 1002 0 0 0), (12, dL 1 (eI .i64) y109.1), (62, dB s126)]) (fun (s126 : Bool) (g127 : Unit) => [(1002, .row 0 25 [[dB y107.1.Cubes, dL 5 e_S_api_Line y107.1.Lines]])]) h ?_ ?_
      · clear h
        intro s126 g127 h
        refine awp_ite (b := s126) rfl (fun p129 => ?_) (fun p129 => ?_)
        · replace h := ite_T p129 h
          refine awp_rs ?_
          refine ro rfl rfl (st_as rfl) ?_
          refine rw_nilk ?_
          refine awp_ret ?_
          refine rt_then ?_
          injection h with h
          subst h
          exact ret_out (v := dB false) (resV_one (resVs_tmp rfl resVs_nil)) (.keep rfl)
        · replace h := ite_F p129 h
          refine awp_skip ?_
          refine nx_then ?_
          refine awp_seq ?_
          refine awp_rs ?_
          refine ro rfl rfl (st_as rfl) ?_
          refine rw_nilk ?_
          refine awp_block ?_
          refine awp_lenC (r := 1002) (i := 1) rfl rfl (fun hl133 => ?_)
          rw [List.length_map] at hl133
          refine awp_range (fun (j133 : Nat) (s130 : Unit) (g131 : Unit) => [(7, .ptr 1002 0 0 0), (12, dL 1 (eI .i64) y109.1), (14, dI .i64 ((j133 : Nat) : Int))]) (fun (s130 : Unit) (g131 : Unit) => [(1002, .row 0 25 [[dB y107.1.Cubes, dL 5 e_S_api_Line y107.1.Lines]])]) () (fun _ _ _ h => h) h (gh_frz rfl rfl ⟨⟨_, rfl, .keep rfl⟩, ⟨_, rfl, .keep rfl⟩, ⟨_, rfl, .keep rfl⟩, trivial⟩ ⟨⟨_, rfl, objOne ⟨⟨rfl, .keep rfl⟩, ⟨rfl, .keep rfl⟩, trivial⟩⟩, trivial⟩) ?_ ?_
          · clear h
            intro j133 x134 s130 g131 k132 hj133 hx133 h ih132
            refine awp_seq ?_
            refine awp_rs ?_
            refine ro rfl rfl (st_mv rfl) ?_
            refine ro rfl rfl (st_faP fo25_1 rfl) ?_
            refine ro rfl rfl (st_ldP (v := dL 5 e_S_api_Line y107.1.Lines) ta23 rfl rfl rfl rfl) ?_
            refine ro rfl rfl (st_lenD rfl un23) ?_
            refine ro rfl rfl (st_bin (v := dB (decide (((j133 : Nat) : Int) < ((y107.1.Lines.length : Nat) : Int)))) rfl rfl rfl) ?_
            refine rw_nilk ?_
            refine awp_ifT rfl (dlt hj133) ?_
            refine awp_skip ?_
            refine nx_then ?_
            refine awp_seq ?_
            refine awp_block ?_
            refine awp_rs ?_
            refine ro rfl rfl (st_mv rfl) ?_
            refine ro rfl rfl (st_faP fo25_1 rfl) ?_
            refine ro rfl rfl (st_ldP (v := dL 5 e_S_api_Line y107.1.Lines) ta23 rfl rfl rfl rfl) ?_
            refine ro rfl rfl (st_lenD rfl un23) ?_
            refine ro rfl rfl (st_bin (v := dI .i64 (IntKind.wrap .i64 (((y107.1.Lines.length : Nat) : Int) - (1 : Int)))) rfl rfl rfl) ?_
            refine ro rfl rfl (st_bin (v := dB (((j133 : Nat) : Int) == (IntKind.wrap .i64 (((y107.1.Lines.length : Nat) : Int) - (1 : Int))))) rfl rfl rfl) ?_
            refine ro rfl rfl (st_as rfl) ?_
            refine rw_nilk ?_
            refine awp_seq ?_
            refine awp_rs ?_
            refine ro rfl rfl (st_mv rfl) ?_
            refine ro rfl rfl (st_inc rfl rfl hj133 hl133) ?_
            refine ro rfl rfl (st_as rfl) ?_
            refine rw_nilk ?_
            refine awp_block ?_
            obtain ⟨hl282, h⟩ := okI_some h
            refine awp_up (fun (j282 : Int) (s279 : Bool) (g280 : Unit) => [(7, .ptr 1002 0 0 0), (12, dL 1 (eI .i64) y109.1), (14, dI .i64 ((j133 : Nat) : Int)), (15, dB s279), (16, dI .i64 j282)]) (fun (s279 : Bool) (g280 : Unit) => [(1002, .row 0 25 [[dB y107.1.Cubes, dL 5 e_S_api_Line y107.1.Lines]])]) () (fun _ _ _ h => h) h (gh_frz rfl rfl ⟨⟨_, rfl, .keep rfl⟩, ⟨_, rfl, .keep rfl⟩, ⟨_, rfl, .keep rfl⟩, ⟨_, rfl, .keep rfl⟩, ⟨_, rfl, .keep rfl⟩, trivial⟩ ⟨⟨_, rfl, objOne ⟨⟨rfl, .keep rfl⟩, ⟨rfl, .keep rfl⟩, trivial⟩⟩, trivial⟩) ?_ ?_
            · clear h
              intro j282 s279 g280 k281 hj282 hx282 h ih281
              refine awp_seq ?_
              refine awp_rs ?_
              refine ro rfl rfl (st_mv rfl) ?_
              refine ro rfl rfl (st_faP fo25_1 rfl) ?_
              refine ro rfl rfl (st_ldP (v := dL 5 e_S_api_Line y107.1.Lines) ta23 rfl rfl rfl rfl) ?_
              refine ro rfl rfl (st_lenD rfl un23) ?_
              refine ro rfl rfl (st_bin (v := dB (decide (j282 < ((y107.1.Lines.length : Nat) : Int)))) rfl rfl rfl) ?_
              refine rw_nilk ?_
              refine awp_ifT rfl (dltI (upT hj282 hx282)) ?_
              refine awp_skip ?_
              refine nx_then ?_
              refine awp_jn (fun (s310 : Bool) (g311 : Unit) => [(7, .ptr 1002 0 0 0), (12, dL 1 (eI .i64) y109.1), (14, dI .i64 ((j133 : Nat) : Int)), (15, dB s310), (16, dI .i64 j282)]) (fun (s310 : Bool) (g311 : Unit) => [(1002, .row 0 25 [[dB y107.1.Cubes, dL 5 e_S_api_Line y107.1.Lines]])]) h ?_ ?_
              · clear h
                intro s310 g311 h
                refine awp_rw ?_
                refine ro rfl rfl (st_mv rfl) ?_
                refine ro rfl rfl (st_incU rfl rfl hl282 hj282 hx282) ?_
                refine ro rfl rfl (st_as rfl) ?_
                refine rw_nil ?_
                refine nx_then ?_
                refine awp_gh ?_ (ih281 s310 () h)
                exact (gh_frz rfl rfl ⟨⟨_, rfl, .keep rfl⟩, ⟨_, rfl, .keep rfl⟩, ⟨_, rfl, .keep rfl⟩, ⟨_, rfl, .keep rfl⟩, ⟨_, rfl, .keep rfl⟩, trivial⟩ ⟨⟨_, rfl, objOne ⟨⟨rfl, .keep rfl⟩, ⟨rfl, .keep rfl⟩, trivial⟩⟩, trivial⟩)
              · clear h
                intro k312 h J312
                refine awp_block ?_
                refine awp_rw ?_
                refine ro rfl rfl (st_mv rfl) ?_
                refine ro rfl rfl (st_mv rfl) ?_
                refine bool_split s279 (fun p313 => ?_) (fun p313 => ?_)
                · replace h := ite_T p313 h
                  rw [p313]
                  refine rz rfl rfl ?_
                  refine rz rfl rfl ?_
                  refine rz rfl rfl ?_
                  refine rz rfl rfl ?_
                  refine rz rfl rfl ?_
                  refine rz rfl rfl ?_
                  refine rz rfl rfl ?_
                  refine rz rfl rfl ?_
                  refine rz rfl rfl ?_
                  refine rz rfl rfl ?_
                  refine rz rfl rfl ?_
                  refine rz rfl rfl ?_
                  refine rz rfl rfl ?_
                  refine rz rfl rfl ?_
                  refine rz rfl rfl ?_
                  refine rz rfl rfl ?_
                  refine rz rfl rfl ?_
                  refine rz rfl rfl ?_
                  refine rz rfl rfl ?_
                  refine rz rfl rfl ?_
                  refine rz rfl rfl ?_
                  refine rz rfl rfl ?_
                  refine rz rfl rfl ?_
                  refine rz rfl rfl ?_
                  refine rz rfl rfl ?_
                  refine rz rfl rfl ?_
                  refine rz rfl rfl ?_
                  refine ro rfl rfl (st_pickT rfl rfl) ?_
                  refine ro rfl rfl (st_as rfl) ?_
                  refine rw_nil ?_
                  refine nx_block ?_
                  refine nx_then ?_
                  exact J312 true () _ _ h (gh_frz rfl rfl ⟨⟨_, rfl, .keep rfl⟩, ⟨_, rfl, .keep rfl⟩, ⟨_, rfl, .keep rfl⟩, ⟨_, rfl, .keep rfl⟩, ⟨_, rfl, .keep rfl⟩, trivial⟩ ⟨⟨_, rfl, objOne ⟨⟨rfl, .keep rfl⟩, ⟨rfl, .keep rfl⟩, trivial⟩⟩, trivial⟩)
                · replace h := ite_F p313 h
                  rw [p313]
                  refine ro rfl rfl (st_faP fo25_1 rfl) ?_
                  refine ro rfl rfl (st_ldP (v := dL 5 e_S_api_Line y107.1.Lines) ta23 rfl rfl rfl rfl) ?_
                  refine ro rfl rfl (st_mv rfl) ?_
                  obtain ⟨x314, h0314, hx314, h⟩ := getI_some h
                  refine ro rfl rfl (st_ixD sl23 rfl rfl h0314 hx314) ?_
                  refine ro rfl rfl (st_faD fo58_0 rfl) ?_
                  refine ro rfl rfl (st_ldD (v := dI .u8 x314.Rule) ta56 rfl rfl) ?_
                  refine ro rfl rfl (st_bin (v := dB (x314.Rule == (2 : Int))) rfl rfl rfl) ?_
                  refine ro rfl rfl (st_mv rfl) ?_
                  refine bool_split (x314.Rule == (2 : Int)) (fun p315 => ?_) (fun p315 => ?_)
                  · replace h := ite_T p315 h
                    rw [p315]
                    refine ro rfl rfl (st_faP fo25_1 rfl) ?_
                    refine ro rfl rfl (st_ldP (v := dL 5 e_S_api_Line y107.1.Lines) ta23 rfl rfl rfl rfl) ?_
                    refine ro rfl rfl (st_mv rfl) ?_
                    refine ro rfl rfl (st_ixD sl23 rfl rfl h0314 hx314) ?_
                    refine ro rfl rfl (st_faD fo58_1 rfl) ?_
                    refine ro rfl rfl (st_ldD (v := dI .i64 x314.A) ta3 rfl rfl) ?_
                    refine ro rfl rfl (st_mv rfl) ?_
                    refine ro rfl rfl (st_bin (v := dB (x314.A == ((j133 : Nat) : Int))) rfl rfl rfl) ?_
                    refine ro rfl rfl (st_mv rfl) ?_
                    refine bool_split (x314.A == ((j133 : Nat) : Int)) (fun p316 => ?_) (fun p316 => ?_)
                    · replace h := ite_T p316 h
                      rw [p316]
                      refine rz rfl rfl ?_
                      refine rz rfl rfl ?_
                      refine rz rfl rfl ?_
                      refine rz rfl rfl ?_
                      refine rz rfl rfl ?_
                      refine rz rfl rfl ?_
                      refine rz rfl rfl ?_
                      refine rz rfl rfl ?_
                      refine ro rfl rfl (st_pickT rfl rfl) ?_
                      refine ro rfl rfl (st_pickT rfl rfl) ?_
                      refine ro rfl rfl (st_pickF rfl rfl) ?_
                      refine ro rfl rfl (st_as rfl) ?_
                      refine rw_nil ?_
                      refine nx_block ?_
                      refine nx_then ?_
                      exact J312 true () _ _ h (gh_frz rfl rfl ⟨⟨_, rfl, .keep rfl⟩, ⟨_, rfl, .keep rfl⟩, ⟨_, rfl, .keep rfl⟩, ⟨_, rfl, .keep rfl⟩, ⟨_, rfl, .keep rfl⟩, trivial⟩ ⟨⟨_, rfl, objOne ⟨⟨rfl, .keep rfl⟩, ⟨rfl, .keep rfl⟩, trivial⟩⟩, trivial⟩)
                    · replace h := ite_F p316 h
                      rw [p316]
                      refine ro rfl rfl (st_faP fo25_1 rfl) ?_
                      refine ro rfl rfl (st_ldP (v := dL 5 e_S_api_Line y107.1.Lines) ta23 rfl rfl rfl rfl) ?_
                      refine ro rfl rfl (st_mv rfl) ?_
                      refine ro rfl rfl (st_ixD sl23 rfl rfl h0314 hx314) ?_
                      refine ro rfl rfl (st_faD fo58_2 rfl) ?_
                      refine ro rfl rfl (st_ldD (v := dI .i64 x314.B) ta3 rfl rfl) ?_
                      refine ro rfl rfl (st_mv rfl) ?_
                      refine ro rfl rfl (st_bin (v := dB (x314.B == ((j133 : Nat) : Int))) rfl rfl rfl) ?_
                      refine ro rfl rfl (st_pickF rfl rfl) ?_
                      refine ro rfl rfl (st_pickT rfl rfl) ?_
                      refine ro rfl rfl (st_pickF rfl rfl) ?_
                      refine ro rfl rfl (st_as rfl) ?_
                      refine rw_nil ?_
                      refine nx_block ?_
                      refine nx_then ?_
                      exact J312 (x314.B == ((j133 : Nat) : Int)) () _ _ h (gh_frz rfl rfl ⟨⟨_, rfl, .keep rfl⟩, ⟨_, rfl, .keep rfl⟩, ⟨_, rfl, .keep rfl⟩, ⟨_, rfl, .keep rfl⟩, ⟨_, rfl, .keep rfl⟩, trivial⟩ ⟨⟨_, rfl, objOne ⟨⟨rfl, .keep rfl⟩, ⟨rfl, .keep rfl⟩, trivial⟩⟩, trivial⟩)
                  · replace h := ite_F p315 h
                    rw [p315]
                    refine rz rfl rfl ?_
                    refine rz rfl rfl ?_
                    refine rz rfl rfl ?_
                    refine rz rfl rfl ?_
                    refine rz rfl rfl ?_
                    refine rz rfl rfl ?_
                    refine rz rfl rfl ?_
                    refine rz rfl rfl ?_
                    refine rz rfl rfl ?_
                    refine rz rfl rfl ?_
                    refine rz rfl rfl ?_
                    refine rz rfl rfl ?_
                    refine rz rfl rfl ?_
                    refine rz rfl rfl ?_
                    refine rz rfl rfl ?_
                    refine rz rfl rfl ?_
                    refine rz rfl rfl ?_
                    refine rz rfl rfl ?_
                    refine ro rfl rfl (st_pickF rfl rfl) ?_
                    refine ro rfl rfl (st_pickF rfl rfl) ?_
                    refine ro rfl rfl (st_as rfl) ?_
                    refine rw_nil ?_
                    refine nx_block ?_
                    refine nx_then ?_
                    exact J312 false () _ _ h (gh_frz rfl rfl ⟨⟨_, rfl, .keep rfl⟩, ⟨_, rfl, .keep rfl⟩, ⟨_, rfl, .keep rfl⟩, ⟨_, rfl, .keep rfl⟩, ⟨_, rfl, .keep rfl⟩, trivial⟩ ⟨⟨_, rfl, objOne ⟨⟨rfl, .keep rfl⟩, ⟨rfl, .keep rfl⟩, trivial⟩⟩, trivial⟩)
            · clear h
              intro s279 g280 h
              refine awp_seq ?_
              refine awp_rs ?_
              refine ro rfl rfl (st_mv rfl) ?_
              refine ro rfl rfl (st_faP fo25_1 rfl) ?_
              refine ro rfl rfl (st_ldP (v := dL 5 e_S_api_Line y107.1.Lines) ta23 rfl rfl rfl rfl) ?_
              refine ro rfl rfl (st_lenD rfl un23) ?_
              refine ro rfl rfl (st_bin (v := dB (decide ((((j133 + 1 : Nat) : Int) + (((((y107.1.Lines.length : Nat) : Int) - ((j133 + 1 : Nat) : Int)).toNat : Nat) : Int)) < ((y107.1.Lines.length : Nat) : Int)))) rfl rfl rfl) ?_
              refine rw_nilk ?_
              refine awp_ifF rfl (dgeI upD) ?_
              refine awp_exit ?_
              refine ex_out ?_
              refine ex_out ?_
              refine ex_in ?_
              refine nx_then ?_
              refine awp_jn (fun (s320 : Bool) (g321 : Unit) => [(7, .ptr 1002 0 0 0), (12, dL 1 (eI .i64) y109.1), (14, dI .i64 ((j133 : Nat) : Int)), (136, dB s320)]) (fun (s320 : Bool) (g321 : Unit) => [(1002, .row 0 25 [[dB y107.1.Cubes, dL 5 e_S_api_Line y107.1.Lines]])]) h ?_ ?_
              · clear h
                intro s320 g321 h
                refine awp_ite (b := s320) rfl (fun p323 => ?_) (fun p323 => ?_)
                · replace h := ite_T p323 h
                  refine awp_rs ?_
                  refine ro rfl rfl (st_as rfl) ?_
                  refine rw_nilk ?_
                  refine awp_ret ?_
                  refine rt_block ?_
                  refine rt_then ?_
                  refine rt_then ?_
                  refine rt_block ?_
                  refine rt_then ?_
                  injection h with h
                  subst h
                  exact ret_out (v := dB false) (resV_one (resVs_tmp rfl resVs_nil)) (.keep rfl)
                · replace h := ite_F p323 h
                  refine awp_skip ?_
                  refine nx_block ?_
                  refine nx_then ?_
                  refine awp_rw ?_
                  refine ro rfl rfl (st_mv rfl) ?_
                  refine ro rfl rfl (st_inc rfl rfl hj133 hl133) ?_
                  refine ro rfl rfl (st_as rfl) ?_
                  refine rw_nil ?_
                  refine nx_then ?_
                  refine awp_gh ?_ (ih132 () () h)
                  exact (gh_frz rfl rfl ⟨⟨_, rfl, .keep rfl⟩, ⟨_, rfl, .keep rfl⟩, ⟨_, rfl, .keep rfl⟩, trivial⟩ ⟨⟨_, rfl, objOne ⟨⟨rfl, .keep rfl⟩, ⟨rfl, .keep rfl⟩, trivial⟩⟩, trivial⟩)
              · clear h
                intro k322 h J322
                refine awp_rw ?_
                refine ro rfl rfl (st_mv rfl) ?_
                refine ro rfl rfl (st_un (v := dB (!s279)) rfl rfl) ?_
                refine ro rfl rfl (st_mv rfl) ?_
                refine bool_split (!s279) (fun p324 => ?_) (fun p324 => ?_)
                · replace h := ite_T p324 h
                  rw [p324]
                  refine rz rfl rfl ?_
                  refine rz rfl rfl ?_
                  refine rz rfl rfl ?_
                  refine rz rfl rfl ?_
                  refine rz rfl rfl ?_
                  refine rz rfl rfl ?_
                  refine rz rfl rfl ?_
                  refine rz rfl rfl ?_
                  refine rz rfl rfl ?_
                  refine rz rfl rfl ?_
                  refine rz rfl rfl ?_
                  refine rz rfl rfl ?_
                  refine rz rfl rfl ?_
                  refine rz rfl rfl ?_
                  refine rz rfl rfl ?_
                  refine rz rfl rfl ?_
                  refine rz rfl rfl ?_
                  refine rz rfl rfl ?_
                  refine ro rfl rfl (st_pickT rfl rfl) ?_
                  refine rw_nil ?_
                  refine nx_then ?_
                  exact J322 true () _ _ h (gh_frz rfl rfl ⟨⟨_, rfl, .keep rfl⟩, ⟨_, rfl, .keep rfl⟩, ⟨_, rfl, .keep rfl⟩, ⟨_, rfl, .keep rfl⟩, trivial⟩ ⟨⟨_, rfl, objOne ⟨⟨rfl, .keep rfl⟩, ⟨rfl, .keep rfl⟩, trivial⟩⟩, trivial⟩)
                · replace h := ite_F p324 h
                  rw [p324]
                  refine ro rfl rfl (st_faP fo25_1 rfl) ?_
                  refine ro rfl rfl (st_ldP (v := dL 5 e_S_api_Line y107.1.Lines) ta23 rfl rfl rfl rfl) ?_
                  refine ro rfl rfl (st_mv rfl) ?_
                  refine ro rfl rfl (st_ixDn sl23 rfl rfl hx133) ?_
                  refine ro rfl rfl (st_faD fo58_0 rfl) ?_
                  refine ro rfl rfl (st_ldD (v := dI .u8 x134.Rule) ta56 rfl rfl) ?_
                  refine ro rfl rfl (st_bin (v := dB (x134.Rule == (1 : Int))) rfl rfl rfl) ?_
                  refine ro rfl rfl (st_mv rfl) ?_
                  refine bool_split (x134.Rule == (1 : Int)) (fun p325 => ?_) (fun p325 => ?_)
                  · replace h := ite_T p325 h
                    rw [p325]
                    refine ro rfl rfl (st_mv rfl) ?_
                    refine ro rfl rfl (st_faP fo25_1 rfl) ?_
                    refine ro rfl rfl (st_ldP (v := dL 5 e_S_api_Line y107.1.Lines) ta23 rfl rfl rfl rfl) ?_
                    refine ro rfl rfl (st_mv rfl) ?_
                    refine ro rfl rfl (st_ixDn sl23 rfl rfl hx133) ?_
                    refine ro rfl rfl (st_faD fo58_1 rfl) ?_
                    refine ro rfl rfl (st_ldD (v := dI .i64 x134.A) ta3 rfl rfl) ?_
                    obtain ⟨y326, hy326, h⟩ := bind_some_elim h
                    refine rf rfl rfl (ok_skolemref09_Has hy326) rfl rfl ?_
                    refine ro rfl rfl (st_un (v := dB (!y326)) rfl rfl) ?_
                    refine ro rfl rfl (st_pickT rfl rfl) ?_
                    refine ro rfl rfl (st_pickF rfl rfl) ?_
                    refine rw_nil ?_
                    refine nx_then ?_
                    exact J322 (!y326) () _ _ h (gh_frz rfl rfl ⟨⟨_, rfl, .keep rfl⟩, ⟨_, rfl, .keep rfl⟩, ⟨_, rfl, .keep rfl⟩, ⟨_, rfl, .keep rfl⟩, trivial⟩ ⟨⟨_, rfl, objOne ⟨⟨rfl, .keep rfl⟩, ⟨rfl, .keep rfl⟩, trivial⟩⟩, trivial⟩)
                  · replace h := ite_F p325 h
                    rw [p325]
                    refine rz rfl rfl ?_
                    refine rz rfl rfl ?_
                    refine rz rfl rfl ?_
                    refine rz rfl rfl ?_
                    refine rz rfl rfl ?_
                    refine rz rfl rfl ?_
                    refine rz rfl rfl ?_
                    refine rz rfl rfl ?_
                    refine rz rfl rfl ?_
                    refine ro rfl rfl (st_pickF rfl rfl) ?_
                    refine ro rfl rfl (st_pickF rfl rfl) ?_
                    refine rw_nil ?_
                    refine nx_then ?_
                    exact J322 false () _ _ h (gh_frz rfl rfl ⟨⟨_, rfl, .keep rfl⟩, ⟨_, rfl, .keep rfl⟩, ⟨_, rfl, .keep rfl⟩, ⟨_, rfl, .keep rfl⟩, trivial⟩ ⟨⟨_, rfl, objOne ⟨⟨rfl, .keep rfl⟩, ⟨rfl, .keep rfl⟩, trivial⟩⟩, trivial⟩)
          · clear h
            intro s130 g131 h
            refine awp_seq ?_
            refine awp_rs ?_
            refine ro rfl rfl (st_mv rfl) ?_
            refine ro rfl rfl (st_faP fo25_1 rfl) ?_
            refine ro rfl rfl (st_ldP (v := dL 5 e_S_api_Line y107.1.Lines) ta23 rfl rfl rfl rfl) ?_
            refine ro rfl rfl (st_lenD rfl un23) ?_
            refine ro rfl rfl (st_bin (v := dB (decide (((y107.1.Lines.length : Nat) : Int) < ((y107.1.Lines.length : Nat) : Int)))) rfl rfl rfl) ?_
            refine rw_nilk ?_
            refine awp_ifF rfl dge ?_
            refine awp_exit ?_
            refine ex_out ?_
            refine ex_out ?_
            refine ex_in ?_
            refine nx_then ?_
            refine awp_rs ?_
            obtain ⟨y327, hy327, h⟩ := bind_some_elim h
            refine rf rfl rfl (ok_skolemlaw10_head hy327) rfl rfl ?_
            refine ro rfl rfl (st_as rfl) ?_
            refine rw_nilk ?_
            refine awp_ret ?_
            injection h with h
            subst h
            exact ret_out (v := dB y327) (resV_one (resVs_tmp rfl resVs_nil)) (.keep rfl)
      · clear h
        intro k128 h J128
        refine awp_rw ?_
        refine ro rfl rfl (st_mv rfl) ?_
        refine ro rfl rfl (st_bin (v := dB (y107.2 != (0 : Int))) rfl rfl rfl) ?_
        refine ro rfl rfl (st_mv rfl) ?_
        refine bool_split (y107.2 != (0 : Int)) (fun p328 => ?_) (fun p328 => ?_)
        · replace h := ite_T p328 h
          rw [p328]
          refine rz rfl rfl ?_
          refine rz rfl rfl ?_
          refine ro rfl rfl (st_pickT rfl rfl) ?_
          refine ro rfl rfl (st_mv rfl) ?_
          refine rz rfl rfl ?_
          refine rz rfl rfl ?_
          refine ro rfl rfl (st_pickT rfl rfl) ?_
          refine ro rfl rfl (st_mv rfl) ?_
          refine rz rfl rfl ?_
          refine rz rfl rfl ?_
          refine rz rfl rfl ?_
          refine rz rfl rfl ?_
          refine ro rfl rfl (st_pickT rfl rfl) ?_
          refine rw_nil ?_
          refine nx_then ?_
          exact J128 true () _ _ h (gh_frz rfl rfl ⟨⟨_, rfl, .keep rfl⟩, ⟨_, rfl, .keep rfl⟩, ⟨_, rfl, .keep rfl⟩, trivial⟩ ⟨⟨_, rfl, objOne ⟨⟨rfl, .keep rfl⟩, ⟨rfl, .keep rfl⟩, trivial⟩⟩, trivial⟩)
        · replace h := ite_F p328 h
          rw [p328]
          refine ro rfl rfl (st_mv rfl) ?_
          refine ro rfl rfl (st_bin (v := dB (y108.2.2 != (0 : Int))) rfl rfl rfl) ?_
          refine ro rfl rfl (st_pickF rfl rfl) ?_
          refine ro rfl rfl (st_mv rfl) ?_
          refine bool_split (y108.2.2 != (0 : Int)) (fun p329 => ?_) (fun p329 => ?_)
          · replace h := ite_T p329 h
            rw [p329]
            refine rz rfl rfl ?_
            refine rz rfl rfl ?_
            refine ro rfl rfl (st_pickT rfl rfl) ?_
            refine ro rfl rfl (st_mv rfl) ?_
            refine rz rfl rfl ?_
            refine rz rfl rfl ?_
            refine rz rfl rfl ?_
            refine rz rfl rfl ?_
            refine ro rfl rfl (st_pickT rfl rfl) ?_
            refine rw_nil ?_
            refine nx_then ?_
            exact J128 true () _ _ h (gh_frz rfl rfl ⟨⟨_, rfl, .keep rfl⟩, ⟨_, rfl, .keep rfl⟩, ⟨_, rfl, .keep rfl⟩, trivial⟩ ⟨⟨_, rfl, objOne ⟨⟨rfl, .keep rfl⟩, ⟨rfl, .keep rfl⟩, trivial⟩⟩, trivial⟩)
          · replace h := ite_F p329 h
            rw [p329]
            refine ro rfl rfl (st_mv rfl) ?_
            refine ro rfl rfl (st_bin (v := dB (y109.2 != (0 : Int))) rfl rfl rfl) ?_
            refine ro rfl rfl (st_pickF rfl rfl) ?_
            refine ro rfl rfl (st_mv rfl) ?_
            refine bool_split (y109.2 != (0 : Int)) (fun p330 => ?_) (fun p330 => ?_)
            · replace h := ite_T p330 h
              rw [p330]
              refine rz rfl rfl ?_
              refine rz rfl rfl ?_
              refine rz rfl rfl ?_
              refine rz rfl rfl ?_
              refine ro rfl rfl (st_pickT rfl rfl) ?_
              refine rw_nil ?_
              refine nx_then ?_
              exact J128 true () _ _ h (gh_frz rfl rfl ⟨⟨_, rfl, .keep rfl⟩, ⟨_, rfl, .keep rfl⟩, ⟨_, rfl, .keep rfl⟩, trivial⟩ ⟨⟨_, rfl, objOne ⟨⟨rfl, .keep rfl⟩, ⟨rfl, .keep rfl⟩, trivial⟩⟩, trivial⟩)
            · replace h := ite_F p330 h
              rw [p330]
              refine ro rfl rfl (st_mv rfl) ?_
              refine ro rfl rfl (st_mv rfl) ?_
              obtain ⟨y331, hy331, h⟩ := bind_some_elim h
              refine rf rfl rfl (ok_skolemref09_Same hy331) rfl rfl ?_
              refine ro rfl rfl (st_un (v := dB (!y331)) rfl rfl) ?_
              refine ro rfl rfl (st_pickF rfl rfl) ?_
              refine rw_nil ?_
              refine nx_then ?_
              exact J128 (!y331) () _ _ h (gh_frz rfl rfl ⟨⟨_, rfl, .keep rfl⟩, ⟨_, rfl, .keep rfl⟩, ⟨_, rfl, .keep rfl⟩, trivial⟩ ⟨⟨_, rfl, objOne ⟨⟨rfl, .keep rfl⟩, ⟨rfl, .keep rfl⟩, trivial⟩⟩, trivial⟩)
end Go.Sk.X
