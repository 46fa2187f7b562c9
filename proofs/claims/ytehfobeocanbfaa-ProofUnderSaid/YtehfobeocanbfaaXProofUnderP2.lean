/- The program computes these plain functions (law ProofUnder, part 2). It has no conditions. -/
import Derived.Test.YtehfobeocanbfaaXProofUnderP1
set_option linter.unusedVariables false
set_option linter.unusedSimpArgs false
set_option maxRecDepth 100000
set_option maxHeartbeats 4000000
namespace Go.Sk.X
open Go Go.Sk Go.Proofs
theorem ok_skolemref09_Resolvent {a0 : (List Int)} {a1 : (List Int)} {a2 : Int} {r : ((List Int) × Bool)} (h : F_skolemref09_Resolvent a0 a1 a2 = some r) : Fn Try.prog 63 [dL 1 (eI .i64) a0, dL 1 (eI .i64) a1, dI .i64 a2] (.tup [dL 1 (eI .i64) r.1, dB r.2]) := by
  unfold F_skolemref09_Resolvent at h
  refine Fn.of_body (N := 71) (rs := [.tmp 6, .tmp 7]) Try.func63 (c := _) rfl rfl rfl (by kernel_rfl) (Nat.le_of_ble_eq_true rfl) (fun _B => ?_)
  refine awp_rs ?_
  refine ro rfl rfl (st_as rfl) ?_
  refine ro rfl rfl (st_as rfl) ?_
  refine rw_nilk ?_
  refine awp_seq ?_
  refine awp_jn (fun (s117 : Bool) (g118 : Unit) => [(0, dL 1 (eI .i64) a0), (1, dL 1 (eI .i64) a1), (2, dI .i64 a2), (25, dB s117)]) (fun (s117 : Bool) (g118 : Unit) => []) h ?_ ?_
  · clear h
    intro s117 g118 h
    refine awp_ite (b := s117) rfl (fun p120 => ?_) (fun p120 => ?_)
    · replace h := ite_T p120 h
      refine awp_rs ?_
      refine ro rfl rfl (st_as rfl) ?_
      refine ro rfl rfl (st_as rfl) ?_
      refine rw_nilk ?_
      refine awp_ret ?_
      refine rt_then ?_
      injection h with h
      subst h
      exact ret_out (v := .tup [.nilS, dB false]) (resV_many (resVs_tmp rfl (resVs_tmp rfl resVs_nil))) (frz_tup ⟨(.nilS _), (.keep rfl), trivial⟩)
    · replace h := ite_F p120 h
      refine awp_skip ?_
      refine nx_then ?_
      refine awp_rs ?_
      refine ro rfl rfl (st_as rfl) ?_
      refine rw_nilk ?_
      refine awp_seq ?_
      refine awp_rs ?_
      refine ro rfl rfl (st_as rfl) ?_
      refine rw_nilk ?_
      refine awp_block ?_
      refine awp_len (t := 0) rfl (fun hl124 => ?_)
      rw [List.length_map] at hl124
      refine awp_range (fun (j124 : Nat) (s121 : (List Int)) (g122 : Unit) => [(0, dL 1 (eI .i64) a0), (1, dL 1 (eI .i64) a1), (2, dI .i64 a2), (8, dL 1 (eI .i64) s121), (9, dI .i64 ((j124 : Nat) : Int))]) (fun (s121 : (List Int)) (g122 : Unit) => []) () (fun _ _ _ h => h) h (Gh.trans (gh_frz (E' := [(0, dL 1 (eI .i64) a0), (1, dL 1 (eI .i64) a1), (2, dI .i64 a2), (8, dL 1 (eI .i64) ([] : List Int)), (9, dI .i64 (0 : Int))]) (L' := []) rfl rfl ⟨⟨_, rfl, .keep rfl⟩, ⟨_, rfl, .keep rfl⟩, ⟨_, rfl, .keep rfl⟩, ⟨_, rfl, .nilS _⟩, ⟨_, rfl, .keep rfl⟩, trivial⟩ trivial) (gh_frz rfl rfl ⟨⟨_, rfl, .keep rfl⟩, ⟨_, rfl, .keep rfl⟩, ⟨_, rfl, .keep rfl⟩, ⟨_, rfl, .keep rfl⟩, ⟨_, rfl, .keep rfl⟩, trivial⟩ trivial)) ?_ ?_
      · clear h
        intro j124 x125 s121 g122 k123 hj124 hx124 h ih123
        refine awp_seq ?_
        refine awp_rs ?_
        refine ro rfl rfl (st_mv rfl) ?_
        refine ro rfl rfl (st_mv rfl) ?_
        refine ro rfl rfl (st_lenD rfl un28) ?_
        refine ro rfl rfl (st_bin (v := dB (decide (((j124 : Nat) : Int) < ((a0.length : Nat) : Int)))) rfl rfl rfl) ?_
        refine rw_nilk ?_
        refine awp_ifT rfl (dlt hj124) ?_
        refine awp_skip ?_
        refine nx_then ?_
        refine awp_jn (fun (s163 : (List Int)) (g164 : Unit) => [(0, dL 1 (eI .i64) a0), (1, dL 1 (eI .i64) a1), (2, dI .i64 a2), (8, dL 1 (eI .i64) s163), (9, dI .i64 ((j124 : Nat) : Int))]) (fun (s163 : (List Int)) (g164 : Unit) => []) h ?_ ?_
        · clear h
          intro s163 g164 h
          refine awp_rw ?_
          refine ro rfl rfl (st_mv rfl) ?_
          refine ro rfl rfl (st_inc rfl rfl hj124 hl124) ?_
          refine ro rfl rfl (st_as rfl) ?_
          refine rw_nil ?_
          refine nx_then ?_
          refine awp_gh ?_ (ih123 s163 () h)
          exact (gh_frz rfl rfl ⟨⟨_, rfl, .keep rfl⟩, ⟨_, rfl, .keep rfl⟩, ⟨_, rfl, .keep rfl⟩, ⟨_, rfl, .keep rfl⟩, ⟨_, rfl, .keep rfl⟩, trivial⟩ trivial)
        · clear h
          intro k165 h J165
          refine awp_block ?_
          refine awp_rs ?_
          refine ro rfl rfl (st_mv rfl) ?_
          refine ro rfl rfl (st_mv rfl) ?_
          refine ro rfl rfl (st_ixDn sl28 rfl rfl hx124) ?_
          refine ro rfl rfl (st_ldD (v := dI .i64 x125) ta3 rfl rfl) ?_
          refine ro rfl rfl (st_mv rfl) ?_
          refine ro rfl rfl (st_bin (v := dB (x125 != a2)) rfl rfl rfl) ?_
          refine rw_nilk ?_
          refine awp_ite (b := (x125 != a2)) rfl (fun p166 => ?_) (fun p166 => ?_)
          · replace h := ite_T p166 h
            refine awp_seq ?_
            refine awp_rs ?_
            refine ro rfl rfl (st_mv rfl) ?_
            refine ro rfl rfl (st_mv rfl) ?_
            refine ro rfl rfl (st_mv rfl) ?_
            refine ro rfl rfl (st_ixDn sl28 rfl rfl hx124) ?_
            refine ro rfl rfl (st_ldD (v := dI .i64 x125) ta3 rfl rfl) ?_
            refine ro rfl rfl (st_un (v := dI .i64 (IntKind.wrap .i64 (0 - x125))) rfl rfl) ?_
            obtain ⟨y167, hy167, h⟩ := bind_some_elim h
            refine rf rfl rfl (ok_skolemref09_Has hy167) rfl rfl ?_
            refine rw_nilk ?_
            refine awp_ite (b := y167) rfl (fun p168 => ?_) (fun p168 => ?_)
            · replace h := ite_T p168 h
              refine awp_rs ?_
              refine ro rfl rfl (st_as rfl) ?_
              refine ro rfl rfl (st_as rfl) ?_
              refine rw_nilk ?_
              refine awp_ret ?_
              refine rt_then ?_
              refine rt_block ?_
              refine rt_then ?_
              refine rt_then ?_
              refine rt_block ?_
              refine rt_then ?_
              injection h with h
              subst h
              exact ret_out (v := .tup [.nilS, dB false]) (resV_many (resVs_tmp rfl (resVs_tmp rfl resVs_nil))) (frz_tup ⟨(.nilS _), (.keep rfl), trivial⟩)
            · replace h := ite_F p168 h
              refine awp_skip ?_
              refine nx_then ?_
              refine awp_rw ?_
              refine ro rfl rfl (st_mv rfl) ?_
              refine ro rfl rfl (st_mv rfl) ?_
              refine ro rfl rfl (st_mv rfl) ?_
              refine ro rfl rfl (st_ixDn sl28 rfl rfl hx124) ?_
              refine ro rfl rfl (st_ldD (v := dI .i64 x125) ta3 rfl rfl) ?_
              obtain ⟨y169, hy169, h⟩ := bind_some_elim h
              refine rf rfl rfl (ok_skolemref09_Put hy169) rfl rfl ?_
              refine ro rfl rfl (st_as rfl) ?_
              refine rw_nil ?_
              refine nx_block ?_
              refine nx_then ?_
              exact J165 y169 () _ _ h (gh_frz rfl rfl ⟨⟨_, rfl, .keep rfl⟩, ⟨_, rfl, .keep rfl⟩, ⟨_, rfl, .keep rfl⟩, ⟨_, rfl, .keep rfl⟩, ⟨_, rfl, .keep rfl⟩, trivial⟩ trivial)
          · replace h := ite_F p166 h
            refine awp_skip ?_
            refine nx_block ?_
            refine nx_then ?_
            exact J165 s121 () _ _ h (gh_frz rfl rfl ⟨⟨_, rfl, .keep rfl⟩, ⟨_, rfl, .keep rfl⟩, ⟨_, rfl, .keep rfl⟩, ⟨_, rfl, .keep rfl⟩, ⟨_, rfl, .keep rfl⟩, trivial⟩ trivial)
      · clear h
        intro s121 g122 h
        refine awp_seq ?_
        refine awp_rs ?_
        refine ro rfl rfl (st_mv rfl) ?_
        refine ro rfl rfl (st_mv rfl) ?_
        refine ro rfl rfl (st_lenD rfl un28) ?_
        refine ro rfl rfl (st_bin (v := dB (decide (((a0.length : Nat) : Int) < ((a0.length : Nat) : Int)))) rfl rfl rfl) ?_
        refine rw_nilk ?_
        refine awp_ifF rfl dge ?_
        refine awp_exit ?_
        refine ex_out ?_
        refine ex_out ?_
        refine ex_in ?_
        refine nx_then ?_
        refine awp_seq ?_
        refine awp_rs ?_
        refine ro rfl rfl (st_as rfl) ?_
        refine rw_nilk ?_
        refine awp_block ?_
        refine awp_len (t := 1) rfl (fun hl173 => ?_)
        rw [List.length_map] at hl173
        refine awp_range (fun (j173 : Nat) (s170 : (List Int)) (g171 : Unit) => [(1, dL 1 (eI .i64) a1), (2, dI .i64 a2), (8, dL 1 (eI .i64) s170), (10, dI .i64 ((j173 : Nat) : Int))]) (fun (s170 : (List Int)) (g171 : Unit) => []) () (fun _ _ _ h => h) h (gh_frz rfl rfl ⟨⟨_, rfl, .keep rfl⟩, ⟨_, rfl, .keep rfl⟩, ⟨_, rfl, .keep rfl⟩, ⟨_, rfl, .keep rfl⟩, trivial⟩ trivial) ?_ ?_
        · clear h
          intro j173 x174 s170 g171 k172 hj173 hx173 h ih172
          refine awp_seq ?_
          refine awp_rs ?_
          refine ro rfl rfl (st_mv rfl) ?_
          refine ro rfl rfl (st_mv rfl) ?_
          refine ro rfl rfl (st_lenD rfl un28) ?_
          refine ro rfl rfl (st_bin (v := dB (decide (((j173 : Nat) : Int) < ((a1.length : Nat) : Int)))) rfl rfl rfl) ?_
          refine rw_nilk ?_
          refine awp_ifT rfl (dlt hj173) ?_
          refine awp_skip ?_
          refine nx_then ?_
          refine awp_jn (fun (s191 : (List Int)) (g192 : Unit) => [(1, dL 1 (eI .i64) a1), (2, dI .i64 a2), (8, dL 1 (eI .i64) s191), (10, dI .i64 ((j173 : Nat) : Int))]) (fun (s191 : (List Int)) (g192 : Unit) => []) h ?_ ?_
          · clear h
            intro s191 g192 h
            refine awp_rw ?_
            refine ro rfl rfl (st_mv rfl) ?_
            refine ro rfl rfl (st_inc rfl rfl hj173 hl173) ?_
            refine ro rfl rfl (st_as rfl) ?_
            refine rw_nil ?_
            refine nx_then ?_
            refine awp_gh ?_ (ih172 s191 () h)
            exact (gh_frz rfl rfl ⟨⟨_, rfl, .keep rfl⟩, ⟨_, rfl, .keep rfl⟩, ⟨_, rfl, .keep rfl⟩, ⟨_, rfl, .keep rfl⟩, trivial⟩ trivial)
          · clear h
            intro k193 h J193
            refine awp_block ?_
            refine awp_rs ?_
            refine ro rfl rfl (st_mv rfl) ?_
            refine ro rfl rfl (st_mv rfl) ?_
            refine ro rfl rfl (st_ixDn sl28 rfl rfl hx173) ?_
            refine ro rfl rfl (st_ldD (v := dI .i64 x174) ta3 rfl rfl) ?_
            refine ro rfl rfl (st_mv rfl) ?_
            refine ro rfl rfl (st_un (v := dI .i64 (IntKind.wrap .i64 (0 - a2))) rfl rfl) ?_
            refine ro rfl rfl (st_bin (v := dB (x174 != (IntKind.wrap .i64 (0 - a2)))) rfl rfl rfl) ?_
            refine rw_nilk ?_
            refine awp_ite (b := (x174 != (IntKind.wrap .i64 (0 - a2)))) rfl (fun p194 => ?_) (fun p194 => ?_)
            · replace h := ite_T p194 h
              refine awp_rw ?_
              refine ro rfl rfl (st_mv rfl) ?_
              refine ro rfl rfl (st_mv rfl) ?_
              refine ro rfl rfl (st_mv rfl) ?_
              refine ro rfl rfl (st_ixDn sl28 rfl rfl hx173) ?_
              refine ro rfl rfl (st_ldD (v := dI .i64 x174) ta3 rfl rfl) ?_
              obtain ⟨y195, hy195, h⟩ := bind_some_elim h
              refine rf rfl rfl (ok_skolemref09_Put hy195) rfl rfl ?_
              refine ro rfl rfl (st_as rfl) ?_
              refine rw_nil ?_
              refine nx_block ?_
              refine nx_then ?_
              exact J193 y195 () _ _ h (gh_frz rfl rfl ⟨⟨_, rfl, .keep rfl⟩, ⟨_, rfl, .keep rfl⟩, ⟨_, rfl, .keep rfl⟩, ⟨_, rfl, .keep rfl⟩, trivial⟩ trivial)
            · replace h := ite_F p194 h
              refine awp_skip ?_
              refine nx_block ?_
              refine nx_then ?_
              exact J193 s170 () _ _ h (gh_frz rfl rfl ⟨⟨_, rfl, .keep rfl⟩, ⟨_, rfl, .keep rfl⟩, ⟨_, rfl, .keep rfl⟩, ⟨_, rfl, .keep rfl⟩, trivial⟩ trivial)
        · clear h
          intro s170 g171 h
          refine awp_seq ?_
          refine awp_rs ?_
          refine ro rfl rfl (st_mv rfl) ?_
          refine ro rfl rfl (st_mv rfl) ?_
          refine ro rfl rfl (st_lenD rfl un28) ?_
          refine ro rfl rfl (st_bin (v := dB (decide (((a1.length : Nat) : Int) < ((a1.length : Nat) : Int)))) rfl rfl rfl) ?_
          refine rw_nilk ?_
          refine awp_ifF rfl dge ?_
          refine awp_exit ?_
          refine ex_out ?_
          refine ex_out ?_
          refine ex_in ?_
          refine nx_then ?_
          refine awp_rs ?_
          refine ro rfl rfl (st_mv rfl) ?_
          refine ro rfl rfl (st_as rfl) ?_
          refine ro rfl rfl (st_as rfl) ?_
          refine rw_nilk ?_
          refine awp_ret ?_
          injection h with h
          subst h
          exact ret_out (v := .tup [dL 1 (eI .i64) s170, dB true]) (resV_many (resVs_tmp rfl (resVs_tmp rfl resVs_nil))) (.keep rfl)
  · clear h
    intro k119 h J119
    refine awp_rw ?_
    refine ro rfl rfl (st_mv rfl) ?_
    refine ro rfl rfl (st_bin (v := dB (decide (a2 < (1 : Int)))) rfl rfl rfl) ?_
    refine ro rfl rfl (st_mv rfl) ?_
    refine bool_split (decide (a2 < (1 : Int))) (fun p196 => ?_) (fun p196 => ?_)
    · replace h := ite_T p196 h
      rw [p196]
      refine rz rfl rfl ?_
      refine rz rfl rfl ?_
      refine rz rfl rfl ?_
      refine rz rfl rfl ?_
      refine ro rfl rfl (st_pickT rfl rfl) ?_
      refine ro rfl rfl (st_mv rfl) ?_
      refine rz rfl rfl ?_
      refine rz rfl rfl ?_
      refine rz rfl rfl ?_
      refine rz rfl rfl ?_
      refine rz rfl rfl ?_
      refine ro rfl rfl (st_pickT rfl rfl) ?_
      refine rw_nil ?_
      refine nx_then ?_
      exact J119 true () _ _ h (gh_frz rfl rfl ⟨⟨_, rfl, .keep rfl⟩, ⟨_, rfl, .keep rfl⟩, ⟨_, rfl, .keep rfl⟩, ⟨_, rfl, .keep rfl⟩, trivial⟩ trivial)
    · replace h := ite_F p196 h
      rw [p196]
      refine ro rfl rfl (st_mv rfl) ?_
      refine ro rfl rfl (st_mv rfl) ?_
      obtain ⟨y197, hy197, h⟩ := bind_some_elim h
      refine rf rfl rfl (ok_skolemref09_Has hy197) rfl rfl ?_
      refine ro rfl rfl (st_un (v := dB (!y197)) rfl rfl) ?_
      refine ro rfl rfl (st_pickF rfl rfl) ?_
      refine ro rfl rfl (st_mv rfl) ?_
      refine bool_split (!y197) (fun p198 => ?_) (fun p198 => ?_)
      · replace h := ite_T p198 h
        rw [p198]
        refine rz rfl rfl ?_
        refine rz rfl rfl ?_
        refine rz rfl rfl ?_
        refine rz rfl rfl ?_
        refine rz rfl rfl ?_
        refine ro rfl rfl (st_pickT rfl rfl) ?_
        refine rw_nil ?_
        refine nx_then ?_
        exact J119 true () _ _ h (gh_frz rfl rfl ⟨⟨_, rfl, .keep rfl⟩, ⟨_, rfl, .keep rfl⟩, ⟨_, rfl, .keep rfl⟩, ⟨_, rfl, .keep rfl⟩, trivial⟩ trivial)
      · replace h := ite_F p198 h
        rw [p198]
        refine ro rfl rfl (st_mv rfl) ?_
        refine ro rfl rfl (st_mv rfl) ?_
        refine ro rfl rfl (st_un (v := dI .i64 (IntKind.wrap .i64 (0 - a2))) rfl rfl) ?_
        obtain ⟨y199, hy199, h⟩ := bind_some_elim h
        refine rf rfl rfl (ok_skolemref09_Has hy199) rfl rfl ?_
        refine ro rfl rfl (st_un (v := dB (!y199)) rfl rfl) ?_
        refine ro rfl rfl (st_pickF rfl rfl) ?_
        refine rw_nil ?_
        refine nx_then ?_
        exact J119 (!y199) () _ _ h (gh_frz rfl rfl ⟨⟨_, rfl, .keep rfl⟩, ⟨_, rfl, .keep rfl⟩, ⟨_, rfl, .keep rfl⟩, ⟨_, rfl, .keep rfl⟩, trivial⟩ trivial)

theorem ok_skolemref09_Check {a0 : (List (List Int))} {a1 : S_api_Proof} {r : ((List Int) × Bool)} (h : F_skolemref09_Check a0 a1 = some r) : Fn Try.prog 27 [dL 1 (eL 1 (eI .i64)) a0, .agg [dB a1.Cubes, dL 5 e_S_api_Line a1.Lines]] (.tup [dL 1 (eI .i64) r.1, dB r.2]) := by
  unfold F_skolemref09_Check at h
  refine Fn.of_body (N := 132) (rs := [.tmp 4, .tmp 5]) Try.func27 (c := _) rfl rfl rfl (by kernel_rfl) (Nat.le_of_ble_eq_true rfl) (fun _B => ?_)
  refine awp_rs ?_
  refine rn (r := 1001) rfl rfl (st_box rfl rfl rfl co25 rfl rfl) rfl ?_
  refine ro rfl rfl (st_as rfl) ?_
  refine ro rfl rfl (st_as rfl) ?_
  refine rw_nilk ?_
  refine awp_rs ?_
  refine ro rfl rfl (st_faP fo25_1 rfl) ?_
  refine ro rfl rfl (st_ldP (v := dL 5 e_S_api_Line a1.Lines) ta23 rfl rfl rfl rfl) ?_
  refine ro rfl rfl (st_lenD rfl un23) ?_
  refine ro rfl rfl (st_as rfl) ?_
  refine rw_nilk ?_
  refine awp_seq ?_
  refine awp_jn (fun (s117 : (Bool × Bool)) (g118 : Unit) => [(0, dL 1 (eL 1 (eI .i64)) a0), (3, .ptr 1001 0 0 0), (6, dI .i64 ((a1.Lines.length : Nat) : Int)), (28, dB s117.1)]) (fun (s117 : (Bool × Bool)) (g118 : Unit) => [(1001, .row 0 25 [[dB s117.2, dL 5 e_S_api_Line a1.Lines]])]) h ?_ ?_
  · clear h
    intro s117 g118 h
    refine awp_ite (b := s117.1) rfl (fun p120 => ?_) (fun p120 => ?_)
    · replace h := ite_T p120 h
      refine awp_rs ?_
      refine ro rfl rfl (st_as rfl) ?_
      refine ro rfl rfl (st_as rfl) ?_
      refine rw_nilk ?_
      refine awp_ret ?_
      refine rt_then ?_
      injection h with h
      subst h
      exact ret_out (v := .tup [.nilS, dB false]) (resV_many (resVs_tmp rfl (resVs_tmp rfl resVs_nil))) (frz_tup ⟨(.nilS _), (.keep rfl), trivial⟩)
    · replace h := ite_F p120 h
      refine awp_skip ?_
      refine nx_then ?_
      refine awp_seq ?_
      refine awp_rs ?_
      refine ro rfl rfl (st_as rfl) ?_
      refine rw_nilk ?_
      refine awp_block ?_
      refine awp_lenC (r := 1001) (i := 1) rfl rfl (fun hl124 => ?_)
      rw [List.length_map] at hl124
      refine awp_range (fun (j124 : Nat) (s121 : Unit) (g122 : Unit) => [(0, dL 1 (eL 1 (eI .i64)) a0), (3, .ptr 1001 0 0 0), (6, dI .i64 ((a1.Lines.length : Nat) : Int)), (7, dI .i64 ((j124 : Nat) : Int))]) (fun (s121 : Unit) (g122 : Unit) => [(1001, .row 0 25 [[dB s117.2, dL 5 e_S_api_Line a1.Lines]])]) () (fun _ _ _ h => h) h (gh_frz rfl rfl ⟨⟨_, rfl, .keep rfl⟩, ⟨_, rfl, .keep rfl⟩, ⟨_, rfl, .keep rfl⟩, ⟨_, rfl, .keep rfl⟩, trivial⟩ ⟨⟨_, rfl, objOne ⟨⟨rfl, .keep rfl⟩, ⟨rfl, .keep rfl⟩, trivial⟩⟩, trivial⟩) ?_ ?_
      · clear h
        intro j124 x125 s121 g122 k123 hj124 hx124 h ih123
        refine awp_seq ?_
        refine awp_rs ?_
        refine ro rfl rfl (st_mv rfl) ?_
        refine ro rfl rfl (st_mv rfl) ?_
        refine ro rfl rfl (st_bin (v := dB (decide (((j124 : Nat) : Int) < ((a1.Lines.length : Nat) : Int)))) rfl rfl rfl) ?_
        refine rw_nilk ?_
        refine awp_ifT rfl (dlt hj124) ?_
        refine awp_skip ?_
        refine nx_then ?_
        refine awp_jn (fun (s276 : Unit) (g277 : Unit) => [(0, dL 1 (eL 1 (eI .i64)) a0), (3, .ptr 1001 0 0 0), (6, dI .i64 ((a1.Lines.length : Nat) : Int)), (7, dI .i64 ((j124 : Nat) : Int))]) (fun (s276 : Unit) (g277 : Unit) => [(1001, .row 0 25 [[dB s117.2, dL 5 e_S_api_Line a1.Lines]])]) h ?_ ?_
        · clear h
          intro s276 g277 h
          refine awp_rw ?_
          refine ro rfl rfl (st_mv rfl) ?_
          refine ro rfl rfl (st_inc rfl rfl hj124 hl124) ?_
          refine ro rfl rfl (st_as rfl) ?_
          refine rw_nil ?_
          refine nx_then ?_
          refine awp_gh ?_ (ih123 () () h)
          exact (gh_frz rfl rfl ⟨⟨_, rfl, .keep rfl⟩, ⟨_, rfl, .keep rfl⟩, ⟨_, rfl, .keep rfl⟩, ⟨_, rfl, .keep rfl⟩, trivial⟩ ⟨⟨_, rfl, objOne ⟨⟨rfl, .keep rfl⟩, ⟨rfl, .keep rfl⟩, trivial⟩⟩, trivial⟩)
        · clear h
          intro k278 h J278
          refine awp_block ?_
          refine awp_rs ?_
          refine ro rfl rfl (st_faP fo25_1 rfl) ?_
          refine ro rfl rfl (st_ldP (v := dL 5 e_S_api_Line a1.Lines) ta23 rfl rfl rfl rfl) ?_
          refine ro rfl rfl (st_mv rfl) ?_
          refine ro rfl rfl (st_ixDn sl23 rfl rfl hx124) ?_
          refine ro rfl rfl (st_ldD (v := .agg [dI .u8 x125.Rule, dI .i64 x125.A, dI .i64 x125.B, dI .i64 x125.Piv, dL 1 (eI .i64) x125.Lits]) ta58 rfl rfl) ?_
          refine rn (r := 1002) rfl rfl (st_alloc zc58 rfl rfl) rfl ?_
          refine rx (L' := [(1001, .row 0 25 [[dB s117.2, dL 5 e_S_api_Line a1.Lines]]), (1002, .row 0 58 [[dI .u8 x125.Rule, dI .i64 x125.A, dI .i64 x125.B, dI .i64 x125.Piv, dL 1 (eI .i64) x125.Lits]])]) rfl rfl (st_stP ta58 rfl rfl rfl rfl rfl rfl rfl rfl) rfl ?_
          refine rw_nilk ?_
          refine awp_rs ?_
          refine ro rfl rfl (st_faP fo58_0 rfl) ?_
          refine ro rfl rfl (st_ldP (v := dI .u8 x125.Rule) ta56 rfl rfl rfl rfl) ?_
          refine rw_nilk ?_
          refine awp_block ?_
          refine awp_rs ?_
          refine ro rfl rfl (st_bin (v := dB (x125.Rule == (1 : Int))) rfl rfl rfl) ?_
          refine ro rfl rfl (st_as rfl) ?_
          refine rw_nilk ?_
          refine awp_ite (b := (x125.Rule == (1 : Int))) rfl (fun p279 => ?_) (fun p279 => ?_)
          · replace h := ite_T p279 h
            refine awp_jn (fun (s286 : Bool) (g287 : Unit) => [(0, dL 1 (eL 1 (eI .i64)) a0), (3, .ptr 1001 0 0 0), (6, dI .i64 ((a1.Lines.length : Nat) : Int)), (7, dI .i64 ((j124 : Nat) : Int)), (73, dB s286)]) (fun (s286 : Bool) (g287 : Unit) => [(1001, .row 0 25 [[dB s117.2, dL 5 e_S_api_Line a1.Lines]])]) h ?_ ?_
            · clear h
              intro s286 g287 h
              refine awp_ite (b := s286) rfl (fun p289 => ?_) (fun p289 => ?_)
              · replace h := ite_T p289 h
                refine awp_rs ?_
                refine ro rfl rfl (st_as rfl) ?_
                refine ro rfl rfl (st_as rfl) ?_
                refine rw_nilk ?_
                refine awp_ret ?_
                refine rt_block ?_
                refine rt_block ?_
                refine rt_then ?_
                refine rt_then ?_
                refine rt_block ?_
                refine rt_then ?_
                injection h with h
                subst h
                exact ret_out (v := .tup [.nilS, dB false]) (resV_many (resVs_tmp rfl (resVs_tmp rfl resVs_nil))) (frz_tup ⟨(.nilS _), (.keep rfl), trivial⟩)
              · replace h := ite_F p289 h
                refine awp_skip ?_
                refine nx_block ?_
                refine nx_block ?_
                refine nx_then ?_
                exact J278 () () _ _ h (gh_frz rfl rfl ⟨⟨_, rfl, .keep rfl⟩, ⟨_, rfl, .keep rfl⟩, ⟨_, rfl, .keep rfl⟩, ⟨_, rfl, .keep rfl⟩, trivial⟩ ⟨⟨_, rfl, objOne ⟨⟨rfl, .keep rfl⟩, ⟨rfl, .keep rfl⟩, trivial⟩⟩, trivial⟩)
            · clear h
              intro k288 h J288
              refine awp_rd hmix ?_
              refine do_ rfl rfl (st_faP fo58_1 rfl) rfl rfl rfl ?_
              refine do_ rfl rfl (st_ldP (v := dI .i64 x125.A) ta3 rfl rfl rfl rfl) rfl rfl rfl ?_
              refine do_ rfl rfl (st_bin (v := dB (decide (x125.A < (0 : Int)))) rfl rfl rfl) rfl rfl rfl ?_
              refine do_ rfl rfl (st_mv rfl) rfl rfl rfl ?_
              refine bool_split (decide (x125.A < (0 : Int))) (fun p290 => ?_) (fun p290 => ?_)
              · replace h := ite_T p290 h
                rw [p290]
                refine dz rfl rfl ?_
                refine dz rfl rfl ?_
                refine dz rfl rfl ?_
                refine dz rfl rfl ?_
                refine dz rfl rfl ?_
                refine do_ rfl rfl (st_pickT rfl rfl) rfl rfl rfl ?_
                refine do_ rfl rfl (st_mv rfl) rfl rfl rfl ?_
                refine dz rfl rfl ?_
                refine dz rfl rfl ?_
                refine dz rfl rfl ?_
                refine do_ rfl rfl (st_pickT rfl rfl) rfl rfl rfl ?_
                refine do_ rfl rfl (st_mv rfl) rfl rfl rfl ?_
                refine dz rfl rfl ?_
                refine dz rfl rfl ?_
                refine dz rfl rfl ?_
                refine do_ rfl rfl (st_pickT rfl rfl) rfl rfl rfl ?_
                refine do_ rfl rfl (st_mv rfl) rfl rfl rfl ?_
                refine dz rfl rfl ?_
                refine dz rfl rfl ?_
                refine dz rfl rfl ?_
                refine dz rfl rfl ?_
                refine dz rfl rfl ?_
                refine dz rfl rfl ?_
                refine dz rfl rfl ?_
                refine dz rfl rfl ?_
                refine dz rfl rfl ?_
                refine do_ rfl rfl (st_pickT rfl rfl) rfl rfl rfl ?_
                refine rd_nil (by kernel_rfl) ?_
                refine nx_then ?_
                exact J288 true () _ _ h (gh_frz rfl rfl ⟨⟨_, rfl, .keep rfl⟩, ⟨_, rfl, .keep rfl⟩, ⟨_, rfl, .keep rfl⟩, ⟨_, rfl, .keep rfl⟩, ⟨_, rfl, .keep rfl⟩, trivial⟩ ⟨⟨_, rfl, objOne ⟨⟨rfl, .keep rfl⟩, ⟨rfl, .keep rfl⟩, trivial⟩⟩, trivial⟩)
              · replace h := ite_F p290 h
                rw [p290]
                refine do_ rfl rfl (st_faP fo58_1 rfl) rfl rfl rfl ?_
                refine do_ rfl rfl (st_ldP (v := dI .i64 x125.A) ta3 rfl rfl rfl rfl) rfl rfl rfl ?_
                refine do_ rfl rfl (st_mv rfl) rfl rfl rfl ?_
                refine do_ rfl rfl (st_lenD rfl un22) rfl rfl rfl ?_
                refine do_ rfl rfl (st_bin (v := dB (decide (x125.A ≥ ((a0.length : Nat) : Int)))) rfl rfl rfl) rfl rfl rfl ?_
                refine do_ rfl rfl (st_pickF rfl rfl) rfl rfl rfl ?_
                refine do_ rfl rfl (st_mv rfl) rfl rfl rfl ?_
                refine bool_split (decide (x125.A ≥ ((a0.length : Nat) : Int))) (fun p291 => ?_) (fun p291 => ?_)
                · replace h := ite_T p291 h
                  rw [p291]
                  refine dz rfl rfl ?_
                  refine dz rfl rfl ?_
                  refine dz rfl rfl ?_
                  refine do_ rfl rfl (st_pickT rfl rfl) rfl rfl rfl ?_
                  refine do_ rfl rfl (st_mv rfl) rfl rfl rfl ?_
                  refine dz rfl rfl ?_
                  refine dz rfl rfl ?_
                  refine dz rfl rfl ?_
                  refine do_ rfl rfl (st_pickT rfl rfl) rfl rfl rfl ?_
                  refine do_ rfl rfl (st_mv rfl) rfl rfl rfl ?_
                  refine dz rfl rfl ?_
                  refine dz rfl rfl ?_
                  refine dz rfl rfl ?_
                  refine dz rfl rfl ?_
                  refine dz rfl rfl ?_
                  refine dz rfl rfl ?_
                  refine dz rfl rfl ?_
                  refine dz rfl rfl ?_
                  refine dz rfl rfl ?_
                  refine do_ rfl rfl (st_pickT rfl rfl) rfl rfl rfl ?_
                  refine rd_nil (by kernel_rfl) ?_
                  refine nx_then ?_
                  exact J288 true () _ _ h (gh_frz rfl rfl ⟨⟨_, rfl, .keep rfl⟩, ⟨_, rfl, .keep rfl⟩, ⟨_, rfl, .keep rfl⟩, ⟨_, rfl, .keep rfl⟩, ⟨_, rfl, .keep rfl⟩, trivial⟩ ⟨⟨_, rfl, objOne ⟨⟨rfl, .keep rfl⟩, ⟨rfl, .keep rfl⟩, trivial⟩⟩, trivial⟩)
                · replace h := ite_F p291 h
                  rw [p291]
                  refine do_ rfl rfl (st_faP fo58_2 rfl) rfl rfl rfl ?_
                  refine do_ rfl rfl (st_ldP (v := dI .i64 x125.B) ta3 rfl rfl rfl rfl) rfl rfl rfl ?_
                  refine do_ rfl rfl (st_bin (v := dB (x125.B != (0 : Int))) rfl rfl rfl) rfl rfl rfl ?_
                  refine do_ rfl rfl (st_pickF rfl rfl) rfl rfl rfl ?_
                  refine do_ rfl rfl (st_mv rfl) rfl rfl rfl ?_
                  refine bool_split (x125.B != (0 : Int)) (fun p292 => ?_) (fun p292 => ?_)
                  · replace h := ite_T p292 h
                    rw [p292]
                    refine dz rfl rfl ?_
                    refine dz rfl rfl ?_
                    refine dz rfl rfl ?_
                    refine do_ rfl rfl (st_pickT rfl rfl) rfl rfl rfl ?_
                    refine do_ rfl rfl (st_mv rfl) rfl rfl rfl ?_
                    refine dz rfl rfl ?_
                    refine dz rfl rfl ?_
                    refine dz rfl rfl ?_
                    refine dz rfl rfl ?_
                    refine dz rfl rfl ?_
                    refine dz rfl rfl ?_
                    refine dz rfl rfl ?_
                    refine dz rfl rfl ?_
                    refine dz rfl rfl ?_
                    refine do_ rfl rfl (st_pickT rfl rfl) rfl rfl rfl ?_
                    refine rd_nil (by kernel_rfl) ?_
                    refine nx_then ?_
                    exact J288 true () _ _ h (gh_frz rfl rfl ⟨⟨_, rfl, .keep rfl⟩, ⟨_, rfl, .keep rfl⟩, ⟨_, rfl, .keep rfl⟩, ⟨_, rfl, .keep rfl⟩, ⟨_, rfl, .keep rfl⟩, trivial⟩ ⟨⟨_, rfl, objOne ⟨⟨rfl, .keep rfl⟩, ⟨rfl, .keep rfl⟩, trivial⟩⟩, trivial⟩)
                  · replace h := ite_F p292 h
                    rw [p292]
                    refine do_ rfl rfl (st_faP fo58_3 rfl) rfl rfl rfl ?_
                    refine do_ rfl rfl (st_ldP (v := dI .i64 x125.Piv) ta3 rfl rfl rfl rfl) rfl rfl rfl ?_
                    refine do_ rfl rfl (st_bin (v := dB (x125.Piv != (0 : Int))) rfl rfl rfl) rfl rfl rfl ?_
                    refine do_ rfl rfl (st_pickF rfl rfl) rfl rfl rfl ?_
                    refine do_ rfl rfl (st_mv rfl) rfl rfl rfl ?_
                    refine bool_split (x125.Piv != (0 : Int)) (fun p293 => ?_) (fun p293 => ?_)
                    · replace h := ite_T p293 h
                      rw [p293]
                      refine dz rfl rfl ?_
                      refine dz rfl rfl ?_
                      refine dz rfl rfl ?_
                      refine dz rfl rfl ?_
                      refine dz rfl rfl ?_
                      refine dz rfl rfl ?_
                      refine dz rfl rfl ?_
                      refine dz rfl rfl ?_
                      refine dz rfl rfl ?_
                      refine do_ rfl rfl (st_pickT rfl rfl) rfl rfl rfl ?_
                      refine rd_nil (by kernel_rfl) ?_
                      refine nx_then ?_
                      exact J288 true () _ _ h (gh_frz rfl rfl ⟨⟨_, rfl, .keep rfl⟩, ⟨_, rfl, .keep rfl⟩, ⟨_, rfl, .keep rfl⟩, ⟨_, rfl, .keep rfl⟩, ⟨_, rfl, .keep rfl⟩, trivial⟩ ⟨⟨_, rfl, objOne ⟨⟨rfl, .keep rfl⟩, ⟨rfl, .keep rfl⟩, trivial⟩⟩, trivial⟩)
                    · replace h := ite_F p293 h
                      rw [p293]
                      refine do_ rfl rfl (st_faP fo58_4 rfl) rfl rfl rfl ?_
                      refine do_ rfl rfl (st_ldP (v := dL 1 (eI .i64) x125.Lits) ta28 rfl rfl rfl rfl) rfl rfl rfl ?_
                      refine do_ rfl rfl (st_mv rfl) rfl rfl rfl ?_
                      refine do_ rfl rfl (st_faP fo58_1 rfl) rfl rfl rfl ?_
                      refine do_ rfl rfl (st_ldP (v := dI .i64 x125.A) ta3 rfl rfl rfl rfl) rfl rfl rfl ?_
                      obtain ⟨x294, h0294, hx294, h⟩ := getI_some h
                      refine do_ rfl rfl (st_ixD sl22 rfl rfl h0294 hx294) rfl rfl rfl ?_
                      refine do_ rfl rfl (st_ldD (v := dL 1 (eI .i64) x294) ta28 rfl rfl) rfl rfl rfl ?_
                      obtain ⟨y295, hy295, h⟩ := bind_some_elim h
                      refine df rfl rfl (ok_skolemref09_Same hy295) rfl rfl ?_
                      refine do_ rfl rfl (st_un (v := dB (!y295)) rfl rfl) rfl rfl rfl ?_
                      refine do_ rfl rfl (st_pickF rfl rfl) rfl rfl rfl ?_
                      refine rd_nil (by kernel_rfl) ?_
                      refine nx_then ?_
                      exact J288 (!y295) () _ _ h (gh_frz rfl rfl ⟨⟨_, rfl, .keep rfl⟩, ⟨_, rfl, .keep rfl⟩, ⟨_, rfl, .keep rfl⟩, ⟨_, rfl, .keep rfl⟩, ⟨_, rfl, .keep rfl⟩, trivial⟩ ⟨⟨_, rfl, objOne ⟨⟨rfl, .keep rfl⟩, ⟨rfl, .keep rfl⟩, trivial⟩⟩, trivial⟩)
          · replace h := ite_F p279 h
            refine awp_rs ?_
            refine ro rfl rfl (st_bin (v := dB (x125.Rule == (2 : Int))) rfl rfl rfl) ?_
            refine ro rfl rfl (st_as rfl) ?_
            refine rw_nilk ?_
            refine awp_ite (b := (x125.Rule == (2 : Int))) rfl (fun p296 => ?_) (fun p296 => ?_)
            · replace h := ite_T p296 h
              refine awp_seq ?_
              refine awp_jn (fun (s310 : Bool) (g311 : Unit) => [(0, dL 1 (eL 1 (eI .i64)) a0), (3, .ptr 1001 0 0 0), (6, dI .i64 ((a1.Lines.length : Nat) : Int)), (7, dI .i64 ((j124 : Nat) : Int)), (8, .ptr 1002 0 0 0), (95, dB s310)]) (fun (s310 : Bool) (g311 : Unit) => [(1001, .row 0 25 [[dB s117.2, dL 5 e_S_api_Line a1.Lines]]), (1002, .row 0 58 [[dI .u8 x125.Rule, dI .i64 x125.A, dI .i64 x125.B, dI .i64 x125.Piv, dL 1 (eI .i64) x125.Lits]])]) h ?_ ?_
              · clear h
                intro s310 g311 h
                refine awp_ite (b := s310) rfl (fun p313 => ?_) (fun p313 => ?_)
                · replace h := ite_T p313 h
                  refine awp_rs ?_
                  refine ro rfl rfl (st_as rfl) ?_
                  refine ro rfl rfl (st_as rfl) ?_
                  refine rw_nilk ?_
                  refine awp_ret ?_
                  refine rt_then ?_
                  refine rt_block ?_
                  refine rt_block ?_
                  refine rt_then ?_
                  refine rt_then ?_
                  refine rt_block ?_
                  refine rt_then ?_
                  injection h with h
                  subst h
                  exact ret_out (v := .tup [.nilS, dB false]) (resV_many (resVs_tmp rfl (resVs_tmp rfl resVs_nil))) (frz_tup ⟨(.nilS _), (.keep rfl), trivial⟩)
                · replace h := ite_F p313 h
                  refine awp_skip ?_
                  refine nx_then ?_
                  refine awp_rds hmix ?_
                  refine do_ rfl rfl (st_faP fo25_1 rfl) rfl rfl rfl ?_
                  refine do_ rfl rfl (st_ldP (v := dL 5 e_S_api_Line a1.Lines) ta23 rfl rfl rfl rfl) rfl rfl rfl ?_
                  refine do_ rfl rfl (st_faP fo58_1 rfl) rfl rfl rfl ?_
                  refine do_ rfl rfl (st_ldP (v := dI .i64 x125.A) ta3 rfl rfl rfl rfl) rfl rfl rfl ?_
                  obtain ⟨x314, h0314, hx314, h⟩ := getI_some h
                  refine do_ rfl rfl (st_ixD sl23 rfl rfl h0314 hx314) rfl rfl rfl ?_
                  refine do_ rfl rfl (st_faD fo58_4 rfl) rfl rfl rfl ?_
                  refine do_ rfl rfl (st_ldD (v := dL 1 (eI .i64) x314.Lits) ta28 rfl rfl) rfl rfl rfl ?_
                  refine do_ rfl rfl (st_faP fo25_1 rfl) rfl rfl rfl ?_
                  refine do_ rfl rfl (st_ldP (v := dL 5 e_S_api_Line a1.Lines) ta23 rfl rfl rfl rfl) rfl rfl rfl ?_
                  refine do_ rfl rfl (st_faP fo58_2 rfl) rfl rfl rfl ?_
                  refine do_ rfl rfl (st_ldP (v := dI .i64 x125.B) ta3 rfl rfl rfl rfl) rfl rfl rfl ?_
                  obtain ⟨x315, h0315, hx315, h⟩ := getI_some h
                  refine do_ rfl rfl (st_ixD sl23 rfl rfl h0315 hx315) rfl rfl rfl ?_
                  refine do_ rfl rfl (st_faD fo58_4 rfl) rfl rfl rfl ?_
                  refine do_ rfl rfl (st_ldD (v := dL 1 (eI .i64) x315.Lits) ta28 rfl rfl) rfl rfl rfl ?_
                  refine do_ rfl rfl (st_faP fo58_3 rfl) rfl rfl rfl ?_
                  refine do_ rfl rfl (st_ldP (v := dI .i64 x125.Piv) ta3 rfl rfl rfl rfl) rfl rfl rfl ?_
                  obtain ⟨y316, hy316, h⟩ := bind_some_elim h
                  refine df rfl rfl (ok_skolemref09_Resolvent hy316) rfl rfl ?_
                  refine do_ rfl rfl (st_mv rfl) rfl rfl rfl ?_
                  refine do_ rfl rfl (st_ext rfl rfl) rfl rfl rfl ?_
                  refine do_ rfl rfl (st_ext rfl rfl) rfl rfl rfl ?_
                  refine do_ rfl rfl (st_as rfl) rfl rfl rfl ?_
                  refine do_ rfl rfl (st_as rfl) rfl rfl rfl ?_
                  refine rd_nil (by kernel_rfl) ?_
                  refine awp_jn (fun (s319 : Bool) (g320 : Unit) => [(0, dL 1 (eL 1 (eI .i64)) a0), (3, .ptr 1001 0 0 0), (6, dI .i64 ((a1.Lines.length : Nat) : Int)), (7, dI .i64 ((j124 : Nat) : Int)), (124, dB s319)]) (fun (s319 : Bool) (g320 : Unit) => [(1001, .row 0 25 [[dB s117.2, dL 5 e_S_api_Line a1.Lines]])]) h ?_ ?_
                  · clear h
                    intro s319 g320 h
                    refine awp_ite (b := s319) rfl (fun p322 => ?_) (fun p322 => ?_)
                    · replace h := ite_T p322 h
                      refine awp_rs ?_
                      refine ro rfl rfl (st_as rfl) ?_
                      refine ro rfl rfl (st_as rfl) ?_
                      refine rw_nilk ?_
                      refine awp_ret ?_
                      refine rt_block ?_
                      refine rt_block ?_
                      refine rt_then ?_
                      refine rt_then ?_
                      refine rt_block ?_
                      refine rt_then ?_
                      injection h with h
                      subst h
                      exact ret_out (v := .tup [.nilS, dB false]) (resV_many (resVs_tmp rfl (resVs_tmp rfl resVs_nil))) (frz_tup ⟨(.nilS _), (.keep rfl), trivial⟩)
                    · replace h := ite_F p322 h
                      refine awp_skip ?_
                      refine nx_block ?_
                      refine nx_block ?_
                      refine nx_then ?_
                      exact J278 () () _ _ h (gh_frz rfl rfl ⟨⟨_, rfl, .keep rfl⟩, ⟨_, rfl, .keep rfl⟩, ⟨_, rfl, .keep rfl⟩, ⟨_, rfl, .keep rfl⟩, trivial⟩ ⟨⟨_, rfl, objOne ⟨⟨rfl, .keep rfl⟩, ⟨rfl, .keep rfl⟩, trivial⟩⟩, trivial⟩)
                  · clear h
                    intro k321 h J321
                    refine awp_rw ?_
                    refine ro rfl rfl (st_mv rfl) ?_
                    refine ro rfl rfl (st_un (v := dB (!y316.2)) rfl rfl) ?_
                    refine ro rfl rfl (st_mv rfl) ?_
                    refine bool_split (!y316.2) (fun p323 => ?_) (fun p323 => ?_)
                    · replace h := ite_T p323 h
                      rw [p323]
                      refine rz rfl rfl ?_
                      refine rz rfl rfl ?_
                      refine rz rfl rfl ?_
                      refine rz rfl rfl ?_
                      refine rz rfl rfl ?_
                      refine ro rfl rfl (st_pickT rfl rfl) ?_
                      refine rw_nil ?_
                      refine nx_then ?_
                      exact J321 true () _ _ h (gh_frz rfl rfl ⟨⟨_, rfl, .keep rfl⟩, ⟨_, rfl, .keep rfl⟩, ⟨_, rfl, .keep rfl⟩, ⟨_, rfl, .keep rfl⟩, ⟨_, rfl, .keep rfl⟩, trivial⟩ ⟨⟨_, rfl, objOne ⟨⟨rfl, .keep rfl⟩, ⟨rfl, .keep rfl⟩, trivial⟩⟩, trivial⟩)
                    · replace h := ite_F p323 h
                      rw [p323]
                      refine ro rfl rfl (st_mv rfl) ?_
                      refine ro rfl rfl (st_faP fo58_4 rfl) ?_
                      refine ro rfl rfl (st_ldP (v := dL 1 (eI .i64) x125.Lits) ta28 rfl rfl rfl rfl) ?_
                      obtain ⟨y324, hy324, h⟩ := bind_some_elim h
                      refine rf rfl rfl (ok_skolemref09_Same hy324) rfl rfl ?_
                      refine ro rfl rfl (st_un (v := dB (!y324)) rfl rfl) ?_
                      refine ro rfl rfl (st_pickF rfl rfl) ?_
                      refine rw_nil ?_
                      refine nx_then ?_
                      exact J321 (!y324) () _ _ h (gh_frz rfl rfl ⟨⟨_, rfl, .keep rfl⟩, ⟨_, rfl, .keep rfl⟩, ⟨_, rfl, .keep rfl⟩, ⟨_, rfl, .keep rfl⟩, ⟨_, rfl, .keep rfl⟩, trivial⟩ ⟨⟨_, rfl, objOne ⟨⟨rfl, .keep rfl⟩, ⟨rfl, .keep rfl⟩, trivial⟩⟩, trivial⟩)
              · clear h
                intro k312 h J312
                refine awp_rw ?_
                refine ro rfl rfl (st_faP fo58_1 rfl) ?_
                refine ro rfl rfl (st_ldP (v := dI .i64 x125.A) ta3 rfl rfl rfl rfl) ?_
                refine ro rfl rfl (st_bin (v := dB (decide (x125.A < (0 : Int)))) rfl rfl rfl) ?_
                refine ro rfl rfl (st_mv rfl) ?_
                refine bool_split (decide (x125.A < (0 : Int))) (fun p325 => ?_) (fun p325 => ?_)
                · replace h := ite_T p325 h
                  rw [p325]
                  refine rz rfl rfl ?_
                  refine rz rfl rfl ?_
                  refine rz rfl rfl ?_
                  refine rz rfl rfl ?_
                  refine ro rfl rfl (st_pickT rfl rfl) ?_
                  refine ro rfl rfl (st_mv rfl) ?_
                  refine rz rfl rfl ?_
                  refine rz rfl rfl ?_
                  refine rz rfl rfl ?_
                  refine ro rfl rfl (st_pickT rfl rfl) ?_
                  refine ro rfl rfl (st_mv rfl) ?_
                  refine rz rfl rfl ?_
                  refine rz rfl rfl ?_
                  refine rz rfl rfl ?_
                  refine rz rfl rfl ?_
                  refine ro rfl rfl (st_pickT rfl rfl) ?_
                  refine rw_nil ?_
                  refine nx_then ?_
                  exact J312 true () _ _ h (gh_frz rfl rfl ⟨⟨_, rfl, .keep rfl⟩, ⟨_, rfl, .keep rfl⟩, ⟨_, rfl, .keep rfl⟩, ⟨_, rfl, .keep rfl⟩, ⟨_, rfl, .keep rfl⟩, ⟨_, rfl, .keep rfl⟩, trivial⟩ ⟨⟨_, rfl, objOne ⟨⟨rfl, .keep rfl⟩, ⟨rfl, .keep rfl⟩, trivial⟩⟩, ⟨_, rfl, objOne ⟨⟨rfl, .keep rfl⟩, ⟨rfl, .keep rfl⟩, ⟨rfl, .keep rfl⟩, ⟨rfl, .keep rfl⟩, ⟨rfl, .keep rfl⟩, trivial⟩⟩, trivial⟩)
                · replace h := ite_F p325 h
                  rw [p325]
                  refine ro rfl rfl (st_faP fo58_1 rfl) ?_
                  refine ro rfl rfl (st_ldP (v := dI .i64 x125.A) ta3 rfl rfl rfl rfl) ?_
                  refine ro rfl rfl (st_mv rfl) ?_
                  refine ro rfl rfl (st_bin (v := dB (decide (x125.A ≥ ((j124 : Nat) : Int)))) rfl rfl rfl) ?_
                  refine ro rfl rfl (st_pickF rfl rfl) ?_
                  refine ro rfl rfl (st_mv rfl) ?_
                  refine bool_split (decide (x125.A ≥ ((j124 : Nat) : Int))) (fun p326 => ?_) (fun p326 => ?_)
                  · replace h := ite_T p326 h
                    rw [p326]
                    refine rz rfl rfl ?_
                    refine rz rfl rfl ?_
                    refine rz rfl rfl ?_
                    refine ro rfl rfl (st_pickT rfl rfl) ?_
                    refine ro rfl rfl (st_mv rfl) ?_
                    refine rz rfl rfl ?_
                    refine rz rfl rfl ?_
                    refine rz rfl rfl ?_
                    refine rz rfl rfl ?_
                    refine ro rfl rfl (st_pickT rfl rfl) ?_
                    refine rw_nil ?_
                    refine nx_then ?_
                    exact J312 true () _ _ h (gh_frz rfl rfl ⟨⟨_, rfl, .keep rfl⟩, ⟨_, rfl, .keep rfl⟩, ⟨_, rfl, .keep rfl⟩, ⟨_, rfl, .keep rfl⟩, ⟨_, rfl, .keep rfl⟩, ⟨_, rfl, .keep rfl⟩, trivial⟩ ⟨⟨_, rfl, objOne ⟨⟨rfl, .keep rfl⟩, ⟨rfl, .keep rfl⟩, trivial⟩⟩, ⟨_, rfl, objOne ⟨⟨rfl, .keep rfl⟩, ⟨rfl, .keep rfl⟩, ⟨rfl, .keep rfl⟩, ⟨rfl, .keep rfl⟩, ⟨rfl, .keep rfl⟩, trivial⟩⟩, trivial⟩)
                  · replace h := ite_F p326 h
                    rw [p326]
                    refine ro rfl rfl (st_faP fo58_2 rfl) ?_
                    refine ro rfl rfl (st_ldP (v := dI .i64 x125.B) ta3 rfl rfl rfl rfl) ?_
                    refine ro rfl rfl (st_bin (v := dB (decide (x125.B < (0 : Int)))) rfl rfl rfl) ?_
                    refine ro rfl rfl (st_pickF rfl rfl) ?_
                    refine ro rfl rfl (st_mv rfl) ?_
                    refine bool_split (decide (x125.B < (0 : Int))) (fun p327 => ?_) (fun p327 => ?_)
                    · replace h := ite_T p327 h
                      rw [p327]
                      refine rz rfl rfl ?_
                      refine rz rfl rfl ?_
                      refine rz rfl rfl ?_
                      refine rz rfl rfl ?_
                      refine ro rfl rfl (st_pickT rfl rfl) ?_
                      refine rw_nil ?_
                      refine nx_then ?_
                      exact J312 true () _ _ h (gh_frz rfl rfl ⟨⟨_, rfl, .keep rfl⟩, ⟨_, rfl, .keep rfl⟩, ⟨_, rfl, .keep rfl⟩, ⟨_, rfl, .keep rfl⟩, ⟨_, rfl, .keep rfl⟩, ⟨_, rfl, .keep rfl⟩, trivial⟩ ⟨⟨_, rfl, objOne ⟨⟨rfl, .keep rfl⟩, ⟨rfl, .keep rfl⟩, trivial⟩⟩, ⟨_, rfl, objOne ⟨⟨rfl, .keep rfl⟩, ⟨rfl, .keep rfl⟩, ⟨rfl, .keep rfl⟩, ⟨rfl, .keep rfl⟩, ⟨rfl, .keep rfl⟩, trivial⟩⟩, trivial⟩)
                    · replace h := ite_F p327 h
                      rw [p327]
                      refine ro rfl rfl (st_faP fo58_2 rfl) ?_
                      refine ro rfl rfl (st_ldP (v := dI .i64 x125.B) ta3 rfl rfl rfl rfl) ?_
                      refine ro rfl rfl (st_mv rfl) ?_
                      refine ro rfl rfl (st_bin (v := dB (decide (x125.B ≥ ((j124 : Nat) : Int)))) rfl rfl rfl) ?_
                      refine ro rfl rfl (st_pickF rfl rfl) ?_
                      refine rw_nil ?_
                      refine nx_then ?_
                      exact J312 (decide (x125.B ≥ ((j124 : Nat) : Int))) () _ _ h (gh_frz rfl rfl ⟨⟨_, rfl, .keep rfl⟩, ⟨_, rfl, .keep rfl⟩, ⟨_, rfl, .keep rfl⟩, ⟨_, rfl, .keep rfl⟩, ⟨_, rfl, .keep rfl⟩, ⟨_, rfl, .keep rfl⟩, trivial⟩ ⟨⟨_, rfl, objOne ⟨⟨rfl, .keep rfl⟩, ⟨rfl, .keep rfl⟩, trivial⟩⟩, ⟨_, rfl, objOne ⟨⟨rfl, .keep rfl⟩, ⟨rfl, .keep rfl⟩, ⟨rfl, .keep rfl⟩, ⟨rfl, .keep rfl⟩, ⟨rfl, .keep rfl⟩, trivial⟩⟩, trivial⟩)
            · replace h := ite_F p296 h
              refine awp_rs ?_
              refine ro rfl rfl (st_as rfl) ?_
              refine ro rfl rfl (st_as rfl) ?_
              refine rw_nilk ?_
              refine awp_ret ?_
              refine rt_block ?_
              refine rt_block ?_
              refine rt_then ?_
              refine rt_then ?_
              refine rt_block ?_
              refine rt_then ?_
              injection h with h
              subst h
              exact ret_out (v := .tup [.nilS, dB false]) (resV_many (resVs_tmp rfl (resVs_tmp rfl resVs_nil))) (frz_tup ⟨(.nilS _), (.keep rfl), trivial⟩)
      · clear h
        intro s121 g122 h
        refine awp_seq ?_
        refine awp_rs ?_
        refine ro rfl rfl (st_mv rfl) ?_
        refine ro rfl rfl (st_mv rfl) ?_
        refine ro rfl rfl (st_bin (v := dB (decide (((a1.Lines.length : Nat) : Int) < ((a1.Lines.length : Nat) : Int)))) rfl rfl rfl) ?_
        refine rw_nilk ?_
        refine awp_ifF rfl dge ?_
        refine awp_exit ?_
        refine ex_out ?_
        refine ex_out ?_
        refine ex_in ?_
        refine nx_then ?_
        refine awp_rs ?_
        refine ro rfl rfl (st_faP fo25_1 rfl) ?_
        refine ro rfl rfl (st_ldP (v := dL 5 e_S_api_Line a1.Lines) ta23 rfl rfl rfl rfl) ?_
        refine ro rfl rfl (st_mv rfl) ?_
        refine ro rfl rfl (st_bin (v := dI .i64 (IntKind.wrap .i64 (((a1.Lines.length : Nat) : Int) - (1 : Int)))) rfl rfl rfl) ?_
        obtain ⟨x328, h0328, hx328, h⟩ := getI_some h
        refine ro rfl rfl (st_ixD sl23 rfl rfl h0328 hx328) ?_
        refine ro rfl rfl (st_faD fo58_4 rfl) ?_
        refine ro rfl rfl (st_ldD (v := dL 1 (eI .i64) x328.Lits) ta28 rfl rfl) ?_
        refine ro rfl rfl (st_as rfl) ?_
        refine ro rfl rfl (st_as rfl) ?_
        refine rw_nilk ?_
        refine awp_ret ?_
        injection h with h
        subst h
        exact ret_out (v := .tup [dL 1 (eI .i64) x328.Lits, dB true]) (resV_many (resVs_tmp rfl (resVs_tmp rfl resVs_nil))) (.keep rfl)
  · clear h
    intro k119 h J119
    refine awp_rw ?_
    refine ro rfl rfl (st_mv rfl) ?_
    obtain ⟨y329, hy329, h⟩ := bind_some_elim h
    refine rf rfl rfl (ok_skolemref09_Cnf hy329) rfl rfl ?_
    refine ro rfl rfl (st_un (v := dB (!y329)) rfl rfl) ?_
    refine ro rfl rfl (st_mv rfl) ?_
    refine bool_split (!y329) (fun p330 => ?_) (fun p330 => ?_)
    · replace h := ite_T p330 h
      rw [p330]
      refine rz rfl rfl ?_
      refine rz rfl rfl ?_
      refine ro rfl rfl (st_pickT rfl rfl) ?_
      refine ro rfl rfl (st_mv rfl) ?_
      refine rz rfl rfl ?_
      refine rz rfl rfl ?_
      refine ro rfl rfl (st_pickT rfl rfl) ?_
      refine ro rfl rfl (st_mv rfl) ?_
      refine rz rfl rfl ?_
      refine rz rfl rfl ?_
      refine ro rfl rfl (st_pickT rfl rfl) ?_
      refine rw_nil ?_
      refine nx_then ?_
      exact J119 (true, a1.Cubes) () _ _ h (gh_frz rfl rfl ⟨⟨_, rfl, .keep rfl⟩, ⟨_, rfl, .keep rfl⟩, ⟨_, rfl, .keep rfl⟩, ⟨_, rfl, .keep rfl⟩, trivial⟩ ⟨⟨_, rfl, objOne ⟨⟨rfl, .keep rfl⟩, ⟨rfl, .keep rfl⟩, trivial⟩⟩, trivial⟩)
    · replace h := ite_F p330 h
      rw [p330]
      refine ro rfl rfl (st_faP fo25_0 rfl) ?_
      refine ro rfl rfl (st_ldP (v := dB a1.Cubes) ta4 rfl rfl rfl rfl) ?_
      refine ro rfl rfl (st_pickF rfl rfl) ?_
      refine ro rfl rfl (st_mv rfl) ?_
      refine bool_split a1.Cubes (fun p331 => ?_) (fun p331 => ?_)
      · replace h := ite_T p331 h
        rw [p331]
        refine rz rfl rfl ?_
        refine rz rfl rfl ?_
        refine ro rfl rfl (st_pickT rfl rfl) ?_
        refine ro rfl rfl (st_mv rfl) ?_
        refine rz rfl rfl ?_
        refine rz rfl rfl ?_
        refine ro rfl rfl (st_pickT rfl rfl) ?_
        refine rw_nil ?_
        refine nx_then ?_
        exact J119 (true, true) () _ _ h (gh_frz rfl rfl ⟨⟨_, rfl, .keep rfl⟩, ⟨_, rfl, .keep rfl⟩, ⟨_, rfl, .keep rfl⟩, ⟨_, rfl, .keep rfl⟩, trivial⟩ ⟨⟨_, rfl, objOne ⟨⟨rfl, .keep rfl⟩, ⟨rfl, .keep rfl⟩, trivial⟩⟩, trivial⟩)
      · replace h := ite_F p331 h
        rw [p331]
        refine ro rfl rfl (st_mv rfl) ?_
        refine ro rfl rfl (st_bin (v := dB (((a1.Lines.length : Nat) : Int) == (0 : Int))) rfl rfl rfl) ?_
        refine ro rfl rfl (st_pickF rfl rfl) ?_
        refine ro rfl rfl (st_mv rfl) ?_
        refine bool_split (((a1.Lines.length : Nat) : Int) == (0 : Int)) (fun p332 => ?_) (fun p332 => ?_)
        · replace h := ite_T p332 h
          rw [p332]
          refine rz rfl rfl ?_
          refine rz rfl rfl ?_
          refine ro rfl rfl (st_pickT rfl rfl) ?_
          refine rw_nil ?_
          refine nx_then ?_
          exact J119 (true, false) () _ _ h (gh_frz rfl rfl ⟨⟨_, rfl, .keep rfl⟩, ⟨_, rfl, .keep rfl⟩, ⟨_, rfl, .keep rfl⟩, ⟨_, rfl, .keep rfl⟩, trivial⟩ ⟨⟨_, rfl, objOne ⟨⟨rfl, .keep rfl⟩, ⟨rfl, .keep rfl⟩, trivial⟩⟩, trivial⟩)
        · replace h := ite_F p332 h
          rw [p332]
          refine ro rfl rfl (st_mv rfl) ?_
          refine ro rfl rfl (st_bin (v := dB (decide (((a1.Lines.length : Nat) : Int) > (1000000 : Int)))) rfl rfl rfl) ?_
          refine ro rfl rfl (st_pickF rfl rfl) ?_
          refine rw_nil ?_
          refine nx_then ?_
          exact J119 ((decide (((a1.Lines.length : Nat) : Int) > (1000000 : Int))), false) () _ _ h (gh_frz rfl rfl ⟨⟨_, rfl, .keep rfl⟩, ⟨_, rfl, .keep rfl⟩, ⟨_, rfl, .keep rfl⟩, ⟨_, rfl, .keep rfl⟩, trivial⟩ ⟨⟨_, rfl, objOne ⟨⟨rfl, .keep rfl⟩, ⟨rfl, .keep rfl⟩, trivial⟩⟩, trivial⟩)

theorem ok_proof_Lift {a0 : (List (List Int))} {a1 : (List Int)} {a2 : S_api_Proof} {r : (S_api_Proof × Int)} (h : F_proof_Lift a0 a1 a2 = some r) : Fn Try.prog 31 [dL 1 (eL 1 (eI .i64)) a0, dL 1 (eI .i64) a1, .agg [dB a2.Cubes, dL 5 e_S_api_Line a2.Lines]] (.tup [.agg [dB r.1.Cubes, dL 5 e_S_api_Line r.1.Lines], dI .i64 r.2]) := by
  unfold F_proof_Lift at h
  refine Fn.of_body (N := 88) (rs := [.cell 6 25, .tmp 7]) Try.func31 (c := _) rfl rfl rfl (by kernel_rfl) (Nat.le_of_ble_eq_true rfl) (fun _B => ?_)
  refine awp_rs ?_
  refine rn (r := 1001) rfl rfl (st_box rfl rfl rfl co25 rfl rfl) rfl ?_
  refine rn (r := 1002) rfl rfl (st_alloc zc25 rfl rfl) rfl ?_
  refine ro rfl rfl (st_as rfl) ?_
  refine rw_nilk ?_
  refine awp_rs ?_
  refine ro rfl rfl (st_mv rfl) ?_
  refine ro rfl rfl (st_mv rfl) ?_
  obtain ⟨y101, hy101, h⟩ := bind_some_elim h
  refine rf rfl rfl (ok_proof_Under hy101) rfl rfl ?_
  refine ro rfl rfl (st_mv rfl) ?_
  refine ro rfl rfl (st_ext rfl rfl) ?_
  refine ro rfl rfl (st_ext rfl rfl) ?_
  refine ro rfl rfl (st_ext rfl rfl) ?_
  refine ro rfl rfl (st_as rfl) ?_
  refine ro rfl rfl (st_as rfl) ?_
  refine ro rfl rfl (st_as rfl) ?_
  refine rw_nilk ?_
  refine awp_seq ?_
  refine awp_rs ?_
  refine ro rfl rfl (st_mv rfl) ?_
  refine ro rfl rfl (st_bin (v := dB (y101.2.2 != (0 : Int))) rfl rfl rfl) ?_
  refine rw_nilk ?_
  refine awp_ite (b := (y101.2.2 != (0 : Int))) rfl (fun p102 => ?_) (fun p102 => ?_)
  · replace h := ite_T p102 h
    refine awp_rs ?_
    refine ro rfl rfl (st_build (vs := [dB false, .nilS]) bl25 rfl rfl) ?_
    refine ro rfl rfl (st_mv rfl) ?_
    refine rx (L' := [(1001, .row 0 25 [[dB a2.Cubes, dL 5 e_S_api_Line a2.Lines]]), (1002, .row 0 25 [[dB false, .nilS]])]) rfl rfl (st_stP ta25 rfl rfl rfl rfl rfl rfl rfl rfl) rfl ?_
    refine ro rfl rfl (st_as rfl) ?_
    refine rw_nilk ?_
    refine awp_ret ?_
    refine rt_then ?_
    injection h with h
    subst h
    exact ret_out (v := .tup [.agg [dB false, .nilS], dI .i64 y101.2.2]) (resV_many (resVs_cell (v := .agg [dB false, .nilS]) ta25 rfl rfl rfl rfl (resVs_tmp rfl resVs_nil))) (frz_tup ⟨(frz_agg ⟨(.keep rfl), (.nilS _), trivial⟩), (.keep rfl), trivial⟩)
  · replace h := ite_F p102 h
    refine awp_skip ?_
    refine nx_then ?_
    refine awp_seq ?_
    refine awp_rs ?_
    refine ro rfl rfl (st_mv rfl) ?_
    refine ro rfl rfl (st_ldP (v := .agg [dB a2.Cubes, dL 5 e_S_api_Line a2.Lines]) ta25 rfl rfl rfl rfl) ?_
    obtain ⟨y103, hy103, h⟩ := bind_some_elim h
    refine rf rfl rfl (ok_proof_Check hy103) rfl rfl ?_
    refine ro rfl rfl (st_mv rfl) ?_
    refine ro rfl rfl (st_ext rfl rfl) ?_
    refine ro rfl rfl (st_ext rfl rfl) ?_
    refine ro rfl rfl (st_ext rfl rfl) ?_
    refine ro rfl rfl (st_as rfl) ?_
    refine ro rfl rfl (st_as rfl) ?_
    refine ro rfl rfl (st_as rfl) ?_
    refine rw_nilk ?_
    refine awp_rs ?_
    refine ro rfl rfl (st_mv rfl) ?_
    refine ro rfl rfl (st_bin (v := dB (y103.2.2 != (0 : Int))) rfl rfl rfl) ?_
    refine rw_nilk ?_
    refine awp_ite (b := (y103.2.2 != (0 : Int))) rfl (fun p104 => ?_) (fun p104 => ?_)
    · replace h := ite_T p104 h
      refine awp_rs ?_
      refine ro rfl rfl (st_build (vs := [dB false, .nilS]) bl25 rfl rfl) ?_
      refine rx (L' := [(1001, .row 0 25 [[dB a2.Cubes, dL 5 e_S_api_Line a2.Lines]]), (1002, .row 0 25 [[dB false, .nilS]])]) rfl rfl (st_stP ta25 rfl rfl rfl rfl rfl rfl rfl rfl) rfl ?_
      refine ro rfl rfl (st_as rfl) ?_
      refine rw_nilk ?_
      refine awp_ret ?_
      refine rt_then ?_
      injection h with h
      subst h
      exact ret_out (v := .tup [.agg [dB false, .nilS], dI .i64 (100 : Int)]) (resV_many (resVs_cell (v := .agg [dB false, .nilS]) ta25 rfl rfl rfl rfl (resVs_tmp rfl resVs_nil))) (frz_tup ⟨(frz_agg ⟨(.keep rfl), (.nilS _), trivial⟩), (.keep rfl), trivial⟩)
    · replace h := ite_F p104 h
      refine awp_skip ?_
      refine nx_then ?_
      refine awp_seq ?_
      refine awp_rs ?_
      refine ro rfl rfl (st_faP fo25_1 rfl) ?_
      refine ro rfl rfl (st_ldP (v := dL 5 e_S_api_Line a2.Lines) ta23 rfl rfl rfl rfl) ?_
      refine ro rfl rfl (st_lenD rfl un23) ?_
      refine ro rfl rfl (st_mv rfl) ?_
      refine rw_nilk ?_
      refine awp_block ?_
      refine awp_len (t := 37) rfl (fun hl108 => ?_)
      rw [List.length_map] at hl108
      refine awp_range (fun (j108 : Nat) (s105 : (List S_api_Line)) (g106 : Nat) => [(0, dL 1 (eL 1 (eI .i64)) a0), (6, .ptr 1002 0 0 0), (9, dL 1 (eI .i64) y101.2.1), (37, dL 5 e_S_api_Line a2.Lines), (38, dI .i64 ((a2.Lines.length : Nat) : Int)), (39, dI .i64 ((j108 : Nat) : Int))]) (fun (s105 : (List S_api_Line)) (g106 : Nat) => [(1002, .row 0 25 [[dB false, .slice 1005 g106 0 s105.length]]), (1005, rw' g106 58 e_S_api_Line s105)]) 0 (fun _ _ _ h => h) h (Gh.trans (gh_nil (r := 1005) (E' := [(0, dL 1 (eL 1 (eI .i64)) a0), (6, .ptr 1002 0 0 0), (9, dL 1 (eI .i64) y101.2.1), (37, dL 5 e_S_api_Line a2.Lines), (38, dI .i64 ((a2.Lines.length : Nat) : Int)), (39, dI .i64 (0 : Int))]) (L' := [(1001, .row 0 25 [[dB a2.Cubes, dL 5 e_S_api_Line a2.Lines]]), (1002, .row 0 25 [[dB false, .slice 1005 0 0 (([] : List S_api_Line).length)]])]) rfl co58 rfl rfl ⟨⟨_, rfl, .keep _⟩, ⟨_, rfl, .keep _⟩, ⟨_, rfl, .keep _⟩, ⟨_, rfl, .keep _⟩, ⟨_, rfl, .keep _⟩, ⟨_, rfl, .keep _⟩, trivial⟩ ⟨⟨_, rfl, .keep _⟩, ⟨_, rfl, nilOne ⟨.keep _, .nil, trivial⟩⟩, trivial⟩) (gh_frz rfl rfl ⟨⟨_, rfl, .keep rfl⟩, ⟨_, rfl, .keep rfl⟩, ⟨_, rfl, .keep rfl⟩, ⟨_, rfl, .keep rfl⟩, ⟨_, rfl, .keep rfl⟩, ⟨_, rfl, .keep rfl⟩, trivial⟩ ⟨⟨_, rfl, objOne ⟨⟨rfl, .keep rfl⟩, ⟨rfl, .keep rfl⟩, trivial⟩⟩, ⟨_, rfl, objRow (List.map e_S_api_Line ([] : List S_api_Line))⟩, trivial⟩)) ?_ ?_
      · clear h
        intro j108 x109 s105 g106 k107 hj108 hx108 h ih107
        refine awp_rs ?_
        refine ro rfl rfl (st_bin (v := dB (decide (((j108 : Nat) : Int) < ((a2.Lines.length : Nat) : Int)))) rfl rfl rfl) ?_
        refine rw_nilk ?_
        refine awp_seq ?_
        refine awp_ifT rfl (dlt hj108) ?_
        refine awp_skip ?_
        refine nx_then ?_
        refine awp_seq ?_
        refine awp_block ?_
        refine awp_rs ?_
        refine ro rfl rfl (st_ixDn sl23 rfl rfl hx108) ?_
        refine ro rfl rfl (st_ldD (v := .agg [dI .u8 x109.Rule, dI .i64 x109.A, dI .i64 x109.B, dI .i64 x109.Piv, dL 1 (eI .i64) x109.Lits]) ta58 rfl rfl) ?_
        refine rn (r := 1006) rfl rfl (st_alloc zc58 rfl rfl) rfl ?_
        refine rx (L' := [(1002, .row 0 25 [[dB false, .slice 1005 g106 0 s105.length]]), (1005, rw' g106 58 e_S_api_Line s105), (1006, .row 0 58 [[dI .u8 x109.Rule, dI .i64 x109.A, dI .i64 x109.B, dI .i64 x109.Piv, dL 1 (eI .i64) x109.Lits]])]) rfl rfl (st_stP ta58 rfl rfl rfl rfl rfl rfl rfl rfl) rfl ?_
        refine rw_nilk ?_
        refine awp_jn (fun (s225 : (Int × (List Int))) (g226 : Unit) => [(0, dL 1 (eL 1 (eI .i64)) a0), (6, .ptr 1002 0 0 0), (9, dL 1 (eI .i64) y101.2.1), (14, .ptr 1006 0 0 0), (37, dL 5 e_S_api_Line a2.Lines), (38, dI .i64 ((a2.Lines.length : Nat) : Int)), (39, dI .i64 ((j108 : Nat) : Int))]) (fun (s225 : (Int × (List Int))) (g226 : Unit) => [(1002, .row 0 25 [[dB false, .slice 1005 g106 0 s105.length]]), (1005, rw' g106 58 e_S_api_Line s105), (1006, .row 0 58 [[dI .u8 x109.Rule, dI .i64 s225.1, dI .i64 x109.B, dI .i64 x109.Piv, dL 1 (eI .i64) s225.2]])]) h ?_ ?_
        · clear h
          intro s225 g226 h
          refine awp_rw ?_
          refine ro rfl rfl (st_faP fo25_1 rfl) ?_
          refine ro rfl rfl (st_ldP (v := .slice 1005 g106 0 s105.length) ta23 rfl rfl rfl rfl) ?_
          refine ro rfl rfl (st_ldP (v := .agg [dI .u8 x109.Rule, dI .i64 s225.1, dI .i64 x109.B, dI .i64 x109.Piv, dL 1 (eI .i64) s225.2]) ta58 rfl rfl rfl rfl) ?_
          refine rn (r := 1007) rfl rfl (st_bsl (els := [[dI .u8 x109.Rule, dI .i64 s225.1, dI .i64 x109.B, dI .i64 x109.Piv, dL 1 (eI .i64) s225.2]]) sl23 zc58 rfl rfl rfl rfl rfl) rfl ?_
          obtain ⟨c228, h⟩ := capN_some h
          refine rn (r := 0) (L' := [(1002, .row 0 25 [[dB false, .slice 1005 g106 0 s105.length]]), (1005, rw' (g106 + 2) 58 e_S_api_Line (s105 ++ [(S_api_Line.mk x109.Rule s225.1 x109.B x109.Piv s225.2)])), (1006, .row 0 58 [[dI .u8 x109.Rule, dI .i64 s225.1, dI .i64 x109.B, dI .i64 x109.Piv, dL 1 (eI .i64) s225.2]]), (1007, .row 1 58 [[dI .u8 x109.Rule, dI .i64 s225.1, dI .i64 x109.B, dI .i64 x109.Piv, dL 1 (eI .i64) s225.2]])]) rfl rfl (st_appR (f := e_S_api_Line) (xs := s105) (ys := [(S_api_Line.mk x109.Rule s225.1 x109.B x109.Piv s225.2)]) sl23 zc58 rfl rfl rfl rfl rfl (news_one (a := (S_api_Line.mk x109.Rule s225.1 x109.B x109.Piv s225.2)) rfl rfl) c228) rfl ?_
          refine ro rfl rfl (st_faP fo25_1 rfl) ?_
          refine rx (L' := [(1002, .row 0 25 [[dB false, .slice 1005 (g106 + 2) 0 ((s105 ++ [(S_api_Line.mk x109.Rule s225.1 x109.B x109.Piv s225.2)]).length)]]), (1005, rw' (g106 + 2) 58 e_S_api_Line (s105 ++ [(S_api_Line.mk x109.Rule s225.1 x109.B x109.Piv s225.2)])), (1006, .row 0 58 [[dI .u8 x109.Rule, dI .i64 s225.1, dI .i64 x109.B, dI .i64 x109.Piv, dL 1 (eI .i64) s225.2]]), (1007, .row 1 58 [[dI .u8 x109.Rule, dI .i64 s225.1, dI .i64 x109.B, dI .i64 x109.Piv, dL 1 (eI .i64) s225.2]])]) rfl rfl (st_stP ta23 rfl rfl rfl rfl rfl rfl rfl rfl) rfl ?_
          refine rw_nil ?_
          refine nx_block ?_
          refine nx_then ?_
          refine awp_rw ?_
          refine ro rfl rfl (st_inc rfl rfl hj108 hl108) ?_
          refine ro rfl rfl (st_mv rfl) ?_
          refine rw_nil ?_
          refine nx_then ?_
          refine awp_gh ?_ (ih107 (s105 ++ [(S_api_Line.mk x109.Rule s225.1 x109.B x109.Piv s225.2)]) (g106 + 2) h)
          exact (gh_frz rfl rfl ⟨⟨_, rfl, .keep rfl⟩, ⟨_, rfl, .keep rfl⟩, ⟨_, rfl, .keep rfl⟩, ⟨_, rfl, .keep rfl⟩, ⟨_, rfl, .keep rfl⟩, ⟨_, rfl, .keep rfl⟩, trivial⟩ ⟨⟨_, rfl, objOne ⟨⟨rfl, .keep rfl⟩, ⟨rfl, .keep rfl⟩, trivial⟩⟩, ⟨_, rfl, objRow _⟩, trivial⟩)
        · clear h
          intro k227 h J227
          refine awp_rs ?_
          refine ro rfl rfl (st_faP fo58_0 rfl) ?_
          refine ro rfl rfl (st_ldP (v := dI .u8 x109.Rule) ta56 rfl rfl rfl rfl) ?_
          refine ro rfl rfl (st_bin (v := dB (x109.Rule == (1 : Int))) rfl rfl rfl) ?_
          refine rw_nilk ?_
          refine awp_ite (b := (x109.Rule == (1 : Int))) rfl (fun p229 => ?_) (fun p229 => ?_)
          · replace h := ite_T p229 h
            refine awp_rs ?_
            refine ro rfl rfl (st_mv rfl) ?_
            refine ro rfl rfl (st_faP fo58_1 rfl) ?_
            refine ro rfl rfl (st_ldP (v := dI .i64 x109.A) ta3 rfl rfl rfl rfl) ?_
            obtain ⟨x230, h0230, hx230, h⟩ := getI_some h
            refine ro rfl rfl (st_ixD sl28 rfl rfl h0230 hx230) ?_
            refine ro rfl rfl (st_ldD (v := dI .i64 x230) ta3 rfl rfl) ?_
            refine ro rfl rfl (st_faP fo58_1 rfl) ?_
            refine rx (L' := [(1002, .row 0 25 [[dB false, .slice 1005 g106 0 s105.length]]), (1005, rw' g106 58 e_S_api_Line s105), (1006, .row 0 58 [[dI .u8 x109.Rule, dI .i64 x230, dI .i64 x109.B, dI .i64 x109.Piv, dL 1 (eI .i64) x109.Lits]])]) rfl rfl (st_stP ta3 rfl rfl rfl rfl rfl rfl rfl rfl) rfl ?_
            refine rw_nilk ?_
            refine awp_rw ?_
            refine ro rfl rfl (st_mv rfl) ?_
            refine ro rfl rfl (st_faP fo58_1 rfl) ?_
            refine ro rfl rfl (st_ldP (v := dI .i64 x230) ta3 rfl rfl rfl rfl) ?_
            obtain ⟨x231, h0231, hx231, h⟩ := getI_some h
            refine ro rfl rfl (st_ixD sl22 rfl rfl h0231 hx231) ?_
            refine ro rfl rfl (st_ldD (v := dL 1 (eI .i64) x231) ta28 rfl rfl) ?_
            obtain ⟨y232, hy232, h⟩ := bind_some_elim h
            refine rf rfl rfl (ok_slices_Clone_int_int hy232) rfl rfl ?_
            refine ro rfl rfl (st_faP fo58_4 rfl) ?_
            refine rx (L' := [(1002, .row 0 25 [[dB false, .slice 1005 g106 0 s105.length]]), (1005, rw' g106 58 e_S_api_Line s105), (1006, .row 0 58 [[dI .u8 x109.Rule, dI .i64 x230, dI .i64 x109.B, dI .i64 x109.Piv, dL 1 (eI .i64) y232]])]) rfl rfl (st_stP ta28 rfl rfl rfl rfl rfl rfl rfl rfl) rfl ?_
            refine rw_nil ?_
            refine nx_then ?_
            exact J227 (x230, y232) () _ _ h (gh_frz rfl rfl ⟨⟨_, rfl, .keep rfl⟩, ⟨_, rfl, .keep rfl⟩, ⟨_, rfl, .keep rfl⟩, ⟨_, rfl, .keep rfl⟩, ⟨_, rfl, .keep rfl⟩, ⟨_, rfl, .keep rfl⟩, ⟨_, rfl, .keep rfl⟩, trivial⟩ ⟨⟨_, rfl, objOne ⟨⟨rfl, .keep rfl⟩, ⟨rfl, .keep rfl⟩, trivial⟩⟩, ⟨_, rfl, objRow _⟩, ⟨_, rfl, objOne ⟨⟨rfl, .keep rfl⟩, ⟨rfl, .keep rfl⟩, ⟨rfl, .keep rfl⟩, ⟨rfl, .keep rfl⟩, ⟨rfl, .keep rfl⟩, trivial⟩⟩, trivial⟩)
          · replace h := ite_F p229 h
            refine awp_rd hmix ?_
            refine do_ rfl rfl (st_faP fo25_1 rfl) rfl rfl rfl ?_
            refine do_ rfl rfl (st_ldP (v := .slice 1005 g106 0 s105.length) ta23 rfl rfl rfl rfl) rfl rfl rfl ?_
            refine do_ rfl rfl (st_faP fo58_1 rfl) rfl rfl rfl ?_
            refine do_ rfl rfl (st_ldP (v := dI .i64 x109.A) ta3 rfl rfl rfl rfl) rfl rfl rfl ?_
            obtain ⟨x233, h0233, hx233, h⟩ := getI_some h
            refine do_ rfl rfl (st_ixRi sl23 rfl rfl rfl h0233 hx233 rfl) rfl rfl rfl ?_
            refine do_ rfl rfl (st_faP fo58_4 rfl) rfl rfl rfl ?_
            refine do_ rfl rfl (st_ldP (v := dL 1 (eI .i64) x233.Lits) ta28 rfl rfl (rowOf_map_get hx233) rfl) rfl rfl rfl ?_
            refine do_ rfl rfl (st_faP fo25_1 rfl) rfl rfl rfl ?_
            refine do_ rfl rfl (st_ldP (v := .slice 1005 g106 0 s105.length) ta23 rfl rfl rfl rfl) rfl rfl rfl ?_
            refine do_ rfl rfl (st_faP fo58_2 rfl) rfl rfl rfl ?_
            refine do_ rfl rfl (st_ldP (v := dI .i64 x109.B) ta3 rfl rfl rfl rfl) rfl rfl rfl ?_
            obtain ⟨x234, h0234, hx234, h⟩ := getI_some h
            refine do_ rfl rfl (st_ixRi sl23 rfl rfl rfl h0234 hx234 rfl) rfl rfl rfl ?_
            refine do_ rfl rfl (st_faP fo58_4 rfl) rfl rfl rfl ?_
            refine do_ rfl rfl (st_ldP (v := dL 1 (eI .i64) x234.Lits) ta28 rfl rfl (rowOf_map_get hx234) rfl) rfl rfl rfl ?_
            refine do_ rfl rfl (st_faP fo58_3 rfl) rfl rfl rfl ?_
            refine do_ rfl rfl (st_ldP (v := dI .i64 x109.Piv) ta3 rfl rfl rfl rfl) rfl rfl rfl ?_
            obtain ⟨y235, hy235, h⟩ := bind_some_elim h
            refine df rfl rfl (ok_proof_resolvent hy235) rfl rfl ?_
            refine do_ rfl rfl (st_mv rfl) rfl rfl rfl ?_
            refine do_ rfl rfl (st_ext rfl rfl) rfl rfl rfl ?_
            refine do_ rfl rfl (st_ext rfl rfl) rfl rfl rfl ?_
            refine do_ rfl rfl (st_faP fo58_4 rfl) rfl rfl rfl ?_
            refine dx (L' := [(1002, .row 0 25 [[dB false, .slice 1005 g106 0 s105.length]]), (1005, rw' g106 58 e_S_api_Line s105), (1006, .row 0 58 [[dI .u8 x109.Rule, dI .i64 x109.A, dI .i64 x109.B, dI .i64 x109.Piv, dL 1 (eI .i64) y235.1]])]) rfl rfl (st_stP ta28 rfl rfl rfl rfl rfl rfl rfl rfl) rfl rfl rfl rfl ?_
            refine rd_nil (by kernel_rfl) ?_
            refine nx_then ?_
            exact J227 (x109.A, y235.1) () _ _ h (gh_frz rfl rfl ⟨⟨_, rfl, .keep rfl⟩, ⟨_, rfl, .keep rfl⟩, ⟨_, rfl, .keep rfl⟩, ⟨_, rfl, .keep rfl⟩, ⟨_, rfl, .keep rfl⟩, ⟨_, rfl, .keep rfl⟩, ⟨_, rfl, .keep rfl⟩, trivial⟩ ⟨⟨_, rfl, objOne ⟨⟨rfl, .keep rfl⟩, ⟨rfl, .keep rfl⟩, trivial⟩⟩, ⟨_, rfl, objRow _⟩, ⟨_, rfl, objOne ⟨⟨rfl, .keep rfl⟩, ⟨rfl, .keep rfl⟩, ⟨rfl, .keep rfl⟩, ⟨rfl, .keep rfl⟩, ⟨rfl, .keep rfl⟩, trivial⟩⟩, trivial⟩)
      · clear h
        intro s105 g106 h
        refine awp_rs ?_
        refine ro rfl rfl (st_bin (v := dB (decide (((a2.Lines.length : Nat) : Int) < ((a2.Lines.length : Nat) : Int)))) rfl rfl rfl) ?_
        refine rw_nilk ?_
        refine awp_seq ?_
        refine awp_ifF rfl dge ?_
        refine awp_exit ?_
        refine ex_out ?_
        refine ex_out ?_
        refine ex_in ?_
        refine nx_then ?_
        refine awp_rs ?_
        refine ro rfl rfl (st_ldP (v := .agg [dB false, .slice 1005 g106 0 s105.length]) ta25 rfl rfl rfl rfl) ?_
        refine rx (L' := [(1002, .row 0 25 [[dB false, .slice 1005 g106 0 s105.length]]), (1005, rw' g106 58 e_S_api_Line s105)]) rfl rfl (st_stP ta25 rfl rfl rfl rfl rfl rfl rfl rfl) rfl ?_
        refine ro rfl rfl (st_as rfl) ?_
        refine rw_nilk ?_
        refine awp_ret ?_
        injection h with h
        subst h
        exact ret_out (v := .tup [.agg [dB false, .slice 1005 g106 0 s105.length], dI .i64 (0 : Int)]) (resV_many (resVs_cell (v := .agg [dB false, .slice 1005 g106 0 s105.length]) ta25 rfl rfl rfl rfl (resVs_tmp rfl resVs_nil))) (frz_tup ⟨(frz_agg ⟨(.keep rfl), (frzT rfl rfl co58 rfl), trivial⟩), (.keep rfl), trivial⟩)

theorem ok_skolemlaw10_meets {a0 : (List Int)} {a1 : (List Int)} {r : Bool} (h : F_skolemlaw10_meets a0 a1 = some r) : Fn Try.prog 34 [dL 1 (eI .i64) a0, dL 1 (eI .i64) a1] (dB r) := by
  unfold F_skolemlaw10_meets at h
  refine Fn.of_body (N := 18) (rs := [.tmp 4]) Try.func34 (c := _) rfl rfl rfl (by kernel_rfl) (Nat.le_of_ble_eq_true rfl) (fun _B => ?_)
  refine awp_rs ?_
  refine ro rfl rfl (st_as rfl) ?_
  refine rw_nilk ?_
  refine awp_seq ?_
  refine awp_rs ?_
  refine ro rfl rfl (st_as rfl) ?_
  refine rw_nilk ?_
  refine awp_block ?_
  refine awp_len (t := 0) rfl (fun hl104 => ?_)
  rw [List.length_map] at hl104
  refine awp_range (fun (j104 : Nat) (s101 : Unit) (g102 : Unit) => [(0, dL 1 (eI .i64) a0), (1, dL 1 (eI .i64) a1), (5, dI .i64 ((j104 : Nat) : Int))]) (fun (s101 : Unit) (g102 : Unit) => []) () (fun _ _ _ h => h) h (gh_frz rfl rfl ⟨⟨_, rfl, .keep rfl⟩, ⟨_, rfl, .keep rfl⟩, ⟨_, rfl, .keep rfl⟩, trivial⟩ trivial) ?_ ?_
  · clear h
    intro j104 x105 s101 g102 k103 hj104 hx104 h ih103
    refine awp_seq ?_
    refine awp_rs ?_
    refine ro rfl rfl (st_mv rfl) ?_
    refine ro rfl rfl (st_mv rfl) ?_
    refine ro rfl rfl (st_lenD rfl un28) ?_
    refine ro rfl rfl (st_bin (v := dB (decide (((j104 : Nat) : Int) < ((a0.length : Nat) : Int)))) rfl rfl rfl) ?_
    refine rw_nilk ?_
    refine awp_ifT rfl (dlt hj104) ?_
    refine awp_skip ?_
    refine nx_then ?_
    refine awp_seq ?_
    refine awp_block ?_
    refine awp_rs ?_
    refine ro rfl rfl (st_mv rfl) ?_
    refine ro rfl rfl (st_mv rfl) ?_
    refine ro rfl rfl (st_mv rfl) ?_
    refine ro rfl rfl (st_ixDn sl28 rfl rfl hx104) ?_
    refine ro rfl rfl (st_ldD (v := dI .i64 x105) ta3 rfl rfl) ?_
    obtain ⟨y108, hy108, h⟩ := bind_some_elim h
    refine rf rfl rfl (ok_skolemref09_Has hy108) rfl rfl ?_
    refine rw_nilk ?_
    refine awp_ite (b := y108) rfl (fun p109 => ?_) (fun p109 => ?_)
    · replace h := ite_T p109 h
      refine awp_rs ?_
      refine ro rfl rfl (st_as rfl) ?_
      refine rw_nilk ?_
      refine awp_ret ?_
      refine rt_block ?_
      refine rt_then ?_
      refine rt_then ?_
      refine rt_block ?_
      refine rt_then ?_
      injection h with h
      subst h
      exact ret_out (v := dB true) (resV_one (resVs_tmp rfl resVs_nil)) (.keep rfl)
    · replace h := ite_F p109 h
      refine awp_skip ?_
      refine nx_block ?_
      refine nx_then ?_
      refine awp_rw ?_
      refine ro rfl rfl (st_mv rfl) ?_
      refine ro rfl rfl (st_inc rfl rfl hj104 hl104) ?_
      refine ro rfl rfl (st_as rfl) ?_
      refine rw_nil ?_
      refine nx_then ?_
      refine awp_gh ?_ (ih103 () () h)
      exact (gh_frz rfl rfl ⟨⟨_, rfl, .keep rfl⟩, ⟨_, rfl, .keep rfl⟩, ⟨_, rfl, .keep rfl⟩, trivial⟩ trivial)
  · clear h
    intro s101 g102 h
    refine awp_seq ?_
    refine awp_rs ?_
    refine ro rfl rfl (st_mv rfl) ?_
    refine ro rfl rfl (st_mv rfl) ?_
    refine ro rfl rfl (st_lenD rfl un28) ?_
    refine ro rfl rfl (st_bin (v := dB (decide (((a0.length : Nat) : Int) < ((a0.length : Nat) : Int)))) rfl rfl rfl) ?_
    refine rw_nilk ?_
    refine awp_ifF rfl dge ?_
    refine awp_exit ?_
    refine ex_out ?_
    refine ex_out ?_
    refine ex_in ?_
    refine nx_then ?_
    refine awp_rs ?_
    refine ro rfl rfl (st_as rfl) ?_
    refine rw_nilk ?_
    refine awp_ret ?_
    injection h with h
    subst h
    exact ret_out (v := dB false) (resV_one (resVs_tmp rfl resVs_nil)) (.keep rfl)

theorem ok_skolemlaw10_part {a0 : (List Int)} {a1 : (List Int)} {r : Bool} (h : F_skolemlaw10_part a0 a1 = some r) : Fn Try.prog 35 [dL 1 (eI .i64) a0, dL 1 (eI .i64) a1] (dB r) := by
  unfold F_skolemlaw10_part at h
  refine Fn.of_body (N := 19) (rs := [.tmp 4]) Try.func35 (c := _) rfl rfl rfl (by kernel_rfl) (Nat.le_of_ble_eq_true rfl) (fun _B => ?_)
  refine awp_rs ?_
  refine ro rfl rfl (st_as rfl) ?_
  refine rw_nilk ?_
  refine awp_seq ?_
  refine awp_rs ?_
  refine ro rfl rfl (st_as rfl) ?_
  refine rw_nilk ?_
  refine awp_block ?_
  refine awp_len (t := 0) rfl (fun hl104 => ?_)
  rw [List.length_map] at hl104
  refine awp_range (fun (j104 : Nat) (s101 : Unit) (g102 : Unit) => [(0, dL 1 (eI .i64) a0), (1, dL 1 (eI .i64) a1), (5, dI .i64 ((j104 : Nat) : Int))]) (fun (s101 : Unit) (g102 : Unit) => []) () (fun _ _ _ h => h) h (gh_frz rfl rfl ⟨⟨_, rfl, .keep rfl⟩, ⟨_, rfl, .keep rfl⟩, ⟨_, rfl, .keep rfl⟩, trivial⟩ trivial) ?_ ?_
  · clear h
    intro j104 x105 s101 g102 k103 hj104 hx104 h ih103
    refine awp_seq ?_
    refine awp_rs ?_
    refine ro rfl rfl (st_mv rfl) ?_
    refine ro rfl rfl (st_mv rfl) ?_
    refine ro rfl rfl (st_lenD rfl un28) ?_
    refine ro rfl rfl (st_bin (v := dB (decide (((j104 : Nat) : Int) < ((a0.length : Nat) : Int)))) rfl rfl rfl) ?_
    refine rw_nilk ?_
    refine awp_ifT rfl (dlt hj104) ?_
    refine awp_skip ?_
    refine nx_then ?_
    refine awp_seq ?_
    refine awp_block ?_
    refine awp_rs ?_
    refine ro rfl rfl (st_mv rfl) ?_
    refine ro rfl rfl (st_mv rfl) ?_
    refine ro rfl rfl (st_mv rfl) ?_
    refine ro rfl rfl (st_ixDn sl28 rfl rfl hx104) ?_
    refine ro rfl rfl (st_ldD (v := dI .i64 x105) ta3 rfl rfl) ?_
    obtain ⟨y108, hy108, h⟩ := bind_some_elim h
    refine rf rfl rfl (ok_skolemref09_Has hy108) rfl rfl ?_
    refine ro rfl rfl (st_un (v := dB (!y108)) rfl rfl) ?_
    refine rw_nilk ?_
    refine awp_ite (b := (!y108)) rfl (fun p109 => ?_) (fun p109 => ?_)
    · replace h := ite_T p109 h
      refine awp_rs ?_
      refine ro rfl rfl (st_as rfl) ?_
      refine rw_nilk ?_
      refine awp_ret ?_
      refine rt_block ?_
      refine rt_then ?_
      refine rt_then ?_
      refine rt_block ?_
      refine rt_then ?_
      injection h with h
      subst h
      exact ret_out (v := dB false) (resV_one (resVs_tmp rfl resVs_nil)) (.keep rfl)
    · replace h := ite_F p109 h
      refine awp_skip ?_
      refine nx_block ?_
      refine nx_then ?_
      refine awp_rw ?_
      refine ro rfl rfl (st_mv rfl) ?_
      refine ro rfl rfl (st_inc rfl rfl hj104 hl104) ?_
      refine ro rfl rfl (st_as rfl) ?_
      refine rw_nil ?_
      refine nx_then ?_
      refine awp_gh ?_ (ih103 () () h)
      exact (gh_frz rfl rfl ⟨⟨_, rfl, .keep rfl⟩, ⟨_, rfl, .keep rfl⟩, ⟨_, rfl, .keep rfl⟩, trivial⟩ trivial)
  · clear h
    intro s101 g102 h
    refine awp_seq ?_
    refine awp_rs ?_
    refine ro rfl rfl (st_mv rfl) ?_
    refine ro rfl rfl (st_mv rfl) ?_
    refine ro rfl rfl (st_lenD rfl un28) ?_
    refine ro rfl rfl (st_bin (v := dB (decide (((a0.length : Nat) : Int) < ((a0.length : Nat) : Int)))) rfl rfl rfl) ?_
    refine rw_nilk ?_
    refine awp_ifF rfl dge ?_
    refine awp_exit ?_
    refine ex_out ?_
    refine ex_out ?_
    refine ex_in ?_
    refine nx_then ?_
    refine awp_rs ?_
    refine ro rfl rfl (st_as rfl) ?_
    refine rw_nilk ?_
    refine awp_ret ?_
    injection h with h
    subst h
    exact ret_out (v := dB true) (resV_one (resVs_tmp rfl resVs_nil)) (.keep rfl)

theorem ok_skolemlaw10_ProofUnder {a0 : (List (List Int))} {a1 : S_api_Proof} {a2 : (List Int)} {r : Bool} (h : F_skolemlaw10_ProofUnder a0 a1 a2 = some r) : Fn Try.prog 8 [dL 1 (eL 1 (eI .i64)) a0, .agg [dB a1.Cubes, dL 5 e_S_api_Line a1.Lines], dL 1 (eI .i64) a2] (dB r) := by
  unfold F_skolemlaw10_ProofUnder at h
  refine Fn.of_body (N := 185) (rs := [.tmp 6]) Try.func8 (c := _) rfl rfl rfl (by kernel_rfl) (Nat.le_of_ble_eq_true rfl) (fun _B => ?_)
  refine awp_rs ?_
  refine rn (r := 1001) rfl rfl (st_box rfl rfl rfl co25 rfl rfl) rfl ?_
  refine ro rfl rfl (st_as rfl) ?_
  refine rw_nilk ?_
  refine awp_seq ?_
  refine awp_jn (fun (s112 : Bool) (g113 : Unit) => [(0, dL 1 (eL 1 (eI .i64)) a0), (2, dL 1 (eI .i64) a2), (4, .ptr 1001 0 0 0), (29, dB s112)]) (fun (s112 : Bool) (g113 : Unit) => [(1001, .row 0 25 [[dB a1.Cubes, dL 5 e_S_api_Line a1.Lines]])]) h ?_ ?_
  · clear h
    intro s112 g113 h
    refine awp_ite (b := s112) rfl (fun p115 => ?_) (fun p115 => ?_)
    · replace h := ite_T p115 h
      refine awp_rs ?_
      obtain ⟨y116, hy116, h⟩ := bind_some_elim h
      refine rf rfl rfl (ok_skolemlaw10_head hy116) rfl rfl ?_
      refine ro rfl rfl (st_as rfl) ?_
      refine rw_nilk ?_
      refine awp_ret ?_
      refine rt_then ?_
      injection h with h
      subst h
      exact ret_out (v := dB y116) (resV_one (resVs_tmp rfl resVs_nil)) (.keep rfl)
    · replace h := ite_F p115 h
      refine awp_skip ?_
      refine nx_then ?_
      refine awp_rs ?_
      refine ro rfl rfl (st_mv rfl) ?_
      refine ro rfl rfl (st_ldP (v := .agg [dB a1.Cubes, dL 5 e_S_api_Line a1.Lines]) ta25 rfl rfl rfl rfl) ?_
      obtain ⟨y117, hy117, h⟩ := bind_some_elim h
      refine rf rfl rfl (ok_skolemref09_Check hy117) rfl rfl ?_
      refine ro rfl rfl (st_mv rfl) ?_
      refine ro rfl rfl (st_ext rfl rfl) ?_
      refine ro rfl rfl (st_ext rfl rfl) ?_
      refine ro rfl rfl (st_as rfl) ?_
      refine ro rfl rfl (st_as rfl) ?_
      refine rw_nilk ?_
      refine awp_rs ?_
      refine ro rfl rfl (st_mv rfl) ?_
      refine ro rfl rfl (st_ldP (v := .agg [dB a1.Cubes, dL 5 e_S_api_Line a1.Lines]) ta25 rfl rfl rfl rfl) ?_
      refine ro rfl rfl (st_mv rfl) ?_
      obtain ⟨y118, hy118, h⟩ := bind_some_elim h
      refine rf rfl rfl (ok_proof_Restrict hy118) rfl rfl ?_
      refine ro rfl rfl (st_mv rfl) ?_
      refine ro rfl rfl (st_ext rfl rfl) ?_
      refine ro rfl rfl (st_ext rfl rfl) ?_
      refine rn (r := 1002) rfl rfl (st_alloc zc25 rfl rfl) rfl ?_
      refine rx (L' := [(1001, .row 0 25 [[dB a1.Cubes, dL 5 e_S_api_Line a1.Lines]]), (1002, .row 0 25 [[dB y118.1.Cubes, dL 5 e_S_api_Line y118.1.Lines]])]) rfl rfl (st_stP ta25 rfl rfl rfl rfl rfl rfl rfl rfl) rfl ?_
      refine ro rfl rfl (st_as rfl) ?_
      refine rw_nilk ?_
      refine awp_seq ?_
      refine awp_jn (fun (s135 : Bool) (g136 : Unit) => [(0, dL 1 (eL 1 (eI .i64)) a0), (2, dL 1 (eI .i64) a2), (4, .ptr 1001 0 0 0), (7, dL 1 (eI .i64) y117.1), (9, .ptr 1002 0 0 0), (10, dI .i64 y118.2), (50, dB s135)]) (fun (s135 : Bool) (g136 : Unit) => [(1001, .row 0 25 [[dB a1.Cubes, dL 5 e_S_api_Line a1.Lines]]), (1002, .row 0 25 [[dB y118.1.Cubes, dL 5 e_S_api_Line y118.1.Lines]])]) h ?_ ?_
      · clear h
        intro s135 g136 h
        refine awp_ite (b := s135) rfl (fun p138 => ?_) (fun p138 => ?_)
        · replace h := ite_T p138 h
          refine awp_rs ?_
          refine ro rfl rfl (st_mv rfl) ?_
          refine ro rfl rfl (st_bin (v := dB (y118.2 != (0 : Int))) rfl rfl rfl) ?_
          refine ro rfl rfl (st_mv rfl) ?_
          refine bool_split (y118.2 != (0 : Int)) (fun p142 => ?_) (fun p142 => ?_)
          · replace h := ite_T p142 h
            rw [p142]
            refine ro rfl rfl (st_faP fo25_1 rfl) ?_
            refine ro rfl rfl (st_ldP (v := dL 5 e_S_api_Line y118.1.Lines) ta23 rfl rfl rfl rfl) ?_
            refine ro rfl rfl (st_lenD rfl un23) ?_
            refine ro rfl rfl (st_bin (v := dB (((y118.1.Lines.length : Nat) : Int) == (0 : Int))) rfl rfl rfl) ?_
            refine ro rfl rfl (st_pickT rfl rfl) ?_
            refine ro rfl rfl (st_mv rfl) ?_
            refine bool_split (((y118.1.Lines.length : Nat) : Int) == (0 : Int)) (fun p143 => ?_) (fun p143 => ?_)
            · replace h := ite_T p143 h
              rw [p143]
              obtain ⟨y144, hy144, h⟩ := bind_some_elim h
              refine rf rfl rfl (ok_skolemlaw10_head hy144) rfl rfl ?_
              refine ro rfl rfl (st_pickT rfl rfl) ?_
              refine ro rfl rfl (st_as rfl) ?_
              refine rw_nilk ?_
              refine awp_ret ?_
              refine rt_then ?_
              injection h with h
              subst h
              exact ret_out (v := dB y144) (resV_one (resVs_tmp rfl resVs_nil)) (.keep rfl)
            · replace h := ite_F p143 h
              rw [p143]
              refine rz rfl rfl ?_
              refine ro rfl rfl (st_pickF rfl rfl) ?_
              refine ro rfl rfl (st_as rfl) ?_
              refine rw_nilk ?_
              refine awp_ret ?_
              refine rt_then ?_
              injection h with h
              subst h
              exact ret_out (v := dB false) (resV_one (resVs_tmp rfl resVs_nil)) (.keep rfl)
          · replace h := ite_F p142 h
            rw [p142]
            refine rz rfl rfl ?_
            refine rz rfl rfl ?_
            refine rz rfl rfl ?_
            refine rz rfl rfl ?_
            refine ro rfl rfl (st_pickF rfl rfl) ?_
            refine ro rfl rfl (st_mv rfl) ?_
            refine rz rfl rfl ?_
            refine ro rfl rfl (st_pickF rfl rfl) ?_
            refine ro rfl rfl (st_as rfl) ?_
            refine rw_nilk ?_
            refine awp_ret ?_
            refine rt_then ?_
            injection h with h
            subst h
            exact ret_out (v := dB false) (resV_one (resVs_tmp rfl resVs_nil)) (.keep rfl)
        · replace h := ite_F p138 h
          refine awp_skip ?_
          refine nx_then ?_
          refine awp_seq ?_
          refine awp_rs ?_
          refine ro rfl rfl (st_mv rfl) ?_
          refine ro rfl rfl (st_bin (v := dB (y118.2 != (0 : Int))) rfl rfl rfl) ?_
          refine rw_nilk ?_
          refine awp_ite (b := (y118.2 != (0 : Int))) rfl (fun p145 => ?_) (fun p145 => ?_)
          · replace h := ite_T p145 h
            refine awp_rs ?_
            refine ro rfl rfl (st_mv rfl) ?_
            refine ro rfl rfl (st_bin (v := dB (y118.2 == (8 : Int))) rfl rfl rfl) ?_
            refine ro rfl rfl (st_mv rfl) ?_
            refine bool_split (y118.2 == (8 : Int)) (fun p150 => ?_) (fun p150 => ?_)
            · replace h := ite_T p150 h
              rw [p150]
              refine ro rfl rfl (st_mv rfl) ?_
              refine ro rfl rfl (st_mv rfl) ?_
              obtain ⟨y151, hy151, h⟩ := bind_some_elim h
              refine rf rfl rfl (ok_skolemlaw10_meets hy151) rfl rfl ?_
              refine ro rfl rfl (st_pickT rfl rfl) ?_
              refine ro rfl rfl (st_mv rfl) ?_
              refine bool_split y151 (fun p152 => ?_) (fun p152 => ?_)
              · replace h := ite_T p152 h
                rw [p152]
                obtain ⟨y153, hy153, h⟩ := bind_some_elim h
                refine rf rfl rfl (ok_skolemlaw10_head hy153) rfl rfl ?_
                refine ro rfl rfl (st_pickT rfl rfl) ?_
                refine ro rfl rfl (st_as rfl) ?_
                refine rw_nilk ?_
                refine awp_ret ?_
                refine rt_then ?_
                injection h with h
                subst h
                exact ret_out (v := dB y153) (resV_one (resVs_tmp rfl resVs_nil)) (.keep rfl)
              · replace h := ite_F p152 h
                rw [p152]
                refine rz rfl rfl ?_
                refine ro rfl rfl (st_pickF rfl rfl) ?_
                refine ro rfl rfl (st_as rfl) ?_
                refine rw_nilk ?_
                refine awp_ret ?_
                refine rt_then ?_
                injection h with h
                subst h
                exact ret_out (v := dB false) (resV_one (resVs_tmp rfl resVs_nil)) (.keep rfl)
            · replace h := ite_F p150 h
              rw [p150]
              refine rz rfl rfl ?_
              refine rz rfl rfl ?_
              refine rz rfl rfl ?_
              refine ro rfl rfl (st_pickF rfl rfl) ?_
              refine ro rfl rfl (st_mv rfl) ?_
              refine rz rfl rfl ?_
              refine ro rfl rfl (st_pickF rfl rfl) ?_
              refine ro rfl rfl (st_as rfl) ?_
              refine rw_nilk ?_
              refine awp_ret ?_
              refine rt_then ?_
              injection h with h
              subst h
              exact ret_out (v := dB false) (resV_one (resVs_tmp rfl resVs_nil)) (.keep rfl)
          · replace h := ite_F p145 h
            refine awp_skip ?_
            refine nx_then ?_
            refine awp_rs ?_
            refine ro rfl rfl (st_mv rfl) ?_
            refine ro rfl rfl (st_mv rfl) ?_
            obtain ⟨y154, hy154, h⟩ := bind_some_elim h
            refine rf rfl rfl (ok_proof_Under hy154) rfl rfl ?_
            refine ro rfl rfl (st_mv rfl) ?_
            refine ro rfl rfl (st_ext rfl rfl) ?_
            refine ro rfl rfl (st_ext rfl rfl) ?_
            refine ro rfl rfl (st_ext rfl rfl) ?_
            refine ro rfl rfl (st_as rfl) ?_
            refine ro rfl rfl (st_as rfl) ?_
            refine ro rfl rfl (st_as rfl) ?_
            refine rw_nilk ?_
            refine awp_rs ?_
            refine ro rfl rfl (st_mv rfl) ?_
            refine ro rfl rfl (st_ldP (v := .agg [dB y118.1.Cubes, dL 5 e_S_api_Line y118.1.Lines]) ta25 rfl rfl rfl rfl) ?_
            obtain ⟨y155, hy155, h⟩ := bind_some_elim h
            refine rf rfl rfl (ok_skolemref09_Check hy155) rfl rfl ?_
            refine ro rfl rfl (st_mv rfl) ?_
            refine ro rfl rfl (st_ext rfl rfl) ?_
            refine ro rfl rfl (st_ext rfl rfl) ?_
            refine ro rfl rfl (st_as rfl) ?_
            refine ro rfl rfl (st_as rfl) ?_
            refine rw_nilk ?_
            refine awp_rs ?_
            refine ro rfl rfl (st_mv rfl) ?_
            refine ro rfl rfl (st_mv rfl) ?_
            refine ro rfl rfl (st_ldP (v := .agg [dB y118.1.Cubes, dL 5 e_S_api_Line y118.1.Lines]) ta25 rfl rfl rfl rfl) ?_
            obtain ⟨y156, hy156, h⟩ := bind_some_elim h
            refine rf rfl rfl (ok_proof_Lift hy156) rfl rfl ?_
            refine ro rfl rfl (st_mv rfl) ?_
            refine ro rfl rfl (st_ext rfl rfl) ?_
            refine ro rfl rfl (st_ext rfl rfl) ?_
            refine rn (r := 1003) rfl rfl (st_alloc zc25 rfl rfl) rfl ?_
            refine rx (L' := [(1001, .row 0 25 [[dB a1.Cubes, dL 5 e_S_api_Line a1.Lines]]), (1002, .row 0 25 [[dB y118.1.Cubes, dL 5 e_S_api_Line y118.1.Lines]]), (1003, .row 0 25 [[dB y156.1.Cubes, dL 5 e_S_api_Line y156.1.Lines]])]) rfl rfl (st_stP ta25 rfl rfl rfl rfl rfl rfl rfl rfl) rfl ?_
            refine ro rfl rfl (st_as rfl) ?_
            refine rw_nilk ?_
            refine awp_rs ?_
            refine ro rfl rfl (st_mv rfl) ?_
            refine ro rfl rfl (st_ldP (v := .agg [dB y156.1.Cubes, dL 5 e_S_api_Line y156.1.Lines]) ta25 rfl rfl rfl rfl) ?_
            obtain ⟨y157, hy157, h⟩ := bind_some_elim h
            refine rf rfl rfl (ok_skolemref09_Check hy157) rfl rfl ?_
            refine ro rfl rfl (st_mv rfl) ?_
            refine ro rfl rfl (st_ext rfl rfl) ?_
            refine ro rfl rfl (st_ext rfl rfl) ?_
            refine ro rfl rfl (st_as rfl) ?_
            refine ro rfl rfl (st_as rfl) ?_
            refine rw_nilk ?_
            refine awp_seq ?_
            refine awp_jn (fun (s186 : Bool) (g187 : Unit) => [(2, dL 1 (eI .i64) a2), (14, dL 1 (eI .i64) y155.1), (18, dL 1 (eI .i64) y157.1), (139, dB s186)]) (fun (s186 : Bool) (g187 : Unit) => []) h ?_ ?_
            · clear h
              intro s186 g187 h
              refine awp_ite (b := s186) rfl (fun p189 => ?_) (fun p189 => ?_)
              · replace h := ite_T p189 h
                refine awp_rs ?_
                refine ro rfl rfl (st_as rfl) ?_
                refine rw_nilk ?_
                refine awp_ret ?_
                refine rt_then ?_
                injection h with h
                subst h
                exact ret_out (v := dB false) (resV_one (resVs_tmp rfl resVs_nil)) (.keep rfl)
              · replace h := ite_F p189 h
                refine awp_skip ?_
                refine nx_then ?_
                refine awp_seq ?_
                refine awp_rs ?_
                refine ro rfl rfl (st_as rfl) ?_
                refine rw_nilk ?_
                refine awp_block ?_
                refine awp_len (t := 18) rfl (fun hl193 => ?_)
                rw [List.length_map] at hl193
                refine awp_range (fun (j193 : Nat) (s190 : Unit) (g191 : Unit) => [(2, dL 1 (eI .i64) a2), (14, dL 1 (eI .i64) y155.1), (18, dL 1 (eI .i64) y157.1), (20, dI .i64 ((j193 : Nat) : Int))]) (fun (s190 : Unit) (g191 : Unit) => []) () (fun _ _ _ h => h) h (gh_frz rfl rfl ⟨⟨_, rfl, .keep rfl⟩, ⟨_, rfl, .keep rfl⟩, ⟨_, rfl, .keep rfl⟩, ⟨_, rfl, .keep rfl⟩, trivial⟩ trivial) ?_ ?_
                · clear h
                  intro j193 x194 s190 g191 k192 hj193 hx193 h ih192
                  refine awp_seq ?_
                  refine awp_rs ?_
                  refine ro rfl rfl (st_mv rfl) ?_
                  refine ro rfl rfl (st_mv rfl) ?_
                  refine ro rfl rfl (st_lenD rfl un28) ?_
                  refine ro rfl rfl (st_bin (v := dB (decide (((j193 : Nat) : Int) < ((y157.1.length : Nat) : Int)))) rfl rfl rfl) ?_
                  refine rw_nilk ?_
                  refine awp_ifT rfl (dlt hj193) ?_
                  refine awp_skip ?_
                  refine nx_then ?_
                  refine awp_seq ?_
                  refine awp_block ?_
                  refine awp_jn (fun (s228 : Bool) (g229 : Unit) => [(2, dL 1 (eI .i64) a2), (14, dL 1 (eI .i64) y155.1), (18, dL 1 (eI .i64) y157.1), (20, dI .i64 ((j193 : Nat) : Int)), (162, dB s228)]) (fun (s228 : Bool) (g229 : Unit) => []) h ?_ ?_
                  · clear h
                    intro s228 g229 h
                    refine awp_ite (b := s228) rfl (fun p231 => ?_) (fun p231 => ?_)
                    · replace h := ite_T p231 h
                      refine awp_rs ?_
                      refine ro rfl rfl (st_as rfl) ?_
                      refine rw_nilk ?_
                      refine awp_ret ?_
                      refine rt_block ?_
                      refine rt_then ?_
                      refine rt_then ?_
                      refine rt_block ?_
                      refine rt_then ?_
                      injection h with h
                      subst h
                      exact ret_out (v := dB false) (resV_one (resVs_tmp rfl resVs_nil)) (.keep rfl)
                    · replace h := ite_F p231 h
                      refine awp_skip ?_
                      refine nx_block ?_
                      refine nx_then ?_
                      refine awp_rw ?_
                      refine ro rfl rfl (st_mv rfl) ?_
                      refine ro rfl rfl (st_inc rfl rfl hj193 hl193) ?_
                      refine ro rfl rfl (st_as rfl) ?_
                      refine rw_nil ?_
                      refine nx_then ?_
                      refine awp_gh ?_ (ih192 () () h)
                      exact (gh_frz rfl rfl ⟨⟨_, rfl, .keep rfl⟩, ⟨_, rfl, .keep rfl⟩, ⟨_, rfl, .keep rfl⟩, ⟨_, rfl, .keep rfl⟩, trivial⟩ trivial)
                  · clear h
                    intro k230 h J230
                    refine awp_rw ?_
                    refine ro rfl rfl (st_mv rfl) ?_
                    refine ro rfl rfl (st_mv rfl) ?_
                    refine ro rfl rfl (st_mv rfl) ?_
                    refine ro rfl rfl (st_ixDn sl28 rfl rfl hx193) ?_
                    refine ro rfl rfl (st_ldD (v := dI .i64 x194) ta3 rfl rfl) ?_
                    obtain ⟨y232, hy232, h⟩ := bind_some_elim h
                    refine rf rfl rfl (ok_skolemref09_Has hy232) rfl rfl ?_
                    refine ro rfl rfl (st_un (v := dB (!y232)) rfl rfl) ?_
                    refine ro rfl rfl (st_mv rfl) ?_
                    refine bool_split (!y232) (fun p233 => ?_) (fun p233 => ?_)
                    · replace h := ite_T p233 h
                      rw [p233]
                      refine ro rfl rfl (st_mv rfl) ?_
                      refine ro rfl rfl (st_mv rfl) ?_
                      refine ro rfl rfl (st_mv rfl) ?_
                      refine ro rfl rfl (st_ixDn sl28 rfl rfl hx193) ?_
                      refine ro rfl rfl (st_ldD (v := dI .i64 x194) ta3 rfl rfl) ?_
                      refine ro rfl rfl (st_un (v := dI .i64 (IntKind.wrap .i64 (0 - x194))) rfl rfl) ?_
                      obtain ⟨y234, hy234, h⟩ := bind_some_elim h
                      refine rf rfl rfl (ok_skolemref09_Has hy234) rfl rfl ?_
                      refine ro rfl rfl (st_un (v := dB (!y234)) rfl rfl) ?_
                      refine ro rfl rfl (st_pickT rfl rfl) ?_
                      refine rw_nil ?_
                      refine nx_then ?_
                      exact J230 (!y234) () _ _ h (gh_frz rfl rfl ⟨⟨_, rfl, .keep rfl⟩, ⟨_, rfl, .keep rfl⟩, ⟨_, rfl, .keep rfl⟩, ⟨_, rfl, .keep rfl⟩, ⟨_, rfl, .keep rfl⟩, trivial⟩ trivial)
                    · replace h := ite_F p233 h
                      rw [p233]
                      refine rz rfl rfl ?_
                      refine rz rfl rfl ?_
                      refine rz rfl rfl ?_
                      refine rz rfl rfl ?_
                      refine rz rfl rfl ?_
                      refine rz rfl rfl ?_
                      refine rz rfl rfl ?_
                      refine rz rfl rfl ?_
                      refine ro rfl rfl (st_pickF rfl rfl) ?_
                      refine rw_nil ?_
                      refine nx_then ?_
                      exact J230 false () _ _ h (gh_frz rfl rfl ⟨⟨_, rfl, .keep rfl⟩, ⟨_, rfl, .keep rfl⟩, ⟨_, rfl, .keep rfl⟩, ⟨_, rfl, .keep rfl⟩, ⟨_, rfl, .keep rfl⟩, trivial⟩ trivial)
                · clear h
                  intro s190 g191 h
                  refine awp_seq ?_
                  refine awp_rs ?_
                  refine ro rfl rfl (st_mv rfl) ?_
                  refine ro rfl rfl (st_mv rfl) ?_
                  refine ro rfl rfl (st_lenD rfl un28) ?_
                  refine ro rfl rfl (st_bin (v := dB (decide (((y157.1.length : Nat) : Int) < ((y157.1.length : Nat) : Int)))) rfl rfl rfl) ?_
                  refine rw_nilk ?_
                  refine awp_ifF rfl dge ?_
                  refine awp_exit ?_
                  refine ex_out ?_
                  refine ex_out ?_
                  refine ex_in ?_
                  refine nx_then ?_
                  refine awp_seq ?_
                  refine awp_rs ?_
                  refine ro rfl rfl (st_as rfl) ?_
                  refine rw_nilk ?_
                  refine awp_block ?_
                  refine awp_len (t := 14) rfl (fun hl238 => ?_)
                  rw [List.length_map] at hl238
                  refine awp_range (fun (j238 : Nat) (s235 : Unit) (g236 : Unit) => [(2, dL 1 (eI .i64) a2), (14, dL 1 (eI .i64) y155.1), (21, dI .i64 ((j238 : Nat) : Int))]) (fun (s235 : Unit) (g236 : Unit) => []) () (fun _ _ _ h => h) h (gh_frz rfl rfl ⟨⟨_, rfl, .keep rfl⟩, ⟨_, rfl, .keep rfl⟩, ⟨_, rfl, .keep rfl⟩, trivial⟩ trivial) ?_ ?_
                  · clear h
                    intro j238 x239 s235 g236 k237 hj238 hx238 h ih237
                    refine awp_seq ?_
                    refine awp_rs ?_
                    refine ro rfl rfl (st_mv rfl) ?_
                    refine ro rfl rfl (st_mv rfl) ?_
                    refine ro rfl rfl (st_lenD rfl un28) ?_
                    refine ro rfl rfl (st_bin (v := dB (decide (((j238 : Nat) : Int) < ((y155.1.length : Nat) : Int)))) rfl rfl rfl) ?_
                    refine rw_nilk ?_
                    refine awp_ifT rfl (dlt hj238) ?_
                    refine awp_skip ?_
                    refine nx_then ?_
                    refine awp_seq ?_
                    refine awp_block ?_
                    refine awp_jn (fun (s273 : Bool) (g274 : Unit) => [(2, dL 1 (eI .i64) a2), (14, dL 1 (eI .i64) y155.1), (21, dI .i64 ((j238 : Nat) : Int)), (183, dB s273)]) (fun (s273 : Bool) (g274 : Unit) => []) h ?_ ?_
                    · clear h
                      intro s273 g274 h
                      refine awp_ite (b := s273) rfl (fun p276 => ?_) (fun p276 => ?_)
                      · replace h := ite_T p276 h
                        refine awp_rs ?_
                        refine ro rfl rfl (st_as rfl) ?_
                        refine rw_nilk ?_
                        refine awp_ret ?_
                        refine rt_block ?_
                        refine rt_then ?_
                        refine rt_then ?_
                        refine rt_block ?_
                        refine rt_then ?_
                        injection h with h
                        subst h
                        exact ret_out (v := dB false) (resV_one (resVs_tmp rfl resVs_nil)) (.keep rfl)
                      · replace h := ite_F p276 h
                        refine awp_skip ?_
                        refine nx_block ?_
                        refine nx_then ?_
                        refine awp_rw ?_
                        refine ro rfl rfl (st_mv rfl) ?_
                        refine ro rfl rfl (st_inc rfl rfl hj238 hl238) ?_
                        refine ro rfl rfl (st_as rfl) ?_
                        refine rw_nil ?_
                        refine nx_then ?_
                        refine awp_gh ?_ (ih237 () () h)
                        exact (gh_frz rfl rfl ⟨⟨_, rfl, .keep rfl⟩, ⟨_, rfl, .keep rfl⟩, ⟨_, rfl, .keep rfl⟩, trivial⟩ trivial)
                    · clear h
                      intro k275 h J275
                      refine awp_rw ?_
                      refine ro rfl rfl (st_mv rfl) ?_
                      refine ro rfl rfl (st_mv rfl) ?_
                      refine ro rfl rfl (st_mv rfl) ?_
                      refine ro rfl rfl (st_ixDn sl28 rfl rfl hx238) ?_
                      refine ro rfl rfl (st_ldD (v := dI .i64 x239) ta3 rfl rfl) ?_
                      obtain ⟨y277, hy277, h⟩ := bind_some_elim h
                      refine rf rfl rfl (ok_skolemref09_Has hy277) rfl rfl ?_
                      refine ro rfl rfl (st_mv rfl) ?_
                      refine bool_split y277 (fun p278 => ?_) (fun p278 => ?_)
                      · replace h := ite_T p278 h
                        rw [p278]
                        refine rz rfl rfl ?_
                        refine rz rfl rfl ?_
                        refine rz rfl rfl ?_
                        refine rz rfl rfl ?_
                        refine rz rfl rfl ?_
                        refine rz rfl rfl ?_
                        refine rz rfl rfl ?_
                        refine ro rfl rfl (st_pickT rfl rfl) ?_
                        refine rw_nil ?_
                        refine nx_then ?_
                        exact J275 true () _ _ h (gh_frz rfl rfl ⟨⟨_, rfl, .keep rfl⟩, ⟨_, rfl, .keep rfl⟩, ⟨_, rfl, .keep rfl⟩, ⟨_, rfl, .keep rfl⟩, trivial⟩ trivial)
                      · replace h := ite_F p278 h
                        rw [p278]
                        refine ro rfl rfl (st_mv rfl) ?_
                        refine ro rfl rfl (st_mv rfl) ?_
                        refine ro rfl rfl (st_mv rfl) ?_
                        refine ro rfl rfl (st_ixDn sl28 rfl rfl hx238) ?_
                        refine ro rfl rfl (st_ldD (v := dI .i64 x239) ta3 rfl rfl) ?_
                        refine ro rfl rfl (st_un (v := dI .i64 (IntKind.wrap .i64 (0 - x239))) rfl rfl) ?_
                        obtain ⟨y279, hy279, h⟩ := bind_some_elim h
                        refine rf rfl rfl (ok_skolemref09_Has hy279) rfl rfl ?_
                        refine ro rfl rfl (st_pickF rfl rfl) ?_
                        refine rw_nil ?_
                        refine nx_then ?_
                        exact J275 y279 () _ _ h (gh_frz rfl rfl ⟨⟨_, rfl, .keep rfl⟩, ⟨_, rfl, .keep rfl⟩, ⟨_, rfl, .keep rfl⟩, ⟨_, rfl, .keep rfl⟩, trivial⟩ trivial)
                  · clear h
                    intro s235 g236 h
                    refine awp_seq ?_
                    refine awp_rs ?_
                    refine ro rfl rfl (st_mv rfl) ?_
                    refine ro rfl rfl (st_mv rfl) ?_
                    refine ro rfl rfl (st_lenD rfl un28) ?_
                    refine ro rfl rfl (st_bin (v := dB (decide (((y155.1.length : Nat) : Int) < ((y155.1.length : Nat) : Int)))) rfl rfl rfl) ?_
                    refine rw_nilk ?_
                    refine awp_ifF rfl dge ?_
                    refine awp_exit ?_
                    refine ex_out ?_
                    refine ex_out ?_
                    refine ex_in ?_
                    refine nx_then ?_
                    refine awp_rs ?_
                    obtain ⟨y280, hy280, h⟩ := bind_some_elim h
                    refine rf rfl rfl (ok_skolemlaw10_head hy280) rfl rfl ?_
                    refine ro rfl rfl (st_as rfl) ?_
                    refine rw_nilk ?_
                    refine awp_ret ?_
                    injection h with h
                    subst h
                    exact ret_out (v := dB y280) (resV_one (resVs_tmp rfl resVs_nil)) (.keep rfl)
            · clear h
              intro k188 h J188
              refine awp_rw ?_
              refine ro rfl rfl (st_mv rfl) ?_
              refine ro rfl rfl (st_un (v := dB (!y155.2)) rfl rfl) ?_
              refine ro rfl rfl (st_mv rfl) ?_
              refine bool_split (!y155.2) (fun p281 => ?_) (fun p281 => ?_)
              · replace h := ite_T p281 h
                rw [p281]
                refine rz rfl rfl ?_
                refine rz rfl rfl ?_
                refine ro rfl rfl (st_pickT rfl rfl) ?_
                refine ro rfl rfl (st_mv rfl) ?_
                refine rz rfl rfl ?_
                refine rz rfl rfl ?_
                refine ro rfl rfl (st_pickT rfl rfl) ?_
                refine ro rfl rfl (st_mv rfl) ?_
                refine rz rfl rfl ?_
                refine rz rfl rfl ?_
                refine rz rfl rfl ?_
                refine rz rfl rfl ?_
                refine rz rfl rfl ?_
                refine rz rfl rfl ?_
                refine rz rfl rfl ?_
                refine ro rfl rfl (st_pickT rfl rfl) ?_
                refine ro rfl rfl (st_mv rfl) ?_
                refine rz rfl rfl ?_
                refine rz rfl rfl ?_
                refine rz rfl rfl ?_
                refine rz rfl rfl ?_
                refine rz rfl rfl ?_
                refine rz rfl rfl ?_
                refine rz rfl rfl ?_
                refine ro rfl rfl (st_pickT rfl rfl) ?_
                refine ro rfl rfl (st_mv rfl) ?_
                refine rz rfl rfl ?_
                refine rz rfl rfl ?_
                refine rz rfl rfl ?_
                refine rz rfl rfl ?_
                refine ro rfl rfl (st_pickT rfl rfl) ?_
                refine ro rfl rfl (st_mv rfl) ?_
                refine rz rfl rfl ?_
                refine rz rfl rfl ?_
                refine rz rfl rfl ?_
                refine rz rfl rfl ?_
                refine ro rfl rfl (st_pickT rfl rfl) ?_
                refine rw_nil ?_
                refine nx_then ?_
                exact J188 true () _ _ h (gh_frz rfl rfl ⟨⟨_, rfl, .keep rfl⟩, ⟨_, rfl, .keep rfl⟩, ⟨_, rfl, .keep rfl⟩, ⟨_, rfl, .keep rfl⟩, trivial⟩ trivial)
              · replace h := ite_F p281 h
                rw [p281]
                refine ro rfl rfl (st_mv rfl) ?_
                refine ro rfl rfl (st_bin (v := dB (y156.2 != (0 : Int))) rfl rfl rfl) ?_
                refine ro rfl rfl (st_pickF rfl rfl) ?_
                refine ro rfl rfl (st_mv rfl) ?_
                refine bool_split (y156.2 != (0 : Int)) (fun p282 => ?_) (fun p282 => ?_)
                · replace h := ite_T p282 h
                  rw [p282]
                  refine rz rfl rfl ?_
                  refine rz rfl rfl ?_
                  refine ro rfl rfl (st_pickT rfl rfl) ?_
                  refine ro rfl rfl (st_mv rfl) ?_
                  refine rz rfl rfl ?_
                  refine rz rfl rfl ?_
                  refine rz rfl rfl ?_
                  refine rz rfl rfl ?_
                  refine rz rfl rfl ?_
                  refine rz rfl rfl ?_
                  refine rz rfl rfl ?_
                  refine ro rfl rfl (st_pickT rfl rfl) ?_
                  refine ro rfl rfl (st_mv rfl) ?_
                  refine rz rfl rfl ?_
                  refine rz rfl rfl ?_
                  refine rz rfl rfl ?_
                  refine rz rfl rfl ?_
                  refine rz rfl rfl ?_
                  refine rz rfl rfl ?_
                  refine rz rfl rfl ?_
                  refine ro rfl rfl (st_pickT rfl rfl) ?_
                  refine ro rfl rfl (st_mv rfl) ?_
                  refine rz rfl rfl ?_
                  refine rz rfl rfl ?_
                  refine rz rfl rfl ?_
                  refine rz rfl rfl ?_
                  refine ro rfl rfl (st_pickT rfl rfl) ?_
                  refine ro rfl rfl (st_mv rfl) ?_
                  refine rz rfl rfl ?_
                  refine rz rfl rfl ?_
                  refine rz rfl rfl ?_
                  refine rz rfl rfl ?_
                  refine ro rfl rfl (st_pickT rfl rfl) ?_
                  refine rw_nil ?_
                  refine nx_then ?_
                  exact J188 true () _ _ h (gh_frz rfl rfl ⟨⟨_, rfl, .keep rfl⟩, ⟨_, rfl, .keep rfl⟩, ⟨_, rfl, .keep rfl⟩, ⟨_, rfl, .keep rfl⟩, trivial⟩ trivial)
                · replace h := ite_F p282 h
                  rw [p282]
                  refine ro rfl rfl (st_mv rfl) ?_
                  refine ro rfl rfl (st_un (v := dB (!y157.2)) rfl rfl) ?_
                  refine ro rfl rfl (st_pickF rfl rfl) ?_
                  refine ro rfl rfl (st_mv rfl) ?_
                  refine bool_split (!y157.2) (fun p283 => ?_) (fun p283 => ?_)
                  · replace h := ite_T p283 h
                    rw [p283]
                    refine rz rfl rfl ?_
                    refine rz rfl rfl ?_
                    refine rz rfl rfl ?_
                    refine rz rfl rfl ?_
                    refine rz rfl rfl ?_
                    refine rz rfl rfl ?_
                    refine rz rfl rfl ?_
                    refine ro rfl rfl (st_pickT rfl rfl) ?_
                    refine ro rfl rfl (st_mv rfl) ?_
                    refine rz rfl rfl ?_
                    refine rz rfl rfl ?_
                    refine rz rfl rfl ?_
                    refine rz rfl rfl ?_
                    refine rz rfl rfl ?_
                    refine rz rfl rfl ?_
                    refine rz rfl rfl ?_
                    refine ro rfl rfl (st_pickT rfl rfl) ?_
                    refine ro rfl rfl (st_mv rfl) ?_
                    refine rz rfl rfl ?_
                    refine rz rfl rfl ?_
                    refine rz rfl rfl ?_
                    refine rz rfl rfl ?_
                    refine ro rfl rfl (st_pickT rfl rfl) ?_
                    refine ro rfl rfl (st_mv rfl) ?_
                    refine rz rfl rfl ?_
                    refine rz rfl rfl ?_
                    refine rz rfl rfl ?_
                    refine rz rfl rfl ?_
                    refine ro rfl rfl (st_pickT rfl rfl) ?_
                    refine rw_nil ?_
                    refine nx_then ?_
                    exact J188 true () _ _ h (gh_frz rfl rfl ⟨⟨_, rfl, .keep rfl⟩, ⟨_, rfl, .keep rfl⟩, ⟨_, rfl, .keep rfl⟩, ⟨_, rfl, .keep rfl⟩, trivial⟩ trivial)
                  · replace h := ite_F p283 h
                    rw [p283]
                    refine ro rfl rfl (st_faP fo25_1 rfl) ?_
                    refine ro rfl rfl (st_ldP (v := dL 5 e_S_api_Line y156.1.Lines) ta23 rfl rfl rfl rfl) ?_
                    refine ro rfl rfl (st_lenD rfl un23) ?_
                    refine ro rfl rfl (st_faP fo25_1 rfl) ?_
                    refine ro rfl rfl (st_ldP (v := dL 5 e_S_api_Line y118.1.Lines) ta23 rfl rfl rfl rfl) ?_
                    refine ro rfl rfl (st_lenD rfl un23) ?_
                    refine ro rfl rfl (st_bin (v := dB (((y156.1.Lines.length : Nat) : Int) != ((y118.1.Lines.length : Nat) : Int))) rfl rfl rfl) ?_
                    refine ro rfl rfl (st_pickF rfl rfl) ?_
                    refine ro rfl rfl (st_mv rfl) ?_
                    refine bool_split (((y156.1.Lines.length : Nat) : Int) != ((y118.1.Lines.length : Nat) : Int)) (fun p284 => ?_) (fun p284 => ?_)
                    · replace h := ite_T p284 h
                      rw [p284]
                      refine rz rfl rfl ?_
                      refine rz rfl rfl ?_
                      refine rz rfl rfl ?_
                      refine rz rfl rfl ?_
                      refine rz rfl rfl ?_
                      refine rz rfl rfl ?_
                      refine rz rfl rfl ?_
                      refine ro rfl rfl (st_pickT rfl rfl) ?_
                      refine ro rfl rfl (st_mv rfl) ?_
                      refine rz rfl rfl ?_
                      refine rz rfl rfl ?_
                      refine rz rfl rfl ?_
                      refine rz rfl rfl ?_
                      refine ro rfl rfl (st_pickT rfl rfl) ?_
                      refine ro rfl rfl (st_mv rfl) ?_
                      refine rz rfl rfl ?_
                      refine rz rfl rfl ?_
                      refine rz rfl rfl ?_
                      refine rz rfl rfl ?_
                      refine ro rfl rfl (st_pickT rfl rfl) ?_
                      refine rw_nil ?_
                      refine nx_then ?_
                      exact J188 true () _ _ h (gh_frz rfl rfl ⟨⟨_, rfl, .keep rfl⟩, ⟨_, rfl, .keep rfl⟩, ⟨_, rfl, .keep rfl⟩, ⟨_, rfl, .keep rfl⟩, trivial⟩ trivial)
                    · replace h := ite_F p284 h
                      rw [p284]
                      refine ro rfl rfl (st_faP fo25_1 rfl) ?_
                      refine ro rfl rfl (st_ldP (v := dL 5 e_S_api_Line y118.1.Lines) ta23 rfl rfl rfl rfl) ?_
                      refine ro rfl rfl (st_lenD rfl un23) ?_
                      refine ro rfl rfl (st_faP fo25_1 rfl) ?_
                      refine ro rfl rfl (st_ldP (v := dL 5 e_S_api_Line a1.Lines) ta23 rfl rfl rfl rfl) ?_
                      refine ro rfl rfl (st_lenD rfl un23) ?_
                      refine ro rfl rfl (st_bin (v := dB (decide (((y118.1.Lines.length : Nat) : Int) > ((a1.Lines.length : Nat) : Int)))) rfl rfl rfl) ?_
                      refine ro rfl rfl (st_pickF rfl rfl) ?_
                      refine ro rfl rfl (st_mv rfl) ?_
                      refine bool_split (decide (((y118.1.Lines.length : Nat) : Int) > ((a1.Lines.length : Nat) : Int))) (fun p285 => ?_) (fun p285 => ?_)
                      · replace h := ite_T p285 h
                        rw [p285]
                        refine rz rfl rfl ?_
                        refine rz rfl rfl ?_
                        refine rz rfl rfl ?_
                        refine rz rfl rfl ?_
                        refine ro rfl rfl (st_pickT rfl rfl) ?_
                        refine ro rfl rfl (st_mv rfl) ?_
                        refine rz rfl rfl ?_
                        refine rz rfl rfl ?_
                        refine rz rfl rfl ?_
                        refine rz rfl rfl ?_
                        refine ro rfl rfl (st_pickT rfl rfl) ?_
                        refine rw_nil ?_
                        refine nx_then ?_
                        exact J188 true () _ _ h (gh_frz rfl rfl ⟨⟨_, rfl, .keep rfl⟩, ⟨_, rfl, .keep rfl⟩, ⟨_, rfl, .keep rfl⟩, ⟨_, rfl, .keep rfl⟩, trivial⟩ trivial)
                      · replace h := ite_F p285 h
                        rw [p285]
                        refine ro rfl rfl (st_mv rfl) ?_
                        refine ro rfl rfl (st_mv rfl) ?_
                        obtain ⟨y286, hy286, h⟩ := bind_some_elim h
                        refine rf rfl rfl (ok_skolemlaw10_part hy286) rfl rfl ?_
                        refine ro rfl rfl (st_un (v := dB (!y286)) rfl rfl) ?_
                        refine ro rfl rfl (st_pickF rfl rfl) ?_
                        refine ro rfl rfl (st_mv rfl) ?_
                        refine bool_split (!y286) (fun p287 => ?_) (fun p287 => ?_)
                        · replace h := ite_T p287 h
                          rw [p287]
                          refine rz rfl rfl ?_
                          refine rz rfl rfl ?_
                          refine rz rfl rfl ?_
                          refine rz rfl rfl ?_
                          refine ro rfl rfl (st_pickT rfl rfl) ?_
                          refine rw_nil ?_
                          refine nx_then ?_
                          exact J188 true () _ _ h (gh_frz rfl rfl ⟨⟨_, rfl, .keep rfl⟩, ⟨_, rfl, .keep rfl⟩, ⟨_, rfl, .keep rfl⟩, ⟨_, rfl, .keep rfl⟩, trivial⟩ trivial)
                        · replace h := ite_F p287 h
                          rw [p287]
                          refine ro rfl rfl (st_mv rfl) ?_
                          refine ro rfl rfl (st_mv rfl) ?_
                          obtain ⟨y288, hy288, h⟩ := bind_some_elim h
                          refine rf rfl rfl (ok_skolemlaw10_part hy288) rfl rfl ?_
                          refine ro rfl rfl (st_un (v := dB (!y288)) rfl rfl) ?_
                          refine ro rfl rfl (st_pickF rfl rfl) ?_
                          refine rw_nil ?_
                          refine nx_then ?_
                          exact J188 (!y288) () _ _ h (gh_frz rfl rfl ⟨⟨_, rfl, .keep rfl⟩, ⟨_, rfl, .keep rfl⟩, ⟨_, rfl, .keep rfl⟩, ⟨_, rfl, .keep rfl⟩, trivial⟩ trivial)
      · clear h
        intro k137 h J137
        refine awp_rw ?_
        refine ro rfl rfl (st_mv rfl) ?_
        refine ro rfl rfl (st_un (v := dB (!y117.2)) rfl rfl) ?_
        refine ro rfl rfl (st_mv rfl) ?_
        refine bool_split (!y117.2) (fun p289 => ?_) (fun p289 => ?_)
        · replace h := ite_T p289 h
          rw [p289]
          refine rz rfl rfl ?_
          refine rz rfl rfl ?_
          refine rz rfl rfl ?_
          refine ro rfl rfl (st_pickT rfl rfl) ?_
          refine rw_nil ?_
          refine nx_then ?_
          exact J137 true () _ _ h (gh_frz rfl rfl ⟨⟨_, rfl, .keep rfl⟩, ⟨_, rfl, .keep rfl⟩, ⟨_, rfl, .keep rfl⟩, ⟨_, rfl, .keep rfl⟩, ⟨_, rfl, .keep rfl⟩, ⟨_, rfl, .keep rfl⟩, ⟨_, rfl, .keep rfl⟩, trivial⟩ ⟨⟨_, rfl, objOne ⟨⟨rfl, .keep rfl⟩, ⟨rfl, .keep rfl⟩, trivial⟩⟩, ⟨_, rfl, objOne ⟨⟨rfl, .keep rfl⟩, ⟨rfl, .keep rfl⟩, trivial⟩⟩, trivial⟩)
        · replace h := ite_F p289 h
          rw [p289]
          refine ro rfl rfl (st_mv rfl) ?_
          obtain ⟨y290, hy290, h⟩ := bind_some_elim h
          refine rf rfl rfl (ok_skolemref09_Normal hy290) rfl rfl ?_
          refine ro rfl rfl (st_un (v := dB (!y290)) rfl rfl) ?_
          refine ro rfl rfl (st_pickF rfl rfl) ?_
          refine rw_nil ?_
          refine nx_then ?_
          exact J137 (!y290) () _ _ h (gh_frz rfl rfl ⟨⟨_, rfl, .keep rfl⟩, ⟨_, rfl, .keep rfl⟩, ⟨_, rfl, .keep rfl⟩, ⟨_, rfl, .keep rfl⟩, ⟨_, rfl, .keep rfl⟩, ⟨_, rfl, .keep rfl⟩, ⟨_, rfl, .keep rfl⟩, trivial⟩ ⟨⟨_, rfl, objOne ⟨⟨rfl, .keep rfl⟩, ⟨rfl, .keep rfl⟩, trivial⟩⟩, ⟨_, rfl, objOne ⟨⟨rfl, .keep rfl⟩, ⟨rfl, .keep rfl⟩, trivial⟩⟩, trivial⟩)
  · clear h
    intro k114 h J114
    refine awp_rw ?_
    refine ro rfl rfl (st_mv rfl) ?_
    refine ro rfl rfl (st_ldP (v := .agg [dB a1.Cubes, dL 5 e_S_api_Line a1.Lines]) ta25 rfl rfl rfl rfl) ?_
    obtain ⟨y291, hy291, h⟩ := bind_some_elim h
    refine rf rfl rfl (ok_skolemlaw10_large hy291) rfl rfl ?_
    refine ro rfl rfl (st_mv rfl) ?_
    refine bool_split y291 (fun p292 => ?_) (fun p292 => ?_)
    · replace h := ite_T p292 h
      rw [p292]
      refine rz rfl rfl ?_
      refine rz rfl rfl ?_
      refine rz rfl rfl ?_
      refine ro rfl rfl (st_pickT rfl rfl) ?_
      refine rw_nil ?_
      refine nx_then ?_
      exact J114 true () _ _ h (gh_frz rfl rfl ⟨⟨_, rfl, .keep rfl⟩, ⟨_, rfl, .keep rfl⟩, ⟨_, rfl, .keep rfl⟩, ⟨_, rfl, .keep rfl⟩, trivial⟩ ⟨⟨_, rfl, objOne ⟨⟨rfl, .keep rfl⟩, ⟨rfl, .keep rfl⟩, trivial⟩⟩, trivial⟩)
    · replace h := ite_F p292 h
      rw [p292]
      refine ro rfl rfl (st_mv rfl) ?_
      refine ro rfl rfl (st_lenD rfl un28) ?_
      refine ro rfl rfl (st_bin (v := dB (decide (((a2.length : Nat) : Int) > (100 : Int)))) rfl rfl rfl) ?_
      refine ro rfl rfl (st_pickF rfl rfl) ?_
      refine rw_nil ?_
      refine nx_then ?_
      exact J114 (decide (((a2.length : Nat) : Int) > (100 : Int))) () _ _ h (gh_frz rfl rfl ⟨⟨_, rfl, .keep rfl⟩, ⟨_, rfl, .keep rfl⟩, ⟨_, rfl, .keep rfl⟩, ⟨_, rfl, .keep rfl⟩, trivial⟩ ⟨⟨_, rfl, objOne ⟨⟨rfl, .keep rfl⟩, ⟨rfl, .keep rfl⟩, trivial⟩⟩, trivial⟩)
end Go.Sk.X
