/- The program computes these plain functions (law ProofRestricts, part 2). It has no conditions. -/
import Derived.Test.YtehfobeocanbfaaXProofRestrictsP1
set_option linter.unusedVariables false
set_option linter.unusedSimpArgs false
set_option maxRecDepth 100000
set_option maxHeartbeats 4000000
namespace Go.Sk.X
open Go Go.Sk Go.Proofs
theorem ok_skolemref09_Put {a0 : (List Int)} {a1 : Int} {r : (List Int)} (h : F_skolemref09_Put a0 a1 = some r) : Fn Try.prog 86 [dL 1 (eI .i64) a0, dI .i64 a1] (dL 1 (eI .i64) r) := by
  unfold F_skolemref09_Put at h
  refine Fn.of_body (N := 53) (rs := [.tmp 4]) Try.func86 (c := _) rfl rfl rfl (by kernel_rfl) (Nat.le_of_ble_eq_true rfl) (fun _B => ?_)
  refine awp_rs ?_
  refine ro rfl rfl (st_as rfl) ?_
  refine rw_nilk ?_
  refine awp_rs ?_
  refine ro rfl rfl (st_as rfl) ?_
  refine rw_nilk ?_
  refine awp_rs ?_
  refine ro rfl rfl (st_as rfl) ?_
  refine rw_nilk ?_
  refine awp_seq ?_
  refine awp_rs ?_
  refine ro rfl rfl (st_as rfl) ?_
  refine rw_nilk ?_
  refine awp_block ?_
  refine awp_len (t := 0) rfl (fun hl104 => ?_)
  rw [List.length_map] at hl104
  refine awp_range (fun (j104 : Nat) (s101 : (Bool × (List Int))) (g102 : Nat) => [(0, dL 1 (eI .i64) a0), (1, dI .i64 a1), (5, .slice 1002 g102 0 s101.2.length), (6, dB s101.1), (7, dI .i64 ((j104 : Nat) : Int))]) (fun (s101 : (Bool × (List Int))) (g102 : Nat) => [(1002, rw' g102 3 (eI .i64) s101.2)]) 0 (fun _ _ _ h => h) h (Gh.trans (gh_nil (r := 1002) (E' := [(0, dL 1 (eI .i64) a0), (1, dI .i64 a1), (5, .slice 1002 0 0 (([] : List Int).length)), (6, dB false), (7, dI .i64 (0 : Int))]) (L' := []) rfl co3 rfl rfl ⟨⟨_, rfl, .keep _⟩, ⟨_, rfl, .keep _⟩, ⟨_, rfl, .nil⟩, ⟨_, rfl, .keep _⟩, ⟨_, rfl, .keep _⟩, trivial⟩ trivial) (gh_frz rfl rfl ⟨⟨_, rfl, .keep rfl⟩, ⟨_, rfl, .keep rfl⟩, ⟨_, rfl, .keep rfl⟩, ⟨_, rfl, .keep rfl⟩, ⟨_, rfl, .keep rfl⟩, trivial⟩ ⟨⟨_, rfl, objRow (List.map (eI .i64) ([] : List Int))⟩, trivial⟩)) ?_ ?_
  · clear h
    intro j104 x105 s101 g102 k103 hj104 hx104 h ih103
    refine awp_seq ?_
    refine awp_rs ?_
    refine ro rfl rfl (st_mv rfl) ?_
    refine ro rfl rfl (st_mv rfl) ?_
    refine ro rfl rfl (st_lenD rfl un28) ?_
    refine ro rfl rfl (st_bin (v := dB (decide (((j104 : Nat) : Int) < ((a0.length : Nat) : Int)))) rfl rfl rfl) ?_
    refine rw_nilk ?_
    refine awp_ifT rfl (dlt hj104) ?_
    refine awp_skip ?_
    refine nx_then ?_
    refine awp_seq ?_
    refine awp_block ?_
    refine awp_seq ?_
    refine awp_rs ?_
    refine ro rfl rfl (st_mv rfl) ?_
    refine ro rfl rfl (st_mv rfl) ?_
    refine ro rfl rfl (st_ixDn sl28 rfl rfl hx104) ?_
    refine ro rfl rfl (st_ldD (v := dI .i64 x105) ta3 rfl rfl) ?_
    obtain ⟨y269, hy269, h⟩ := bind_some_elim h
    refine rf rfl rfl (ok_skolemref09_Abs hy269) rfl rfl ?_
    refine ro rfl rfl (st_mv rfl) ?_
    obtain ⟨y270, hy270, h⟩ := bind_some_elim h
    refine rf rfl rfl (ok_skolemref09_Abs hy270) rfl rfl ?_
    refine ro rfl rfl (st_bin (v := dB (y269 == y270)) rfl rfl rfl) ?_
    refine rw_nilk ?_
    refine awp_ite (b := (y269 == y270)) rfl (fun p271 => ?_) (fun p271 => ?_)
    · replace h := ite_T p271 h
      refine awp_rs ?_
      refine ro rfl rfl (st_mv rfl) ?_
      refine ro rfl rfl (st_as rfl) ?_
      refine rw_nilk ?_
      refine awp_ret ?_
      refine rt_then ?_
      refine rt_block ?_
      refine rt_then ?_
      refine rt_then ?_
      refine rt_block ?_
      refine rt_then ?_
      injection h with h
      subst h
      exact ret_out (v := dL 1 (eI .i64) a0) (resV_one (resVs_tmp rfl resVs_nil)) (.keep rfl)
    · replace h := ite_F p271 h
      refine awp_skip ?_
      refine nx_then ?_
      refine awp_jn (fun (s283 : (Bool × (List Int))) (g284 : Nat) => [(0, dL 1 (eI .i64) a0), (1, dI .i64 a1), (5, .slice 1002 g284 0 s283.2.length), (6, dB s283.1), (7, dI .i64 ((j104 : Nat) : Int))]) (fun (s283 : (Bool × (List Int))) (g284 : Nat) => [(1002, rw' g284 3 (eI .i64) s283.2)]) h ?_ ?_
      · clear h
        intro s283 g284 h
        refine awp_rw ?_
        refine ro rfl rfl (st_mv rfl) ?_
        refine ro rfl rfl (st_mv rfl) ?_
        refine ro rfl rfl (st_mv rfl) ?_
        refine ro rfl rfl (st_ixDn sl28 rfl rfl hx104) ?_
        refine ro rfl rfl (st_ldD (v := dI .i64 x105) ta3 rfl rfl) ?_
        refine rn (r := 1004) rfl rfl (st_bsl (els := [[dI .i64 x105]]) sl28 zc3 rfl rfl rfl rfl rfl) rfl ?_
        obtain ⟨c286, h⟩ := capN_some h
        refine rn (r := 0) (L' := [(1002, rw' (g284 + 2) 3 (eI .i64) (s283.2 ++ [x105])), (1004, .row 1 3 [[dI .i64 x105]])]) rfl rfl (st_appR (f := (eI .i64)) (xs := s283.2) (ys := [x105]) sl28 zc3 rfl rfl rfl rfl rfl (news_one (a := x105) rfl rfl) c286) rfl ?_
        refine ro rfl rfl (st_as rfl) ?_
        refine rw_nil ?_
        refine nx_block ?_
        refine nx_then ?_
        refine awp_rw ?_
        refine ro rfl rfl (st_mv rfl) ?_
        refine ro rfl rfl (st_inc rfl rfl hj104 hl104) ?_
        refine ro rfl rfl (st_as rfl) ?_
        refine rw_nil ?_
        refine nx_then ?_
        refine awp_gh ?_ (ih103 (s283.1, (s283.2 ++ [x105])) (g284 + 2) h)
        exact (gh_frz rfl rfl ⟨⟨_, rfl, .keep rfl⟩, ⟨_, rfl, .keep rfl⟩, ⟨_, rfl, .keep rfl⟩, ⟨_, rfl, .keep rfl⟩, ⟨_, rfl, .keep rfl⟩, trivial⟩ ⟨⟨_, rfl, objRow _⟩, trivial⟩)
      · clear h
        intro k285 h J285
        refine awp_jn (fun (s290 : Bool) (g291 : Unit) => [(0, dL 1 (eI .i64) a0), (1, dI .i64 a1), (5, .slice 1002 g102 0 s101.2.length), (6, dB s101.1), (7, dI .i64 ((j104 : Nat) : Int)), (34, dB s290)]) (fun (s290 : Bool) (g291 : Unit) => [(1002, rw' g102 3 (eI .i64) s101.2)]) h ?_ ?_
        · clear h
          intro s290 g291 h
          refine awp_ite (b := s290) rfl (fun p293 => ?_) (fun p293 => ?_)
          · replace h := ite_T p293 h
            refine awp_rs ?_
            refine ro rfl rfl (st_mv rfl) ?_
            refine ro rfl rfl (st_mv rfl) ?_
            refine rn (r := 1003) rfl rfl (st_bsl (els := [[dI .i64 a1]]) sl28 zc3 rfl rfl rfl rfl rfl) rfl ?_
            obtain ⟨c294, h⟩ := capN_some h
            refine rn (r := 0) (L' := [(1002, rw' (g102 + 2) 3 (eI .i64) (s101.2 ++ [a1])), (1003, .row 1 3 [[dI .i64 a1]])]) rfl rfl (st_appR (f := (eI .i64)) (xs := s101.2) (ys := [a1]) sl28 zc3 rfl rfl rfl rfl rfl (news_one (a := a1) rfl rfl) c294) rfl ?_
            refine ro rfl rfl (st_as rfl) ?_
            refine rw_nilk ?_
            refine awp_rw ?_
            refine ro rfl rfl (st_as rfl) ?_
            refine rw_nil ?_
            refine nx_then ?_
            exact J285 (true, (s101.2 ++ [a1])) (g102 + 2) _ _ h (gh_frz rfl rfl ⟨⟨_, rfl, .keep rfl⟩, ⟨_, rfl, .keep rfl⟩, ⟨_, rfl, .keep rfl⟩, ⟨_, rfl, .keep rfl⟩, ⟨_, rfl, .keep rfl⟩, trivial⟩ ⟨⟨_, rfl, objRow _⟩, trivial⟩)
          · replace h := ite_F p293 h
            refine awp_skip ?_
            refine nx_then ?_
            exact J285 (s101.1, s101.2) g102 _ _ h (gh_frz rfl rfl ⟨⟨_, rfl, .keep rfl⟩, ⟨_, rfl, .keep rfl⟩, ⟨_, rfl, .keep rfl⟩, ⟨_, rfl, .keep rfl⟩, ⟨_, rfl, .keep rfl⟩, trivial⟩ ⟨⟨_, rfl, objRow _⟩, trivial⟩)
        · clear h
          intro k292 h J292
          refine awp_rw ?_
          refine ro rfl rfl (st_mv rfl) ?_
          refine ro rfl rfl (st_un (v := dB (!s101.1)) rfl rfl) ?_
          refine ro rfl rfl (st_mv rfl) ?_
          refine bool_split (!s101.1) (fun p295 => ?_) (fun p295 => ?_)
          · replace h := ite_T p295 h
            rw [p295]
            refine ro rfl rfl (st_mv rfl) ?_
            refine ro rfl rfl (st_mv rfl) ?_
            refine ro rfl rfl (st_ixDn sl28 rfl rfl hx104) ?_
            refine ro rfl rfl (st_ldD (v := dI .i64 x105) ta3 rfl rfl) ?_
            obtain ⟨y296, hy296, h⟩ := bind_some_elim h
            refine rf rfl rfl (ok_skolemref09_Abs hy296) rfl rfl ?_
            refine ro rfl rfl (st_mv rfl) ?_
            obtain ⟨y297, hy297, h⟩ := bind_some_elim h
            refine rf rfl rfl (ok_skolemref09_Abs hy297) rfl rfl ?_
            refine ro rfl rfl (st_bin (v := dB (decide (y296 > y297))) rfl rfl rfl) ?_
            refine ro rfl rfl (st_pickT rfl rfl) ?_
            refine rw_nil ?_
            refine nx_then ?_
            exact J292 (decide (y296 > y297)) () _ _ h (gh_frz rfl rfl ⟨⟨_, rfl, .keep rfl⟩, ⟨_, rfl, .keep rfl⟩, ⟨_, rfl, .keep rfl⟩, ⟨_, rfl, .keep rfl⟩, ⟨_, rfl, .keep rfl⟩, ⟨_, rfl, .keep rfl⟩, trivial⟩ ⟨⟨_, rfl, objRow _⟩, trivial⟩)
          · replace h := ite_F p295 h
            rw [p295]
            refine rz rfl rfl ?_
            refine rz rfl rfl ?_
            refine rz rfl rfl ?_
            refine rz rfl rfl ?_
            refine rz rfl rfl ?_
            refine rz rfl rfl ?_
            refine rz rfl rfl ?_
            refine rz rfl rfl ?_
            refine ro rfl rfl (st_pickF rfl rfl) ?_
            refine rw_nil ?_
            refine nx_then ?_
            exact J292 false () _ _ h (gh_frz rfl rfl ⟨⟨_, rfl, .keep rfl⟩, ⟨_, rfl, .keep rfl⟩, ⟨_, rfl, .keep rfl⟩, ⟨_, rfl, .keep rfl⟩, ⟨_, rfl, .keep rfl⟩, ⟨_, rfl, .keep rfl⟩, trivial⟩ ⟨⟨_, rfl, objRow _⟩, trivial⟩)
  · clear h
    intro s101 g102 h
    refine awp_seq ?_
    refine awp_rs ?_
    refine ro rfl rfl (st_mv rfl) ?_
    refine ro rfl rfl (st_mv rfl) ?_
    refine ro rfl rfl (st_lenD rfl un28) ?_
    refine ro rfl rfl (st_bin (v := dB (decide (((a0.length : Nat) : Int) < ((a0.length : Nat) : Int)))) rfl rfl rfl) ?_
    refine rw_nilk ?_
    refine awp_ifF rfl dge ?_
    refine awp_exit ?_
    refine ex_out ?_
    refine ex_out ?_
    refine ex_in ?_
    refine nx_then ?_
    refine awp_seq ?_
    refine awp_rs ?_
    refine ro rfl rfl (st_mv rfl) ?_
    refine ro rfl rfl (st_un (v := dB (!s101.1)) rfl rfl) ?_
    refine rw_nilk ?_
    refine awp_ite (b := (!s101.1)) rfl (fun p300 => ?_) (fun p300 => ?_)
    · replace h := ite_T p300 h
      refine awp_rw ?_
      refine ro rfl rfl (st_mv rfl) ?_
      refine ro rfl rfl (st_mv rfl) ?_
      refine rn (r := 1005) rfl rfl (st_bsl (els := [[dI .i64 a1]]) sl28 zc3 rfl rfl rfl rfl rfl) rfl ?_
      obtain ⟨c301, h⟩ := capN_some h
      refine rn (r := 0) (L' := [(1002, rw' (g102 + 2) 3 (eI .i64) (s101.2 ++ [a1])), (1005, .row 1 3 [[dI .i64 a1]])]) rfl rfl (st_appR (f := (eI .i64)) (xs := s101.2) (ys := [a1]) sl28 zc3 rfl rfl rfl rfl rfl (news_one (a := a1) rfl rfl) c301) rfl ?_
      refine ro rfl rfl (st_as rfl) ?_
      refine rw_nil ?_
      refine nx_then ?_
      refine awp_rs ?_
      refine ro rfl rfl (st_mv rfl) ?_
      refine ro rfl rfl (st_as rfl) ?_
      refine rw_nilk ?_
      refine awp_ret ?_
      injection h with h
      subst h
      exact ret_out (v := .slice 1002 (g102 + 2) 0 ((s101.2 ++ [a1]).length)) (resV_one (resVs_tmp rfl resVs_nil)) (frzT rfl rfl co3 rfl)
    · replace h := ite_F p300 h
      refine awp_skip ?_
      refine nx_then ?_
      refine awp_rs ?_
      refine ro rfl rfl (st_mv rfl) ?_
      refine ro rfl rfl (st_as rfl) ?_
      refine rw_nilk ?_
      refine awp_ret ?_
      injection h with h
      subst h
      exact ret_out (v := .slice 1002 g102 0 s101.2.length) (resV_one (resVs_tmp rfl resVs_nil)) (frzT rfl rfl co3 rfl)

theorem ok_skolemref09_Resolvent {a0 : (List Int)} {a1 : (List Int)} {a2 : Int} {r : ((List Int) × Bool)} (h : F_skolemref09_Resolvent a0 a1 a2 = some r) : Fn Try.prog 63 [dL 1 (eI .i64) a0, dL 1 (eI .i64) a1, dI .i64 a2] (.tup [dL 1 (eI .i64) r.1, dB r.2]) := by
  unfold F_skolemref09_Resolvent at h
  refine Fn.of_body (N := 71) (rs := [.tmp 6, .tmp 7]) Try.func63 (c := _) rfl rfl rfl (by kernel_rfl) (Nat.le_of_ble_eq_true rfl) (fun _B => ?_)
  refine awp_rs ?_
  refine ro rfl rfl (st_as rfl) ?_
  refine ro rfl rfl (st_as rfl) ?_
  refine rw_nilk ?_
  refine awp_seq ?_
  refine awp_jn (fun (s117 : Bool) (g118 : Unit) => [(0, dL 1 (eI .i64) a0), (1, dL 1 (eI .i64) a1), (2, dI .i64 a2), (25, dB s117)]) (fun (s117 : Bool) (g118 : Unit) => []) h ?_ ?_
  · clear h
    intro s117 g118 h
    refine awp_ite (b := s117) rfl (fun p120 => ?_) (fun p120 => ?_)
    · replace h := ite_T p120 h
      refine awp_rs ?_
      refine ro rfl rfl (st_as rfl) ?_
      refine ro rfl rfl (st_as rfl) ?_
      refine rw_nilk ?_
      refine awp_ret ?_
      refine rt_then ?_
      injection h with h
      subst h
      exact ret_out (v := .tup [.nilS, dB false]) (resV_many (resVs_tmp rfl (resVs_tmp rfl resVs_nil))) (frz_tup ⟨(.nilS _), (.keep rfl), trivial⟩)
    · replace h := ite_F p120 h
      refine awp_skip ?_
      refine nx_then ?_
      refine awp_rs ?_
      refine ro rfl rfl (st_as rfl) ?_
      refine rw_nilk ?_
      refine awp_seq ?_
      refine awp_rs ?_
      refine ro rfl rfl (st_as rfl) ?_
      refine rw_nilk ?_
      refine awp_block ?_
      refine awp_len (t := 0) rfl (fun hl124 => ?_)
      rw [List.length_map] at hl124
      refine awp_range (fun (j124 : Nat) (s121 : (List Int)) (g122 : Unit) => [(0, dL 1 (eI .i64) a0), (1, dL 1 (eI .i64) a1), (2, dI .i64 a2), (8, dL 1 (eI .i64) s121), (9, dI .i64 ((j124 : Nat) : Int))]) (fun (s121 : (List Int)) (g122 : Unit) => []) () (fun _ _ _ h => h) h (Gh.trans (gh_frz (E' := [(0, dL 1 (eI .i64) a0), (1, dL 1 (eI .i64) a1), (2, dI .i64 a2), (8, dL 1 (eI .i64) ([] : List Int)), (9, dI .i64 (0 : Int))]) (L' := []) rfl rfl ⟨⟨_, rfl, .keep rfl⟩, ⟨_, rfl, .keep rfl⟩, ⟨_, rfl, .keep rfl⟩, ⟨_, rfl, .nilS _⟩, ⟨_, rfl, .keep rfl⟩, trivial⟩ trivial) (gh_frz rfl rfl ⟨⟨_, rfl, .keep rfl⟩, ⟨_, rfl, .keep rfl⟩, ⟨_, rfl, .keep rfl⟩, ⟨_, rfl, .keep rfl⟩, ⟨_, rfl, .keep rfl⟩, trivial⟩ trivial)) ?_ ?_
      · clear h
        intro j124 x125 s121 g122 k123 hj124 hx124 h ih123
        refine awp_seq ?_
        refine awp_rs ?_
        refine ro rfl rfl (st_mv rfl) ?_
        refine ro rfl rfl (st_mv rfl) ?_
        refine ro rfl rfl (st_lenD rfl un28) ?_
        refine ro rfl rfl (st_bin (v := dB (decide (((j124 : Nat) : Int) < ((a0.length : Nat) : Int)))) rfl rfl rfl) ?_
        refine rw_nilk ?_
        refine awp_ifT rfl (dlt hj124) ?_
        refine awp_skip ?_
        refine nx_then ?_
        refine awp_jn (fun (s163 : (List Int)) (g164 : Unit) => [(0, dL 1 (eI .i64) a0), (1, dL 1 (eI .i64) a1), (2, dI .i64 a2), (8, dL 1 (eI .i64) s163), (9, dI .i64 ((j124 : Nat) : Int))]) (fun (s163 : (List Int)) (g164 : Unit) => []) h ?_ ?_
        · clear h
          intro s163 g164 h
          refine awp_rw ?_
          refine ro rfl rfl (st_mv rfl) ?_
          refine ro rfl rfl (st_inc rfl rfl hj124 hl124) ?_
          refine ro rfl rfl (st_as rfl) ?_
          refine rw_nil ?_
          refine nx_then ?_
          refine awp_gh ?_ (ih123 s163 () h)
          exact (gh_frz rfl rfl ⟨⟨_, rfl, .keep rfl⟩, ⟨_, rfl, .keep rfl⟩, ⟨_, rfl, .keep rfl⟩, ⟨_, rfl, .keep rfl⟩, ⟨_, rfl, .keep rfl⟩, trivial⟩ trivial)
        · clear h
          intro k165 h J165
          refine awp_block ?_
          refine awp_rs ?_
          refine ro rfl rfl (st_mv rfl) ?_
          refine ro rfl rfl (st_mv rfl) ?_
          refine ro rfl rfl (st_ixDn sl28 rfl rfl hx124) ?_
          refine ro rfl rfl (st_ldD (v := dI .i64 x125) ta3 rfl rfl) ?_
          refine ro rfl rfl (st_mv rfl) ?_
          refine ro rfl rfl (st_bin (v := dB (x125 != a2)) rfl rfl rfl) ?_
          refine rw_nilk ?_
          refine awp_ite (b := (x125 != a2)) rfl (fun p166 => ?_) (fun p166 => ?_)
          · replace h := ite_T p166 h
            refine awp_seq ?_
            refine awp_rs ?_
            refine ro rfl rfl (st_mv rfl) ?_
            refine ro rfl rfl (st_mv rfl) ?_
            refine ro rfl rfl (st_mv rfl) ?_
            refine ro rfl rfl (st_ixDn sl28 rfl rfl hx124) ?_
            refine ro rfl rfl (st_ldD (v := dI .i64 x125) ta3 rfl rfl) ?_
            refine ro rfl rfl (st_un (v := dI .i64 (IntKind.wrap .i64 (0 - x125))) rfl rfl) ?_
            obtain ⟨y167, hy167, h⟩ := bind_some_elim h
            refine rf rfl rfl (ok_skolemref09_Has hy167) rfl rfl ?_
            refine rw_nilk ?_
            refine awp_ite (b := y167) rfl (fun p168 => ?_) (fun p168 => ?_)
            · replace h := ite_T p168 h
              refine awp_rs ?_
              refine ro rfl rfl (st_as rfl) ?_
              refine ro rfl rfl (st_as rfl) ?_
              refine rw_nilk ?_
              refine awp_ret ?_
              refine rt_then ?_
              refine rt_block ?_
              refine rt_then ?_
              refine rt_then ?_
              refine rt_block ?_
              refine rt_then ?_
              injection h with h
              subst h
              exact ret_out (v := .tup [.nilS, dB false]) (resV_many (resVs_tmp rfl (resVs_tmp rfl resVs_nil))) (frz_tup ⟨(.nilS _), (.keep rfl), trivial⟩)
            · replace h := ite_F p168 h
              refine awp_skip ?_
              refine nx_then ?_
              refine awp_rw ?_
              refine ro rfl rfl (st_mv rfl) ?_
              refine ro rfl rfl (st_mv rfl) ?_
              refine ro rfl rfl (st_mv rfl) ?_
              refine ro rfl rfl (st_ixDn sl28 rfl rfl hx124) ?_
              refine ro rfl rfl (st_ldD (v := dI .i64 x125) ta3 rfl rfl) ?_
              obtain ⟨y169, hy169, h⟩ := bind_some_elim h
              refine rf rfl rfl (ok_skolemref09_Put hy169) rfl rfl ?_
              refine ro rfl rfl (st_as rfl) ?_
              refine rw_nil ?_
              refine nx_block ?_
              refine nx_then ?_
              exact J165 y169 () _ _ h (gh_frz rfl rfl ⟨⟨_, rfl, .keep rfl⟩, ⟨_, rfl, .keep rfl⟩, ⟨_, rfl, .keep rfl⟩, ⟨_, rfl, .keep rfl⟩, ⟨_, rfl, .keep rfl⟩, trivial⟩ trivial)
          · replace h := ite_F p166 h
            refine awp_skip ?_
            refine nx_block ?_
            refine nx_then ?_
            exact J165 s121 () _ _ h (gh_frz rfl rfl ⟨⟨_, rfl, .keep rfl⟩, ⟨_, rfl, .keep rfl⟩, ⟨_, rfl, .keep rfl⟩, ⟨_, rfl, .keep rfl⟩, ⟨_, rfl, .keep rfl⟩, trivial⟩ trivial)
      · clear h
        intro s121 g122 h
        refine awp_seq ?_
        refine awp_rs ?_
        refine ro rfl rfl (st_mv rfl) ?_
        refine ro rfl rfl (st_mv rfl) ?_
        refine ro rfl rfl (st_lenD rfl un28) ?_
        refine ro rfl rfl (st_bin (v := dB (decide (((a0.length : Nat) : Int) < ((a0.length : Nat) : Int)))) rfl rfl rfl) ?_
        refine rw_nilk ?_
        refine awp_ifF rfl dge ?_
        refine awp_exit ?_
        refine ex_out ?_
        refine ex_out ?_
        refine ex_in ?_
        refine nx_then ?_
        refine awp_seq ?_
        refine awp_rs ?_
        refine ro rfl rfl (st_as rfl) ?_
        refine rw_nilk ?_
        refine awp_block ?_
        refine awp_len (t := 1) rfl (fun hl173 => ?_)
        rw [List.length_map] at hl173
        refine awp_range (fun (j173 : Nat) (s170 : (List Int)) (g171 : Unit) => [(1, dL 1 (eI .i64) a1), (2, dI .i64 a2), (8, dL 1 (eI .i64) s170), (10, dI .i64 ((j173 : Nat) : Int))]) (fun (s170 : (List Int)) (g171 : Unit) => []) () (fun _ _ _ h => h) h (gh_frz rfl rfl ⟨⟨_, rfl, .keep rfl⟩, ⟨_, rfl, .keep rfl⟩, ⟨_, rfl, .keep rfl⟩, ⟨_, rfl, .keep rfl⟩, trivial⟩ trivial) ?_ ?_
        · clear h
          intro j173 x174 s170 g171 k172 hj173 hx173 h ih172
          refine awp_seq ?_
          refine awp_rs ?_
          refine ro rfl rfl (st_mv rfl) ?_
          refine ro rfl rfl (st_mv rfl) ?_
          refine ro rfl rfl (st_lenD rfl un28) ?_
          refine ro rfl rfl (st_bin (v := dB (decide (((j173 : Nat) : Int) < ((a1.length : Nat) : Int)))) rfl rfl rfl) ?_
          refine rw_nilk ?_
          refine awp_ifT rfl (dlt hj173) ?_
          refine awp_skip ?_
          refine nx_then ?_
          refine awp_jn (fun (s191 : (List Int)) (g192 : Unit) => [(1, dL 1 (eI .i64) a1), (2, dI .i64 a2), (8, dL 1 (eI .i64) s191), (10, dI .i64 ((j173 : Nat) : Int))]) (fun (s191 : (List Int)) (g192 : Unit) => []) h ?_ ?_
          · clear h
            intro s191 g192 h
            refine awp_rw ?_
            refine ro rfl rfl (st_mv rfl) ?_
            refine ro rfl rfl (st_inc rfl rfl hj173 hl173) ?_
            refine ro rfl rfl (st_as rfl) ?_
            refine rw_nil ?_
            refine nx_then ?_
            refine awp_gh ?_ (ih172 s191 () h)
            exact (gh_frz rfl rfl ⟨⟨_, rfl, .keep rfl⟩, ⟨_, rfl, .keep rfl⟩, ⟨_, rfl, .keep rfl⟩, ⟨_, rfl, .keep rfl⟩, trivial⟩ trivial)
          · clear h
            intro k193 h J193
            refine awp_block ?_
            refine awp_rs ?_
            refine ro rfl rfl (st_mv rfl) ?_
            refine ro rfl rfl (st_mv rfl) ?_
            refine ro rfl rfl (st_ixDn sl28 rfl rfl hx173) ?_
            refine ro rfl rfl (st_ldD (v := dI .i64 x174) ta3 rfl rfl) ?_
            refine ro rfl rfl (st_mv rfl) ?_
            refine ro rfl rfl (st_un (v := dI .i64 (IntKind.wrap .i64 (0 - a2))) rfl rfl) ?_
            refine ro rfl rfl (st_bin (v := dB (x174 != (IntKind.wrap .i64 (0 - a2)))) rfl rfl rfl) ?_
            refine rw_nilk ?_
            refine awp_ite (b := (x174 != (IntKind.wrap .i64 (0 - a2)))) rfl (fun p194 => ?_) (fun p194 => ?_)
            · replace h := ite_T p194 h
              refine awp_rw ?_
              refine ro rfl rfl (st_mv rfl) ?_
              refine ro rfl rfl (st_mv rfl) ?_
              refine ro rfl rfl (st_mv rfl) ?_
              refine ro rfl rfl (st_ixDn sl28 rfl rfl hx173) ?_
              refine ro rfl rfl (st_ldD (v := dI .i64 x174) ta3 rfl rfl) ?_
              obtain ⟨y195, hy195, h⟩ := bind_some_elim h
              refine rf rfl rfl (ok_skolemref09_Put hy195) rfl rfl ?_
              refine ro rfl rfl (st_as rfl) ?_
              refine rw_nil ?_
              refine nx_block ?_
              refine nx_then ?_
              exact J193 y195 () _ _ h (gh_frz rfl rfl ⟨⟨_, rfl, .keep rfl⟩, ⟨_, rfl, .keep rfl⟩, ⟨_, rfl, .keep rfl⟩, ⟨_, rfl, .keep rfl⟩, trivial⟩ trivial)
            · replace h := ite_F p194 h
              refine awp_skip ?_
              refine nx_block ?_
              refine nx_then ?_
              exact J193 s170 () _ _ h (gh_frz rfl rfl ⟨⟨_, rfl, .keep rfl⟩, ⟨_, rfl, .keep rfl⟩, ⟨_, rfl, .keep rfl⟩, ⟨_, rfl, .keep rfl⟩, trivial⟩ trivial)
        · clear h
          intro s170 g171 h
          refine awp_seq ?_
          refine awp_rs ?_
          refine ro rfl rfl (st_mv rfl) ?_
          refine ro rfl rfl (st_mv rfl) ?_
          refine ro rfl rfl (st_lenD rfl un28) ?_
          refine ro rfl rfl (st_bin (v := dB (decide (((a1.length : Nat) : Int) < ((a1.length : Nat) : Int)))) rfl rfl rfl) ?_
          refine rw_nilk ?_
          refine awp_ifF rfl dge ?_
          refine awp_exit ?_
          refine ex_out ?_
          refine ex_out ?_
          refine ex_in ?_
          refine nx_then ?_
          refine awp_rs ?_
          refine ro rfl rfl (st_mv rfl) ?_
          refine ro rfl rfl (st_as rfl) ?_
          refine ro rfl rfl (st_as rfl) ?_
          refine rw_nilk ?_
          refine awp_ret ?_
          injection h with h
          subst h
          exact ret_out (v := .tup [dL 1 (eI .i64) s170, dB true]) (resV_many (resVs_tmp rfl (resVs_tmp rfl resVs_nil))) (.keep rfl)
  · clear h
    intro k119 h J119
    refine awp_rw ?_
    refine ro rfl rfl (st_mv rfl) ?_
    refine ro rfl rfl (st_bin (v := dB (decide (a2 < (1 : Int)))) rfl rfl rfl) ?_
    refine ro rfl rfl (st_mv rfl) ?_
    refine bool_split (decide (a2 < (1 : Int))) (fun p196 => ?_) (fun p196 => ?_)
    · replace h := ite_T p196 h
      rw [p196]
      refine rz rfl rfl ?_
      refine rz rfl rfl ?_
      refine rz rfl rfl ?_
      refine rz rfl rfl ?_
      refine ro rfl rfl (st_pickT rfl rfl) ?_
      refine ro rfl rfl (st_mv rfl) ?_
      refine rz rfl rfl ?_
      refine rz rfl rfl ?_
      refine rz rfl rfl ?_
      refine rz rfl rfl ?_
      refine rz rfl rfl ?_
      refine ro rfl rfl (st_pickT rfl rfl) ?_
      refine rw_nil ?_
      refine nx_then ?_
      exact J119 true () _ _ h (gh_frz rfl rfl ⟨⟨_, rfl, .keep rfl⟩, ⟨_, rfl, .keep rfl⟩, ⟨_, rfl, .keep rfl⟩, ⟨_, rfl, .keep rfl⟩, trivial⟩ trivial)
    · replace h := ite_F p196 h
      rw [p196]
      refine ro rfl rfl (st_mv rfl) ?_
      refine ro rfl rfl (st_mv rfl) ?_
      obtain ⟨y197, hy197, h⟩ := bind_some_elim h
      refine rf rfl rfl (ok_skolemref09_Has hy197) rfl rfl ?_
      refine ro rfl rfl (st_un (v := dB (!y197)) rfl rfl) ?_
      refine ro rfl rfl (st_pickF rfl rfl) ?_
      refine ro rfl rfl (st_mv rfl) ?_
      refine bool_split (!y197) (fun p198 => ?_) (fun p198 => ?_)
      · replace h := ite_T p198 h
        rw [p198]
        refine rz rfl rfl ?_
        refine rz rfl rfl ?_
        refine rz rfl rfl ?_
        refine rz rfl rfl ?_
        refine rz rfl rfl ?_
        refine ro rfl rfl (st_pickT rfl rfl) ?_
        refine rw_nil ?_
        refine nx_then ?_
        exact J119 true () _ _ h (gh_frz rfl rfl ⟨⟨_, rfl, .keep rfl⟩, ⟨_, rfl, .keep rfl⟩, ⟨_, rfl, .keep rfl⟩, ⟨_, rfl, .keep rfl⟩, trivial⟩ trivial)
      · replace h := ite_F p198 h
        rw [p198]
        refine ro rfl rfl (st_mv rfl) ?_
        refine ro rfl rfl (st_mv rfl) ?_
        refine ro rfl rfl (st_un (v := dI .i64 (IntKind.wrap .i64 (0 - a2))) rfl rfl) ?_
        obtain ⟨y199, hy199, h⟩ := bind_some_elim h
        refine rf rfl rfl (ok_skolemref09_Has hy199) rfl rfl ?_
        refine ro rfl rfl (st_un (v := dB (!y199)) rfl rfl) ?_
        refine ro rfl rfl (st_pickF rfl rfl) ?_
        refine rw_nil ?_
        refine nx_then ?_
        exact J119 (!y199) () _ _ h (gh_frz rfl rfl ⟨⟨_, rfl, .keep rfl⟩, ⟨_, rfl, .keep rfl⟩, ⟨_, rfl, .keep rfl⟩, ⟨_, rfl, .keep rfl⟩, trivial⟩ trivial)

theorem ok_skolemref10_right {a0 : (List (List Int))} {a1 : S_api_Proof} {a2 : Int} {r : Bool} (h : F_skolemref10_right a0 a1 a2 = some r) : Fn Try.prog 50 [dL 1 (eL 1 (eI .i64)) a0, .agg [dB a1.Cubes, dL 5 e_S_api_Line a1.Lines], dI .i64 a2] (dB r) := by
  unfold F_skolemref10_right at h
  refine Fn.of_body (N := 100) (rs := [.tmp 6]) Try.func50 (c := _) rfl rfl rfl (by kernel_rfl) (Nat.le_of_ble_eq_true rfl) (fun _B => ?_)
  refine awp_rs ?_
  refine rn (r := 1001) rfl rfl (st_box rfl rfl rfl co25 rfl rfl) rfl ?_
  refine ro rfl rfl (st_as rfl) ?_
  refine rw_nilk ?_
  refine awp_rs ?_
  refine ro rfl rfl (st_faP fo25_1 rfl) ?_
  refine ro rfl rfl (st_ldP (v := dL 5 e_S_api_Line a1.Lines) ta23 rfl rfl rfl rfl) ?_
  refine ro rfl rfl (st_mv rfl) ?_
  obtain ⟨x101, h0101, hx101, h⟩ := getI_some h
  refine ro rfl rfl (st_ixD sl23 rfl rfl h0101 hx101) ?_
  refine ro rfl rfl (st_ldD (v := .agg [dI .u8 x101.Rule, dI .i64 x101.A, dI .i64 x101.B, dI .i64 x101.Piv, dL 1 (eI .i64) x101.Lits]) ta58 rfl rfl) ?_
  refine rn (r := 1002) rfl rfl (st_alloc zc58 rfl rfl) rfl ?_
  refine rx (L' := [(1001, .row 0 25 [[dB a1.Cubes, dL 5 e_S_api_Line a1.Lines]]), (1002, .row 0 58 [[dI .u8 x101.Rule, dI .i64 x101.A, dI .i64 x101.B, dI .i64 x101.Piv, dL 1 (eI .i64) x101.Lits]])]) rfl rfl (st_stP ta58 rfl rfl rfl rfl rfl rfl rfl rfl) rfl ?_
  refine rw_nilk ?_
  refine awp_seq ?_
  refine awp_rs ?_
  refine ro rfl rfl (st_faP fo58_0 rfl) ?_
  refine ro rfl rfl (st_ldP (v := dI .u8 x101.Rule) ta56 rfl rfl rfl rfl) ?_
  refine ro rfl rfl (st_bin (v := dB (x101.Rule == (1 : Int))) rfl rfl rfl) ?_
  refine rw_nilk ?_
  refine awp_ite (b := (x101.Rule == (1 : Int))) rfl (fun p102 => ?_) (fun p102 => ?_)
  · replace h := ite_T p102 h
    refine awp_rds hmix ?_
    refine do_ rfl rfl (st_faP fo58_1 rfl) rfl rfl rfl ?_
    refine do_ rfl rfl (st_ldP (v := dI .i64 x101.A) ta3 rfl rfl rfl rfl) rfl rfl rfl ?_
    refine do_ rfl rfl (st_bin (v := dB (decide (x101.A ≥ (0 : Int)))) rfl rfl rfl) rfl rfl rfl ?_
    refine do_ rfl rfl (st_mv rfl) rfl rfl rfl ?_
    refine bool_split (decide (x101.A ≥ (0 : Int))) (fun p109 => ?_) (fun p109 => ?_)
    · replace h := ite_T p109 h
      rw [p109]
      refine do_ rfl rfl (st_faP fo58_1 rfl) rfl rfl rfl ?_
      refine do_ rfl rfl (st_ldP (v := dI .i64 x101.A) ta3 rfl rfl rfl rfl) rfl rfl rfl ?_
      refine do_ rfl rfl (st_mv rfl) rfl rfl rfl ?_
      refine do_ rfl rfl (st_lenD rfl un22) rfl rfl rfl ?_
      refine do_ rfl rfl (st_bin (v := dB (decide (x101.A < ((a0.length : Nat) : Int)))) rfl rfl rfl) rfl rfl rfl ?_
      refine do_ rfl rfl (st_pickT rfl rfl) rfl rfl rfl ?_
      refine do_ rfl rfl (st_mv rfl) rfl rfl rfl ?_
      refine bool_split (decide (x101.A < ((a0.length : Nat) : Int))) (fun p110 => ?_) (fun p110 => ?_)
      · replace h := ite_T p110 h
        rw [p110]
        refine do_ rfl rfl (st_faP fo58_2 rfl) rfl rfl rfl ?_
        refine do_ rfl rfl (st_ldP (v := dI .i64 x101.B) ta3 rfl rfl rfl rfl) rfl rfl rfl ?_
        refine do_ rfl rfl (st_bin (v := dB (x101.B == (0 : Int))) rfl rfl rfl) rfl rfl rfl ?_
        refine do_ rfl rfl (st_pickT rfl rfl) rfl rfl rfl ?_
        refine do_ rfl rfl (st_mv rfl) rfl rfl rfl ?_
        refine bool_split (x101.B == (0 : Int)) (fun p111 => ?_) (fun p111 => ?_)
        · replace h := ite_T p111 h
          rw [p111]
          refine do_ rfl rfl (st_faP fo58_3 rfl) rfl rfl rfl ?_
          refine do_ rfl rfl (st_ldP (v := dI .i64 x101.Piv) ta3 rfl rfl rfl rfl) rfl rfl rfl ?_
          refine do_ rfl rfl (st_bin (v := dB (x101.Piv == (0 : Int))) rfl rfl rfl) rfl rfl rfl ?_
          refine do_ rfl rfl (st_pickT rfl rfl) rfl rfl rfl ?_
          refine do_ rfl rfl (st_mv rfl) rfl rfl rfl ?_
          refine bool_split (x101.Piv == (0 : Int)) (fun p112 => ?_) (fun p112 => ?_)
          · replace h := ite_T p112 h
            rw [p112]
            refine do_ rfl rfl (st_faP fo58_4 rfl) rfl rfl rfl ?_
            refine do_ rfl rfl (st_ldP (v := dL 1 (eI .i64) x101.Lits) ta28 rfl rfl rfl rfl) rfl rfl rfl ?_
            refine do_ rfl rfl (st_mv rfl) rfl rfl rfl ?_
            refine do_ rfl rfl (st_faP fo58_1 rfl) rfl rfl rfl ?_
            refine do_ rfl rfl (st_ldP (v := dI .i64 x101.A) ta3 rfl rfl rfl rfl) rfl rfl rfl ?_
            obtain ⟨x113, h0113, hx113, h⟩ := getI_some h
            refine do_ rfl rfl (st_ixD sl22 rfl rfl h0113 hx113) rfl rfl rfl ?_
            refine do_ rfl rfl (st_ldD (v := dL 1 (eI .i64) x113) ta28 rfl rfl) rfl rfl rfl ?_
            obtain ⟨y114, hy114, h⟩ := bind_some_elim h
            refine df rfl rfl (ok_skolemref09_Same hy114) rfl rfl ?_
            refine do_ rfl rfl (st_pickT rfl rfl) rfl rfl rfl ?_
            refine do_ rfl rfl (st_as rfl) rfl rfl rfl ?_
            refine rd_nil (by kernel_rfl) ?_
            refine awp_ret ?_
            refine rt_then ?_
            injection h with h
            subst h
            exact ret_out (v := dB y114) (resV_one (resVs_tmp rfl resVs_nil)) (.keep rfl)
          · replace h := ite_F p112 h
            rw [p112]
            refine dz rfl rfl ?_
            refine dz rfl rfl ?_
            refine dz rfl rfl ?_
            refine dz rfl rfl ?_
            refine dz rfl rfl ?_
            refine dz rfl rfl ?_
            refine dz rfl rfl ?_
            refine dz rfl rfl ?_
            refine do_ rfl rfl (st_pickF rfl rfl) rfl rfl rfl ?_
            refine do_ rfl rfl (st_as rfl) rfl rfl rfl ?_
            refine rd_nil (by kernel_rfl) ?_
            refine awp_ret ?_
            refine rt_then ?_
            injection h with h
            subst h
            exact ret_out (v := dB false) (resV_one (resVs_tmp rfl resVs_nil)) (.keep rfl)
        · replace h := ite_F p111 h
          rw [p111]
          refine dz rfl rfl ?_
          refine dz rfl rfl ?_
          refine dz rfl rfl ?_
          refine do_ rfl rfl (st_pickF rfl rfl) rfl rfl rfl ?_
          refine do_ rfl rfl (st_mv rfl) rfl rfl rfl ?_
          refine dz rfl rfl ?_
          refine dz rfl rfl ?_
          refine dz rfl rfl ?_
          refine dz rfl rfl ?_
          refine dz rfl rfl ?_
          refine dz rfl rfl ?_
          refine dz rfl rfl ?_
          refine dz rfl rfl ?_
          refine do_ rfl rfl (st_pickF rfl rfl) rfl rfl rfl ?_
          refine do_ rfl rfl (st_as rfl) rfl rfl rfl ?_
          refine rd_nil (by kernel_rfl) ?_
          refine awp_ret ?_
          refine rt_then ?_
          injection h with h
          subst h
          exact ret_out (v := dB false) (resV_one (resVs_tmp rfl resVs_nil)) (.keep rfl)
      · replace h := ite_F p110 h
        rw [p110]
        refine dz rfl rfl ?_
        refine dz rfl rfl ?_
        refine dz rfl rfl ?_
        refine do_ rfl rfl (st_pickF rfl rfl) rfl rfl rfl ?_
        refine do_ rfl rfl (st_mv rfl) rfl rfl rfl ?_
        refine dz rfl rfl ?_
        refine dz rfl rfl ?_
        refine dz rfl rfl ?_
        refine do_ rfl rfl (st_pickF rfl rfl) rfl rfl rfl ?_
        refine do_ rfl rfl (st_mv rfl) rfl rfl rfl ?_
        refine dz rfl rfl ?_
        refine dz rfl rfl ?_
        refine dz rfl rfl ?_
        refine dz rfl rfl ?_
        refine dz rfl rfl ?_
        refine dz rfl rfl ?_
        refine dz rfl rfl ?_
        refine dz rfl rfl ?_
        refine do_ rfl rfl (st_pickF rfl rfl) rfl rfl rfl ?_
        refine do_ rfl rfl (st_as rfl) rfl rfl rfl ?_
        refine rd_nil (by kernel_rfl) ?_
        refine awp_ret ?_
        refine rt_then ?_
        injection h with h
        subst h
        exact ret_out (v := dB false) (resV_one (resVs_tmp rfl resVs_nil)) (.keep rfl)
    · replace h := ite_F p109 h
      rw [p109]
      refine dz rfl rfl ?_
      refine dz rfl rfl ?_
      refine dz rfl rfl ?_
      refine dz rfl rfl ?_
      refine dz rfl rfl ?_
      refine do_ rfl rfl (st_pickF rfl rfl) rfl rfl rfl ?_
      refine do_ rfl rfl (st_mv rfl) rfl rfl rfl ?_
      refine dz rfl rfl ?_
      refine dz rfl rfl ?_
      refine dz rfl rfl ?_
      refine do_ rfl rfl (st_pickF rfl rfl) rfl rfl rfl ?_
      refine do_ rfl rfl (st_mv rfl) rfl rfl rfl ?_
      refine dz rfl rfl ?_
      refine dz rfl rfl ?_
      refine dz rfl rfl ?_
      refine do_ rfl rfl (st_pickF rfl rfl) rfl rfl rfl ?_
      refine do_ rfl rfl (st_mv rfl) rfl rfl rfl ?_
      refine dz rfl rfl ?_
      refine dz rfl rfl ?_
      refine dz rfl rfl ?_
      refine dz rfl rfl ?_
      refine dz rfl rfl ?_
      refine dz rfl rfl ?_
      refine dz rfl rfl ?_
      refine dz rfl rfl ?_
      refine do_ rfl rfl (st_pickF rfl rfl) rfl rfl rfl ?_
      refine do_ rfl rfl (st_as rfl) rfl rfl rfl ?_
      refine rd_nil (by kernel_rfl) ?_
      refine awp_ret ?_
      refine rt_then ?_
      injection h with h
      subst h
      exact ret_out (v := dB false) (resV_one (resVs_tmp rfl resVs_nil)) (.keep rfl)
  · replace h := ite_F p102 h
    refine awp_skip ?_
    refine nx_then ?_
    refine awp_seq ?_
    refine awp_jn (fun (s131 : Bool) (g132 : Unit) => [(4, .ptr 1001 0 0 0), (7, .ptr 1002 0 0 0), (72, dB s131)]) (fun (s131 : Bool) (g132 : Unit) => [(1001, .row 0 25 [[dB a1.Cubes, dL 5 e_S_api_Line a1.Lines]]), (1002, .row 0 58 [[dI .u8 x101.Rule, dI .i64 x101.A, dI .i64 x101.B, dI .i64 x101.Piv, dL 1 (eI .i64) x101.Lits]])]) h ?_ ?_
    · clear h
      intro s131 g132 h
      refine awp_ite (b := s131) rfl (fun p134 => ?_) (fun p134 => ?_)
      · replace h := ite_T p134 h
        refine awp_rs ?_
        refine ro rfl rfl (st_as rfl) ?_
        refine rw_nilk ?_
        refine awp_ret ?_
        refine rt_then ?_
        injection h with h
        subst h
        exact ret_out (v := dB false) (resV_one (resVs_tmp rfl resVs_nil)) (.keep rfl)
      · replace h := ite_F p134 h
        refine awp_skip ?_
        refine nx_then ?_
        refine awp_rds hmix ?_
        refine do_ rfl rfl (st_faP fo25_1 rfl) rfl rfl rfl ?_
        refine do_ rfl rfl (st_ldP (v := dL 5 e_S_api_Line a1.Lines) ta23 rfl rfl rfl rfl) rfl rfl rfl ?_
        refine do_ rfl rfl (st_faP fo58_1 rfl) rfl rfl rfl ?_
        refine do_ rfl rfl (st_ldP (v := dI .i64 x101.A) ta3 rfl rfl rfl rfl) rfl rfl rfl ?_
        obtain ⟨x135, h0135, hx135, h⟩ := getI_some h
        refine do_ rfl rfl (st_ixD sl23 rfl rfl h0135 hx135) rfl rfl rfl ?_
        refine do_ rfl rfl (st_faD fo58_4 rfl) rfl rfl rfl ?_
        refine do_ rfl rfl (st_ldD (v := dL 1 (eI .i64) x135.Lits) ta28 rfl rfl) rfl rfl rfl ?_
        refine do_ rfl rfl (st_faP fo25_1 rfl) rfl rfl rfl ?_
        refine do_ rfl rfl (st_ldP (v := dL 5 e_S_api_Line a1.Lines) ta23 rfl rfl rfl rfl) rfl rfl rfl ?_
        refine do_ rfl rfl (st_faP fo58_2 rfl) rfl rfl rfl ?_
        refine do_ rfl rfl (st_ldP (v := dI .i64 x101.B) ta3 rfl rfl rfl rfl) rfl rfl rfl ?_
        obtain ⟨x136, h0136, hx136, h⟩ := getI_some h
        refine do_ rfl rfl (st_ixD sl23 rfl rfl h0136 hx136) rfl rfl rfl ?_
        refine do_ rfl rfl (st_faD fo58_4 rfl) rfl rfl rfl ?_
        refine do_ rfl rfl (st_ldD (v := dL 1 (eI .i64) x136.Lits) ta28 rfl rfl) rfl rfl rfl ?_
        refine do_ rfl rfl (st_faP fo58_3 rfl) rfl rfl rfl ?_
        refine do_ rfl rfl (st_ldP (v := dI .i64 x101.Piv) ta3 rfl rfl rfl rfl) rfl rfl rfl ?_
        obtain ⟨y137, hy137, h⟩ := bind_some_elim h
        refine df rfl rfl (ok_skolemref09_Resolvent hy137) rfl rfl ?_
        refine do_ rfl rfl (st_mv rfl) rfl rfl rfl ?_
        refine do_ rfl rfl (st_ext rfl rfl) rfl rfl rfl ?_
        refine do_ rfl rfl (st_ext rfl rfl) rfl rfl rfl ?_
        refine do_ rfl rfl (st_as rfl) rfl rfl rfl ?_
        refine do_ rfl rfl (st_as rfl) rfl rfl rfl ?_
        refine rd_nil (by kernel_rfl) ?_
        refine awp_rs ?_
        refine ro rfl rfl (st_mv rfl) ?_
        refine ro rfl rfl (st_mv rfl) ?_
        refine bool_split y137.2 (fun p140 => ?_) (fun p140 => ?_)
        · replace h := ite_T p140 h
          rw [p140]
          refine ro rfl rfl (st_mv rfl) ?_
          refine ro rfl rfl (st_faP fo58_4 rfl) ?_
          refine ro rfl rfl (st_ldP (v := dL 1 (eI .i64) x101.Lits) ta28 rfl rfl rfl rfl) ?_
          obtain ⟨y141, hy141, h⟩ := bind_some_elim h
          refine rf rfl rfl (ok_skolemref09_Same hy141) rfl rfl ?_
          refine ro rfl rfl (st_pickT rfl rfl) ?_
          refine ro rfl rfl (st_as rfl) ?_
          refine rw_nilk ?_
          refine awp_ret ?_
          injection h with h
          subst h
          exact ret_out (v := dB y141) (resV_one (resVs_tmp rfl resVs_nil)) (.keep rfl)
        · replace h := ite_F p140 h
          rw [p140]
          refine rz rfl rfl ?_
          refine rz rfl rfl ?_
          refine rz rfl rfl ?_
          refine rz rfl rfl ?_
          refine ro rfl rfl (st_pickF rfl rfl) ?_
          refine ro rfl rfl (st_as rfl) ?_
          refine rw_nilk ?_
          refine awp_ret ?_
          injection h with h
          subst h
          exact ret_out (v := dB false) (resV_one (resVs_tmp rfl resVs_nil)) (.keep rfl)
    · clear h
      intro k133 h J133
      refine awp_rw ?_
      refine ro rfl rfl (st_faP fo58_0 rfl) ?_
      refine ro rfl rfl (st_ldP (v := dI .u8 x101.Rule) ta56 rfl rfl rfl rfl) ?_
      refine ro rfl rfl (st_bin (v := dB (x101.Rule != (2 : Int))) rfl rfl rfl) ?_
      refine ro rfl rfl (st_mv rfl) ?_
      refine bool_split (x101.Rule != (2 : Int)) (fun p142 => ?_) (fun p142 => ?_)
      · replace h := ite_T p142 h
        rw [p142]
        refine rz rfl rfl ?_
        refine rz rfl rfl ?_
        refine rz rfl rfl ?_
        refine ro rfl rfl (st_pickT rfl rfl) ?_
        refine ro rfl rfl (st_mv rfl) ?_
        refine rz rfl rfl ?_
        refine rz rfl rfl ?_
        refine rz rfl rfl ?_
        refine rz rfl rfl ?_
        refine ro rfl rfl (st_pickT rfl rfl) ?_
        refine ro rfl rfl (st_mv rfl) ?_
        refine rz rfl rfl ?_
        refine rz rfl rfl ?_
        refine rz rfl rfl ?_
        refine ro rfl rfl (st_pickT rfl rfl) ?_
        refine ro rfl rfl (st_mv rfl) ?_
        refine rz rfl rfl ?_
        refine rz rfl rfl ?_
        refine rz rfl rfl ?_
        refine rz rfl rfl ?_
        refine ro rfl rfl (st_pickT rfl rfl) ?_
        refine rw_nil ?_
        refine nx_then ?_
        exact J133 true () _ _ h (gh_frz rfl rfl ⟨⟨_, rfl, .keep rfl⟩, ⟨_, rfl, .keep rfl⟩, ⟨_, rfl, .keep rfl⟩, trivial⟩ ⟨⟨_, rfl, objOne ⟨⟨rfl, .keep rfl⟩, ⟨rfl, .keep rfl⟩, trivial⟩⟩, ⟨_, rfl, objOne ⟨⟨rfl, .keep rfl⟩, ⟨rfl, .keep rfl⟩, ⟨rfl, .keep rfl⟩, ⟨rfl, .keep rfl⟩, ⟨rfl, .keep rfl⟩, trivial⟩⟩, trivial⟩)
      · replace h := ite_F p142 h
        rw [p142]
        refine ro rfl rfl (st_faP fo58_1 rfl) ?_
        refine ro rfl rfl (st_ldP (v := dI .i64 x101.A) ta3 rfl rfl rfl rfl) ?_
        refine ro rfl rfl (st_bin (v := dB (decide (x101.A < (0 : Int)))) rfl rfl rfl) ?_
        refine ro rfl rfl (st_pickF rfl rfl) ?_
        refine ro rfl rfl (st_mv rfl) ?_
        refine bool_split (decide (x101.A < (0 : Int))) (fun p143 => ?_) (fun p143 => ?_)
        · replace h := ite_T p143 h
          rw [p143]
          refine rz rfl rfl ?_
          refine rz rfl rfl ?_
          refine rz rfl rfl ?_
          refine rz rfl rfl ?_
          refine ro rfl rfl (st_pickT rfl rfl) ?_
          refine ro rfl rfl (st_mv rfl) ?_
          refine rz rfl rfl ?_
          refine rz rfl rfl ?_
          refine rz rfl rfl ?_
          refine ro rfl rfl (st_pickT rfl rfl) ?_
          refine ro rfl rfl (st_mv rfl) ?_
          refine rz rfl rfl ?_
          refine rz rfl rfl ?_
          refine rz rfl rfl ?_
          refine rz rfl rfl ?_
          refine ro rfl rfl (st_pickT rfl rfl) ?_
          refine rw_nil ?_
          refine nx_then ?_
          exact J133 true () _ _ h (gh_frz rfl rfl ⟨⟨_, rfl, .keep rfl⟩, ⟨_, rfl, .keep rfl⟩, ⟨_, rfl, .keep rfl⟩, trivial⟩ ⟨⟨_, rfl, objOne ⟨⟨rfl, .keep rfl⟩, ⟨rfl, .keep rfl⟩, trivial⟩⟩, ⟨_, rfl, objOne ⟨⟨rfl, .keep rfl⟩, ⟨rfl, .keep rfl⟩, ⟨rfl, .keep rfl⟩, ⟨rfl, .keep rfl⟩, ⟨rfl, .keep rfl⟩, trivial⟩⟩, trivial⟩)
        · replace h := ite_F p143 h
          rw [p143]
          refine ro rfl rfl (st_faP fo58_1 rfl) ?_
          refine ro rfl rfl (st_ldP (v := dI .i64 x101.A) ta3 rfl rfl rfl rfl) ?_
          refine ro rfl rfl (st_mv rfl) ?_
          refine ro rfl rfl (st_bin (v := dB (decide (x101.A ≥ a2))) rfl rfl rfl) ?_
          refine ro rfl rfl (st_pickF rfl rfl) ?_
          refine ro rfl rfl (st_mv rfl) ?_
          refine bool_split (decide (x101.A ≥ a2)) (fun p144 => ?_) (fun p144 => ?_)
          · replace h := ite_T p144 h
            rw [p144]
            refine rz rfl rfl ?_
            refine rz rfl rfl ?_
            refine rz rfl rfl ?_
            refine ro rfl rfl (st_pickT rfl rfl) ?_
            refine ro rfl rfl (st_mv rfl) ?_
            refine rz rfl rfl ?_
            refine rz rfl rfl ?_
            refine rz rfl rfl ?_
            refine rz rfl rfl ?_
            refine ro rfl rfl (st_pickT rfl rfl) ?_
            refine rw_nil ?_
            refine nx_then ?_
            exact J133 true () _ _ h (gh_frz rfl rfl ⟨⟨_, rfl, .keep rfl⟩, ⟨_, rfl, .keep rfl⟩, ⟨_, rfl, .keep rfl⟩, trivial⟩ ⟨⟨_, rfl, objOne ⟨⟨rfl, .keep rfl⟩, ⟨rfl, .keep rfl⟩, trivial⟩⟩, ⟨_, rfl, objOne ⟨⟨rfl, .keep rfl⟩, ⟨rfl, .keep rfl⟩, ⟨rfl, .keep rfl⟩, ⟨rfl, .keep rfl⟩, ⟨rfl, .keep rfl⟩, trivial⟩⟩, trivial⟩)
          · replace h := ite_F p144 h
            rw [p144]
            refine ro rfl rfl (st_faP fo58_2 rfl) ?_
            refine ro rfl rfl (st_ldP (v := dI .i64 x101.B) ta3 rfl rfl rfl rfl) ?_
            refine ro rfl rfl (st_bin (v := dB (decide (x101.B < (0 : Int)))) rfl rfl rfl) ?_
            refine ro rfl rfl (st_pickF rfl rfl) ?_
            refine ro rfl rfl (st_mv rfl) ?_
            refine bool_split (decide (x101.B < (0 : Int))) (fun p145 => ?_) (fun p145 => ?_)
            · replace h := ite_T p145 h
              rw [p145]
              refine rz rfl rfl ?_
              refine rz rfl rfl ?_
              refine rz rfl rfl ?_
              refine rz rfl rfl ?_
              refine ro rfl rfl (st_pickT rfl rfl) ?_
              refine rw_nil ?_
              refine nx_then ?_
              exact J133 true () _ _ h (gh_frz rfl rfl ⟨⟨_, rfl, .keep rfl⟩, ⟨_, rfl, .keep rfl⟩, ⟨_, rfl, .keep rfl⟩, trivial⟩ ⟨⟨_, rfl, objOne ⟨⟨rfl, .keep rfl⟩, ⟨rfl, .keep rfl⟩, trivial⟩⟩, ⟨_, rfl, objOne ⟨⟨rfl, .keep rfl⟩, ⟨rfl, .keep rfl⟩, ⟨rfl, .keep rfl⟩, ⟨rfl, .keep rfl⟩, ⟨rfl, .keep rfl⟩, trivial⟩⟩, trivial⟩)
            · replace h := ite_F p145 h
              rw [p145]
              refine ro rfl rfl (st_faP fo58_2 rfl) ?_
              refine ro rfl rfl (st_ldP (v := dI .i64 x101.B) ta3 rfl rfl rfl rfl) ?_
              refine ro rfl rfl (st_mv rfl) ?_
              refine ro rfl rfl (st_bin (v := dB (decide (x101.B ≥ a2))) rfl rfl rfl) ?_
              refine ro rfl rfl (st_pickF rfl rfl) ?_
              refine rw_nil ?_
              refine nx_then ?_
              exact J133 (decide (x101.B ≥ a2)) () _ _ h (gh_frz rfl rfl ⟨⟨_, rfl, .keep rfl⟩, ⟨_, rfl, .keep rfl⟩, ⟨_, rfl, .keep rfl⟩, trivial⟩ ⟨⟨_, rfl, objOne ⟨⟨rfl, .keep rfl⟩, ⟨rfl, .keep rfl⟩, trivial⟩⟩, ⟨_, rfl, objOne ⟨⟨rfl, .keep rfl⟩, ⟨rfl, .keep rfl⟩, ⟨rfl, .keep rfl⟩, ⟨rfl, .keep rfl⟩, ⟨rfl, .keep rfl⟩, trivial⟩⟩, trivial⟩)

theorem ok_skolemref10_Check {a0 : (List (List Int))} {a1 : S_api_Proof} {r : ((List Int) × Int × Int)} (h : F_skolemref10_Check a0 a1 = some r) : Fn Try.prog 15 [dL 1 (eL 1 (eI .i64)) a0, .agg [dB a1.Cubes, dL 5 e_S_api_Line a1.Lines]] (.tup [dL 1 (eI .i64) r.1, dI .i64 r.2.1, dI .i64 r.2.2]) := by
  unfold F_skolemref10_Check at h
  refine Fn.of_body (N := 43) (rs := [.tmp 4, .tmp 5, .tmp 6]) Try.func15 (c := _) rfl rfl rfl (by kernel_rfl) (Nat.le_of_ble_eq_true rfl) (fun _B => ?_)
  refine awp_rs ?_
  refine rn (r := 1001) rfl rfl (st_box rfl rfl rfl co25 rfl rfl) rfl ?_
  refine ro rfl rfl (st_as rfl) ?_
  refine ro rfl rfl (st_as rfl) ?_
  refine ro rfl rfl (st_as rfl) ?_
  refine rw_nilk ?_
  refine awp_seq ?_
  refine awp_rs ?_
  refine ro rfl rfl (st_mv rfl) ?_
  obtain ⟨y101, hy101, h⟩ := bind_some_elim h
  refine rf rfl rfl (ok_skolemref09_Cnf hy101) rfl rfl ?_
  refine ro rfl rfl (st_un (v := dB (!y101)) rfl rfl) ?_
  refine rw_nilk ?_
  refine awp_ite (b := (!y101)) rfl (fun p102 => ?_) (fun p102 => ?_)
  · replace h := ite_T p102 h
    refine awp_rs ?_
    refine ro rfl rfl (st_as rfl) ?_
    refine ro rfl rfl (st_as rfl) ?_
    refine ro rfl rfl (st_as rfl) ?_
    refine rw_nilk ?_
    refine awp_ret ?_
    refine rt_then ?_
    injection h with h
    subst h
    exact ret_out (v := .tup [.nilS, dI .i64 (0 : Int), dI .i64 (2 : Int)]) (resV_many (resVs_tmp rfl (resVs_tmp rfl (resVs_tmp rfl resVs_nil)))) (frz_tup ⟨(.nilS _), (.keep rfl), (.keep rfl), trivial⟩)
  · replace h := ite_F p102 h
    refine awp_skip ?_
    refine nx_then ?_
    refine awp_rs ?_
    refine ro rfl rfl (st_faP fo25_1 rfl) ?_
    refine ro rfl rfl (st_ldP (v := dL 5 e_S_api_Line a1.Lines) ta23 rfl rfl rfl rfl) ?_
    refine ro rfl rfl (st_lenD rfl un23) ?_
    refine ro rfl rfl (st_as rfl) ?_
    refine rw_nilk ?_
    refine awp_seq ?_
    refine awp_jn (fun (s113 : (Bool × Bool)) (g114 : Unit) => [(0, dL 1 (eL 1 (eI .i64)) a0), (3, .ptr 1001 0 0 0), (7, dI .i64 ((a1.Lines.length : Nat) : Int)), (24, dB s113.1)]) (fun (s113 : (Bool × Bool)) (g114 : Unit) => [(1001, .row 0 25 [[dB s113.2, dL 5 e_S_api_Line a1.Lines]])]) h ?_ ?_
    · clear h
      intro s113 g114 h
      refine awp_ite (b := s113.1) rfl (fun p116 => ?_) (fun p116 => ?_)
      · replace h := ite_T p116 h
        refine awp_rs ?_
        refine ro rfl rfl (st_as rfl) ?_
        refine ro rfl rfl (st_as rfl) ?_
        refine ro rfl rfl (st_as rfl) ?_
        refine rw_nilk ?_
        refine awp_ret ?_
        refine rt_then ?_
        injection h with h
        subst h
        exact ret_out (v := .tup [.nilS, dI .i64 (0 : Int), dI .i64 (100 : Int)]) (resV_many (resVs_tmp rfl (resVs_tmp rfl (resVs_tmp rfl resVs_nil)))) (frz_tup ⟨(.nilS _), (.keep rfl), (.keep rfl), trivial⟩)
      · replace h := ite_F p116 h
        refine awp_skip ?_
        refine nx_then ?_
        refine awp_seq ?_
        refine awp_rs ?_
        refine ro rfl rfl (st_as rfl) ?_
        refine rw_nilk ?_
        refine awp_block ?_
        refine awp_lenC (r := 1001) (i := 1) rfl rfl (fun hl120 => ?_)
        rw [List.length_map] at hl120
        refine awp_range (fun (j120 : Nat) (s117 : Unit) (g118 : Unit) => [(0, dL 1 (eL 1 (eI .i64)) a0), (3, .ptr 1001 0 0 0), (7, dI .i64 ((a1.Lines.length : Nat) : Int)), (8, dI .i64 ((j120 : Nat) : Int))]) (fun (s117 : Unit) (g118 : Unit) => [(1001, .row 0 25 [[dB s113.2, dL 5 e_S_api_Line a1.Lines]])]) () (fun _ _ _ h => h) h (gh_frz rfl rfl ⟨⟨_, rfl, .keep rfl⟩, ⟨_, rfl, .keep rfl⟩, ⟨_, rfl, .keep rfl⟩, ⟨_, rfl, .keep rfl⟩, trivial⟩ ⟨⟨_, rfl, objOne ⟨⟨rfl, .keep rfl⟩, ⟨rfl, .keep rfl⟩, trivial⟩⟩, trivial⟩) ?_ ?_
        · clear h
          intro j120 x121 s117 g118 k119 hj120 hx120 h ih119
          refine awp_seq ?_
          refine awp_rs ?_
          refine ro rfl rfl (st_mv rfl) ?_
          refine ro rfl rfl (st_mv rfl) ?_
          refine ro rfl rfl (st_bin (v := dB (decide (((j120 : Nat) : Int) < ((a1.Lines.length : Nat) : Int)))) rfl rfl rfl) ?_
          refine rw_nilk ?_
          refine awp_ifT rfl (dlt hj120) ?_
          refine awp_skip ?_
          refine nx_then ?_
          refine awp_seq ?_
          refine awp_block ?_
          refine awp_rs ?_
          refine ro rfl rfl (st_mv rfl) ?_
          refine ro rfl rfl (st_ldP (v := .agg [dB s113.2, dL 5 e_S_api_Line a1.Lines]) ta25 rfl rfl rfl rfl) ?_
          refine ro rfl rfl (st_mv rfl) ?_
          obtain ⟨y124, hy124, h⟩ := bind_some_elim h
          refine rf rfl rfl (ok_skolemref10_right hy124) rfl rfl ?_
          refine ro rfl rfl (st_un (v := dB (!y124)) rfl rfl) ?_
          refine rw_nilk ?_
          refine awp_ite (b := (!y124)) rfl (fun p125 => ?_) (fun p125 => ?_)
          · replace h := ite_T p125 h
            refine awp_rs ?_
            refine ro rfl rfl (st_mv rfl) ?_
            refine ro rfl rfl (st_as rfl) ?_
            refine ro rfl rfl (st_as rfl) ?_
            refine ro rfl rfl (st_as rfl) ?_
            refine rw_nilk ?_
            refine awp_ret ?_
            refine rt_block ?_
            refine rt_then ?_
            refine rt_then ?_
            refine rt_block ?_
            refine rt_then ?_
            injection h with h
            subst h
            exact ret_out (v := .tup [.nilS, dI .i64 ((j120 : Nat) : Int), dI .i64 (100 : Int)]) (resV_many (resVs_tmp rfl (resVs_tmp rfl (resVs_tmp rfl resVs_nil)))) (frz_tup ⟨(.nilS _), (.keep rfl), (.keep rfl), trivial⟩)
          · replace h := ite_F p125 h
            refine awp_skip ?_
            refine nx_block ?_
            refine nx_then ?_
            refine awp_rw ?_
            refine ro rfl rfl (st_mv rfl) ?_
            refine ro rfl rfl (st_inc rfl rfl hj120 hl120) ?_
            refine ro rfl rfl (st_as rfl) ?_
            refine rw_nil ?_
            refine nx_then ?_
            refine awp_gh ?_ (ih119 () () h)
            exact (gh_frz rfl rfl ⟨⟨_, rfl, .keep rfl⟩, ⟨_, rfl, .keep rfl⟩, ⟨_, rfl, .keep rfl⟩, ⟨_, rfl, .keep rfl⟩, trivial⟩ ⟨⟨_, rfl, objOne ⟨⟨rfl, .keep rfl⟩, ⟨rfl, .keep rfl⟩, trivial⟩⟩, trivial⟩)
        · clear h
          intro s117 g118 h
          refine awp_seq ?_
          refine awp_rs ?_
          refine ro rfl rfl (st_mv rfl) ?_
          refine ro rfl rfl (st_mv rfl) ?_
          refine ro rfl rfl (st_bin (v := dB (decide (((a1.Lines.length : Nat) : Int) < ((a1.Lines.length : Nat) : Int)))) rfl rfl rfl) ?_
          refine rw_nilk ?_
          refine awp_ifF rfl dge ?_
          refine awp_exit ?_
          refine ex_out ?_
          refine ex_out ?_
          refine ex_in ?_
          refine nx_then ?_
          refine awp_rs ?_
          refine ro rfl rfl (st_faP fo25_1 rfl) ?_
          refine ro rfl rfl (st_ldP (v := dL 5 e_S_api_Line a1.Lines) ta23 rfl rfl rfl rfl) ?_
          refine ro rfl rfl (st_mv rfl) ?_
          refine ro rfl rfl (st_bin (v := dI .i64 (IntKind.wrap .i64 (((a1.Lines.length : Nat) : Int) - (1 : Int)))) rfl rfl rfl) ?_
          obtain ⟨x126, h0126, hx126, h⟩ := getI_some h
          refine ro rfl rfl (st_ixD sl23 rfl rfl h0126 hx126) ?_
          refine ro rfl rfl (st_faD fo58_4 rfl) ?_
          refine ro rfl rfl (st_ldD (v := dL 1 (eI .i64) x126.Lits) ta28 rfl rfl) ?_
          refine ro rfl rfl (st_as rfl) ?_
          refine ro rfl rfl (st_as rfl) ?_
          refine ro rfl rfl (st_as rfl) ?_
          refine rw_nilk ?_
          refine awp_ret ?_
          injection h with h
          subst h
          exact ret_out (v := .tup [dL 1 (eI .i64) x126.Lits, dI .i64 (0 : Int), dI .i64 (0 : Int)]) (resV_many (resVs_tmp rfl (resVs_tmp rfl (resVs_tmp rfl resVs_nil)))) (.keep rfl)
    · clear h
      intro k115 h J115
      refine awp_rw ?_
      refine ro rfl rfl (st_faP fo25_0 rfl) ?_
      refine ro rfl rfl (st_ldP (v := dB a1.Cubes) ta4 rfl rfl rfl rfl) ?_
      refine ro rfl rfl (st_mv rfl) ?_
      refine bool_split a1.Cubes (fun p127 => ?_) (fun p127 => ?_)
      · replace h := ite_T p127 h
        rw [p127]
        refine rz rfl rfl ?_
        refine rz rfl rfl ?_
        refine ro rfl rfl (st_pickT rfl rfl) ?_
        refine ro rfl rfl (st_mv rfl) ?_
        refine rz rfl rfl ?_
        refine rz rfl rfl ?_
        refine ro rfl rfl (st_pickT rfl rfl) ?_
        refine rw_nil ?_
        refine nx_then ?_
        exact J115 (true, true) () _ _ h (gh_frz rfl rfl ⟨⟨_, rfl, .keep rfl⟩, ⟨_, rfl, .keep rfl⟩, ⟨_, rfl, .keep rfl⟩, ⟨_, rfl, .keep rfl⟩, trivial⟩ ⟨⟨_, rfl, objOne ⟨⟨rfl, .keep rfl⟩, ⟨rfl, .keep rfl⟩, trivial⟩⟩, trivial⟩)
      · replace h := ite_F p127 h
        rw [p127]
        refine ro rfl rfl (st_mv rfl) ?_
        refine ro rfl rfl (st_bin (v := dB (((a1.Lines.length : Nat) : Int) == (0 : Int))) rfl rfl rfl) ?_
        refine ro rfl rfl (st_pickF rfl rfl) ?_
        refine ro rfl rfl (st_mv rfl) ?_
        refine bool_split (((a1.Lines.length : Nat) : Int) == (0 : Int)) (fun p128 => ?_) (fun p128 => ?_)
        · replace h := ite_T p128 h
          rw [p128]
          refine rz rfl rfl ?_
          refine rz rfl rfl ?_
          refine ro rfl rfl (st_pickT rfl rfl) ?_
          refine rw_nil ?_
          refine nx_then ?_
          exact J115 (true, false) () _ _ h (gh_frz rfl rfl ⟨⟨_, rfl, .keep rfl⟩, ⟨_, rfl, .keep rfl⟩, ⟨_, rfl, .keep rfl⟩, ⟨_, rfl, .keep rfl⟩, trivial⟩ ⟨⟨_, rfl, objOne ⟨⟨rfl, .keep rfl⟩, ⟨rfl, .keep rfl⟩, trivial⟩⟩, trivial⟩)
        · replace h := ite_F p128 h
          rw [p128]
          refine ro rfl rfl (st_mv rfl) ?_
          refine ro rfl rfl (st_bin (v := dB (decide (((a1.Lines.length : Nat) : Int) > (1000000 : Int)))) rfl rfl rfl) ?_
          refine ro rfl rfl (st_pickF rfl rfl) ?_
          refine rw_nil ?_
          refine nx_then ?_
          exact J115 ((decide (((a1.Lines.length : Nat) : Int) > (1000000 : Int))), false) () _ _ h (gh_frz rfl rfl ⟨⟨_, rfl, .keep rfl⟩, ⟨_, rfl, .keep rfl⟩, ⟨_, rfl, .keep rfl⟩, ⟨_, rfl, .keep rfl⟩, trivial⟩ ⟨⟨_, rfl, objOne ⟨⟨rfl, .keep rfl⟩, ⟨rfl, .keep rfl⟩, trivial⟩⟩, trivial⟩)

theorem ok_skolemref10_at {a0 : (List Int)} {a1 : Int} {r : Int} (h : F_skolemref10_at a0 a1 = some r) : Fn Try.prog 62 [dL 1 (eI .i64) a0, dI .i64 a1] (dI .i64 r) := by
  unfold F_skolemref10_at at h
  refine Fn.of_body (N := 19) (rs := [.tmp 4]) Try.func62 (c := _) rfl rfl rfl (by kernel_rfl) (Nat.le_of_ble_eq_true rfl) (fun _B => ?_)
  refine awp_rs ?_
  refine ro rfl rfl (st_as rfl) ?_
  refine rw_nilk ?_
  refine awp_seq ?_
  refine awp_rs ?_
  refine ro rfl rfl (st_as rfl) ?_
  refine rw_nilk ?_
  refine awp_block ?_
  refine awp_len (t := 0) rfl (fun hl104 => ?_)
  rw [List.length_map] at hl104
  refine awp_range (fun (j104 : Nat) (s101 : Unit) (g102 : Unit) => [(0, dL 1 (eI .i64) a0), (1, dI .i64 a1), (5, dI .i64 ((j104 : Nat) : Int))]) (fun (s101 : Unit) (g102 : Unit) => []) () (fun _ _ _ h => h) h (gh_frz rfl rfl ⟨⟨_, rfl, .keep rfl⟩, ⟨_, rfl, .keep rfl⟩, ⟨_, rfl, .keep rfl⟩, trivial⟩ trivial) ?_ ?_
  · clear h
    intro j104 x105 s101 g102 k103 hj104 hx104 h ih103
    refine awp_seq ?_
    refine awp_rs ?_
    refine ro rfl rfl (st_mv rfl) ?_
    refine ro rfl rfl (st_mv rfl) ?_
    refine ro rfl rfl (st_lenD rfl un28) ?_
    refine ro rfl rfl (st_bin (v := dB (decide (((j104 : Nat) : Int) < ((a0.length : Nat) : Int)))) rfl rfl rfl) ?_
    refine rw_nilk ?_
    refine awp_ifT rfl (dlt hj104) ?_
    refine awp_skip ?_
    refine nx_then ?_
    refine awp_seq ?_
    refine awp_block ?_
    refine awp_rs ?_
    refine ro rfl rfl (st_mv rfl) ?_
    refine ro rfl rfl (st_mv rfl) ?_
    refine ro rfl rfl (st_ixDn sl28 rfl rfl hx104) ?_
    refine ro rfl rfl (st_ldD (v := dI .i64 x105) ta3 rfl rfl) ?_
    refine ro rfl rfl (st_mv rfl) ?_
    refine ro rfl rfl (st_bin (v := dB (x105 == a1)) rfl rfl rfl) ?_
    refine rw_nilk ?_
    refine awp_ite (b := (x105 == a1)) rfl (fun p107 => ?_) (fun p107 => ?_)
    · replace h := ite_T p107 h
      refine awp_rs ?_
      refine ro rfl rfl (st_mv rfl) ?_
      refine ro rfl rfl (st_as rfl) ?_
      refine rw_nilk ?_
      refine awp_ret ?_
      refine rt_block ?_
      refine rt_then ?_
      refine rt_then ?_
      refine rt_block ?_
      refine rt_then ?_
      injection h with h
      subst h
      exact ret_out (v := dI .i64 ((j104 : Nat) : Int)) (resV_one (resVs_tmp rfl resVs_nil)) (.keep rfl)
    · replace h := ite_F p107 h
      refine awp_skip ?_
      refine nx_block ?_
      refine nx_then ?_
      refine awp_rw ?_
      refine ro rfl rfl (st_mv rfl) ?_
      refine ro rfl rfl (st_inc rfl rfl hj104 hl104) ?_
      refine ro rfl rfl (st_as rfl) ?_
      refine rw_nil ?_
      refine nx_then ?_
      refine awp_gh ?_ (ih103 () () h)
      exact (gh_frz rfl rfl ⟨⟨_, rfl, .keep rfl⟩, ⟨_, rfl, .keep rfl⟩, ⟨_, rfl, .keep rfl⟩, trivial⟩ trivial)
  · clear h
    intro s101 g102 h
    refine awp_seq ?_
    refine awp_rs ?_
    refine ro rfl rfl (st_mv rfl) ?_
    refine ro rfl rfl (st_mv rfl) ?_
    refine ro rfl rfl (st_lenD rfl un28) ?_
    refine ro rfl rfl (st_bin (v := dB (decide (((a0.length : Nat) : Int) < ((a0.length : Nat) : Int)))) rfl rfl rfl) ?_
    refine rw_nilk ?_
    refine awp_ifF rfl dge ?_
    refine awp_exit ?_
    refine ex_out ?_
    refine ex_out ?_
    refine ex_in ?_
    refine nx_then ?_
    refine awp_rs ?_
    refine ro rfl rfl (st_as rfl) ?_
    refine rw_nilk ?_
    refine awp_ret ?_
    injection h with h
    subst h
    exact ret_out (v := dI .i64 (-1 : Int)) (resV_one (resVs_tmp rfl resVs_nil)) (.keep rfl)

theorem ok_skolemref10_needed {a0 : (List S_api_Line)} {a1 : Int} {r : (List Bool)} (h : F_skolemref10_needed a0 a1 = some r) : Fn Try.prog 87 [dL 5 e_S_api_Line a0, dI .i64 a1] (dL 1 eB r) := by
  unfold F_skolemref10_needed at h
  refine Fn.of_body (N := 45) (rs := [.tmp 4]) Try.func87 (c := _) rfl rfl rfl (by kernel_rfl) (Nat.le_of_ble_eq_true rfl) (fun _B => ?_)
  refine awp_rs ?_
  refine ro rfl rfl (st_as rfl) ?_
  refine rw_nilk ?_
  refine awp_rs ?_
  refine ro rfl rfl (st_mv rfl) ?_
  refine ro rfl rfl (st_lenD rfl un23) ?_
  obtain ⟨c101, h⟩ := okI_some h
  refine rn (r := 1001) rfl rfl (st_mkN (f := eB) (z := false) sl94 zc4 rfl rfl rfl rfl rfl c101) rfl ?_
  refine ro rfl rfl (st_as rfl) ?_
  refine rw_nilk ?_
  refine awp_rs ?_
  refine ro rfl rfl (st_mv rfl) ?_
  refine ro rfl rfl (st_mv rfl) ?_
  obtain ⟨x102, h0102, hx102, h⟩ := getI_some h
  refine ro rfl rfl (st_ixRi sl94 rfl rfl rfl h0102 hx102 (by simp)) ?_
  refine rx (L' := [(1001, rw' 1 4 eB ((List.replicate a0.length false).set a1.toNat true))]) rfl rfl (st_stT (z := true) ta4 rfl rfl rfl hx102 rfl rfl rfl rfl rfl) rfl ?_
  refine rw_nilk ?_
  refine awp_seq ?_
  refine awp_rs ?_
  refine ro rfl rfl (st_mv rfl) ?_
  refine ro rfl rfl (st_as rfl) ?_
  refine rw_nilk ?_
  refine awp_block ?_
  refine awp_while (fun (s103 : (Int × (List Bool))) (g104 : Unit) => [(0, dL 5 e_S_api_Line a0), (5, .slice 1001 1 0 s103.2.length), (6, dI .i64 s103.1)]) (fun (s103 : (Int × (List Bool))) (g104 : Unit) => [(1001, rw' 1 4 eB s103.2)]) () (fun _ _ _ h => h) h (gh_frz rfl rfl ⟨⟨_, rfl, .keep rfl⟩, ⟨_, rfl, frzN rfl (by simp)⟩, ⟨_, rfl, .keep rfl⟩, trivial⟩ ⟨⟨_, rfl, objRow _⟩, trivial⟩) ?_
  clear h
  intro s103 g104 k105 h ih105
  refine awp_seq ?_
  refine awp_rs ?_
  refine ro rfl rfl (st_mv rfl) ?_
  refine ro rfl rfl (st_bin (v := dB (decide (s103.1 ≥ (0 : Int)))) rfl rfl rfl) ?_
  refine rw_nilk ?_
  refine awp_ite (b := (decide (s103.1 ≥ (0 : Int)))) rfl (fun p168 => ?_) (fun p168 => ?_)
  · replace h := ite_T p168 h
    refine awp_skip ?_
    refine nx_then ?_
    refine awp_jn (fun (s182 : (List Bool)) (g183 : Unit) => [(0, dL 5 e_S_api_Line a0), (5, .slice 1001 1 0 s182.length), (6, dI .i64 s103.1)]) (fun (s182 : (List Bool)) (g183 : Unit) => [(1001, rw' 1 4 eB s182)]) h ?_ ?_
    · clear h
      intro s182 g183 h
      refine awp_rw ?_
      refine ro rfl rfl (st_mv rfl) ?_
      refine ro rfl rfl (st_bin (v := dI .i64 (IntKind.wrap .i64 (s103.1 - (1 : Int)))) rfl rfl rfl) ?_
      refine ro rfl rfl (st_as rfl) ?_
      refine rw_nil ?_
      refine nx_then ?_
      refine awp_gh ?_ (ih105 ((IntKind.wrap .i64 (s103.1 - (1 : Int))), s182) () h)
      exact (gh_frz rfl rfl ⟨⟨_, rfl, .keep rfl⟩, ⟨_, rfl, .keep rfl⟩, ⟨_, rfl, .keep rfl⟩, trivial⟩ ⟨⟨_, rfl, objRow _⟩, trivial⟩)
    · clear h
      intro k184 h J184
      refine awp_block ?_
      refine awp_jn (fun (s188 : Bool) (g189 : Unit) => [(0, dL 5 e_S_api_Line a0), (5, .slice 1001 1 0 s103.2.length), (6, dI .i64 s103.1), (29, dB s188)]) (fun (s188 : Bool) (g189 : Unit) => [(1001, rw' 1 4 eB s103.2)]) h ?_ ?_
      · clear h
        intro s188 g189 h
        refine awp_ite (b := s188) rfl (fun p191 => ?_) (fun p191 => ?_)
        · replace h := ite_T p191 h
          refine awp_rs ?_
          refine ro rfl rfl (st_mv rfl) ?_
          refine ro rfl rfl (st_mv rfl) ?_
          refine ro rfl rfl (st_mv rfl) ?_
          obtain ⟨x192, h0192, hx192, h⟩ := getI_some h
          refine ro rfl rfl (st_ixD sl23 rfl rfl h0192 hx192) ?_
          refine ro rfl rfl (st_faD fo58_1 rfl) ?_
          refine ro rfl rfl (st_ldD (v := dI .i64 x192.A) ta3 rfl rfl) ?_
          obtain ⟨x193, h0193, hx193, h⟩ := getI_some h
          refine ro rfl rfl (st_ixRi sl94 rfl rfl rfl h0193 hx193 rfl) ?_
          refine rx (L' := [(1001, rw' 1 4 eB (s103.2.set x192.A.toNat true))]) rfl rfl (st_stT (z := true) ta4 rfl rfl rfl hx193 rfl rfl rfl rfl rfl) rfl ?_
          refine rw_nilk ?_
          refine awp_rw ?_
          refine ro rfl rfl (st_mv rfl) ?_
          refine ro rfl rfl (st_mv rfl) ?_
          refine ro rfl rfl (st_mv rfl) ?_
          refine ro rfl rfl (st_ixD sl23 rfl rfl h0192 hx192) ?_
          refine ro rfl rfl (st_faD fo58_2 rfl) ?_
          refine ro rfl rfl (st_ldD (v := dI .i64 x192.B) ta3 rfl rfl) ?_
          obtain ⟨x194, h0194, hx194, h⟩ := getI_some h
          refine ro rfl rfl (st_ixRi sl94 rfl rfl rfl h0194 hx194 (by simp)) ?_
          refine rx (L' := [(1001, rw' 1 4 eB ((s103.2.set x192.A.toNat true).set x192.B.toNat true))]) rfl rfl (st_stT (z := true) ta4 rfl rfl rfl hx194 rfl rfl rfl rfl rfl) rfl ?_
          refine rw_nil ?_
          refine nx_block ?_
          refine nx_then ?_
          exact J184 ((s103.2.set x192.A.toNat true).set x192.B.toNat true) () _ _ h (gh_frz rfl rfl ⟨⟨_, rfl, .keep rfl⟩, ⟨_, rfl, frzN rfl (by simp)⟩, ⟨_, rfl, .keep rfl⟩, trivial⟩ ⟨⟨_, rfl, objRow _⟩, trivial⟩)
        · replace h := ite_F p191 h
          refine awp_skip ?_
          refine nx_block ?_
          refine nx_then ?_
          exact J184 s103.2 () _ _ h (gh_frz rfl rfl ⟨⟨_, rfl, .keep rfl⟩, ⟨_, rfl, .keep rfl⟩, ⟨_, rfl, .keep rfl⟩, trivial⟩ ⟨⟨_, rfl, objRow _⟩, trivial⟩)
      · clear h
        intro k190 h J190
        refine awp_rw ?_
        refine ro rfl rfl (st_mv rfl) ?_
        refine ro rfl rfl (st_mv rfl) ?_
        obtain ⟨x195, h0195, hx195, h⟩ := getI_some h
        refine ro rfl rfl (st_ixRi sl94 rfl rfl rfl h0195 hx195 rfl) ?_
        refine ro rfl rfl (st_ldP (v := dB x195) ta4 rfl rfl (rowOf_map_get hx195) rfl) ?_
        refine ro rfl rfl (st_mv rfl) ?_
        refine bool_split x195 (fun p196 => ?_) (fun p196 => ?_)
        · replace h := ite_T p196 h
          rw [p196]
          refine ro rfl rfl (st_mv rfl) ?_
          refine ro rfl rfl (st_mv rfl) ?_
          obtain ⟨x197, h0197, hx197, h⟩ := getI_some h
          refine ro rfl rfl (st_ixD sl23 rfl rfl h0197 hx197) ?_
          refine ro rfl rfl (st_faD fo58_0 rfl) ?_
          refine ro rfl rfl (st_ldD (v := dI .u8 x197.Rule) ta56 rfl rfl) ?_
          refine ro rfl rfl (st_bin (v := dB (x197.Rule == (2 : Int))) rfl rfl rfl) ?_
          refine ro rfl rfl (st_pickT rfl rfl) ?_
          refine rw_nil ?_
          refine nx_then ?_
          exact J190 (x197.Rule == (2 : Int)) () _ _ h (gh_frz rfl rfl ⟨⟨_, rfl, .keep rfl⟩, ⟨_, rfl, .keep rfl⟩, ⟨_, rfl, .keep rfl⟩, ⟨_, rfl, .keep rfl⟩, trivial⟩ ⟨⟨_, rfl, objRow _⟩, trivial⟩)
        · replace h := ite_F p196 h
          rw [p196]
          refine rz rfl rfl ?_
          refine rz rfl rfl ?_
          refine rz rfl rfl ?_
          refine rz rfl rfl ?_
          refine rz rfl rfl ?_
          refine rz rfl rfl ?_
          refine ro rfl rfl (st_pickF rfl rfl) ?_
          refine rw_nil ?_
          refine nx_then ?_
          exact J190 false () _ _ h (gh_frz rfl rfl ⟨⟨_, rfl, .keep rfl⟩, ⟨_, rfl, .keep rfl⟩, ⟨_, rfl, .keep rfl⟩, ⟨_, rfl, .keep rfl⟩, trivial⟩ ⟨⟨_, rfl, objRow _⟩, trivial⟩)
  · replace h := ite_F p168 h
    refine awp_exit ?_
    refine ex_out ?_
    refine ex_out ?_
    refine ex_in ?_
    refine nx_then ?_
    refine awp_rs ?_
    refine ro rfl rfl (st_mv rfl) ?_
    refine ro rfl rfl (st_as rfl) ?_
    refine rw_nilk ?_
    refine awp_ret ?_
    injection h with h
    subst h
    exact ret_out (v := .slice 1001 1 0 s103.2.length) (resV_one (resVs_tmp rfl resVs_nil)) (frzT rfl rfl co4 rfl)

theorem ok_skolemref10_kept {a0 : (List S_api_Line)} {a1 : Int} {r : S_api_Proof} (h : F_skolemref10_kept a0 a1 = some r) : Fn Try.prog 64 [dL 5 e_S_api_Line a0, dI .i64 a1] (.agg [dB r.Cubes, dL 5 e_S_api_Line r.Lines]) := by
  unfold F_skolemref10_kept at h
  refine Fn.of_body (N := 58) (rs := [.cell 4 25]) Try.func64 (c := _) rfl rfl rfl (by kernel_rfl) (Nat.le_of_ble_eq_true rfl) (fun _B => ?_)
  refine awp_rs ?_
  refine rn (r := 1001) rfl rfl (st_alloc zc25 rfl rfl) rfl ?_
  refine rw_nilk ?_
  refine awp_rs ?_
  refine ro rfl rfl (st_mv rfl) ?_
  refine ro rfl rfl (st_mv rfl) ?_
  obtain ⟨y101, hy101, h⟩ := bind_some_elim h
  refine rf rfl rfl (ok_skolemref10_needed hy101) rfl rfl ?_
  refine ro rfl rfl (st_as rfl) ?_
  refine rw_nilk ?_
  refine awp_rs ?_
  refine ro rfl rfl (st_mv rfl) ?_
  refine ro rfl rfl (st_lenD rfl un23) ?_
  obtain ⟨c102, h⟩ := okI_some h
  refine rn (r := 1002) rfl rfl (st_mkN (f := (eI .i64)) (z := (0 : Int)) sl28 zc3 rfl rfl rfl rfl rfl c102) rfl ?_
  refine ro rfl rfl (st_as rfl) ?_
  refine rw_nilk ?_
  refine awp_rs ?_
  refine rn (r := 1003) rfl rfl (st_alloc zc25 rfl rfl) rfl ?_
  refine rw_nilk ?_
  refine awp_seq ?_
  refine awp_rs ?_
  refine ro rfl rfl (st_as rfl) ?_
  refine rw_nilk ?_
  refine awp_block ?_
  refine awp_while (fun (s103 : (Int × (List Int) × (List S_api_Line))) (g104 : Nat) => [(0, dL 5 e_S_api_Line a0), (1, dI .i64 a1), (4, .ptr 1001 0 0 0), (5, dL 1 eB y101), (6, .slice 1002 1 0 s103.2.1.length), (7, .ptr 1003 0 0 0), (8, dI .i64 s103.1)]) (fun (s103 : (Int × (List Int) × (List S_api_Line))) (g104 : Nat) => [(1001, .row 0 25 [[dB false, .nilS]]), (1002, rw' 1 3 (eI .i64) s103.2.1), (1003, .row 0 25 [[dB false, .slice 1006 g104 0 s103.2.2.length]]), (1006, rw' g104 58 e_S_api_Line s103.2.2)]) 0 (fun _ _ _ h => h) h (Gh.trans (gh_nil (r := 1006) (E' := [(0, dL 5 e_S_api_Line a0), (1, dI .i64 a1), (4, .ptr 1001 0 0 0), (5, dL 1 eB y101), (6, .slice 1002 1 0 a0.length), (7, .ptr 1003 0 0 0), (8, dI .i64 (0 : Int))]) (L' := [(1001, .row 0 25 [[dB false, .nilS]]), (1002, rw' 1 3 (eI .i64) (List.replicate a0.length (0 : Int))), (1003, .row 0 25 [[dB false, .slice 1006 0 0 (([] : List S_api_Line).length)]])]) rfl co58 rfl rfl ⟨⟨_, rfl, .keep _⟩, ⟨_, rfl, .keep _⟩, ⟨_, rfl, .keep _⟩, ⟨_, rfl, .keep _⟩, ⟨_, rfl, .keep _⟩, ⟨_, rfl, .keep _⟩, ⟨_, rfl, .keep _⟩, trivial⟩ ⟨⟨_, rfl, .keep _⟩, ⟨_, rfl, .keep _⟩, ⟨_, rfl, nilOne ⟨.keep _, .nil, trivial⟩⟩, trivial⟩) (gh_frz rfl rfl ⟨⟨_, rfl, .keep rfl⟩, ⟨_, rfl, .keep rfl⟩, ⟨_, rfl, .keep rfl⟩, ⟨_, rfl, .keep rfl⟩, ⟨_, rfl, frzN rfl (by simp)⟩, ⟨_, rfl, .keep rfl⟩, ⟨_, rfl, .keep rfl⟩, trivial⟩ ⟨⟨_, rfl, objOne ⟨⟨rfl, .keep rfl⟩, ⟨rfl, .keep rfl⟩, trivial⟩⟩, ⟨_, rfl, objRow _⟩, ⟨_, rfl, objOne ⟨⟨rfl, .keep rfl⟩, ⟨rfl, .keep rfl⟩, trivial⟩⟩, ⟨_, rfl, objRow (List.map e_S_api_Line ([] : List S_api_Line))⟩, trivial⟩)) ?_
  clear h
  intro s103 g104 k105 h ih105
  refine awp_seq ?_
  refine awp_rs ?_
  refine ro rfl rfl (st_mv rfl) ?_
  refine ro rfl rfl (st_mv rfl) ?_
  refine ro rfl rfl (st_bin (v := dB (decide (s103.1 ≤ a1))) rfl rfl rfl) ?_
  refine rw_nilk ?_
  refine awp_ite (b := (decide (s103.1 ≤ a1))) rfl (fun p204 => ?_) (fun p204 => ?_)
  · replace h := ite_T p204 h
    refine awp_skip ?_
    refine nx_then ?_
    refine awp_jn (fun (s219 : ((List Int) × (List S_api_Line))) (g220 : Nat) => [(0, dL 5 e_S_api_Line a0), (1, dI .i64 a1), (4, .ptr 1001 0 0 0), (5, dL 1 eB y101), (6, .slice 1002 1 0 s219.1.length), (7, .ptr 1003 0 0 0), (8, dI .i64 s103.1)]) (fun (s219 : ((List Int) × (List S_api_Line))) (g220 : Nat) => [(1001, .row 0 25 [[dB false, .nilS]]), (1002, rw' 1 3 (eI .i64) s219.1), (1003, .row 0 25 [[dB false, .slice 1006 g220 0 s219.2.length]]), (1006, rw' g220 58 e_S_api_Line s219.2)]) h ?_ ?_
    · clear h
      intro s219 g220 h
      refine awp_rw ?_
      refine ro rfl rfl (st_mv rfl) ?_
      refine ro rfl rfl (st_bin (v := dI .i64 (IntKind.wrap .i64 (s103.1 + (1 : Int)))) rfl rfl rfl) ?_
      refine ro rfl rfl (st_as rfl) ?_
      refine rw_nil ?_
      refine nx_then ?_
      refine awp_gh ?_ (ih105 ((IntKind.wrap .i64 (s103.1 + (1 : Int))), s219.1, s219.2) g220 h)
      exact (gh_frz rfl rfl ⟨⟨_, rfl, .keep rfl⟩, ⟨_, rfl, .keep rfl⟩, ⟨_, rfl, .keep rfl⟩, ⟨_, rfl, .keep rfl⟩, ⟨_, rfl, .keep rfl⟩, ⟨_, rfl, .keep rfl⟩, ⟨_, rfl, .keep rfl⟩, trivial⟩ ⟨⟨_, rfl, objOne ⟨⟨rfl, .keep rfl⟩, ⟨rfl, .keep rfl⟩, trivial⟩⟩, ⟨_, rfl, objRow _⟩, ⟨_, rfl, objOne ⟨⟨rfl, .keep rfl⟩, ⟨rfl, .keep rfl⟩, trivial⟩⟩, ⟨_, rfl, objRow _⟩, trivial⟩)
    · clear h
      intro k221 h J221
      refine awp_block ?_
      refine awp_seq ?_
      refine awp_rs ?_
      refine ro rfl rfl (st_mv rfl) ?_
      refine ro rfl rfl (st_mv rfl) ?_
      obtain ⟨x222, h0222, hx222, h⟩ := getI_some h
      refine ro rfl rfl (st_ixD sl94 rfl rfl h0222 hx222) ?_
      refine ro rfl rfl (st_ldD (v := dB x222) ta4 rfl rfl) ?_
      refine ro rfl rfl (st_un (v := dB (!x222)) rfl rfl) ?_
      refine rw_nilk ?_
      refine awp_ite (b := (!x222)) rfl (fun p223 => ?_) (fun p223 => ?_)
      · replace h := ite_T p223 h
        refine awp_exit ?_
        refine ex_out ?_
        refine ex_in ?_
        refine nx_then ?_
        exact J221 (s103.2.1, s103.2.2) g104 _ _ h (gh_frz rfl rfl ⟨⟨_, rfl, .keep rfl⟩, ⟨_, rfl, .keep rfl⟩, ⟨_, rfl, .keep rfl⟩, ⟨_, rfl, .keep rfl⟩, ⟨_, rfl, .keep rfl⟩, ⟨_, rfl, .keep rfl⟩, ⟨_, rfl, .keep rfl⟩, trivial⟩ ⟨⟨_, rfl, objOne ⟨⟨rfl, .keep rfl⟩, ⟨rfl, .keep rfl⟩, trivial⟩⟩, ⟨_, rfl, objRow _⟩, ⟨_, rfl, objOne ⟨⟨rfl, .keep rfl⟩, ⟨rfl, .keep rfl⟩, trivial⟩⟩, ⟨_, rfl, objRow _⟩, trivial⟩)
      · replace h := ite_F p223 h
        refine awp_skip ?_
        refine nx_then ?_
        refine awp_rs ?_
        refine ro rfl rfl (st_mv rfl) ?_
        refine ro rfl rfl (st_mv rfl) ?_
        obtain ⟨x224, h0224, hx224, h⟩ := getI_some h
        refine ro rfl rfl (st_ixD sl23 rfl rfl h0224 hx224) ?_
        refine ro rfl rfl (st_ldD (v := .agg [dI .u8 x224.Rule, dI .i64 x224.A, dI .i64 x224.B, dI .i64 x224.Piv, dL 1 (eI .i64) x224.Lits]) ta58 rfl rfl) ?_
        refine rn (r := 1007) rfl rfl (st_alloc zc58 rfl rfl) rfl ?_
        refine rx (L' := [(1001, .row 0 25 [[dB false, .nilS]]), (1002, rw' 1 3 (eI .i64) s103.2.1), (1003, .row 0 25 [[dB false, .slice 1006 g104 0 s103.2.2.length]]), (1006, rw' g104 58 e_S_api_Line s103.2.2), (1007, .row 0 58 [[dI .u8 x224.Rule, dI .i64 x224.A, dI .i64 x224.B, dI .i64 x224.Piv, dL 1 (eI .i64) x224.Lits]])]) rfl rfl (st_stP ta58 rfl rfl rfl rfl rfl rfl rfl rfl) rfl ?_
        refine rw_nilk ?_
        refine awp_jn (fun (s228 : (Int × Int)) (g229 : Unit) => [(0, dL 5 e_S_api_Line a0), (1, dI .i64 a1), (4, .ptr 1001 0 0 0), (5, dL 1 eB y101), (6, .slice 1002 1 0 s103.2.1.length), (7, .ptr 1003 0 0 0), (8, dI .i64 s103.1), (9, .ptr 1007 0 0 0)]) (fun (s228 : (Int × Int)) (g229 : Unit) => [(1001, .row 0 25 [[dB false, .nilS]]), (1002, rw' 1 3 (eI .i64) s103.2.1), (1003, .row 0 25 [[dB false, .slice 1006 g104 0 s103.2.2.length]]), (1006, rw' g104 58 e_S_api_Line s103.2.2), (1007, .row 0 58 [[dI .u8 x224.Rule, dI .i64 s228.1, dI .i64 s228.2, dI .i64 x224.Piv, dL 1 (eI .i64) x224.Lits]])]) h ?_ ?_
        · clear h
          intro s228 g229 h
          refine awp_rs ?_
          refine ro rfl rfl (st_mv rfl) ?_
          refine ro rfl rfl (st_mv rfl) ?_
          refine ro rfl rfl (st_faP fo25_1 rfl) ?_
          refine ro rfl rfl (st_ldP (v := .slice 1006 g104 0 s103.2.2.length) ta23 rfl rfl rfl rfl) ?_
          refine ro rfl rfl (st_lenR rfl un23 rfl) ?_
          obtain ⟨x231, h0231, hx231, h⟩ := getI_some h
          refine ro rfl rfl (st_ixRi sl28 rfl rfl rfl h0231 hx231 rfl) ?_
          refine rx (L' := [(1001, .row 0 25 [[dB false, .nilS]]), (1002, rw' 1 3 (eI .i64) (s103.2.1.set s103.1.toNat ((s103.2.2.length : Nat) : Int))), (1003, .row 0 25 [[dB false, .slice 1006 g104 0 s103.2.2.length]]), (1006, rw' g104 58 e_S_api_Line s103.2.2), (1007, .row 0 58 [[dI .u8 x224.Rule, dI .i64 s228.1, dI .i64 s228.2, dI .i64 x224.Piv, dL 1 (eI .i64) x224.Lits]])]) rfl rfl (st_stT (z := ((s103.2.2.length : Nat) : Int)) ta3 rfl rfl rfl hx231 rfl rfl rfl rfl rfl) rfl ?_
          refine rw_nilk ?_
          refine awp_rw ?_
          refine ro rfl rfl (st_faP fo25_1 rfl) ?_
          refine ro rfl rfl (st_ldP (v := .slice 1006 g104 0 s103.2.2.length) ta23 rfl rfl rfl rfl) ?_
          refine ro rfl rfl (st_ldP (v := .agg [dI .u8 x224.Rule, dI .i64 s228.1, dI .i64 s228.2, dI .i64 x224.Piv, dL 1 (eI .i64) x224.Lits]) ta58 rfl rfl rfl rfl) ?_
          refine rn (r := 1008) rfl rfl (st_bsl (els := [[dI .u8 x224.Rule, dI .i64 s228.1, dI .i64 s228.2, dI .i64 x224.Piv, dL 1 (eI .i64) x224.Lits]]) sl23 zc58 rfl rfl rfl rfl rfl) rfl ?_
          obtain ⟨c232, h⟩ := capN_some h
          refine rn (r := 0) (L' := [(1001, .row 0 25 [[dB false, .nilS]]), (1002, rw' 1 3 (eI .i64) (s103.2.1.set s103.1.toNat ((s103.2.2.length : Nat) : Int))), (1003, .row 0 25 [[dB false, .slice 1006 g104 0 s103.2.2.length]]), (1006, rw' (g104 + 2) 58 e_S_api_Line (s103.2.2 ++ [(S_api_Line.mk x224.Rule s228.1 s228.2 x224.Piv x224.Lits)])), (1007, .row 0 58 [[dI .u8 x224.Rule, dI .i64 s228.1, dI .i64 s228.2, dI .i64 x224.Piv, dL 1 (eI .i64) x224.Lits]]), (1008, .row 1 58 [[dI .u8 x224.Rule, dI .i64 s228.1, dI .i64 s228.2, dI .i64 x224.Piv, dL 1 (eI .i64) x224.Lits]])]) rfl rfl (st_appR (f := e_S_api_Line) (xs := s103.2.2) (ys := [(S_api_Line.mk x224.Rule s228.1 s228.2 x224.Piv x224.Lits)]) sl23 zc58 rfl rfl rfl rfl rfl (news_one (a := (S_api_Line.mk x224.Rule s228.1 s228.2 x224.Piv x224.Lits)) rfl rfl) c232) rfl ?_
          refine ro rfl rfl (st_faP fo25_1 rfl) ?_
          refine rx (L' := [(1001, .row 0 25 [[dB false, .nilS]]), (1002, rw' 1 3 (eI .i64) (s103.2.1.set s103.1.toNat ((s103.2.2.length : Nat) : Int))), (1003, .row 0 25 [[dB false, .slice 1006 (g104 + 2) 0 ((s103.2.2 ++ [(S_api_Line.mk x224.Rule s228.1 s228.2 x224.Piv x224.Lits)]).length)]]), (1006, rw' (g104 + 2) 58 e_S_api_Line (s103.2.2 ++ [(S_api_Line.mk x224.Rule s228.1 s228.2 x224.Piv x224.Lits)])), (1007, .row 0 58 [[dI .u8 x224.Rule, dI .i64 s228.1, dI .i64 s228.2, dI .i64 x224.Piv, dL 1 (eI .i64) x224.Lits]]), (1008, .row 1 58 [[dI .u8 x224.Rule, dI .i64 s228.1, dI .i64 s228.2, dI .i64 x224.Piv, dL 1 (eI .i64) x224.Lits]])]) rfl rfl (st_stP ta23 rfl rfl rfl rfl rfl rfl rfl rfl) rfl ?_
          refine rw_nil ?_
          refine nx_block ?_
          refine nx_then ?_
          exact J221 ((s103.2.1.set s103.1.toNat ((s103.2.2.length : Nat) : Int)), (s103.2.2 ++ [(S_api_Line.mk x224.Rule s228.1 s228.2 x224.Piv x224.Lits)])) (g104 + 2) _ _ h (gh_frz rfl rfl ⟨⟨_, rfl, .keep rfl⟩, ⟨_, rfl, .keep rfl⟩, ⟨_, rfl, .keep rfl⟩, ⟨_, rfl, .keep rfl⟩, ⟨_, rfl, frzN rfl (by simp)⟩, ⟨_, rfl, .keep rfl⟩, ⟨_, rfl, .keep rfl⟩, trivial⟩ ⟨⟨_, rfl, objOne ⟨⟨rfl, .keep rfl⟩, ⟨rfl, .keep rfl⟩, trivial⟩⟩, ⟨_, rfl, objRow _⟩, ⟨_, rfl, objOne ⟨⟨rfl, .keep rfl⟩, ⟨rfl, .keep rfl⟩, trivial⟩⟩, ⟨_, rfl, objRow _⟩, trivial⟩)
        · clear h
          intro k230 h J230
          refine awp_rs ?_
          refine ro rfl rfl (st_faP fo58_0 rfl) ?_
          refine ro rfl rfl (st_ldP (v := dI .u8 x224.Rule) ta56 rfl rfl rfl rfl) ?_
          refine ro rfl rfl (st_bin (v := dB (x224.Rule == (2 : Int))) rfl rfl rfl) ?_
          refine rw_nilk ?_
          refine awp_ite (b := (x224.Rule == (2 : Int))) rfl (fun p233 => ?_) (fun p233 => ?_)
          · replace h := ite_T p233 h
            refine awp_rs ?_
            refine ro rfl rfl (st_mv rfl) ?_
            refine ro rfl rfl (st_faP fo58_1 rfl) ?_
            refine ro rfl rfl (st_ldP (v := dI .i64 x224.A) ta3 rfl rfl rfl rfl) ?_
            obtain ⟨x234, h0234, hx234, h⟩ := getI_some h
            refine ro rfl rfl (st_ixRi sl28 rfl rfl rfl h0234 hx234 rfl) ?_
            refine ro rfl rfl (st_ldP (v := dI .i64 x234) ta3 rfl rfl (rowOf_map_get hx234) rfl) ?_
            refine ro rfl rfl (st_faP fo58_1 rfl) ?_
            refine rx (L' := [(1001, .row 0 25 [[dB false, .nilS]]), (1002, rw' 1 3 (eI .i64) s103.2.1), (1003, .row 0 25 [[dB false, .slice 1006 g104 0 s103.2.2.length]]), (1006, rw' g104 58 e_S_api_Line s103.2.2), (1007, .row 0 58 [[dI .u8 x224.Rule, dI .i64 x234, dI .i64 x224.B, dI .i64 x224.Piv, dL 1 (eI .i64) x224.Lits]])]) rfl rfl (st_stP ta3 rfl rfl rfl rfl rfl rfl rfl rfl) rfl ?_
            refine rw_nilk ?_
            refine awp_rw ?_
            refine ro rfl rfl (st_mv rfl) ?_
            refine ro rfl rfl (st_faP fo58_2 rfl) ?_
            refine ro rfl rfl (st_ldP (v := dI .i64 x224.B) ta3 rfl rfl rfl rfl) ?_
            obtain ⟨x235, h0235, hx235, h⟩ := getI_some h
            refine ro rfl rfl (st_ixRi sl28 rfl rfl rfl h0235 hx235 rfl) ?_
            refine ro rfl rfl (st_ldP (v := dI .i64 x235) ta3 rfl rfl (rowOf_map_get hx235) rfl) ?_
            refine ro rfl rfl (st_faP fo58_2 rfl) ?_
            refine rx (L' := [(1001, .row 0 25 [[dB false, .nilS]]), (1002, rw' 1 3 (eI .i64) s103.2.1), (1003, .row 0 25 [[dB false, .slice 1006 g104 0 s103.2.2.length]]), (1006, rw' g104 58 e_S_api_Line s103.2.2), (1007, .row 0 58 [[dI .u8 x224.Rule, dI .i64 x234, dI .i64 x235, dI .i64 x224.Piv, dL 1 (eI .i64) x224.Lits]])]) rfl rfl (st_stP ta3 rfl rfl rfl rfl rfl rfl rfl rfl) rfl ?_
            refine rw_nil ?_
            refine nx_then ?_
            exact J230 (x234, x235) () _ _ h (gh_frz rfl rfl ⟨⟨_, rfl, .keep rfl⟩, ⟨_, rfl, .keep rfl⟩, ⟨_, rfl, .keep rfl⟩, ⟨_, rfl, .keep rfl⟩, ⟨_, rfl, .keep rfl⟩, ⟨_, rfl, .keep rfl⟩, ⟨_, rfl, .keep rfl⟩, ⟨_, rfl, .keep rfl⟩, trivial⟩ ⟨⟨_, rfl, objOne ⟨⟨rfl, .keep rfl⟩, ⟨rfl, .keep rfl⟩, trivial⟩⟩, ⟨_, rfl, objRow _⟩, ⟨_, rfl, objOne ⟨⟨rfl, .keep rfl⟩, ⟨rfl, .keep rfl⟩, trivial⟩⟩, ⟨_, rfl, objRow _⟩, ⟨_, rfl, objOne ⟨⟨rfl, .keep rfl⟩, ⟨rfl, .keep rfl⟩, ⟨rfl, .keep rfl⟩, ⟨rfl, .keep rfl⟩, ⟨rfl, .keep rfl⟩, trivial⟩⟩, trivial⟩)
          · replace h := ite_F p233 h
            refine awp_skip ?_
            refine nx_then ?_
            exact J230 (x224.A, x224.B) () _ _ h (gh_frz rfl rfl ⟨⟨_, rfl, .keep rfl⟩, ⟨_, rfl, .keep rfl⟩, ⟨_, rfl, .keep rfl⟩, ⟨_, rfl, .keep rfl⟩, ⟨_, rfl, .keep rfl⟩, ⟨_, rfl, .keep rfl⟩, ⟨_, rfl, .keep rfl⟩, ⟨_, rfl, .keep rfl⟩, trivial⟩ ⟨⟨_, rfl, objOne ⟨⟨rfl, .keep rfl⟩, ⟨rfl, .keep rfl⟩, trivial⟩⟩, ⟨_, rfl, objRow _⟩, ⟨_, rfl, objOne ⟨⟨rfl, .keep rfl⟩, ⟨rfl, .keep rfl⟩, trivial⟩⟩, ⟨_, rfl, objRow _⟩, ⟨_, rfl, objOne ⟨⟨rfl, .keep rfl⟩, ⟨rfl, .keep rfl⟩, ⟨rfl, .keep rfl⟩, ⟨rfl, .keep rfl⟩, ⟨rfl, .keep rfl⟩, trivial⟩⟩, trivial⟩)
  · replace h := ite_F p204 h
    refine awp_exit ?_
    refine ex_out ?_
    refine ex_out ?_
    refine ex_in ?_
    refine nx_then ?_
    refine awp_rs ?_
    refine ro rfl rfl (st_ldP (v := .agg [dB false, .slice 1006 g104 0 s103.2.2.length]) ta25 rfl rfl rfl rfl) ?_
    refine rx (L' := [(1001, .row 0 25 [[dB false, .slice 1006 g104 0 s103.2.2.length]]), (1002, rw' 1 3 (eI .i64) s103.2.1), (1003, .row 0 25 [[dB false, .slice 1006 g104 0 s103.2.2.length]]), (1006, rw' g104 58 e_S_api_Line s103.2.2)]) rfl rfl (st_stP ta25 rfl rfl rfl rfl rfl rfl rfl rfl) rfl ?_
    refine rw_nilk ?_
    refine awp_ret ?_
    injection h with h
    subst h
    exact ret_out (v := .agg [dB false, .slice 1006 g104 0 s103.2.2.length]) (resV_one (resVs_cell (v := .agg [dB false, .slice 1006 g104 0 s103.2.2.length]) ta25 rfl rfl rfl rfl resVs_nil)) (frz_agg ⟨(.keep rfl), (frzT rfl rfl co58 rfl), trivial⟩)

theorem ok_skolemref10_Restrict {a0 : (List (List Int))} {a1 : S_api_Proof} {a2 : (List Int)} {r : (S_api_Proof × Int)} (h : F_skolemref10_Restrict a0 a1 a2 = some r) : Fn Try.prog 22 [dL 1 (eL 1 (eI .i64)) a0, .agg [dB a1.Cubes, dL 5 e_S_api_Line a1.Lines], dL 1 (eI .i64) a2] (.tup [.agg [dB r.1.Cubes, dL 5 e_S_api_Line r.1.Lines], dI .i64 r.2]) := by
  unfold F_skolemref10_Restrict at h
  refine Fn.of_body (N := 183) (rs := [.cell 6 25, .tmp 7]) Try.func22 (c := _) rfl rfl rfl (by kernel_rfl) (Nat.le_of_ble_eq_true rfl) (fun _B => ?_)
  refine awp_rs ?_
  refine rn (r := 1001) rfl rfl (st_box rfl rfl rfl co25 rfl rfl) rfl ?_
  refine rn (r := 1002) rfl rfl (st_alloc zc25 rfl rfl) rfl ?_
  refine ro rfl rfl (st_as rfl) ?_
  refine rw_nilk ?_
  refine awp_rs ?_
  refine ro rfl rfl (st_mv rfl) ?_
  refine ro rfl rfl (st_mv rfl) ?_
  obtain ⟨y101, hy101, h⟩ := bind_some_elim h
  refine rf rfl rfl (ok_skolemref10_Under hy101) rfl rfl ?_
  refine ro rfl rfl (st_mv rfl) ?_
  refine ro rfl rfl (st_ext rfl rfl) ?_
  refine ro rfl rfl (st_ext rfl rfl) ?_
  refine ro rfl rfl (st_ext rfl rfl) ?_
  refine ro rfl rfl (st_as rfl) ?_
  refine ro rfl rfl (st_as rfl) ?_
  refine ro rfl rfl (st_as rfl) ?_
  refine rw_nilk ?_
  refine awp_seq ?_
  refine awp_rs ?_
  refine ro rfl rfl (st_mv rfl) ?_
  refine ro rfl rfl (st_bin (v := dB (y101.2.2 != (0 : Int))) rfl rfl rfl) ?_
  refine rw_nilk ?_
  refine awp_ite (b := (y101.2.2 != (0 : Int))) rfl (fun p102 => ?_) (fun p102 => ?_)
  · replace h := ite_T p102 h
    refine awp_rs ?_
    refine ro rfl rfl (st_build (vs := [dB false, .nilS]) bl25 rfl rfl) ?_
    refine ro rfl rfl (st_mv rfl) ?_
    refine rx (L' := [(1001, .row 0 25 [[dB a1.Cubes, dL 5 e_S_api_Line a1.Lines]]), (1002, .row 0 25 [[dB false, .nilS]])]) rfl rfl (st_stP ta25 rfl rfl rfl rfl rfl rfl rfl rfl) rfl ?_
    refine ro rfl rfl (st_as rfl) ?_
    refine rw_nilk ?_
    refine awp_ret ?_
    refine rt_then ?_
    injection h with h
    subst h
    exact ret_out (v := .tup [.agg [dB false, .nilS], dI .i64 y101.2.2]) (resV_many (resVs_cell (v := .agg [dB false, .nilS]) ta25 rfl rfl rfl rfl (resVs_tmp rfl resVs_nil))) (frz_tup ⟨(frz_agg ⟨(.keep rfl), (.nilS _), trivial⟩), (.keep rfl), trivial⟩)
  · replace h := ite_F p102 h
    refine awp_skip ?_
    refine nx_then ?_
    refine awp_rs ?_
    refine ro rfl rfl (st_mv rfl) ?_
    refine ro rfl rfl (st_ldP (v := .agg [dB a1.Cubes, dL 5 e_S_api_Line a1.Lines]) ta25 rfl rfl rfl rfl) ?_
    obtain ⟨y103, hy103, h⟩ := bind_some_elim h
    refine rf rfl rfl (ok_skolemref10_Check hy103) rfl rfl ?_
    refine ro rfl rfl (st_mv rfl) ?_
    refine ro rfl rfl (st_ext rfl rfl) ?_
    refine ro rfl rfl (st_ext rfl rfl) ?_
    refine ro rfl rfl (st_ext rfl rfl) ?_
    refine ro rfl rfl (st_as rfl) ?_
    refine ro rfl rfl (st_as rfl) ?_
    refine ro rfl rfl (st_as rfl) ?_
    refine rw_nilk ?_
    refine awp_seq ?_
    refine awp_rs ?_
    refine ro rfl rfl (st_mv rfl) ?_
    refine ro rfl rfl (st_bin (v := dB (y103.2.2 != (0 : Int))) rfl rfl rfl) ?_
    refine rw_nilk ?_
    refine awp_ite (b := (y103.2.2 != (0 : Int))) rfl (fun p104 => ?_) (fun p104 => ?_)
    · replace h := ite_T p104 h
      refine awp_rs ?_
      refine ro rfl rfl (st_build (vs := [dB false, .nilS]) bl25 rfl rfl) ?_
      refine ro rfl rfl (st_mv rfl) ?_
      refine rx (L' := [(1001, .row 0 25 [[dB a1.Cubes, dL 5 e_S_api_Line a1.Lines]]), (1002, .row 0 25 [[dB false, .nilS]])]) rfl rfl (st_stP ta25 rfl rfl rfl rfl rfl rfl rfl rfl) rfl ?_
      refine ro rfl rfl (st_as rfl) ?_
      refine rw_nilk ?_
      refine awp_ret ?_
      refine rt_then ?_
      injection h with h
      subst h
      exact ret_out (v := .tup [.agg [dB false, .nilS], dI .i64 y103.2.2]) (resV_many (resVs_cell (v := .agg [dB false, .nilS]) ta25 rfl rfl rfl rfl (resVs_tmp rfl resVs_nil))) (frz_tup ⟨(frz_agg ⟨(.keep rfl), (.nilS _), trivial⟩), (.keep rfl), trivial⟩)
    · replace h := ite_F p104 h
      refine awp_skip ?_
      refine nx_then ?_
      refine awp_seq ?_
      refine awp_rs ?_
      refine ro rfl rfl (st_mv rfl) ?_
      refine ro rfl rfl (st_mv rfl) ?_
      obtain ⟨y105, hy105, h⟩ := bind_some_elim h
      refine rf rfl rfl (ok_skolemref10_satisfied hy105) rfl rfl ?_
      refine rw_nilk ?_
      refine awp_ite (b := y105) rfl (fun p106 => ?_) (fun p106 => ?_)
      · replace h := ite_T p106 h
        refine awp_rs ?_
        refine ro rfl rfl (st_build (vs := [dB false, .nilS]) bl25 rfl rfl) ?_
        refine rx (L' := [(1001, .row 0 25 [[dB a1.Cubes, dL 5 e_S_api_Line a1.Lines]]), (1002, .row 0 25 [[dB false, .nilS]])]) rfl rfl (st_stP ta25 rfl rfl rfl rfl rfl rfl rfl rfl) rfl ?_
        refine ro rfl rfl (st_as rfl) ?_
        refine rw_nilk ?_
        refine awp_ret ?_
        refine rt_then ?_
        injection h with h
        subst h
        exact ret_out (v := .tup [.agg [dB false, .nilS], dI .i64 (8 : Int)]) (resV_many (resVs_cell (v := .agg [dB false, .nilS]) ta25 rfl rfl rfl rfl (resVs_tmp rfl resVs_nil))) (frz_tup ⟨(frz_agg ⟨(.keep rfl), (.nilS _), trivial⟩), (.keep rfl), trivial⟩)
      · replace h := ite_F p106 h
        refine awp_skip ?_
        refine nx_then ?_
        refine awp_rs ?_
        refine ro rfl rfl (st_as rfl) ?_
        refine rw_nilk ?_
        refine awp_rs ?_
        refine ro rfl rfl (st_faP fo25_1 rfl) ?_
        refine ro rfl rfl (st_ldP (v := dL 5 e_S_api_Line a1.Lines) ta23 rfl rfl rfl rfl) ?_
        refine ro rfl rfl (st_lenD rfl un23) ?_
        obtain ⟨c107, h⟩ := okI_some h
        refine rn (r := 1003) rfl rfl (st_mkN (f := (eI .i64)) (z := (0 : Int)) sl28 zc3 rfl rfl rfl rfl rfl c107) rfl ?_
        refine ro rfl rfl (st_as rfl) ?_
        refine rw_nilk ?_
        refine awp_seq ?_
        refine awp_rs ?_
        refine ro rfl rfl (st_as rfl) ?_
        refine rw_nilk ?_
        refine awp_block ?_
        refine awp_len (t := 49) rfl (fun hl111 => ?_)
        rw [List.length_map] at hl111
        refine awp_range (fun (j111 : Nat) (s108 : ((List Int) × (List S_api_Line))) (g109 : Nat) => [(2, dL 1 (eI .i64) a2), (4, .ptr 1001 0 0 0), (6, .ptr 1002 0 0 0), (8, dL 1 (eL 1 (eI .i64)) y101.1), (9, dL 1 (eI .i64) y101.2.1), (13, .slice 1006 g109 0 s108.2.length), (14, .slice 1003 1 0 s108.1.length), (15, dI .i64 ((j111 : Nat) : Int))]) (fun (s108 : ((List Int) × (List S_api_Line))) (g109 : Nat) => [(1001, .row 0 25 [[dB a1.Cubes, dL 5 e_S_api_Line a1.Lines]]), (1002, .row 0 25 [[dB false, .nilS]]), (1003, rw' 1 3 (eI .i64) s108.1), (1006, rw' g109 58 e_S_api_Line s108.2)]) 0 (fun _ _ _ h => h) h (Gh.trans (gh_nil (r := 1006) (E' := [(2, dL 1 (eI .i64) a2), (4, .ptr 1001 0 0 0), (6, .ptr 1002 0 0 0), (8, dL 1 (eL 1 (eI .i64)) y101.1), (9, dL 1 (eI .i64) y101.2.1), (13, .slice 1006 0 0 (([] : List S_api_Line).length)), (14, .slice 1003 1 0 a1.Lines.length), (15, dI .i64 (0 : Int))]) (L' := [(1001, .row 0 25 [[dB a1.Cubes, dL 5 e_S_api_Line a1.Lines]]), (1002, .row 0 25 [[dB false, .nilS]]), (1003, rw' 1 3 (eI .i64) (List.replicate a1.Lines.length (0 : Int)))]) rfl co58 rfl rfl ⟨⟨_, rfl, .keep _⟩, ⟨_, rfl, .keep _⟩, ⟨_, rfl, .keep _⟩, ⟨_, rfl, .keep _⟩, ⟨_, rfl, .keep _⟩, ⟨_, rfl, .nil⟩, ⟨_, rfl, .keep _⟩, ⟨_, rfl, .keep _⟩, trivial⟩ ⟨⟨_, rfl, .keep _⟩, ⟨_, rfl, .keep _⟩, ⟨_, rfl, .keep _⟩, trivial⟩) (gh_frz rfl rfl ⟨⟨_, rfl, .keep rfl⟩, ⟨_, rfl, .keep rfl⟩, ⟨_, rfl, .keep rfl⟩, ⟨_, rfl, .keep rfl⟩, ⟨_, rfl, .keep rfl⟩, ⟨_, rfl, .keep rfl⟩, ⟨_, rfl, frzN rfl (by simp)⟩, ⟨_, rfl, .keep rfl⟩, trivial⟩ ⟨⟨_, rfl, objOne ⟨⟨rfl, .keep rfl⟩, ⟨rfl, .keep rfl⟩, trivial⟩⟩, ⟨_, rfl, objOne ⟨⟨rfl, .keep rfl⟩, ⟨rfl, .keep rfl⟩, trivial⟩⟩, ⟨_, rfl, objRow _⟩, ⟨_, rfl, objRow (List.map e_S_api_Line ([] : List S_api_Line))⟩, trivial⟩)) ?_ ?_
        · clear h
          intro j111 x112 s108 g109 k110 hj111 hx111 h ih110
          refine awp_seq ?_
          refine awp_rs ?_
          refine ro rfl rfl (st_mv rfl) ?_
          refine ro rfl rfl (st_faP fo25_1 rfl) ?_
          refine ro rfl rfl (st_ldP (v := dL 5 e_S_api_Line a1.Lines) ta23 rfl rfl rfl rfl) ?_
          refine ro rfl rfl (st_lenD rfl un23) ?_
          refine ro rfl rfl (st_bin (v := dB (decide (((j111 : Nat) : Int) < ((a1.Lines.length : Nat) : Int)))) rfl rfl rfl) ?_
          refine rw_nilk ?_
          refine awp_ifT rfl (dlt hj111) ?_
          refine awp_skip ?_
          refine nx_then ?_
          refine awp_jn (fun (s321 : ((List Int) × (List S_api_Line))) (g322 : Nat) => [(2, dL 1 (eI .i64) a2), (4, .ptr 1001 0 0 0), (6, .ptr 1002 0 0 0), (8, dL 1 (eL 1 (eI .i64)) y101.1), (9, dL 1 (eI .i64) y101.2.1), (13, .slice 1006 g322 0 s321.2.length), (14, .slice 1003 1 0 s321.1.length), (15, dI .i64 ((j111 : Nat) : Int))]) (fun (s321 : ((List Int) × (List S_api_Line))) (g322 : Nat) => [(1001, .row 0 25 [[dB a1.Cubes, dL 5 e_S_api_Line a1.Lines]]), (1002, .row 0 25 [[dB false, .nilS]]), (1003, rw' 1 3 (eI .i64) s321.1), (1006, rw' g322 58 e_S_api_Line s321.2)]) h ?_ ?_
          · clear h
            intro s321 g322 h
            refine awp_rw ?_
            refine ro rfl rfl (st_mv rfl) ?_
            refine ro rfl rfl (st_inc rfl rfl hj111 hl111) ?_
            refine ro rfl rfl (st_as rfl) ?_
            refine rw_nil ?_
            refine nx_then ?_
            refine awp_gh ?_ (ih110 (s321.1, s321.2) g322 h)
            exact (gh_frz rfl rfl ⟨⟨_, rfl, .keep rfl⟩, ⟨_, rfl, .keep rfl⟩, ⟨_, rfl, .keep rfl⟩, ⟨_, rfl, .keep rfl⟩, ⟨_, rfl, .keep rfl⟩, ⟨_, rfl, .keep rfl⟩, ⟨_, rfl, .keep rfl⟩, ⟨_, rfl, .keep rfl⟩, trivial⟩ ⟨⟨_, rfl, objOne ⟨⟨rfl, .keep rfl⟩, ⟨rfl, .keep rfl⟩, trivial⟩⟩, ⟨_, rfl, objOne ⟨⟨rfl, .keep rfl⟩, ⟨rfl, .keep rfl⟩, trivial⟩⟩, ⟨_, rfl, objRow _⟩, ⟨_, rfl, objRow _⟩, trivial⟩)
          · clear h
            intro k323 h J323
            refine awp_block ?_
            refine awp_rs ?_
            refine ro rfl rfl (st_faP fo25_1 rfl) ?_
            refine ro rfl rfl (st_ldP (v := dL 5 e_S_api_Line a1.Lines) ta23 rfl rfl rfl rfl) ?_
            refine ro rfl rfl (st_mv rfl) ?_
            refine ro rfl rfl (st_ixDn sl23 rfl rfl hx111) ?_
            refine ro rfl rfl (st_ldD (v := .agg [dI .u8 x112.Rule, dI .i64 x112.A, dI .i64 x112.B, dI .i64 x112.Piv, dL 1 (eI .i64) x112.Lits]) ta58 rfl rfl) ?_
            refine rn (r := 1007) rfl rfl (st_alloc zc58 rfl rfl) rfl ?_
            refine rx (L' := [(1001, .row 0 25 [[dB a1.Cubes, dL 5 e_S_api_Line a1.Lines]]), (1002, .row 0 25 [[dB false, .nilS]]), (1003, rw' 1 3 (eI .i64) s108.1), (1006, rw' g109 58 e_S_api_Line s108.2), (1007, .row 0 58 [[dI .u8 x112.Rule, dI .i64 x112.A, dI .i64 x112.B, dI .i64 x112.Piv, dL 1 (eI .i64) x112.Lits]])]) rfl rfl (st_stP ta58 rfl rfl rfl rfl rfl rfl rfl rfl) rfl ?_
            refine rw_nilk ?_
            refine awp_seq ?_
            refine awp_rs ?_
            refine ro rfl rfl (st_faP fo58_4 rfl) ?_
            refine ro rfl rfl (st_ldP (v := dL 1 (eI .i64) x112.Lits) ta28 rfl rfl rfl rfl) ?_
            refine ro rfl rfl (st_mv rfl) ?_
            obtain ⟨y324, hy324, h⟩ := bind_some_elim h
            refine rf rfl rfl (ok_skolemref10_satisfied hy324) rfl rfl ?_
            refine rw_nilk ?_
            refine awp_ite (b := y324) rfl (fun p325 => ?_) (fun p325 => ?_)
            · replace h := ite_T p325 h
              refine awp_exit ?_
              refine ex_out ?_
              refine ex_in ?_
              refine nx_then ?_
              exact J323 (s108.1, s108.2) g109 _ _ h (gh_frz rfl rfl ⟨⟨_, rfl, .keep rfl⟩, ⟨_, rfl, .keep rfl⟩, ⟨_, rfl, .keep rfl⟩, ⟨_, rfl, .keep rfl⟩, ⟨_, rfl, .keep rfl⟩, ⟨_, rfl, .keep rfl⟩, ⟨_, rfl, .keep rfl⟩, ⟨_, rfl, .keep rfl⟩, trivial⟩ ⟨⟨_, rfl, objOne ⟨⟨rfl, .keep rfl⟩, ⟨rfl, .keep rfl⟩, trivial⟩⟩, ⟨_, rfl, objOne ⟨⟨rfl, .keep rfl⟩, ⟨rfl, .keep rfl⟩, trivial⟩⟩, ⟨_, rfl, objRow _⟩, ⟨_, rfl, objRow _⟩, trivial⟩)
            · replace h := ite_F p325 h
              refine awp_skip ?_
              refine nx_then ?_
              refine awp_seq ?_
              refine awp_rs ?_
              refine ro rfl rfl (st_faP fo58_0 rfl) ?_
              refine ro rfl rfl (st_ldP (v := dI .u8 x112.Rule) ta56 rfl rfl rfl rfl) ?_
              refine ro rfl rfl (st_bin (v := dB (x112.Rule == (1 : Int))) rfl rfl rfl) ?_
              refine rw_nilk ?_
              refine awp_ite (b := (x112.Rule == (1 : Int))) rfl (fun p326 => ?_) (fun p326 => ?_)
              · replace h := ite_T p326 h
                refine awp_rs ?_
                refine ro rfl rfl (st_mv rfl) ?_
                refine ro rfl rfl (st_faP fo58_1 rfl) ?_
                refine ro rfl rfl (st_ldP (v := dI .i64 x112.A) ta3 rfl rfl rfl rfl) ?_
                obtain ⟨y327, hy327, h⟩ := bind_some_elim h
                refine rf rfl rfl (ok_skolemref10_at hy327) rfl rfl ?_
                refine ro rfl rfl (st_as rfl) ?_
                refine rw_nilk ?_
                refine awp_rs ?_
                refine ro rfl rfl (st_mv rfl) ?_
                refine ro rfl rfl (st_mv rfl) ?_
                refine ro rfl rfl (st_mv rfl) ?_
                refine ro rfl rfl (st_lenR rfl un23 rfl) ?_
                obtain ⟨x328, h0328, hx328, h⟩ := getI_some h
                refine ro rfl rfl (st_ixRi sl28 rfl rfl rfl h0328 hx328 rfl) ?_
                refine rx (L' := [(1001, .row 0 25 [[dB a1.Cubes, dL 5 e_S_api_Line a1.Lines]]), (1002, .row 0 25 [[dB false, .nilS]]), (1003, rw' 1 3 (eI .i64) (s108.1.set (((j111 : Nat) : Int).toNat) ((s108.2.length : Nat) : Int))), (1006, rw' g109 58 e_S_api_Line s108.2), (1007, .row 0 58 [[dI .u8 x112.Rule, dI .i64 x112.A, dI .i64 x112.B, dI .i64 x112.Piv, dL 1 (eI .i64) x112.Lits]])]) rfl rfl (st_stT (z := ((s108.2.length : Nat) : Int)) ta3 rfl rfl rfl hx328 rfl rfl rfl rfl rfl) rfl ?_
                refine rw_nilk ?_
                refine awp_rs ?_
                refine ro rfl rfl (st_mv rfl) ?_
                refine ro rfl rfl (st_mv rfl) ?_
                refine ro rfl rfl (st_mv rfl) ?_
                refine ro rfl rfl (st_mv rfl) ?_
                obtain ⟨x329, h0329, hx329, h⟩ := getI_some h
                refine ro rfl rfl (st_ixD sl22 rfl rfl h0329 hx329) ?_
                refine ro rfl rfl (st_ldD (v := dL 1 (eI .i64) x329) ta28 rfl rfl) ?_
                refine ro rfl rfl (st_build (vs := [dI .u8 (1 : Int), dI .i64 y327, dI .i64 (0 : Int), dI .i64 (0 : Int), dL 1 (eI .i64) x329]) bl58 rfl rfl) ?_
                refine rn (r := 1008) rfl rfl (st_bsl (els := [[dI .u8 (1 : Int), dI .i64 y327, dI .i64 (0 : Int), dI .i64 (0 : Int), dL 1 (eI .i64) x329]]) sl23 zc58 rfl rfl rfl rfl rfl) rfl ?_
                obtain ⟨c330, h⟩ := capN_some h
                refine rn (r := 0) (L' := [(1001, .row 0 25 [[dB a1.Cubes, dL 5 e_S_api_Line a1.Lines]]), (1002, .row 0 25 [[dB false, .nilS]]), (1003, rw' 1 3 (eI .i64) (s108.1.set (((j111 : Nat) : Int).toNat) ((s108.2.length : Nat) : Int))), (1006, rw' (g109 + 2) 58 e_S_api_Line (s108.2 ++ [(S_api_Line.mk (1 : Int) y327 (0 : Int) (0 : Int) x329)])), (1007, .row 0 58 [[dI .u8 x112.Rule, dI .i64 x112.A, dI .i64 x112.B, dI .i64 x112.Piv, dL 1 (eI .i64) x112.Lits]]), (1008, .row 1 58 [[dI .u8 (1 : Int), dI .i64 y327, dI .i64 (0 : Int), dI .i64 (0 : Int), dL 1 (eI .i64) x329]])]) rfl rfl (st_appR (f := e_S_api_Line) (xs := s108.2) (ys := [(S_api_Line.mk (1 : Int) y327 (0 : Int) (0 : Int) x329)]) sl23 zc58 rfl rfl rfl rfl rfl (news_one (a := (S_api_Line.mk (1 : Int) y327 (0 : Int) (0 : Int) x329)) rfl rfl) c330) rfl ?_
                refine ro rfl rfl (st_as rfl) ?_
                refine rw_nilk ?_
                refine awp_exit ?_
                refine ex_out ?_
                refine ex_in ?_
                refine nx_then ?_
                exact J323 ((s108.1.set (((j111 : Nat) : Int).toNat) ((s108.2.length : Nat) : Int)), (s108.2 ++ [(S_api_Line.mk (1 : Int) y327 (0 : Int) (0 : Int) x329)])) (g109 + 2) _ _ h (gh_frz rfl rfl ⟨⟨_, rfl, .keep rfl⟩, ⟨_, rfl, .keep rfl⟩, ⟨_, rfl, .keep rfl⟩, ⟨_, rfl, .keep rfl⟩, ⟨_, rfl, .keep rfl⟩, ⟨_, rfl, .keep rfl⟩, ⟨_, rfl, frzN rfl (by simp)⟩, ⟨_, rfl, .keep rfl⟩, trivial⟩ ⟨⟨_, rfl, objOne ⟨⟨rfl, .keep rfl⟩, ⟨rfl, .keep rfl⟩, trivial⟩⟩, ⟨_, rfl, objOne ⟨⟨rfl, .keep rfl⟩, ⟨rfl, .keep rfl⟩, trivial⟩⟩, ⟨_, rfl, objRow _⟩, ⟨_, rfl, objRow _⟩, trivial⟩)
              · replace h := ite_F p326 h
                refine awp_skip ?_
                refine nx_then ?_
                refine awp_rds hmix ?_
                refine do_ rfl rfl (st_mv rfl) rfl rfl rfl ?_
                refine do_ rfl rfl (st_faP fo58_1 rfl) rfl rfl rfl ?_
                refine do_ rfl rfl (st_ldP (v := dI .i64 x112.A) ta3 rfl rfl rfl rfl) rfl rfl rfl ?_
                obtain ⟨x331, h0331, hx331, h⟩ := getI_some h
                refine do_ rfl rfl (st_ixRi sl28 rfl rfl rfl h0331 hx331 rfl) rfl rfl rfl ?_
                refine do_ rfl rfl (st_ldP (v := dI .i64 x331) ta3 rfl rfl (rowOf_map_get hx331) rfl) rfl rfl rfl ?_
                refine do_ rfl rfl (st_mv rfl) rfl rfl rfl ?_
                refine do_ rfl rfl (st_faP fo58_2 rfl) rfl rfl rfl ?_
                refine do_ rfl rfl (st_ldP (v := dI .i64 x112.B) ta3 rfl rfl rfl rfl) rfl rfl rfl ?_
                obtain ⟨x332, h0332, hx332, h⟩ := getI_some h
                refine do_ rfl rfl (st_ixRi sl28 rfl rfl rfl h0332 hx332 rfl) rfl rfl rfl ?_
                refine do_ rfl rfl (st_ldP (v := dI .i64 x332) ta3 rfl rfl (rowOf_map_get hx332) rfl) rfl rfl rfl ?_
                refine do_ rfl rfl (st_as rfl) rfl rfl rfl ?_
                refine do_ rfl rfl (st_as rfl) rfl rfl rfl ?_
                refine rd_nil (by kernel_rfl) ?_
                refine awp_block ?_
                refine awp_rs ?_
                refine ro rfl rfl (st_mv rfl) ?_
                refine ro rfl rfl (st_faP fo58_3 rfl) ?_
                refine ro rfl rfl (st_ldP (v := dI .i64 x112.Piv) ta3 rfl rfl rfl rfl) ?_
                obtain ⟨y333, hy333, h⟩ := bind_some_elim h
                refine rf rfl rfl (ok_skolemref09_Has hy333) rfl rfl ?_
                refine ro rfl rfl (st_as rfl) ?_
                refine rw_nilk ?_
                refine awp_ite (b := y333) rfl (fun p334 => ?_) (fun p334 => ?_)
                · replace h := ite_T p334 h
                  refine awp_rw ?_
                  refine ro rfl rfl (st_mv rfl) ?_
                  refine ro rfl rfl (st_mv rfl) ?_
                  refine ro rfl rfl (st_mv rfl) ?_
                  obtain ⟨x335, h0335, hx335, h⟩ := getI_some h
                  refine ro rfl rfl (st_ixRi sl28 rfl rfl rfl h0335 hx335 rfl) ?_
                  refine rx (L' := [(1001, .row 0 25 [[dB a1.Cubes, dL 5 e_S_api_Line a1.Lines]]), (1002, .row 0 25 [[dB false, .nilS]]), (1003, rw' 1 3 (eI .i64) (s108.1.set (((j111 : Nat) : Int).toNat) x332)), (1006, rw' g109 58 e_S_api_Line s108.2), (1007, .row 0 58 [[dI .u8 x112.Rule, dI .i64 x112.A, dI .i64 x112.B, dI .i64 x112.Piv, dL 1 (eI .i64) x112.Lits]])]) rfl rfl (st_stT (z := x332) ta3 rfl rfl rfl hx335 rfl rfl rfl rfl rfl) rfl ?_
                  refine rw_nil ?_
                  refine nx_block ?_
                  refine nx_block ?_
                  refine nx_then ?_
                  exact J323 ((s108.1.set (((j111 : Nat) : Int).toNat) x332), s108.2) g109 _ _ h (gh_frz rfl rfl ⟨⟨_, rfl, .keep rfl⟩, ⟨_, rfl, .keep rfl⟩, ⟨_, rfl, .keep rfl⟩, ⟨_, rfl, .keep rfl⟩, ⟨_, rfl, .keep rfl⟩, ⟨_, rfl, .keep rfl⟩, ⟨_, rfl, frzN rfl (by simp)⟩, ⟨_, rfl, .keep rfl⟩, trivial⟩ ⟨⟨_, rfl, objOne ⟨⟨rfl, .keep rfl⟩, ⟨rfl, .keep rfl⟩, trivial⟩⟩, ⟨_, rfl, objOne ⟨⟨rfl, .keep rfl⟩, ⟨rfl, .keep rfl⟩, trivial⟩⟩, ⟨_, rfl, objRow _⟩, ⟨_, rfl, objRow _⟩, trivial⟩)
                · replace h := ite_F p334 h
                  refine awp_jn (fun (s340 : Bool) (g341 : Unit) => [(2, dL 1 (eI .i64) a2), (4, .ptr 1001 0 0 0), (6, .ptr 1002 0 0 0), (8, dL 1 (eL 1 (eI .i64)) y101.1), (9, dL 1 (eI .i64) y101.2.1), (13, .slice 1006 g109 0 s108.2.length), (14, .slice 1003 1 0 s108.1.length), (15, dI .i64 ((j111 : Nat) : Int)), (16, .ptr 1007 0 0 0), (18, dI .i64 x331), (19, dI .i64 x332), (138, dB s340)]) (fun (s340 : Bool) (g341 : Unit) => [(1001, .row 0 25 [[dB a1.Cubes, dL 5 e_S_api_Line a1.Lines]]), (1002, .row 0 25 [[dB false, .nilS]]), (1003, rw' 1 3 (eI .i64) s108.1), (1006, rw' g109 58 e_S_api_Line s108.2), (1007, .row 0 58 [[dI .u8 x112.Rule, dI .i64 x112.A, dI .i64 x112.B, dI .i64 x112.Piv, dL 1 (eI .i64) x112.Lits]])]) h ?_ ?_
                  · clear h
                    intro s340 g341 h
                    refine awp_ite (b := s340) rfl (fun p343 => ?_) (fun p343 => ?_)
                    · replace h := ite_T p343 h
                      refine awp_rw ?_
                      refine ro rfl rfl (st_mv rfl) ?_
                      refine ro rfl rfl (st_mv rfl) ?_
                      refine ro rfl rfl (st_mv rfl) ?_
                      obtain ⟨x344, h0344, hx344, h⟩ := getI_some h
                      refine ro rfl rfl (st_ixRi sl28 rfl rfl rfl h0344 hx344 rfl) ?_
                      refine rx (L' := [(1001, .row 0 25 [[dB a1.Cubes, dL 5 e_S_api_Line a1.Lines]]), (1002, .row 0 25 [[dB false, .nilS]]), (1003, rw' 1 3 (eI .i64) (s108.1.set (((j111 : Nat) : Int).toNat) x331)), (1006, rw' g109 58 e_S_api_Line s108.2), (1007, .row 0 58 [[dI .u8 x112.Rule, dI .i64 x112.A, dI .i64 x112.B, dI .i64 x112.Piv, dL 1 (eI .i64) x112.Lits]])]) rfl rfl (st_stT (z := x331) ta3 rfl rfl rfl hx344 rfl rfl rfl rfl rfl) rfl ?_
                      refine rw_nil ?_
                      refine nx_block ?_
                      refine nx_block ?_
                      refine nx_then ?_
                      exact J323 ((s108.1.set (((j111 : Nat) : Int).toNat) x331), s108.2) g109 _ _ h (gh_frz rfl rfl ⟨⟨_, rfl, .keep rfl⟩, ⟨_, rfl, .keep rfl⟩, ⟨_, rfl, .keep rfl⟩, ⟨_, rfl, .keep rfl⟩, ⟨_, rfl, .keep rfl⟩, ⟨_, rfl, .keep rfl⟩, ⟨_, rfl, frzN rfl (by simp)⟩, ⟨_, rfl, .keep rfl⟩, trivial⟩ ⟨⟨_, rfl, objOne ⟨⟨rfl, .keep rfl⟩, ⟨rfl, .keep rfl⟩, trivial⟩⟩, ⟨_, rfl, objOne ⟨⟨rfl, .keep rfl⟩, ⟨rfl, .keep rfl⟩, trivial⟩⟩, ⟨_, rfl, objRow _⟩, ⟨_, rfl, objRow _⟩, trivial⟩)
                    · replace h := ite_F p343 h
                      refine awp_rds hmix ?_
                      refine do_ rfl rfl (st_mv rfl) rfl rfl rfl ?_
                      refine do_ rfl rfl (st_mv rfl) rfl rfl rfl ?_
                      obtain ⟨x345, h0345, hx345, h⟩ := getI_some h
                      refine do_ rfl rfl (st_ixRi sl23 rfl rfl rfl h0345 hx345 rfl) rfl rfl rfl ?_
                      refine do_ rfl rfl (st_faP fo58_4 rfl) rfl rfl rfl ?_
                      refine do_ rfl rfl (st_ldP (v := dL 1 (eI .i64) x345.Lits) ta28 rfl rfl (rowOf_map_get hx345) rfl) rfl rfl rfl ?_
                      refine do_ rfl rfl (st_faP fo58_3 rfl) rfl rfl rfl ?_
                      refine do_ rfl rfl (st_ldP (v := dI .i64 x112.Piv) ta3 rfl rfl rfl rfl) rfl rfl rfl ?_
                      refine do_ rfl rfl (st_un (v := dI .i64 (IntKind.wrap .i64 (0 - x112.Piv))) rfl rfl) rfl rfl rfl ?_
                      obtain ⟨y346, hy346, h⟩ := bind_some_elim h
                      refine df rfl rfl (ok_skolemref09_Has hy346) rfl rfl ?_
                      refine do_ rfl rfl (st_un (v := dB (!y346)) rfl rfl) rfl rfl rfl ?_
                      refine do_ rfl rfl (st_as rfl) rfl rfl rfl ?_
                      refine rd_nil (by kernel_rfl) ?_
                      refine awp_ite (b := (!y346)) rfl (fun p347 => ?_) (fun p347 => ?_)
                      · replace h := ite_T p347 h
                        refine awp_rw ?_
                        refine ro rfl rfl (st_mv rfl) ?_
                        refine ro rfl rfl (st_mv rfl) ?_
                        refine ro rfl rfl (st_mv rfl) ?_
                        obtain ⟨x348, h0348, hx348, h⟩ := getI_some h
                        refine ro rfl rfl (st_ixRi sl28 rfl rfl rfl h0348 hx348 rfl) ?_
                        refine rx (L' := [(1001, .row 0 25 [[dB a1.Cubes, dL 5 e_S_api_Line a1.Lines]]), (1002, .row 0 25 [[dB false, .nilS]]), (1003, rw' 1 3 (eI .i64) (s108.1.set (((j111 : Nat) : Int).toNat) x332)), (1006, rw' g109 58 e_S_api_Line s108.2), (1007, .row 0 58 [[dI .u8 x112.Rule, dI .i64 x112.A, dI .i64 x112.B, dI .i64 x112.Piv, dL 1 (eI .i64) x112.Lits]])]) rfl rfl (st_stT (z := x332) ta3 rfl rfl rfl hx348 rfl rfl rfl rfl rfl) rfl ?_
                        refine rw_nil ?_
                        refine nx_block ?_
                        refine nx_block ?_
                        refine nx_then ?_
                        exact J323 ((s108.1.set (((j111 : Nat) : Int).toNat) x332), s108.2) g109 _ _ h (gh_frz rfl rfl ⟨⟨_, rfl, .keep rfl⟩, ⟨_, rfl, .keep rfl⟩, ⟨_, rfl, .keep rfl⟩, ⟨_, rfl, .keep rfl⟩, ⟨_, rfl, .keep rfl⟩, ⟨_, rfl, .keep rfl⟩, ⟨_, rfl, frzN rfl (by simp)⟩, ⟨_, rfl, .keep rfl⟩, trivial⟩ ⟨⟨_, rfl, objOne ⟨⟨rfl, .keep rfl⟩, ⟨rfl, .keep rfl⟩, trivial⟩⟩, ⟨_, rfl, objOne ⟨⟨rfl, .keep rfl⟩, ⟨rfl, .keep rfl⟩, trivial⟩⟩, ⟨_, rfl, objRow _⟩, ⟨_, rfl, objRow _⟩, trivial⟩)
                      · replace h := ite_F p347 h
                        refine awp_rds hmix ?_
                        refine do_ rfl rfl (st_mv rfl) rfl rfl rfl ?_
                        refine do_ rfl rfl (st_mv rfl) rfl rfl rfl ?_
                        obtain ⟨x349, h0349, hx349, h⟩ := getI_some h
                        refine do_ rfl rfl (st_ixRi sl23 rfl rfl rfl h0349 hx349 rfl) rfl rfl rfl ?_
                        refine do_ rfl rfl (st_faP fo58_4 rfl) rfl rfl rfl ?_
                        refine do_ rfl rfl (st_ldP (v := dL 1 (eI .i64) x349.Lits) ta28 rfl rfl (rowOf_map_get hx349) rfl) rfl rfl rfl ?_
                        refine do_ rfl rfl (st_mv rfl) rfl rfl rfl ?_
                        refine do_ rfl rfl (st_mv rfl) rfl rfl rfl ?_
                        refine do_ rfl rfl (st_ixRi sl23 rfl rfl rfl h0345 hx345 rfl) rfl rfl rfl ?_
                        refine do_ rfl rfl (st_faP fo58_4 rfl) rfl rfl rfl ?_
                        refine do_ rfl rfl (st_ldP (v := dL 1 (eI .i64) x345.Lits) ta28 rfl rfl (rowOf_map_get hx345) rfl) rfl rfl rfl ?_
                        refine do_ rfl rfl (st_faP fo58_3 rfl) rfl rfl rfl ?_
                        refine do_ rfl rfl (st_ldP (v := dI .i64 x112.Piv) ta3 rfl rfl rfl rfl) rfl rfl rfl ?_
                        obtain ⟨y350, hy350, h⟩ := bind_some_elim h
                        refine df rfl rfl (ok_skolemref09_Resolvent hy350) rfl rfl ?_
                        refine do_ rfl rfl (st_mv rfl) rfl rfl rfl ?_
                        refine do_ rfl rfl (st_ext rfl rfl) rfl rfl rfl ?_
                        refine do_ rfl rfl (st_ext rfl rfl) rfl rfl rfl ?_
                        refine do_ rfl rfl (st_as rfl) rfl rfl rfl ?_
                        refine do_ rfl rfl (st_as rfl) rfl rfl rfl ?_
                        refine rd_nil (by kernel_rfl) ?_
                        refine awp_rs ?_
                        refine ro rfl rfl (st_mv rfl) ?_
                        refine ro rfl rfl (st_mv rfl) ?_
                        refine ro rfl rfl (st_mv rfl) ?_
                        refine ro rfl rfl (st_lenR rfl un23 rfl) ?_
                        obtain ⟨x351, h0351, hx351, h⟩ := getI_some h
                        refine ro rfl rfl (st_ixRi sl28 rfl rfl rfl h0351 hx351 rfl) ?_
                        refine rx (L' := [(1001, .row 0 25 [[dB a1.Cubes, dL 5 e_S_api_Line a1.Lines]]), (1002, .row 0 25 [[dB false, .nilS]]), (1003, rw' 1 3 (eI .i64) (s108.1.set (((j111 : Nat) : Int).toNat) ((s108.2.length : Nat) : Int))), (1006, rw' g109 58 e_S_api_Line s108.2), (1007, .row 0 58 [[dI .u8 x112.Rule, dI .i64 x112.A, dI .i64 x112.B, dI .i64 x112.Piv, dL 1 (eI .i64) x112.Lits]])]) rfl rfl (st_stT (z := ((s108.2.length : Nat) : Int)) ta3 rfl rfl rfl hx351 rfl rfl rfl rfl rfl) rfl ?_
                        refine rw_nilk ?_
                        refine awp_rw ?_
                        refine ro rfl rfl (st_mv rfl) ?_
                        refine ro rfl rfl (st_mv rfl) ?_
                        refine ro rfl rfl (st_mv rfl) ?_
                        refine ro rfl rfl (st_faP fo58_3 rfl) ?_
                        refine ro rfl rfl (st_ldP (v := dI .i64 x112.Piv) ta3 rfl rfl rfl rfl) ?_
                        refine ro rfl rfl (st_mv rfl) ?_
                        refine ro rfl rfl (st_build (vs := [dI .u8 (2 : Int), dI .i64 x331, dI .i64 x332, dI .i64 x112.Piv, dL 1 (eI .i64) y350.1]) bl58 rfl rfl) ?_
                        refine rn (r := 1008) rfl rfl (st_bsl (els := [[dI .u8 (2 : Int), dI .i64 x331, dI .i64 x332, dI .i64 x112.Piv, dL 1 (eI .i64) y350.1]]) sl23 zc58 rfl rfl rfl rfl rfl) rfl ?_
                        obtain ⟨c352, h⟩ := capN_some h
                        refine rn (r := 0) (L' := [(1001, .row 0 25 [[dB a1.Cubes, dL 5 e_S_api_Line a1.Lines]]), (1002, .row 0 25 [[dB false, .nilS]]), (1003, rw' 1 3 (eI .i64) (s108.1.set (((j111 : Nat) : Int).toNat) ((s108.2.length : Nat) : Int))), (1006, rw' (g109 + 2) 58 e_S_api_Line (s108.2 ++ [(S_api_Line.mk (2 : Int) x331 x332 x112.Piv y350.1)])), (1007, .row 0 58 [[dI .u8 x112.Rule, dI .i64 x112.A, dI .i64 x112.B, dI .i64 x112.Piv, dL 1 (eI .i64) x112.Lits]]), (1008, .row 1 58 [[dI .u8 (2 : Int), dI .i64 x331, dI .i64 x332, dI .i64 x112.Piv, dL 1 (eI .i64) y350.1]])]) rfl rfl (st_appR (f := e_S_api_Line) (xs := s108.2) (ys := [(S_api_Line.mk (2 : Int) x331 x332 x112.Piv y350.1)]) sl23 zc58 rfl rfl rfl rfl rfl (news_one (a := (S_api_Line.mk (2 : Int) x331 x332 x112.Piv y350.1)) rfl rfl) c352) rfl ?_
                        refine ro rfl rfl (st_as rfl) ?_
                        refine rw_nil ?_
                        refine nx_block ?_
                        refine nx_block ?_
                        refine nx_then ?_
                        exact J323 ((s108.1.set (((j111 : Nat) : Int).toNat) ((s108.2.length : Nat) : Int)), (s108.2 ++ [(S_api_Line.mk (2 : Int) x331 x332 x112.Piv y350.1)])) (g109 + 2) _ _ h (gh_frz rfl rfl ⟨⟨_, rfl, .keep rfl⟩, ⟨_, rfl, .keep rfl⟩, ⟨_, rfl, .keep rfl⟩, ⟨_, rfl, .keep rfl⟩, ⟨_, rfl, .keep rfl⟩, ⟨_, rfl, .keep rfl⟩, ⟨_, rfl, frzN rfl (by simp)⟩, ⟨_, rfl, .keep rfl⟩, trivial⟩ ⟨⟨_, rfl, objOne ⟨⟨rfl, .keep rfl⟩, ⟨rfl, .keep rfl⟩, trivial⟩⟩, ⟨_, rfl, objOne ⟨⟨rfl, .keep rfl⟩, ⟨rfl, .keep rfl⟩, trivial⟩⟩, ⟨_, rfl, objRow _⟩, ⟨_, rfl, objRow _⟩, trivial⟩)
                  · clear h
                    intro k342 h J342
                    refine awp_rd hmix ?_
                    refine do_ rfl rfl (st_mv rfl) rfl rfl rfl ?_
                    refine do_ rfl rfl (st_faP fo58_3 rfl) rfl rfl rfl ?_
                    refine do_ rfl rfl (st_ldP (v := dI .i64 x112.Piv) ta3 rfl rfl rfl rfl) rfl rfl rfl ?_
                    refine do_ rfl rfl (st_un (v := dI .i64 (IntKind.wrap .i64 (0 - x112.Piv))) rfl rfl) rfl rfl rfl ?_
                    obtain ⟨y353, hy353, h⟩ := bind_some_elim h
                    refine df rfl rfl (ok_skolemref09_Has hy353) rfl rfl ?_
                    refine do_ rfl rfl (st_mv rfl) rfl rfl rfl ?_
                    refine bool_split y353 (fun p354 => ?_) (fun p354 => ?_)
                    · replace h := ite_T p354 h
                      rw [p354]
                      refine dz rfl rfl ?_
                      refine dz rfl rfl ?_
                      refine dz rfl rfl ?_
                      refine dz rfl rfl ?_
                      refine dz rfl rfl ?_
                      refine dz rfl rfl ?_
                      refine dz rfl rfl ?_
                      refine dz rfl rfl ?_
                      refine dz rfl rfl ?_
                      refine do_ rfl rfl (st_pickT rfl rfl) rfl rfl rfl ?_
                      refine do_ rfl rfl (st_as rfl) rfl rfl rfl ?_
                      refine rd_nil (by kernel_rfl) ?_
                      refine nx_then ?_
                      exact J342 true () _ _ h (gh_frz rfl rfl ⟨⟨_, rfl, .keep rfl⟩, ⟨_, rfl, .keep rfl⟩, ⟨_, rfl, .keep rfl⟩, ⟨_, rfl, .keep rfl⟩, ⟨_, rfl, .keep rfl⟩, ⟨_, rfl, .keep rfl⟩, ⟨_, rfl, .keep rfl⟩, ⟨_, rfl, .keep rfl⟩, ⟨_, rfl, .keep rfl⟩, ⟨_, rfl, .keep rfl⟩, ⟨_, rfl, .keep rfl⟩, ⟨_, rfl, .keep rfl⟩, trivial⟩ ⟨⟨_, rfl, objOne ⟨⟨rfl, .keep rfl⟩, ⟨rfl, .keep rfl⟩, trivial⟩⟩, ⟨_, rfl, objOne ⟨⟨rfl, .keep rfl⟩, ⟨rfl, .keep rfl⟩, trivial⟩⟩, ⟨_, rfl, objRow _⟩, ⟨_, rfl, objRow _⟩, ⟨_, rfl, objOne ⟨⟨rfl, .keep rfl⟩, ⟨rfl, .keep rfl⟩, ⟨rfl, .keep rfl⟩, ⟨rfl, .keep rfl⟩, ⟨rfl, .keep rfl⟩, trivial⟩⟩, trivial⟩)
                    · replace h := ite_F p354 h
                      rw [p354]
                      refine do_ rfl rfl (st_mv rfl) rfl rfl rfl ?_
                      refine do_ rfl rfl (st_mv rfl) rfl rfl rfl ?_
                      obtain ⟨x355, h0355, hx355, h⟩ := getI_some h
                      refine do_ rfl rfl (st_ixRi sl23 rfl rfl rfl h0355 hx355 rfl) rfl rfl rfl ?_
                      refine do_ rfl rfl (st_faP fo58_4 rfl) rfl rfl rfl ?_
                      refine do_ rfl rfl (st_ldP (v := dL 1 (eI .i64) x355.Lits) ta28 rfl rfl (rowOf_map_get hx355) rfl) rfl rfl rfl ?_
                      refine do_ rfl rfl (st_faP fo58_3 rfl) rfl rfl rfl ?_
                      refine do_ rfl rfl (st_ldP (v := dI .i64 x112.Piv) ta3 rfl rfl rfl rfl) rfl rfl rfl ?_
                      obtain ⟨y356, hy356, h⟩ := bind_some_elim h
                      refine df rfl rfl (ok_skolemref09_Has hy356) rfl rfl ?_
                      refine do_ rfl rfl (st_un (v := dB (!y356)) rfl rfl) rfl rfl rfl ?_
                      refine do_ rfl rfl (st_pickF rfl rfl) rfl rfl rfl ?_
                      refine do_ rfl rfl (st_as rfl) rfl rfl rfl ?_
                      refine rd_nil (by kernel_rfl) ?_
                      refine nx_then ?_
                      exact J342 (!y356) () _ _ h (gh_frz rfl rfl ⟨⟨_, rfl, .keep rfl⟩, ⟨_, rfl, .keep rfl⟩, ⟨_, rfl, .keep rfl⟩, ⟨_, rfl, .keep rfl⟩, ⟨_, rfl, .keep rfl⟩, ⟨_, rfl, .keep rfl⟩, ⟨_, rfl, .keep rfl⟩, ⟨_, rfl, .keep rfl⟩, ⟨_, rfl, .keep rfl⟩, ⟨_, rfl, .keep rfl⟩, ⟨_, rfl, .keep rfl⟩, ⟨_, rfl, .keep rfl⟩, trivial⟩ ⟨⟨_, rfl, objOne ⟨⟨rfl, .keep rfl⟩, ⟨rfl, .keep rfl⟩, trivial⟩⟩, ⟨_, rfl, objOne ⟨⟨rfl, .keep rfl⟩, ⟨rfl, .keep rfl⟩, trivial⟩⟩, ⟨_, rfl, objRow _⟩, ⟨_, rfl, objRow _⟩, ⟨_, rfl, objOne ⟨⟨rfl, .keep rfl⟩, ⟨rfl, .keep rfl⟩, ⟨rfl, .keep rfl⟩, ⟨rfl, .keep rfl⟩, ⟨rfl, .keep rfl⟩, trivial⟩⟩, trivial⟩)
        · clear h
          intro s108 g109 h
          refine awp_seq ?_
          refine awp_rs ?_
          refine ro rfl rfl (st_mv rfl) ?_
          refine ro rfl rfl (st_faP fo25_1 rfl) ?_
          refine ro rfl rfl (st_ldP (v := dL 5 e_S_api_Line a1.Lines) ta23 rfl rfl rfl rfl) ?_
          refine ro rfl rfl (st_lenD rfl un23) ?_
          refine ro rfl rfl (st_bin (v := dB (decide (((a1.Lines.length : Nat) : Int) < ((a1.Lines.length : Nat) : Int)))) rfl rfl rfl) ?_
          refine rw_nilk ?_
          refine awp_ifF rfl dge ?_
          refine awp_exit ?_
          refine ex_out ?_
          refine ex_out ?_
          refine ex_in ?_
          refine nx_then ?_
          refine awp_rs ?_
          refine ro rfl rfl (st_mv rfl) ?_
          refine ro rfl rfl (st_mv rfl) ?_
          refine ro rfl rfl (st_faP fo25_1 rfl) ?_
          refine ro rfl rfl (st_ldP (v := dL 5 e_S_api_Line a1.Lines) ta23 rfl rfl rfl rfl) ?_
          refine ro rfl rfl (st_lenD rfl un23) ?_
          refine ro rfl rfl (st_bin (v := dI .i64 (IntKind.wrap .i64 (((a1.Lines.length : Nat) : Int) - (1 : Int)))) rfl rfl rfl) ?_
          obtain ⟨x357, h0357, hx357, h⟩ := getI_some h
          refine ro rfl rfl (st_ixRi sl28 rfl rfl rfl h0357 hx357 rfl) ?_
          refine ro rfl rfl (st_ldP (v := dI .i64 x357) ta3 rfl rfl (rowOf_map_get hx357) rfl) ?_
          refine RW.gh (gh_frz (E' := [(6, .ptr 1002 0 0 0), (174, dL 5 e_S_api_Line s108.2), (181, dI .i64 x357)]) (L' := [(1001, .row 0 25 [[dB a1.Cubes, dL 5 e_S_api_Line a1.Lines]]), (1002, .row 0 25 [[dB false, .nilS]]), (1003, rw' 1 3 (eI .i64) s108.1)]) rfl rfl ⟨⟨_, rfl, .keep rfl⟩, ⟨_, rfl, frzT rfl rfl co58 rfl⟩, ⟨_, rfl, .keep rfl⟩, trivial⟩ ⟨⟨_, rfl, objOne ⟨⟨rfl, .keep rfl⟩, ⟨rfl, .keep rfl⟩, trivial⟩⟩, ⟨_, rfl, objOne ⟨⟨rfl, .keep rfl⟩, ⟨rfl, .keep rfl⟩, trivial⟩⟩, ⟨_, rfl, objRow _⟩, trivial⟩) ?_
          obtain ⟨y358, hy358, h⟩ := bind_some_elim h
          refine rf rfl rfl (ok_skolemref10_kept hy358) rfl rfl ?_
          refine rx (L' := [(1001, .row 0 25 [[dB a1.Cubes, dL 5 e_S_api_Line a1.Lines]]), (1002, .row 0 25 [[dB y358.Cubes, dL 5 e_S_api_Line y358.Lines]]), (1003, rw' 1 3 (eI .i64) s108.1)]) rfl rfl (st_stP ta25 rfl rfl rfl rfl rfl rfl rfl rfl) rfl ?_
          refine ro rfl rfl (st_as rfl) ?_
          refine rw_nilk ?_
          refine awp_ret ?_
          injection h with h
          subst h
          exact ret_out (v := .tup [.agg [dB y358.Cubes, dL 5 e_S_api_Line y358.Lines], dI .i64 (0 : Int)]) (resV_many (resVs_cell (v := .agg [dB y358.Cubes, dL 5 e_S_api_Line y358.Lines]) ta25 rfl rfl rfl rfl (resVs_tmp rfl resVs_nil))) (.keep rfl)

theorem ok_skolemlaw10_sameClauses {a0 : (List (List Int))} {a1 : (List (List Int))} {r : Bool} (h : F_skolemlaw10_sameClauses a0 a1 = some r) : Fn Try.prog 23 [dL 1 (eL 1 (eI .i64)) a0, dL 1 (eL 1 (eI .i64)) a1] (dB r) := by
  unfold F_skolemlaw10_sameClauses at h
  refine Fn.of_body (N := 27) (rs := [.tmp 4]) Try.func23 (c := _) rfl rfl rfl (by kernel_rfl) (Nat.le_of_ble_eq_true rfl) (fun _B => ?_)
  refine awp_rs ?_
  refine ro rfl rfl (st_as rfl) ?_
  refine rw_nilk ?_
  refine awp_seq ?_
  refine awp_rs ?_
  refine ro rfl rfl (st_mv rfl) ?_
  refine ro rfl rfl (st_lenD rfl un22) ?_
  refine ro rfl rfl (st_mv rfl) ?_
  refine ro rfl rfl (st_lenD rfl un22) ?_
  refine ro rfl rfl (st_bin (v := dB (((a0.length : Nat) : Int) != ((a1.length : Nat) : Int))) rfl rfl rfl) ?_
  refine rw_nilk ?_
  refine awp_ite (b := (((a0.length : Nat) : Int) != ((a1.length : Nat) : Int))) rfl (fun p101 => ?_) (fun p101 => ?_)
  · replace h := ite_T p101 h
    refine awp_rs ?_
    refine ro rfl rfl (st_as rfl) ?_
    refine rw_nilk ?_
    refine awp_ret ?_
    refine rt_then ?_
    injection h with h
    subst h
    exact ret_out (v := dB false) (resV_one (resVs_tmp rfl resVs_nil)) (.keep rfl)
  · replace h := ite_F p101 h
    refine awp_skip ?_
    refine nx_then ?_
    refine awp_seq ?_
    refine awp_rs ?_
    refine ro rfl rfl (st_as rfl) ?_
    refine rw_nilk ?_
    refine awp_block ?_
    refine awp_len (t := 0) rfl (fun hl105 => ?_)
    rw [List.length_map] at hl105
    refine awp_range (fun (j105 : Nat) (s102 : Unit) (g103 : Unit) => [(0, dL 1 (eL 1 (eI .i64)) a0), (1, dL 1 (eL 1 (eI .i64)) a1), (5, dI .i64 ((j105 : Nat) : Int))]) (fun (s102 : Unit) (g103 : Unit) => []) () (fun _ _ _ h => h) h (gh_frz rfl rfl ⟨⟨_, rfl, .keep rfl⟩, ⟨_, rfl, .keep rfl⟩, ⟨_, rfl, .keep rfl⟩, trivial⟩ trivial) ?_ ?_
    · clear h
      intro j105 x106 s102 g103 k104 hj105 hx105 h ih104
      refine awp_seq ?_
      refine awp_rs ?_
      refine ro rfl rfl (st_mv rfl) ?_
      refine ro rfl rfl (st_mv rfl) ?_
      refine ro rfl rfl (st_lenD rfl un22) ?_
      refine ro rfl rfl (st_bin (v := dB (decide (((j105 : Nat) : Int) < ((a0.length : Nat) : Int)))) rfl rfl rfl) ?_
      refine rw_nilk ?_
      refine awp_ifT rfl (dlt hj105) ?_
      refine awp_skip ?_
      refine nx_then ?_
      refine awp_seq ?_
      refine awp_block ?_
      refine awp_rds hmix ?_
      refine do_ rfl rfl (st_mv rfl) rfl rfl rfl ?_
      refine do_ rfl rfl (st_mv rfl) rfl rfl rfl ?_
      refine do_ rfl rfl (st_ixDn sl22 rfl rfl hx105) rfl rfl rfl ?_
      refine do_ rfl rfl (st_ldD (v := dL 1 (eI .i64) x106) ta28 rfl rfl) rfl rfl rfl ?_
      refine do_ rfl rfl (st_mv rfl) rfl rfl rfl ?_
      refine do_ rfl rfl (st_mv rfl) rfl rfl rfl ?_
      obtain ⟨x110, h0110, hx110, h⟩ := getI_some h
      refine do_ rfl rfl (st_ixD sl22 rfl rfl h0110 hx110) rfl rfl rfl ?_
      refine do_ rfl rfl (st_ldD (v := dL 1 (eI .i64) x110) ta28 rfl rfl) rfl rfl rfl ?_
      obtain ⟨y111, hy111, h⟩ := bind_some_elim h
      refine df rfl rfl (ok_skolemref09_Same hy111) rfl rfl ?_
      refine do_ rfl rfl (st_un (v := dB (!y111)) rfl rfl) rfl rfl rfl ?_
      refine rd_nil (by kernel_rfl) ?_
      refine awp_ite (b := (!y111)) rfl (fun p112 => ?_) (fun p112 => ?_)
      · replace h := ite_T p112 h
        refine awp_rs ?_
        refine ro rfl rfl (st_as rfl) ?_
        refine rw_nilk ?_
        refine awp_ret ?_
        refine rt_block ?_
        refine rt_then ?_
        refine rt_then ?_
        refine rt_block ?_
        refine rt_then ?_
        injection h with h
        subst h
        exact ret_out (v := dB false) (resV_one (resVs_tmp rfl resVs_nil)) (.keep rfl)
      · replace h := ite_F p112 h
        refine awp_skip ?_
        refine nx_block ?_
        refine nx_then ?_
        refine awp_rw ?_
        refine ro rfl rfl (st_mv rfl) ?_
        refine ro rfl rfl (st_inc rfl rfl hj105 hl105) ?_
        refine ro rfl rfl (st_as rfl) ?_
        refine rw_nil ?_
        refine nx_then ?_
        refine awp_gh ?_ (ih104 () () h)
        exact (gh_frz rfl rfl ⟨⟨_, rfl, .keep rfl⟩, ⟨_, rfl, .keep rfl⟩, ⟨_, rfl, .keep rfl⟩, trivial⟩ trivial)
    · clear h
      intro s102 g103 h
      refine awp_seq ?_
      refine awp_rs ?_
      refine ro rfl rfl (st_mv rfl) ?_
      refine ro rfl rfl (st_mv rfl) ?_
      refine ro rfl rfl (st_lenD rfl un22) ?_
      refine ro rfl rfl (st_bin (v := dB (decide (((a0.length : Nat) : Int) < ((a0.length : Nat) : Int)))) rfl rfl rfl) ?_
      refine rw_nilk ?_
      refine awp_ifF rfl dge ?_
      refine awp_exit ?_
      refine ex_out ?_
      refine ex_out ?_
      refine ex_in ?_
      refine nx_then ?_
      refine awp_rs ?_
      refine ro rfl rfl (st_as rfl) ?_
      refine rw_nilk ?_
      refine awp_ret ?_
      injection h with h
      subst h
      exact ret_out (v := dB true) (resV_one (resVs_tmp rfl resVs_nil)) (.keep rfl)

theorem ok_skolemref09_SameProof {a0 : S_api_Proof} {a1 : S_api_Proof} {r : Bool} (h : F_skolemref09_SameProof a0 a1 = some r) : Fn Try.prog 24 [.agg [dB a0.Cubes, dL 5 e_S_api_Line a0.Lines], .agg [dB a1.Cubes, dL 5 e_S_api_Line a1.Lines]] (dB r) := by
  unfold F_skolemref09_SameProof at h
  refine Fn.of_body (N := 73) (rs := [.tmp 4]) Try.func24 (c := _) rfl rfl rfl (by kernel_rfl) (Nat.le_of_ble_eq_true rfl) (fun _B => ?_)
  refine awp_rs ?_
  refine rn (r := 1001) rfl rfl (st_box rfl rfl rfl co25 rfl rfl) rfl ?_
  refine rn (r := 1002) rfl rfl (st_box rfl rfl rfl co25 rfl rfl) rfl ?_
  refine ro rfl rfl (st_as rfl) ?_
  refine rw_nilk ?_
  refine awp_seq ?_
  refine awp_jn (fun (s108 : Bool) (g109 : Unit) => [(2, .ptr 1001 0 0 0), (3, .ptr 1002 0 0 0), (21, dB s108)]) (fun (s108 : Bool) (g109 : Unit) => [(1001, .row 0 25 [[dB a0.Cubes, dL 5 e_S_api_Line a0.Lines]]), (1002, .row 0 25 [[dB a1.Cubes, dL 5 e_S_api_Line a1.Lines]])]) h ?_ ?_
  · clear h
    intro s108 g109 h
    refine awp_ite (b := s108) rfl (fun p111 => ?_) (fun p111 => ?_)
    · replace h := ite_T p111 h
      refine awp_rs ?_
      refine ro rfl rfl (st_as rfl) ?_
      refine rw_nilk ?_
      refine awp_ret ?_
      refine rt_then ?_
      injection h with h
      subst h
      exact ret_out (v := dB false) (resV_one (resVs_tmp rfl resVs_nil)) (.keep rfl)
    · replace h := ite_F p111 h
      refine awp_skip ?_
      refine nx_then ?_
      refine awp_seq ?_
      refine awp_rs ?_
      refine ro rfl rfl (st_as rfl) ?_
      refine rw_nilk ?_
      refine awp_block ?_
      refine awp_lenC (r := 1001) (i := 1) rfl rfl (fun hl115 => ?_)
      rw [List.length_map] at hl115
      refine awp_range (fun (j115 : Nat) (s112 : Unit) (g113 : Unit) => [(2, .ptr 1001 0 0 0), (3, .ptr 1002 0 0 0), (5, dI .i64 ((j115 : Nat) : Int))]) (fun (s112 : Unit) (g113 : Unit) => [(1001, .row 0 25 [[dB a0.Cubes, dL 5 e_S_api_Line a0.Lines]]), (1002, .row 0 25 [[dB a1.Cubes, dL 5 e_S_api_Line a1.Lines]])]) () (fun _ _ _ h => h) h (gh_frz rfl rfl ⟨⟨_, rfl, .keep rfl⟩, ⟨_, rfl, .keep rfl⟩, ⟨_, rfl, .keep rfl⟩, trivial⟩ ⟨⟨_, rfl, objOne ⟨⟨rfl, .keep rfl⟩, ⟨rfl, .keep rfl⟩, trivial⟩⟩, ⟨_, rfl, objOne ⟨⟨rfl, .keep rfl⟩, ⟨rfl, .keep rfl⟩, trivial⟩⟩, trivial⟩) ?_ ?_
      · clear h
        intro j115 x116 s112 g113 k114 hj115 hx115 h ih114
        refine awp_seq ?_
        refine awp_rs ?_
        refine ro rfl rfl (st_mv rfl) ?_
        refine ro rfl rfl (st_faP fo25_1 rfl) ?_
        refine ro rfl rfl (st_ldP (v := dL 5 e_S_api_Line a0.Lines) ta23 rfl rfl rfl rfl) ?_
        refine ro rfl rfl (st_lenD rfl un23) ?_
        refine ro rfl rfl (st_bin (v := dB (decide (((j115 : Nat) : Int) < ((a0.Lines.length : Nat) : Int)))) rfl rfl rfl) ?_
        refine rw_nilk ?_
        refine awp_ifT rfl (dlt hj115) ?_
        refine awp_skip ?_
        refine nx_then ?_
        refine awp_seq ?_
        refine awp_block ?_
        refine awp_rds hmix ?_
        refine do_ rfl rfl (st_faP fo25_1 rfl) rfl rfl rfl ?_
        refine do_ rfl rfl (st_ldP (v := dL 5 e_S_api_Line a0.Lines) ta23 rfl rfl rfl rfl) rfl rfl rfl ?_
        refine do_ rfl rfl (st_mv rfl) rfl rfl rfl ?_
        refine do_ rfl rfl (st_ixDn sl23 rfl rfl hx115) rfl rfl rfl ?_
        refine do_ rfl rfl (st_ldD (v := .agg [dI .u8 x116.Rule, dI .i64 x116.A, dI .i64 x116.B, dI .i64 x116.Piv, dL 1 (eI .i64) x116.Lits]) ta58 rfl rfl) rfl rfl rfl ?_
        refine do_ rfl rfl (st_faP fo25_1 rfl) rfl rfl rfl ?_
        refine do_ rfl rfl (st_ldP (v := dL 5 e_S_api_Line a1.Lines) ta23 rfl rfl rfl rfl) rfl rfl rfl ?_
        refine do_ rfl rfl (st_mv rfl) rfl rfl rfl ?_
        obtain ⟨x162, h0162, hx162, h⟩ := getI_some h
        refine do_ rfl rfl (st_ixD sl23 rfl rfl h0162 hx162) rfl rfl rfl ?_
        refine do_ rfl rfl (st_ldD (v := .agg [dI .u8 x162.Rule, dI .i64 x162.A, dI .i64 x162.B, dI .i64 x162.Piv, dL 1 (eI .i64) x162.Lits]) ta58 rfl rfl) rfl rfl rfl ?_
        refine dn (r := 1003) rfl rfl (st_alloc zc58 rfl rfl) rfl rfl rfl rfl ?_
        refine dn (r := 1004) rfl rfl (st_alloc zc58 rfl rfl) rfl rfl rfl rfl ?_
        refine dx (L' := [(1001, .row 0 25 [[dB a0.Cubes, dL 5 e_S_api_Line a0.Lines]]), (1002, .row 0 25 [[dB a1.Cubes, dL 5 e_S_api_Line a1.Lines]]), (1003, .row 0 58 [[dI .u8 x116.Rule, dI .i64 x116.A, dI .i64 x116.B, dI .i64 x116.Piv, dL 1 (eI .i64) x116.Lits]]), (1004, .row 0 58 [[dI .u8 (0 : Int), dI .i64 (0 : Int), dI .i64 (0 : Int), dI .i64 (0 : Int), .nilS]])]) rfl rfl (st_stP ta58 rfl rfl rfl rfl rfl rfl rfl rfl) rfl rfl rfl rfl ?_
        refine dx (L' := [(1001, .row 0 25 [[dB a0.Cubes, dL 5 e_S_api_Line a0.Lines]]), (1002, .row 0 25 [[dB a1.Cubes, dL 5 e_S_api_Line a1.Lines]]), (1003, .row 0 58 [[dI .u8 x116.Rule, dI .i64 x116.A, dI .i64 x116.B, dI .i64 x116.Piv, dL 1 (eI .i64) x116.Lits]]), (1004, .row 0 58 [[dI .u8 x162.Rule, dI .i64 x162.A, dI .i64 x162.B, dI .i64 x162.Piv, dL 1 (eI .i64) x162.Lits]])]) rfl rfl (st_stP ta58 rfl rfl rfl rfl rfl rfl rfl rfl) rfl rfl rfl rfl ?_
        refine rd_nil (by kernel_rfl) ?_
        refine awp_jn (fun (s168 : Bool) (g169 : Unit) => [(2, .ptr 1001 0 0 0), (3, .ptr 1002 0 0 0), (5, dI .i64 ((j115 : Nat) : Int)), (72, dB s168)]) (fun (s168 : Bool) (g169 : Unit) => [(1001, .row 0 25 [[dB a0.Cubes, dL 5 e_S_api_Line a0.Lines]]), (1002, .row 0 25 [[dB a1.Cubes, dL 5 e_S_api_Line a1.Lines]])]) h ?_ ?_
        · clear h
          intro s168 g169 h
          refine awp_ite (b := s168) rfl (fun p171 => ?_) (fun p171 => ?_)
          · replace h := ite_T p171 h
            refine awp_rs ?_
            refine ro rfl rfl (st_as rfl) ?_
            refine rw_nilk ?_
            refine awp_ret ?_
            refine rt_block ?_
            refine rt_then ?_
            refine rt_then ?_
            refine rt_block ?_
            refine rt_then ?_
            injection h with h
            subst h
            exact ret_out (v := dB false) (resV_one (resVs_tmp rfl resVs_nil)) (.keep rfl)
          · replace h := ite_F p171 h
            refine awp_skip ?_
            refine nx_block ?_
            refine nx_then ?_
            refine awp_rw ?_
            refine ro rfl rfl (st_mv rfl) ?_
            refine ro rfl rfl (st_inc rfl rfl hj115 hl115) ?_
            refine ro rfl rfl (st_as rfl) ?_
            refine rw_nil ?_
            refine nx_then ?_
            refine awp_gh ?_ (ih114 () () h)
            exact (gh_frz rfl rfl ⟨⟨_, rfl, .keep rfl⟩, ⟨_, rfl, .keep rfl⟩, ⟨_, rfl, .keep rfl⟩, trivial⟩ ⟨⟨_, rfl, objOne ⟨⟨rfl, .keep rfl⟩, ⟨rfl, .keep rfl⟩, trivial⟩⟩, ⟨_, rfl, objOne ⟨⟨rfl, .keep rfl⟩, ⟨rfl, .keep rfl⟩, trivial⟩⟩, trivial⟩)
        · clear h
          intro k170 h J170
          refine awp_rw ?_
          refine ro rfl rfl (st_faP fo58_0 rfl) ?_
          refine ro rfl rfl (st_ldP (v := dI .u8 x116.Rule) ta56 rfl rfl rfl rfl) ?_
          refine ro rfl rfl (st_faP fo58_0 rfl) ?_
          refine ro rfl rfl (st_ldP (v := dI .u8 x162.Rule) ta56 rfl rfl rfl rfl) ?_
          refine ro rfl rfl (st_bin (v := dB (x116.Rule != x162.Rule)) rfl rfl rfl) ?_
          refine ro rfl rfl (st_mv rfl) ?_
          refine bool_split (x116.Rule != x162.Rule) (fun p172 => ?_) (fun p172 => ?_)
          · replace h := ite_T p172 h
            rw [p172]
            refine rz rfl rfl ?_
            refine rz rfl rfl ?_
            refine rz rfl rfl ?_
            refine rz rfl rfl ?_
            refine rz rfl rfl ?_
            refine ro rfl rfl (st_pickT rfl rfl) ?_
            refine ro rfl rfl (st_mv rfl) ?_
            refine rz rfl rfl ?_
            refine rz rfl rfl ?_
            refine rz rfl rfl ?_
            refine rz rfl rfl ?_
            refine rz rfl rfl ?_
            refine ro rfl rfl (st_pickT rfl rfl) ?_
            refine ro rfl rfl (st_mv rfl) ?_
            refine rz rfl rfl ?_
            refine rz rfl rfl ?_
            refine rz rfl rfl ?_
            refine rz rfl rfl ?_
            refine rz rfl rfl ?_
            refine ro rfl rfl (st_pickT rfl rfl) ?_
            refine ro rfl rfl (st_mv rfl) ?_
            refine rz rfl rfl ?_
            refine rz rfl rfl ?_
            refine rz rfl rfl ?_
            refine rz rfl rfl ?_
            refine rz rfl rfl ?_
            refine rz rfl rfl ?_
            refine ro rfl rfl (st_pickT rfl rfl) ?_
            refine rw_nil ?_
            refine nx_then ?_
            exact J170 true () _ _ h (gh_frz rfl rfl ⟨⟨_, rfl, .keep rfl⟩, ⟨_, rfl, .keep rfl⟩, ⟨_, rfl, .keep rfl⟩, ⟨_, rfl, .keep rfl⟩, trivial⟩ ⟨⟨_, rfl, objOne ⟨⟨rfl, .keep rfl⟩, ⟨rfl, .keep rfl⟩, trivial⟩⟩, ⟨_, rfl, objOne ⟨⟨rfl, .keep rfl⟩, ⟨rfl, .keep rfl⟩, trivial⟩⟩, trivial⟩)
          · replace h := ite_F p172 h
            rw [p172]
            refine ro rfl rfl (st_faP fo58_1 rfl) ?_
            refine ro rfl rfl (st_ldP (v := dI .i64 x116.A) ta3 rfl rfl rfl rfl) ?_
            refine ro rfl rfl (st_faP fo58_1 rfl) ?_
            refine ro rfl rfl (st_ldP (v := dI .i64 x162.A) ta3 rfl rfl rfl rfl) ?_
            refine ro rfl rfl (st_bin (v := dB (x116.A != x162.A)) rfl rfl rfl) ?_
            refine ro rfl rfl (st_pickF rfl rfl) ?_
            refine ro rfl rfl (st_mv rfl) ?_
            refine bool_split (x116.A != x162.A) (fun p173 => ?_) (fun p173 => ?_)
            · replace h := ite_T p173 h
              rw [p173]
              refine rz rfl rfl ?_
              refine rz rfl rfl ?_
              refine rz rfl rfl ?_
              refine rz rfl rfl ?_
              refine rz rfl rfl ?_
              refine ro rfl rfl (st_pickT rfl rfl) ?_
              refine ro rfl rfl (st_mv rfl) ?_
              refine rz rfl rfl ?_
              refine rz rfl rfl ?_
              refine rz rfl rfl ?_
              refine rz rfl rfl ?_
              refine rz rfl rfl ?_
              refine ro rfl rfl (st_pickT rfl rfl) ?_
              refine ro rfl rfl (st_mv rfl) ?_
              refine rz rfl rfl ?_
              refine rz rfl rfl ?_
              refine rz rfl rfl ?_
              refine rz rfl rfl ?_
              refine rz rfl rfl ?_
              refine rz rfl rfl ?_
              refine ro rfl rfl (st_pickT rfl rfl) ?_
              refine rw_nil ?_
              refine nx_then ?_
              exact J170 true () _ _ h (gh_frz rfl rfl ⟨⟨_, rfl, .keep rfl⟩, ⟨_, rfl, .keep rfl⟩, ⟨_, rfl, .keep rfl⟩, ⟨_, rfl, .keep rfl⟩, trivial⟩ ⟨⟨_, rfl, objOne ⟨⟨rfl, .keep rfl⟩, ⟨rfl, .keep rfl⟩, trivial⟩⟩, ⟨_, rfl, objOne ⟨⟨rfl, .keep rfl⟩, ⟨rfl, .keep rfl⟩, trivial⟩⟩, trivial⟩)
            · replace h := ite_F p173 h
              rw [p173]
              refine ro rfl rfl (st_faP fo58_2 rfl) ?_
              refine ro rfl rfl (st_ldP (v := dI .i64 x116.B) ta3 rfl rfl rfl rfl) ?_
              refine ro rfl rfl (st_faP fo58_2 rfl) ?_
              refine ro rfl rfl (st_ldP (v := dI .i64 x162.B) ta3 rfl rfl rfl rfl) ?_
              refine ro rfl rfl (st_bin (v := dB (x116.B != x162.B)) rfl rfl rfl) ?_
              refine ro rfl rfl (st_pickF rfl rfl) ?_
              refine ro rfl rfl (st_mv rfl) ?_
              refine bool_split (x116.B != x162.B) (fun p174 => ?_) (fun p174 => ?_)
              · replace h := ite_T p174 h
                rw [p174]
                refine rz rfl rfl ?_
                refine rz rfl rfl ?_
                refine rz rfl rfl ?_
                refine rz rfl rfl ?_
                refine rz rfl rfl ?_
                refine ro rfl rfl (st_pickT rfl rfl) ?_
                refine ro rfl rfl (st_mv rfl) ?_
                refine rz rfl rfl ?_
                refine rz rfl rfl ?_
                refine rz rfl rfl ?_
                refine rz rfl rfl ?_
                refine rz rfl rfl ?_
                refine rz rfl rfl ?_
                refine ro rfl rfl (st_pickT rfl rfl) ?_
                refine rw_nil ?_
                refine nx_then ?_
                exact J170 true () _ _ h (gh_frz rfl rfl ⟨⟨_, rfl, .keep rfl⟩, ⟨_, rfl, .keep rfl⟩, ⟨_, rfl, .keep rfl⟩, ⟨_, rfl, .keep rfl⟩, trivial⟩ ⟨⟨_, rfl, objOne ⟨⟨rfl, .keep rfl⟩, ⟨rfl, .keep rfl⟩, trivial⟩⟩, ⟨_, rfl, objOne ⟨⟨rfl, .keep rfl⟩, ⟨rfl, .keep rfl⟩, trivial⟩⟩, trivial⟩)
              · replace h := ite_F p174 h
                rw [p174]
                refine ro rfl rfl (st_faP fo58_3 rfl) ?_
                refine ro rfl rfl (st_ldP (v := dI .i64 x116.Piv) ta3 rfl rfl rfl rfl) ?_
                refine ro rfl rfl (st_faP fo58_3 rfl) ?_
                refine ro rfl rfl (st_ldP (v := dI .i64 x162.Piv) ta3 rfl rfl rfl rfl) ?_
                refine ro rfl rfl (st_bin (v := dB (x116.Piv != x162.Piv)) rfl rfl rfl) ?_
                refine ro rfl rfl (st_pickF rfl rfl) ?_
                refine ro rfl rfl (st_mv rfl) ?_
                refine bool_split (x116.Piv != x162.Piv) (fun p175 => ?_) (fun p175 => ?_)
                · replace h := ite_T p175 h
                  rw [p175]
                  refine rz rfl rfl ?_
                  refine rz rfl rfl ?_
                  refine rz rfl rfl ?_
                  refine rz rfl rfl ?_
                  refine rz rfl rfl ?_
                  refine rz rfl rfl ?_
                  refine ro rfl rfl (st_pickT rfl rfl) ?_
                  refine rw_nil ?_
                  refine nx_then ?_
                  exact J170 true () _ _ h (gh_frz rfl rfl ⟨⟨_, rfl, .keep rfl⟩, ⟨_, rfl, .keep rfl⟩, ⟨_, rfl, .keep rfl⟩, ⟨_, rfl, .keep rfl⟩, trivial⟩ ⟨⟨_, rfl, objOne ⟨⟨rfl, .keep rfl⟩, ⟨rfl, .keep rfl⟩, trivial⟩⟩, ⟨_, rfl, objOne ⟨⟨rfl, .keep rfl⟩, ⟨rfl, .keep rfl⟩, trivial⟩⟩, trivial⟩)
                · replace h := ite_F p175 h
                  rw [p175]
                  refine ro rfl rfl (st_faP fo58_4 rfl) ?_
                  refine ro rfl rfl (st_ldP (v := dL 1 (eI .i64) x116.Lits) ta28 rfl rfl rfl rfl) ?_
                  refine ro rfl rfl (st_faP fo58_4 rfl) ?_
                  refine ro rfl rfl (st_ldP (v := dL 1 (eI .i64) x162.Lits) ta28 rfl rfl rfl rfl) ?_
                  obtain ⟨y176, hy176, h⟩ := bind_some_elim h
                  refine rf rfl rfl (ok_skolemref09_Same hy176) rfl rfl ?_
                  refine ro rfl rfl (st_un (v := dB (!y176)) rfl rfl) ?_
                  refine ro rfl rfl (st_pickF rfl rfl) ?_
                  refine rw_nil ?_
                  refine nx_then ?_
                  exact J170 (!y176) () _ _ h (gh_frz rfl rfl ⟨⟨_, rfl, .keep rfl⟩, ⟨_, rfl, .keep rfl⟩, ⟨_, rfl, .keep rfl⟩, ⟨_, rfl, .keep rfl⟩, trivial⟩ ⟨⟨_, rfl, objOne ⟨⟨rfl, .keep rfl⟩, ⟨rfl, .keep rfl⟩, trivial⟩⟩, ⟨_, rfl, objOne ⟨⟨rfl, .keep rfl⟩, ⟨rfl, .keep rfl⟩, trivial⟩⟩, trivial⟩)
      · clear h
        intro s112 g113 h
        refine awp_seq ?_
        refine awp_rs ?_
        refine ro rfl rfl (st_mv rfl) ?_
        refine ro rfl rfl (st_faP fo25_1 rfl) ?_
        refine ro rfl rfl (st_ldP (v := dL 5 e_S_api_Line a0.Lines) ta23 rfl rfl rfl rfl) ?_
        refine ro rfl rfl (st_lenD rfl un23) ?_
        refine ro rfl rfl (st_bin (v := dB (decide (((a0.Lines.length : Nat) : Int) < ((a0.Lines.length : Nat) : Int)))) rfl rfl rfl) ?_
        refine rw_nilk ?_
        refine awp_ifF rfl dge ?_
        refine awp_exit ?_
        refine ex_out ?_
        refine ex_out ?_
        refine ex_in ?_
        refine nx_then ?_
        refine awp_rs ?_
        refine ro rfl rfl (st_as rfl) ?_
        refine rw_nilk ?_
        refine awp_ret ?_
        injection h with h
        subst h
        exact ret_out (v := dB true) (resV_one (resVs_tmp rfl resVs_nil)) (.keep rfl)
  · clear h
    intro k110 h J110
    refine awp_rw ?_
    refine ro rfl rfl (st_faP fo25_0 rfl) ?_
    refine ro rfl rfl (st_ldP (v := dB a0.Cubes) ta4 rfl rfl rfl rfl) ?_
    refine ro rfl rfl (st_faP fo25_0 rfl) ?_
    refine ro rfl rfl (st_ldP (v := dB a1.Cubes) ta4 rfl rfl rfl rfl) ?_
    refine ro rfl rfl (st_binB (v := dB (!(a0.Cubes == a1.Cubes))) rfl rfl un4 rfl) ?_
    refine ro rfl rfl (st_mv rfl) ?_
    refine bool_split (!(a0.Cubes == a1.Cubes)) (fun p177 => ?_) (fun p177 => ?_)
    · replace h := ite_T p177 h
      rw [p177]
      refine rz rfl rfl ?_
      refine rz rfl rfl ?_
      refine rz rfl rfl ?_
      refine rz rfl rfl ?_
      refine rz rfl rfl ?_
      refine rz rfl rfl ?_
      refine rz rfl rfl ?_
      refine ro rfl rfl (st_pickT rfl rfl) ?_
      refine rw_nil ?_
      refine nx_then ?_
      exact J110 true () _ _ h (gh_frz rfl rfl ⟨⟨_, rfl, .keep rfl⟩, ⟨_, rfl, .keep rfl⟩, ⟨_, rfl, .keep rfl⟩, trivial⟩ ⟨⟨_, rfl, objOne ⟨⟨rfl, .keep rfl⟩, ⟨rfl, .keep rfl⟩, trivial⟩⟩, ⟨_, rfl, objOne ⟨⟨rfl, .keep rfl⟩, ⟨rfl, .keep rfl⟩, trivial⟩⟩, trivial⟩)
    · replace h := ite_F p177 h
      rw [p177]
      refine ro rfl rfl (st_faP fo25_1 rfl) ?_
      refine ro rfl rfl (st_ldP (v := dL 5 e_S_api_Line a0.Lines) ta23 rfl rfl rfl rfl) ?_
      refine ro rfl rfl (st_lenD rfl un23) ?_
      refine ro rfl rfl (st_faP fo25_1 rfl) ?_
      refine ro rfl rfl (st_ldP (v := dL 5 e_S_api_Line a1.Lines) ta23 rfl rfl rfl rfl) ?_
      refine ro rfl rfl (st_lenD rfl un23) ?_
      refine ro rfl rfl (st_bin (v := dB (((a0.Lines.length : Nat) : Int) != ((a1.Lines.length : Nat) : Int))) rfl rfl rfl) ?_
      refine ro rfl rfl (st_pickF rfl rfl) ?_
      refine rw_nil ?_
      refine nx_then ?_
      exact J110 (((a0.Lines.length : Nat) : Int) != ((a1.Lines.length : Nat) : Int)) () _ _ h (gh_frz rfl rfl ⟨⟨_, rfl, .keep rfl⟩, ⟨_, rfl, .keep rfl⟩, ⟨_, rfl, .keep rfl⟩, trivial⟩ ⟨⟨_, rfl, objOne ⟨⟨rfl, .keep rfl⟩, ⟨rfl, .keep rfl⟩, trivial⟩⟩, ⟨_, rfl, objOne ⟨⟨rfl, .keep rfl⟩, ⟨rfl, .keep rfl⟩, trivial⟩⟩, trivial⟩)

theorem ok_skolemlaw10_ProofRestricts {a0 : (List (List Int))} {a1 : S_api_Proof} {a2 : (List Int)} {r : Bool} (h : F_skolemlaw10_ProofRestricts a0 a1 a2 = some r) : Fn Try.prog 4 [dL 1 (eL 1 (eI .i64)) a0, .agg [dB a1.Cubes, dL 5 e_S_api_Line a1.Lines], dL 1 (eI .i64) a2] (dB r) := by
  unfold F_skolemlaw10_ProofRestricts at h
  refine Fn.of_body (N := 80) (rs := [.tmp 6]) Try.func4 (c := _) rfl rfl rfl (by kernel_rfl) (Nat.le_of_ble_eq_true rfl) (fun _B => ?_)
  refine awp_rs ?_
  refine rn (r := 1001) rfl rfl (st_box rfl rfl rfl co25 rfl rfl) rfl ?_
  refine ro rfl rfl (st_as rfl) ?_
  refine rw_nilk ?_
  refine awp_seq ?_
  refine awp_jn (fun (s112 : Bool) (g113 : Unit) => [(0, dL 1 (eL 1 (eI .i64)) a0), (2, dL 1 (eI .i64) a2), (4, .ptr 1001 0 0 0), (24, dB s112)]) (fun (s112 : Bool) (g113 : Unit) => [(1001, .row 0 25 [[dB a1.Cubes, dL 5 e_S_api_Line a1.Lines]])]) h ?_ ?_
  · clear h
    intro s112 g113 h
    refine awp_ite (b := s112) rfl (fun p115 => ?_) (fun p115 => ?_)
    · replace h := ite_T p115 h
      refine awp_rs ?_
      obtain ⟨y116, hy116, h⟩ := bind_some_elim h
      refine rf rfl rfl (ok_skolemlaw10_head hy116) rfl rfl ?_
      refine ro rfl rfl (st_as rfl) ?_
      refine rw_nilk ?_
      refine awp_ret ?_
      refine rt_then ?_
      injection h with h
      subst h
      exact ret_out (v := dB y116) (resV_one (resVs_tmp rfl resVs_nil)) (.keep rfl)
    · replace h := ite_F p115 h
      refine awp_skip ?_
      refine nx_then ?_
      refine awp_rs ?_
      refine ro rfl rfl (st_mv rfl) ?_
      refine ro rfl rfl (st_mv rfl) ?_
      obtain ⟨y117, hy117, h⟩ := bind_some_elim h
      refine rf rfl rfl (ok_proof_Under hy117) rfl rfl ?_
      refine ro rfl rfl (st_mv rfl) ?_
      refine ro rfl rfl (st_ext rfl rfl) ?_
      refine ro rfl rfl (st_ext rfl rfl) ?_
      refine ro rfl rfl (st_ext rfl rfl) ?_
      refine ro rfl rfl (st_as rfl) ?_
      refine ro rfl rfl (st_as rfl) ?_
      refine ro rfl rfl (st_as rfl) ?_
      refine rw_nilk ?_
      refine awp_rs ?_
      refine ro rfl rfl (st_mv rfl) ?_
      refine ro rfl rfl (st_mv rfl) ?_
      obtain ⟨y118, hy118, h⟩ := bind_some_elim h
      refine rf rfl rfl (ok_skolemref10_Under hy118) rfl rfl ?_
      refine ro rfl rfl (st_mv rfl) ?_
      refine ro rfl rfl (st_ext rfl rfl) ?_
      refine ro rfl rfl (st_ext rfl rfl) ?_
      refine ro rfl rfl (st_ext rfl rfl) ?_
      refine ro rfl rfl (st_as rfl) ?_
      refine ro rfl rfl (st_as rfl) ?_
      refine ro rfl rfl (st_as rfl) ?_
      refine rw_nilk ?_
      refine awp_rs ?_
      refine ro rfl rfl (st_mv rfl) ?_
      refine ro rfl rfl (st_ldP (v := .agg [dB a1.Cubes, dL 5 e_S_api_Line a1.Lines]) ta25 rfl rfl rfl rfl) ?_
      refine ro rfl rfl (st_mv rfl) ?_
      obtain ⟨y119, hy119, h⟩ := bind_some_elim h
      refine rf rfl rfl (ok_proof_Restrict hy119) rfl rfl ?_
      refine ro rfl rfl (st_mv rfl) ?_
      refine ro rfl rfl (st_ext rfl rfl) ?_
      refine ro rfl rfl (st_ext rfl rfl) ?_
      refine rn (r := 1002) rfl rfl (st_alloc zc25 rfl rfl) rfl ?_
      refine rx (L' := [(1001, .row 0 25 [[dB a1.Cubes, dL 5 e_S_api_Line a1.Lines]]), (1002, .row 0 25 [[dB y119.1.Cubes, dL 5 e_S_api_Line y119.1.Lines]])]) rfl rfl (st_stP ta25 rfl rfl rfl rfl rfl rfl rfl rfl) rfl ?_
      refine ro rfl rfl (st_as rfl) ?_
      refine rw_nilk ?_
      refine awp_rs ?_
      refine ro rfl rfl (st_mv rfl) ?_
      refine ro rfl rfl (st_ldP (v := .agg [dB a1.Cubes, dL 5 e_S_api_Line a1.Lines]) ta25 rfl rfl rfl rfl) ?_
      refine ro rfl rfl (st_mv rfl) ?_
      obtain ⟨y120, hy120, h⟩ := bind_some_elim h
      refine rf rfl rfl (ok_skolemref10_Restrict hy120) rfl rfl ?_
      refine ro rfl rfl (st_mv rfl) ?_
      refine ro rfl rfl (st_ext rfl rfl) ?_
      refine ro rfl rfl (st_ext rfl rfl) ?_
      refine rn (r := 1003) rfl rfl (st_alloc zc25 rfl rfl) rfl ?_
      refine rx (L' := [(1001, .row 0 25 [[dB a1.Cubes, dL 5 e_S_api_Line a1.Lines]]), (1002, .row 0 25 [[dB y119.1.Cubes, dL 5 e_S_api_Line y119.1.Lines]]), (1003, .row 0 25 [[dB y120.1.Cubes, dL 5 e_S_api_Line y120.1.Lines]])]) rfl rfl (st_stP ta25 rfl rfl rfl rfl rfl rfl rfl rfl) rfl ?_
      refine ro rfl rfl (st_as rfl) ?_
      refine rw_nilk ?_
      refine awp_rs ?_
      refine ro rfl rfl (st_mv rfl) ?_
      refine ro rfl rfl (st_mv rfl) ?_
      obtain ⟨y130, hy130, h⟩ := bind_some_elim h
      refine rf rfl rfl (ok_skolemlaw10_sameClauses hy130) rfl rfl ?_
      refine ro rfl rfl (st_mv rfl) ?_
      refine bool_split y130 (fun p131 => ?_) (fun p131 => ?_)
      · replace h := ite_T p131 h
        rw [p131]
        refine ro rfl rfl (st_mv rfl) ?_
        refine ro rfl rfl (st_mv rfl) ?_
        obtain ⟨y132, hy132, h⟩ := bind_some_elim h
        refine rf rfl rfl (ok_skolemref09_Same hy132) rfl rfl ?_
        refine ro rfl rfl (st_pickT rfl rfl) ?_
        refine ro rfl rfl (st_mv rfl) ?_
        refine bool_split y132 (fun p133 => ?_) (fun p133 => ?_)
        · replace h := ite_T p133 h
          rw [p133]
          refine ro rfl rfl (st_mv rfl) ?_
          refine ro rfl rfl (st_mv rfl) ?_
          refine ro rfl rfl (st_bin (v := dB (y117.2.2 == y118.2.2)) rfl rfl rfl) ?_
          refine ro rfl rfl (st_pickT rfl rfl) ?_
          refine ro rfl rfl (st_mv rfl) ?_
          refine bool_split (y117.2.2 == y118.2.2) (fun p134 => ?_) (fun p134 => ?_)
          · replace h := ite_T p134 h
            rw [p134]
            refine ro rfl rfl (st_ldP (v := .agg [dB y119.1.Cubes, dL 5 e_S_api_Line y119.1.Lines]) ta25 rfl rfl rfl rfl) ?_
            refine ro rfl rfl (st_ldP (v := .agg [dB y120.1.Cubes, dL 5 e_S_api_Line y120.1.Lines]) ta25 rfl rfl rfl rfl) ?_
            obtain ⟨y135, hy135, h⟩ := bind_some_elim h
            refine rf rfl rfl (ok_skolemref09_SameProof hy135) rfl rfl ?_
            refine ro rfl rfl (st_pickT rfl rfl) ?_
            refine ro rfl rfl (st_mv rfl) ?_
            refine bool_split y135 (fun p136 => ?_) (fun p136 => ?_)
            · replace h := ite_T p136 h
              rw [p136]
              refine ro rfl rfl (st_mv rfl) ?_
              refine ro rfl rfl (st_mv rfl) ?_
              refine ro rfl rfl (st_bin (v := dB (y119.2 == y120.2)) rfl rfl rfl) ?_
              refine ro rfl rfl (st_pickT rfl rfl) ?_
              refine ro rfl rfl (st_mv rfl) ?_
              refine bool_split (y119.2 == y120.2) (fun p137 => ?_) (fun p137 => ?_)
              · replace h := ite_T p137 h
                rw [p137]
                obtain ⟨y138, hy138, h⟩ := bind_some_elim h
                refine rf rfl rfl (ok_skolemlaw10_head hy138) rfl rfl ?_
                refine ro rfl rfl (st_pickT rfl rfl) ?_
                refine ro rfl rfl (st_as rfl) ?_
                refine rw_nilk ?_
                refine awp_ret ?_
                injection h with h
                subst h
                exact ret_out (v := dB y138) (resV_one (resVs_tmp rfl resVs_nil)) (.keep rfl)
              · replace h := ite_F p137 h
                rw [p137]
                refine rz rfl rfl ?_
                refine ro rfl rfl (st_pickF rfl rfl) ?_
                refine ro rfl rfl (st_as rfl) ?_
                refine rw_nilk ?_
                refine awp_ret ?_
                injection h with h
                subst h
                exact ret_out (v := dB false) (resV_one (resVs_tmp rfl resVs_nil)) (.keep rfl)
            · replace h := ite_F p136 h
              rw [p136]
              refine rz rfl rfl ?_
              refine rz rfl rfl ?_
              refine rz rfl rfl ?_
              refine ro rfl rfl (st_pickF rfl rfl) ?_
              refine ro rfl rfl (st_mv rfl) ?_
              refine rz rfl rfl ?_
              refine ro rfl rfl (st_pickF rfl rfl) ?_
              refine ro rfl rfl (st_as rfl) ?_
              refine rw_nilk ?_
              refine awp_ret ?_
              injection h with h
              subst h
              exact ret_out (v := dB false) (resV_one (resVs_tmp rfl resVs_nil)) (.keep rfl)
          · replace h := ite_F p134 h
            rw [p134]
            refine rz rfl rfl ?_
            refine rz rfl rfl ?_
            refine rz rfl rfl ?_
            refine ro rfl rfl (st_pickF rfl rfl) ?_
            refine ro rfl rfl (st_mv rfl) ?_
            refine rz rfl rfl ?_
            refine rz rfl rfl ?_
            refine rz rfl rfl ?_
            refine ro rfl rfl (st_pickF rfl rfl) ?_
            refine ro rfl rfl (st_mv rfl) ?_
            refine rz rfl rfl ?_
            refine ro rfl rfl (st_pickF rfl rfl) ?_
            refine ro rfl rfl (st_as rfl) ?_
            refine rw_nilk ?_
            refine awp_ret ?_
            injection h with h
            subst h
            exact ret_out (v := dB false) (resV_one (resVs_tmp rfl resVs_nil)) (.keep rfl)
        · replace h := ite_F p133 h
          rw [p133]
          refine rz rfl rfl ?_
          refine rz rfl rfl ?_
          refine rz rfl rfl ?_
          refine ro rfl rfl (st_pickF rfl rfl) ?_
          refine ro rfl rfl (st_mv rfl) ?_
          refine rz rfl rfl ?_
          refine rz rfl rfl ?_
          refine rz rfl rfl ?_
          refine ro rfl rfl (st_pickF rfl rfl) ?_
          refine ro rfl rfl (st_mv rfl) ?_
          refine rz rfl rfl ?_
          refine rz rfl rfl ?_
          refine rz rfl rfl ?_
          refine ro rfl rfl (st_pickF rfl rfl) ?_
          refine ro rfl rfl (st_mv rfl) ?_
          refine rz rfl rfl ?_
          refine ro rfl rfl (st_pickF rfl rfl) ?_
          refine ro rfl rfl (st_as rfl) ?_
          refine rw_nilk ?_
          refine awp_ret ?_
          injection h with h
          subst h
          exact ret_out (v := dB false) (resV_one (resVs_tmp rfl resVs_nil)) (.keep rfl)
      · replace h := ite_F p131 h
        rw [p131]
        refine rz rfl rfl ?_
        refine rz rfl rfl ?_
        refine rz rfl rfl ?_
        refine ro rfl rfl (st_pickF rfl rfl) ?_
        refine ro rfl rfl (st_mv rfl) ?_
        refine rz rfl rfl ?_
        refine rz rfl rfl ?_
        refine rz rfl rfl ?_
        refine ro rfl rfl (st_pickF rfl rfl) ?_
        refine ro rfl rfl (st_mv rfl) ?_
        refine rz rfl rfl ?_
        refine rz rfl rfl ?_
        refine rz rfl rfl ?_
        refine ro rfl rfl (st_pickF rfl rfl) ?_
        refine ro rfl rfl (st_mv rfl) ?_
        refine rz rfl rfl ?_
        refine rz rfl rfl ?_
        refine rz rfl rfl ?_
        refine ro rfl rfl (st_pickF rfl rfl) ?_
        refine ro rfl rfl (st_mv rfl) ?_
        refine rz rfl rfl ?_
        refine ro rfl rfl (st_pickF rfl rfl) ?_
        refine ro rfl rfl (st_as rfl) ?_
        refine rw_nilk ?_
        refine awp_ret ?_
        injection h with h
        subst h
        exact ret_out (v := dB false) (resV_one (resVs_tmp rfl resVs_nil)) (.keep rfl)
  · clear h
    intro k114 h J114
    refine awp_rw ?_
    refine ro rfl rfl (st_mv rfl) ?_
    refine ro rfl rfl (st_ldP (v := .agg [dB a1.Cubes, dL 5 e_S_api_Line a1.Lines]) ta25 rfl rfl rfl rfl) ?_
    obtain ⟨y139, hy139, h⟩ := bind_some_elim h
    refine rf rfl rfl (ok_skolemlaw10_large hy139) rfl rfl ?_
    refine ro rfl rfl (st_mv rfl) ?_
    refine bool_split y139 (fun p140 => ?_) (fun p140 => ?_)
    · replace h := ite_T p140 h
      rw [p140]
      refine rz rfl rfl ?_
      refine rz rfl rfl ?_
      refine rz rfl rfl ?_
      refine ro rfl rfl (st_pickT rfl rfl) ?_
      refine rw_nil ?_
      refine nx_then ?_
      exact J114 true () _ _ h (gh_frz rfl rfl ⟨⟨_, rfl, .keep rfl⟩, ⟨_, rfl, .keep rfl⟩, ⟨_, rfl, .keep rfl⟩, ⟨_, rfl, .keep rfl⟩, trivial⟩ ⟨⟨_, rfl, objOne ⟨⟨rfl, .keep rfl⟩, ⟨rfl, .keep rfl⟩, trivial⟩⟩, trivial⟩)
    · replace h := ite_F p140 h
      rw [p140]
      refine ro rfl rfl (st_mv rfl) ?_
      refine ro rfl rfl (st_lenD rfl un28) ?_
      refine ro rfl rfl (st_bin (v := dB (decide (((a2.length : Nat) : Int) > (100 : Int)))) rfl rfl rfl) ?_
      refine ro rfl rfl (st_pickF rfl rfl) ?_
      refine rw_nil ?_
      refine nx_then ?_
      exact J114 (decide (((a2.length : Nat) : Int) > (100 : Int))) () _ _ h (gh_frz rfl rfl ⟨⟨_, rfl, .keep rfl⟩, ⟨_, rfl, .keep rfl⟩, ⟨_, rfl, .keep rfl⟩, ⟨_, rfl, .keep rfl⟩, trivial⟩ ⟨⟨_, rfl, objOne ⟨⟨rfl, .keep rfl⟩, ⟨rfl, .keep rfl⟩, trivial⟩⟩, trivial⟩)
end Go.Sk.X
