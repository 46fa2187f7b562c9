/- The program computes these plain functions (law TruthQbf, part 1). It has no conditions. -/
import Derived.Test.YtppmnjikhealeaaProg
import Derived.Test.YtppmnjikhealeaaSk7
import Derived.Test.YtppmnjikhealeaaSk5
import Derived.Test.YtppmnjikhealeaaXTruthQbfF
import Derived.KernelRfl
import Derived.Tactics2
import Derived.TacticsInMore
import Derived.LaidEql
set_option linter.unusedVariables false
set_option linter.unusedSimpArgs false
set_option maxRecDepth 100000
set_option maxHeartbeats 4000000
namespace Go.Sk.X
open Go Go.Sk Go.Proofs
abbrev e_S_api_Block (x : S_api_Block) : List Dat := [.bool x.Exists, .sl 1 (x.Vars.map (eI .i64))]
abbrev e_S_api_Qbf (x : S_api_Qbf) : List Dat := [.sl 2 (x.Prefix.map e_S_api_Block), .sl 1 (x.Clauses.map (eL 1 (eI .i64)))]
abbrev e_S_prefix_place (x : S_prefix_place) : List Dat := [.int .i64 x.block, .bool x.f_exists]
abbrev e_S_truth_turn (x : S_truth_turn) : List Dat := [.int .i64 x.v, .bool x.f_exists]
abbrev e_S_truth_game (x : S_truth_game) : List Dat := [.sl 2 (x.turns.map e_S_truth_turn), .sl 1 (x.clauses.map (eL 1 (eI .i64)))]
abbrev e_S_api_Table (x : S_api_Table) : List Dat := [.int .i64 x.Var, .sl 1 (x.On.map (eI .i64)), .sl 1 (x.Bits.map eB)]
abbrev e_S_api_Dep (x : S_api_Dep) : List Dat := [.int .i64 x.Var, .sl 1 (x.On.map (eI .i64))]
abbrev e_S_api_Dqbf (x : S_api_Dqbf) : List Dat := [.sl 1 (x.Univ.map (eI .i64)), .sl 2 (x.Exist.map e_S_api_Dep), .sl 1 (x.Clauses.map (eL 1 (eI .i64)))]
theorem hmix : (Go.Proofs.Try.prog).follows .mixedOrders = true := by kernel_rfl
theorem ta3 : tAgg Go.Proofs.Try.prog 3 = some (false, 1) := by kernel_rfl
theorem co3 : Program.cellsOf Go.Proofs.Try.prog 3 = 1 := by kernel_rfl
theorem un3 : Program.underlying Go.Proofs.Try.prog 3 = some (.int .i64) := Go.Proofs.Try.underlying3
theorem zc3 : zCells Go.Proofs.Try.prog 3 = some [.dat (.int .i64 0)] := by kernel_rfl
theorem ta4 : tAgg Go.Proofs.Try.prog 4 = some (false, 1) := by kernel_rfl
theorem co4 : Program.cellsOf Go.Proofs.Try.prog 4 = 1 := by kernel_rfl
theorem un4 : Program.underlying Go.Proofs.Try.prog 4 = some .bool := Go.Proofs.Try.underlying4
theorem za4 : zeroA Go.Proofs.Try.prog 4 = some (dB false) := by kernel_rfl
theorem zc4 : zCells Go.Proofs.Try.prog 4 = some [.dat (.bool false)] := by kernel_rfl
theorem ta22 : tAgg Go.Proofs.Try.prog 22 = some (false, 1) := by kernel_rfl
theorem co22 : Program.cellsOf Go.Proofs.Try.prog 22 = 1 := by kernel_rfl
theorem un22 : Program.underlying Go.Proofs.Try.prog 22 = some (.slice 65) := Go.Proofs.Try.underlying22
theorem sl22 : slE Go.Proofs.Try.prog 22 = some (65, 2, 32) := by kernel_rfl
theorem ta23 : tAgg Go.Proofs.Try.prog 23 = some (false, 1) := by kernel_rfl
theorem un23 : Program.underlying Go.Proofs.Try.prog 23 = some (.slice 34) := Go.Proofs.Try.underlying23
theorem sl23 : slE Go.Proofs.Try.prog 23 = some (34, 1, 24) := by kernel_rfl
theorem ta25 : tAgg Go.Proofs.Try.prog 25 = some (true, 2) := by kernel_rfl
theorem co25 : Program.cellsOf Go.Proofs.Try.prog 25 = 2 := by kernel_rfl
theorem fo25_0 : fOff Go.Proofs.Try.prog 25 0 = some (0, 1, false) := by kernel_rfl
theorem fo25_1 : fOff Go.Proofs.Try.prog 25 1 = some (1, 1, false) := by kernel_rfl
theorem zc25 : zCells Go.Proofs.Try.prog 25 = some [.nilS, .nilS] := by kernel_rfl
theorem bl25 : bLay Go.Proofs.Try.prog 25 = some ([.nilS, .nilS], .list [(0, 1), (1, 1)]) := by kernel_rfl
theorem ta34 : tAgg Go.Proofs.Try.prog 34 = some (false, 1) := by kernel_rfl
theorem co34 : Program.cellsOf Go.Proofs.Try.prog 34 = 1 := by kernel_rfl
theorem un34 : Program.underlying Go.Proofs.Try.prog 34 = some (.slice 3) := Go.Proofs.Try.underlying34
theorem sl34 : slE Go.Proofs.Try.prog 34 = some (3, 1, 8) := by kernel_rfl
theorem zc34 : zCells Go.Proofs.Try.prog 34 = some [.nilS] := by kernel_rfl
theorem sl35 : slE Go.Proofs.Try.prog 35 = some (51, 2, 32) := by kernel_rfl
theorem ta37 : tAgg Go.Proofs.Try.prog 37 = some (true, 3) := by kernel_rfl
theorem zc37 : zCells Go.Proofs.Try.prog 37 = some [.nilS, .nilS, .nilS] := by kernel_rfl
theorem bl37 : bLay Go.Proofs.Try.prog 37 = some ([.nilS, .nilS, .nilS], .list [(0, 1), (1, 1), (2, 1)]) := by kernel_rfl
theorem un41 : Program.underlying Go.Proofs.Try.prog 41 = some (.slice 56) := Go.Proofs.Try.underlying41
theorem sl41 : slE Go.Proofs.Try.prog 41 = some (56, 3, 56) := by kernel_rfl
theorem co51 : Program.cellsOf Go.Proofs.Try.prog 51 = 2 := by kernel_rfl
theorem zc51 : zCells Go.Proofs.Try.prog 51 = some [.dat (.int .i64 0), .nilS] := by kernel_rfl
theorem bl51 : bLay Go.Proofs.Try.prog 51 = some ([.dat (.int .i64 0), .nilS], .list [(0, 1), (1, 1)]) := by kernel_rfl
theorem ta54 : tAgg Go.Proofs.Try.prog 54 = some (false, 1) := by kernel_rfl
theorem un54 : Program.underlying Go.Proofs.Try.prog 54 = some (.slice 4) := Go.Proofs.Try.underlying54
theorem sl54 : slE Go.Proofs.Try.prog 54 = some (4, 1, 1) := by kernel_rfl
theorem co56 : Program.cellsOf Go.Proofs.Try.prog 56 = 3 := by kernel_rfl
theorem fo56_0 : fOff Go.Proofs.Try.prog 56 0 = some (0, 1, false) := by kernel_rfl
theorem fo56_1 : fOff Go.Proofs.Try.prog 56 1 = some (1, 1, false) := by kernel_rfl
theorem fo56_2 : fOff Go.Proofs.Try.prog 56 2 = some (2, 1, false) := by kernel_rfl
theorem zc56 : zCells Go.Proofs.Try.prog 56 = some [.dat (.int .i64 0), .nilS, .nilS] := by kernel_rfl
theorem bl56 : bLay Go.Proofs.Try.prog 56 = some ([.dat (.int .i64 0), .nilS, .nilS], .list [(0, 1), (1, 1), (2, 1)]) := by kernel_rfl
theorem ta65 : tAgg Go.Proofs.Try.prog 65 = some (true, 2) := by kernel_rfl
theorem co65 : Program.cellsOf Go.Proofs.Try.prog 65 = 2 := by kernel_rfl
theorem fo65_0 : fOff Go.Proofs.Try.prog 65 0 = some (0, 1, false) := by kernel_rfl
theorem fo65_1 : fOff Go.Proofs.Try.prog 65 1 = some (1, 1, false) := by kernel_rfl
theorem zc65 : zCells Go.Proofs.Try.prog 65 = some [.dat (.bool false), .nilS] := by kernel_rfl
theorem bl65 : bLay Go.Proofs.Try.prog 65 = some ([.dat (.bool false), .nilS], .list [(0, 1), (1, 1)]) := by kernel_rfl
theorem ta71 : tAgg Go.Proofs.Try.prog 71 = some (false, 1) := by kernel_rfl
theorem un71 : Program.underlying Go.Proofs.Try.prog 71 = some (.slice 95) := Go.Proofs.Try.underlying71
theorem sl71 : slE Go.Proofs.Try.prog 71 = some (95, 2, 16) := by kernel_rfl
theorem ta73 : tAgg Go.Proofs.Try.prog 73 = some (true, 2) := by kernel_rfl
theorem co73 : Program.cellsOf Go.Proofs.Try.prog 73 = 2 := by kernel_rfl
theorem fo73_0 : fOff Go.Proofs.Try.prog 73 0 = some (0, 1, false) := by kernel_rfl
theorem fo73_1 : fOff Go.Proofs.Try.prog 73 1 = some (1, 1, false) := by kernel_rfl
theorem zc73 : zCells Go.Proofs.Try.prog 73 = some [.nilS, .nilS] := by kernel_rfl
theorem bl73 : bLay Go.Proofs.Try.prog 73 = some ([.nilS, .nilS], .list [(0, 1), (1, 1)]) := by kernel_rfl
theorem ta76 : tAgg Go.Proofs.Try.prog 76 = some (false, 1) := by kernel_rfl
theorem un76 : Program.underlying Go.Proofs.Try.prog 76 = some (.map 3 4) := Go.Proofs.Try.underlying76
theorem zc76 : zCells Go.Proofs.Try.prog 76 = some [.raw (.map none)] := by kernel_rfl
theorem ta77 : tAgg Go.Proofs.Try.prog 77 = some (false, 1) := by kernel_rfl
theorem co77 : Program.cellsOf Go.Proofs.Try.prog 77 = 1 := by kernel_rfl
theorem un77 : Program.underlying Go.Proofs.Try.prog 77 = some (.map 3 4) := Go.Proofs.Try.underlying77
theorem ta84 : tAgg Go.Proofs.Try.prog 84 = some (false, 1) := by kernel_rfl
theorem zc84 : zCells Go.Proofs.Try.prog 84 = some [.raw .nilFunc] := by kernel_rfl
theorem ta95 : tAgg Go.Proofs.Try.prog 95 = some (true, 2) := by kernel_rfl
theorem co95 : Program.cellsOf Go.Proofs.Try.prog 95 = 2 := by kernel_rfl
theorem fo95_0 : fOff Go.Proofs.Try.prog 95 0 = some (0, 1, false) := by kernel_rfl
theorem fo95_1 : fOff Go.Proofs.Try.prog 95 1 = some (1, 1, false) := by kernel_rfl
theorem zc95 : zCells Go.Proofs.Try.prog 95 = some [.dat (.int .i64 0), .dat (.bool false)] := by kernel_rfl
theorem bl95 : bLay Go.Proofs.Try.prog 95 = some ([.dat (.int .i64 0), .dat (.bool false)], .list [(0, 1), (1, 1)]) := by kernel_rfl
theorem ta128 : tAgg Go.Proofs.Try.prog 128 = some (true, 2) := by kernel_rfl
theorem za128 : zeroA Go.Proofs.Try.prog 128 = some (.agg [dI .i64 ((S_prefix_place.mk (0 : Int) false).block), dB ((S_prefix_place.mk (0 : Int) false).f_exists)]) := by kernel_rfl
theorem zc128 : zCells Go.Proofs.Try.prog 128 = some [.dat (.int .i64 0), .dat (.bool false)] := by kernel_rfl
theorem bl128 : bLay Go.Proofs.Try.prog 128 = some ([.dat (.int .i64 0), .dat (.bool false)], .list [(0, 1), (1, 1)]) := by kernel_rfl
theorem ta129 : tAgg Go.Proofs.Try.prog 129 = some (false, 1) := by kernel_rfl
theorem co129 : Program.cellsOf Go.Proofs.Try.prog 129 = 1 := by kernel_rfl
theorem un129 : Program.underlying Go.Proofs.Try.prog 129 = some (.map 3 128) := Go.Proofs.Try.underlying129
theorem zc129 : zCells Go.Proofs.Try.prog 129 = some [.raw (.map none)] := by kernel_rfl
theorem tab_truth_Herbrand_0 : Fn Go.Proofs.Try.prog 19 [.agg [dL 2 e_S_api_Block ((S_api_Qbf.mk ([(S_api_Block.mk true [(2 : Int)]), (S_api_Block.mk false [(1 : Int)])]) ([[(1 : Int), (2 : Int)], [(-1 : Int), (-2 : Int)]])).Prefix), dL 1 (eL 1 (eI .i64)) ((S_api_Qbf.mk ([(S_api_Block.mk true [(2 : Int)]), (S_api_Block.mk false [(1 : Int)])]) ([[(1 : Int), (2 : Int)], [(-1 : Int), (-2 : Int)]])).Clauses)]] (.tup [dL 3 e_S_api_Table ((([(S_api_Table.mk (1 : Int) [(2 : Int)] [false, true])], (0 : Int)) : ((List S_api_Table) × Int)).1), dI .i64 ((([(S_api_Table.mk (1 : Int) [(2 : Int)] [false, true])], (0 : Int)) : ((List S_api_Table) × Int)).2)]) := fn_deep0 (n := 5000) hmix (by kernel_rfl)
noncomputable def tbp_two2 : AVal := .agg [.dat (.sl 1 [[.int .i64 1], [.int .i64 3]]), .dat (.sl 2 [[.int .i64 2, .sl 1 [[.int .i64 1]]], [.int .i64 4, .sl 1 [[.int .i64 3]]]]), .dat (.sl 1 [[.sl 1 [[.int .i64 (-1)], [.int .i64 2], [.int .i64 4]]], [.sl 1 [[.int .i64 (-2)], [.int .i64 (-4)]]]])]
noncomputable def tbp_L2 (b0 b1 b2 b3 : Bool) : LH :=
  [(5, .row 0 87 [[.dat (.sl 1 [[.int .i64 1], [.int .i64 3]]), .dat (.sl 2 [[.int .i64 2, .sl 1 [[.int .i64 1]]], [.int .i64 4, .sl 1 [[.int .i64 3]]]]), .dat (.sl 1 [[.sl 1 [[.int .i64 (-1)], [.int .i64 2], [.int .i64 4]]], [.sl 1 [[.int .i64 (-2)], [.int .i64 (-4)]]]]), .slice 39 2 0 2, .slice 118 6 0 4]]),
   (28, .row 3 3 [[.dat (.int .i64 1)]]),
   (36, .row 1 4 [[.dat (.bool b0)], [.dat (.bool b1)]]),
   (39, .row 2 56 [[.dat (.int .i64 2), .slice 28 3 0 1, .slice 36 1 0 2], [.dat (.int .i64 4), .slice 62 3 0 1, .slice 70 1 0 2]]),
   (62, .row 3 3 [[.dat (.int .i64 3)]]),
   (70, .row 1 4 [[.dat (.bool b2)], [.dat (.bool b3)]]),
   (118, .row 6 118 [[.ptr 36 1 0 0], [.ptr 36 1 1 0], [.ptr 70 1 0 0], [.ptr 70 1 1 0]])]
noncomputable def tbp_eN : Ent := ⟨38, [tbp_two2], [], .ptr 5 0 0 0, tbp_L2 false false false false⟩
noncomputable def tbp_eB (n : Int) (b2 b3 r : Bool) : Ent := ⟨76, [.ptr 5 0 0 0, .dat (.int .i64 n)], tbp_L2 false false b2 b3, .dat (.bool r), tbp_L2 false false b2 b3⟩
theorem tbp_kN : EntOk Try.prog tbp_eN := ent_ok hmix (noO_ok _) (n := 5000) (nx := 1) (by kernel_rfl)
theorem tbp_k0 : EntOk Try.prog (tbp_eB 0 false false false) := ent_ok hmix (noO_ok _) (n := 5000) (nx := 1000) (by kernel_rfl)
theorem tbp_k1 : EntOk Try.prog (tbp_eB 1 false false false) := ent_ok hmix (noO_ok _) (n := 5000) (nx := 1000) (by kernel_rfl)
theorem tbp_k2 : EntOk Try.prog (tbp_eB 2 false false false) := ent_ok hmix (noO_ok _) (n := 5000) (nx := 1000) (by kernel_rfl)
theorem tbp_k3 : EntOk Try.prog (tbp_eB 3 false false true) := ent_ok hmix (noO_ok _) (n := 5000) (nx := 1000) (by kernel_rfl)
theorem tbp_k4 : EntOk Try.prog (tbp_eB 3 true false false) := ent_ok hmix (noO_ok _) (n := 5000) (nx := 1000) (by kernel_rfl)
theorem tbp_k5 : EntOk Try.prog (tbp_eB 4 true false true) := ent_ok hmix (noO_ok _) (n := 5000) (nx := 1000) (by kernel_rfl)
theorem tbp_k6 : EntOk Try.prog (tbp_eB 4 true true false) := ent_ok hmix (noO_ok _) (n := 5000) (nx := 1000) (by kernel_rfl)
noncomputable def tbp_es2 : List Ent := [tbp_eN, tbp_eB 0 false false false, tbp_eB 1 false false false, tbp_eB 2 false false false, tbp_eB 3 false false true, tbp_eB 3 true false false, tbp_eB 4 true false true, tbp_eB 4 true true false]
theorem tbp_es2_ok : ∀ e ∈ tbp_es2, EntOk Try.prog e := by
  intro e he
  simp only [tbp_es2, List.mem_cons, List.not_mem_nil, or_false] at he
  rcases he with rfl | rfl | rfl | rfl | rfl | rfl | rfl | rfl
  · exact tbp_kN
  · exact tbp_k0
  · exact tbp_k1
  · exact tbp_k2
  · exact tbp_k3
  · exact tbp_k4
  · exact tbp_k5
  · exact tbp_k6
theorem tbp_two : Fn Try.prog 14 [tbp_two2] (.tup [.dat (.int .u8 1), .dat (.int .i64 0)]) := fn_deepO hmix (orc_ok tbp_es2_ok) (n := 5000) (by kernel_rfl)

theorem tab_truth_Dqbf_0 : Fn Go.Proofs.Try.prog 14 [.agg [dL 1 (eI .i64) ((S_api_Dqbf.mk [(1 : Int), (3 : Int)] ([(S_api_Dep.mk (2 : Int) [(1 : Int)]), (S_api_Dep.mk (4 : Int) [(3 : Int)])]) ([[(-1 : Int), (2 : Int), (4 : Int)], [(-2 : Int), (-4 : Int)]])).Univ), dL 2 e_S_api_Dep ((S_api_Dqbf.mk [(1 : Int), (3 : Int)] ([(S_api_Dep.mk (2 : Int) [(1 : Int)]), (S_api_Dep.mk (4 : Int) [(3 : Int)])]) ([[(-1 : Int), (2 : Int), (4 : Int)], [(-2 : Int), (-4 : Int)]])).Exist), dL 1 (eL 1 (eI .i64)) ((S_api_Dqbf.mk [(1 : Int), (3 : Int)] ([(S_api_Dep.mk (2 : Int) [(1 : Int)]), (S_api_Dep.mk (4 : Int) [(3 : Int)])]) ([[(-1 : Int), (2 : Int), (4 : Int)], [(-2 : Int), (-4 : Int)]])).Clauses)]] (.tup [dI .u8 ((((1 : Int), (0 : Int)) : (Int × Int)).1), dI .i64 ((((1 : Int), (0 : Int)) : (Int × Int)).2)]) := tbp_two
theorem tab_truth_Herbrand_1 : Fn Go.Proofs.Try.prog 19 [.agg [dL 2 e_S_api_Block ((S_api_Qbf.mk ([(S_api_Block.mk false [(1 : Int)]), (S_api_Block.mk true [(2 : Int)])]) ([[(1 : Int), (2 : Int)], [(-1 : Int), (-2 : Int)]])).Prefix), dL 1 (eL 1 (eI .i64)) ((S_api_Qbf.mk ([(S_api_Block.mk false [(1 : Int)]), (S_api_Block.mk true [(2 : Int)])]) ([[(1 : Int), (2 : Int)], [(-1 : Int), (-2 : Int)]])).Clauses)]] (.tup [dL 3 e_S_api_Table (((([] : List S_api_Table), (6 : Int)) : ((List S_api_Table) × Int)).1), dI .i64 (((([] : List S_api_Table), (6 : Int)) : ((List S_api_Table) × Int)).2)]) := fn_deep0 (n := 5000) hmix (by kernel_rfl)
theorem tab_truth_Skolem_0 : Fn Go.Proofs.Try.prog 16 [.agg [dL 1 (eI .i64) ((S_api_Dqbf.mk [(1 : Int)] ([(S_api_Dep.mk (2 : Int) [(1 : Int)])]) ([[(1 : Int), (2 : Int)], [(-1 : Int), (-2 : Int)]])).Univ), dL 2 e_S_api_Dep ((S_api_Dqbf.mk [(1 : Int)] ([(S_api_Dep.mk (2 : Int) [(1 : Int)])]) ([[(1 : Int), (2 : Int)], [(-1 : Int), (-2 : Int)]])).Exist), dL 1 (eL 1 (eI .i64)) ((S_api_Dqbf.mk [(1 : Int)] ([(S_api_Dep.mk (2 : Int) [(1 : Int)])]) ([[(1 : Int), (2 : Int)], [(-1 : Int), (-2 : Int)]])).Clauses)]] (.tup [dL 3 e_S_api_Table ((([(S_api_Table.mk (2 : Int) [(1 : Int)] [true, false])], (0 : Int)) : ((List S_api_Table) × Int)).1), dI .i64 ((([(S_api_Table.mk (2 : Int) [(1 : Int)] [true, false])], (0 : Int)) : ((List S_api_Table) × Int)).2)]) := fn_deep0 (n := 5000) hmix (by kernel_rfl)

theorem ok_skolemlaw04_wide {a0 : (List (List Int))} {a1 : Int} {r : Bool} (h : F_skolemlaw04_wide a0 a1 = some r) : Fn Try.prog 27 [dL 1 (eL 1 (eI .i64)) a0, dI .i64 a1] (dB r) := by
  unfold F_skolemlaw04_wide at h
  refine Fn.of_body (N := 29) (rs := [.tmp 4]) Try.func27 (c := _) rfl rfl rfl (by kernel_rfl) (Nat.le_of_ble_eq_true rfl) (fun _B => ?_)
  refine awp_rs ?_
  refine ro rfl rfl (st_as rfl) ?_
  refine rw_nilk ?_
  refine awp_seq ?_
  refine awp_jn (fun (s108 : Bool) (g109 : Unit) => [(0, dL 1 (eL 1 (eI .i64)) a0), (13, dB s108)]) (fun (s108 : Bool) (g109 : Unit) => []) h ?_ ?_
  · clear h
    intro s108 g109 h
    refine awp_ite (b := s108) rfl (fun p111 => ?_) (fun p111 => ?_)
    · replace h := ite_T p111 h
      refine awp_rs ?_
      refine ro rfl rfl (st_as rfl) ?_
      refine rw_nilk ?_
      refine awp_ret ?_
      refine rt_then ?_
      injection h with h
      subst h
      exact ret_out (v := dB true) (resV_one (resVs_tmp rfl resVs_nil)) (.keep rfl)
    · replace h := ite_F p111 h
      refine awp_skip ?_
      refine nx_then ?_
      refine awp_rs ?_
      refine ro rfl rfl (st_as rfl) ?_
      refine rw_nilk ?_
      refine awp_seq ?_
      refine awp_rs ?_
      refine ro rfl rfl (st_as rfl) ?_
      refine rw_nilk ?_
      refine awp_block ?_
      refine awp_len (t := 0) rfl (fun hl115 => ?_)
      rw [List.length_map] at hl115
      refine awp_range (fun (j115 : Nat) (s112 : Int) (g113 : Unit) => [(0, dL 1 (eL 1 (eI .i64)) a0), (5, dI .i64 s112), (6, dI .i64 ((j115 : Nat) : Int))]) (fun (s112 : Int) (g113 : Unit) => []) () (fun _ _ _ h => h) h (gh_frz rfl rfl ⟨⟨_, rfl, .keep rfl⟩, ⟨_, rfl, .keep rfl⟩, ⟨_, rfl, .keep rfl⟩, trivial⟩ trivial) ?_ ?_
      · clear h
        intro j115 x116 s112 g113 k114 hj115 hx115 h ih114
        refine awp_seq ?_
        refine awp_rs ?_
        refine ro rfl rfl (st_mv rfl) ?_
        refine ro rfl rfl (st_mv rfl) ?_
        refine ro rfl rfl (st_lenD rfl un23) ?_
        refine ro rfl rfl (st_bin (v := dB (decide (((j115 : Nat) : Int) < ((a0.length : Nat) : Int)))) rfl rfl rfl) ?_
        refine rw_nilk ?_
        refine awp_ifT rfl (dlt hj115) ?_
        refine awp_skip ?_
        refine nx_then ?_
        refine awp_seq ?_
        refine awp_block ?_
        refine awp_rw ?_
        refine ro rfl rfl (st_mv rfl) ?_
        refine ro rfl rfl (st_mv rfl) ?_
        refine ro rfl rfl (st_mv rfl) ?_
        refine ro rfl rfl (st_ixDn sl23 rfl rfl hx115) ?_
        refine ro rfl rfl (st_ldD (v := dL 1 (eI .i64) x116) ta34 rfl rfl) ?_
        refine ro rfl rfl (st_lenD rfl un34) ?_
        refine ro rfl rfl (st_bin (v := dI .i64 (IntKind.wrap .i64 (s112 + ((x116.length : Nat) : Int)))) rfl rfl rfl) ?_
        refine ro rfl rfl (st_as rfl) ?_
        refine rw_nil ?_
        refine nx_block ?_
        refine nx_then ?_
        refine awp_rw ?_
        refine ro rfl rfl (st_mv rfl) ?_
        refine ro rfl rfl (st_inc rfl rfl hj115 hl115) ?_
        refine ro rfl rfl (st_as rfl) ?_
        refine rw_nil ?_
        refine nx_then ?_
        refine awp_gh ?_ (ih114 (IntKind.wrap .i64 (s112 + ((x116.length : Nat) : Int))) () h)
        exact (gh_frz rfl rfl ⟨⟨_, rfl, .keep rfl⟩, ⟨_, rfl, .keep rfl⟩, ⟨_, rfl, .keep rfl⟩, trivial⟩ trivial)
      · clear h
        intro s112 g113 h
        refine awp_seq ?_
        refine awp_rs ?_
        refine ro rfl rfl (st_mv rfl) ?_
        refine ro rfl rfl (st_mv rfl) ?_
        refine ro rfl rfl (st_lenD rfl un23) ?_
        refine ro rfl rfl (st_bin (v := dB (decide (((a0.length : Nat) : Int) < ((a0.length : Nat) : Int)))) rfl rfl rfl) ?_
        refine rw_nilk ?_
        refine awp_ifF rfl dge ?_
        refine awp_exit ?_
        refine ex_out ?_
        refine ex_out ?_
        refine ex_in ?_
        refine nx_then ?_
        refine awp_rs ?_
        refine ro rfl rfl (st_mv rfl) ?_
        refine ro rfl rfl (st_bin (v := dB (decide (s112 > (300 : Int)))) rfl rfl rfl) ?_
        refine ro rfl rfl (st_as rfl) ?_
        refine rw_nilk ?_
        refine awp_ret ?_
        injection h with h
        subst h
        exact ret_out (v := dB (decide (s112 > (300 : Int)))) (resV_one (resVs_tmp rfl resVs_nil)) (.keep rfl)
  · clear h
    intro k110 h J110
    refine awp_rw ?_
    refine ro rfl rfl (st_mv rfl) ?_
    refine ro rfl rfl (st_lenD rfl un23) ?_
    refine ro rfl rfl (st_bin (v := dB (decide (((a0.length : Nat) : Int) > (60 : Int)))) rfl rfl rfl) ?_
    refine ro rfl rfl (st_mv rfl) ?_
    refine bool_split (decide (((a0.length : Nat) : Int) > (60 : Int))) (fun p117 => ?_) (fun p117 => ?_)
    · replace h := ite_T p117 h
      rw [p117]
      refine rz rfl rfl ?_
      refine rz rfl rfl ?_
      refine ro rfl rfl (st_pickT rfl rfl) ?_
      refine rw_nil ?_
      refine nx_then ?_
      exact J110 true () _ _ h (gh_frz rfl rfl ⟨⟨_, rfl, .keep rfl⟩, ⟨_, rfl, .keep rfl⟩, trivial⟩ trivial)
    · replace h := ite_F p117 h
      rw [p117]
      refine ro rfl rfl (st_mv rfl) ?_
      refine ro rfl rfl (st_bin (v := dB (decide (a1 > (100 : Int)))) rfl rfl rfl) ?_
      refine ro rfl rfl (st_pickF rfl rfl) ?_
      refine rw_nil ?_
      refine nx_then ?_
      exact J110 (decide (a1 > (100 : Int))) () _ _ h (gh_frz rfl rfl ⟨⟨_, rfl, .keep rfl⟩, ⟨_, rfl, .keep rfl⟩, trivial⟩ trivial)

theorem ok_skolemlaw04_great {a0 : S_api_Qbf} {r : Bool} (h : F_skolemlaw04_great a0 = some r) : Fn Try.prog 9 [.agg [dL 2 e_S_api_Block a0.Prefix, dL 1 (eL 1 (eI .i64)) a0.Clauses]] (dB r) := by
  unfold F_skolemlaw04_great at h
  refine Fn.of_body (N := 37) (rs := [.tmp 2]) Try.func9 (c := _) rfl rfl rfl (by kernel_rfl) (Nat.le_of_ble_eq_true rfl) (fun _B => ?_)
  refine awp_rs ?_
  refine rn (r := 1001) rfl rfl (st_box rfl rfl rfl co25 rfl rfl) rfl ?_
  refine ro rfl rfl (st_as rfl) ?_
  refine rw_nilk ?_
  refine awp_rs ?_
  refine ro rfl rfl (st_as rfl) ?_
  refine rw_nilk ?_
  refine awp_seq ?_
  refine awp_rs ?_
  refine ro rfl rfl (st_faP fo25_0 rfl) ?_
  refine ro rfl rfl (st_ldP (v := dL 2 e_S_api_Block a0.Prefix) ta22 rfl rfl rfl rfl) ?_
  refine ro rfl rfl (st_lenD rfl un22) ?_
  refine ro rfl rfl (st_bin (v := dB (decide (((a0.Prefix.length : Nat) : Int) > (60 : Int)))) rfl rfl rfl) ?_
  refine rw_nilk ?_
  refine awp_ite (b := (decide (((a0.Prefix.length : Nat) : Int) > (60 : Int)))) rfl (fun p101 => ?_) (fun p101 => ?_)
  · replace h := ite_T p101 h
    refine awp_rs ?_
    refine ro rfl rfl (st_as rfl) ?_
    refine rw_nilk ?_
    refine awp_ret ?_
    refine rt_then ?_
    injection h with h
    subst h
    exact ret_out (v := dB true) (resV_one (resVs_tmp rfl resVs_nil)) (.keep rfl)
  · replace h := ite_F p101 h
    refine awp_skip ?_
    refine nx_then ?_
    refine awp_seq ?_
    refine awp_rs ?_
    refine ro rfl rfl (st_as rfl) ?_
    refine rw_nilk ?_
    refine awp_block ?_
    refine awp_len (t := 6) rfl (fun hl105 => ?_)
    rw [List.length_map] at hl105
    refine awp_range (fun (j105 : Nat) (s102 : Int) (g103 : Unit) => [(1, .ptr 1001 0 0 0), (3, dI .i64 s102), (4, dI .i64 ((j105 : Nat) : Int))]) (fun (s102 : Int) (g103 : Unit) => [(1001, .row 0 25 [[dL 2 e_S_api_Block a0.Prefix, dL 1 (eL 1 (eI .i64)) a0.Clauses]])]) () (fun _ _ _ h => h) h (gh_frz rfl rfl ⟨⟨_, rfl, .keep rfl⟩, ⟨_, rfl, .keep rfl⟩, ⟨_, rfl, .keep rfl⟩, trivial⟩ ⟨⟨_, rfl, objOne ⟨⟨rfl, .keep rfl⟩, ⟨rfl, .keep rfl⟩, trivial⟩⟩, trivial⟩) ?_ ?_
    · clear h
      intro j105 x106 s102 g103 k104 hj105 hx105 h ih104
      refine awp_seq ?_
      refine awp_rs ?_
      refine ro rfl rfl (st_mv rfl) ?_
      refine ro rfl rfl (st_faP fo25_0 rfl) ?_
      refine ro rfl rfl (st_ldP (v := dL 2 e_S_api_Block a0.Prefix) ta22 rfl rfl rfl rfl) ?_
      refine ro rfl rfl (st_lenD rfl un22) ?_
      refine ro rfl rfl (st_bin (v := dB (decide (((j105 : Nat) : Int) < ((a0.Prefix.length : Nat) : Int)))) rfl rfl rfl) ?_
      refine rw_nilk ?_
      refine awp_ifT rfl (dlt hj105) ?_
      refine awp_skip ?_
      refine nx_then ?_
      refine awp_seq ?_
      refine awp_block ?_
      refine awp_rw ?_
      refine ro rfl rfl (st_mv rfl) ?_
      refine ro rfl rfl (st_faP fo25_0 rfl) ?_
      refine ro rfl rfl (st_ldP (v := dL 2 e_S_api_Block a0.Prefix) ta22 rfl rfl rfl rfl) ?_
      refine ro rfl rfl (st_mv rfl) ?_
      refine ro rfl rfl (st_ixDn sl22 rfl rfl hx105) ?_
      refine ro rfl rfl (st_faD fo65_1 rfl) ?_
      refine ro rfl rfl (st_ldD (v := dL 1 (eI .i64) x106.Vars) ta34 rfl rfl) ?_
      refine ro rfl rfl (st_lenD rfl un34) ?_
      refine ro rfl rfl (st_bin (v := dI .i64 (IntKind.wrap .i64 (s102 + ((x106.Vars.length : Nat) : Int)))) rfl rfl rfl) ?_
      refine ro rfl rfl (st_as rfl) ?_
      refine rw_nil ?_
      refine nx_block ?_
      refine nx_then ?_
      refine awp_rw ?_
      refine ro rfl rfl (st_mv rfl) ?_
      refine ro rfl rfl (st_inc rfl rfl hj105 hl105) ?_
      refine ro rfl rfl (st_as rfl) ?_
      refine rw_nil ?_
      refine nx_then ?_
      refine awp_gh ?_ (ih104 (IntKind.wrap .i64 (s102 + ((x106.Vars.length : Nat) : Int))) () h)
      exact (gh_frz rfl rfl ⟨⟨_, rfl, .keep rfl⟩, ⟨_, rfl, .keep rfl⟩, ⟨_, rfl, .keep rfl⟩, trivial⟩ ⟨⟨_, rfl, objOne ⟨⟨rfl, .keep rfl⟩, ⟨rfl, .keep rfl⟩, trivial⟩⟩, trivial⟩)
    · clear h
      intro s102 g103 h
      refine awp_seq ?_
      refine awp_rs ?_
      refine ro rfl rfl (st_mv rfl) ?_
      refine ro rfl rfl (st_faP fo25_0 rfl) ?_
      refine ro rfl rfl (st_ldP (v := dL 2 e_S_api_Block a0.Prefix) ta22 rfl rfl rfl rfl) ?_
      refine ro rfl rfl (st_lenD rfl un22) ?_
      refine ro rfl rfl (st_bin (v := dB (decide (((a0.Prefix.length : Nat) : Int) < ((a0.Prefix.length : Nat) : Int)))) rfl rfl rfl) ?_
      refine rw_nilk ?_
      refine awp_ifF rfl dge ?_
      refine awp_exit ?_
      refine ex_out ?_
      refine ex_out ?_
      refine ex_in ?_
      refine nx_then ?_
      refine awp_rs ?_
      refine ro rfl rfl (st_faP fo25_1 rfl) ?_
      refine ro rfl rfl (st_ldP (v := dL 1 (eL 1 (eI .i64)) a0.Clauses) ta23 rfl rfl rfl rfl) ?_
      refine ro rfl rfl (st_mv rfl) ?_
      obtain ⟨y110, hy110, h⟩ := bind_some_elim h
      refine rf rfl rfl (ok_skolemlaw04_wide hy110) rfl rfl ?_
      refine ro rfl rfl (st_mv rfl) ?_
      refine bool_split y110 (fun p111 => ?_) (fun p111 => ?_)
      · replace h := ite_T p111 h
        rw [p111]
        refine rz rfl rfl ?_
        refine rz rfl rfl ?_
        refine rz rfl rfl ?_
        refine rz rfl rfl ?_
        refine rz rfl rfl ?_
        refine rz rfl rfl ?_
        refine ro rfl rfl (st_pickT rfl rfl) ?_
        refine ro rfl rfl (st_as rfl) ?_
        refine rw_nilk ?_
        refine awp_ret ?_
        injection h with h
        subst h
        exact ret_out (v := dB true) (resV_one (resVs_tmp rfl resVs_nil)) (.keep rfl)
      · replace h := ite_F p111 h
        rw [p111]
        refine ro rfl rfl (st_mv rfl) ?_
        refine ro rfl rfl (st_bin (v := dB (decide (s102 > (11 : Int)))) rfl rfl rfl) ?_
        refine ro rfl rfl (st_mv rfl) ?_
        refine bool_split (decide (s102 > (11 : Int))) (fun p112 => ?_) (fun p112 => ?_)
        · replace h := ite_T p112 h
          rw [p112]
          refine ro rfl rfl (st_mv rfl) ?_
          refine ro rfl rfl (st_bin (v := dB (decide (s102 ≤ (16 : Int)))) rfl rfl rfl) ?_
          refine ro rfl rfl (st_pickT rfl rfl) ?_
          refine ro rfl rfl (st_pickF rfl rfl) ?_
          refine ro rfl rfl (st_as rfl) ?_
          refine rw_nilk ?_
          refine awp_ret ?_
          injection h with h
          subst h
          exact ret_out (v := dB (decide (s102 ≤ (16 : Int)))) (resV_one (resVs_tmp rfl resVs_nil)) (.keep rfl)
        · replace h := ite_F p112 h
          rw [p112]
          refine rz rfl rfl ?_
          refine rz rfl rfl ?_
          refine ro rfl rfl (st_pickF rfl rfl) ?_
          refine ro rfl rfl (st_pickF rfl rfl) ?_
          refine ro rfl rfl (st_as rfl) ?_
          refine rw_nilk ?_
          refine awp_ret ?_
          injection h with h
          subst h
          exact ret_out (v := dB false) (resV_one (resVs_tmp rfl resVs_nil)) (.keep rfl)

theorem ok_truth_of {a0 : S_api_Qbf} {r : S_truth_game} (h : F_truth_of a0 = some r) : Fn Try.prog 32 [.agg [dL 2 e_S_api_Block a0.Prefix, dL 1 (eL 1 (eI .i64)) a0.Clauses]] (.agg [dL 2 e_S_truth_turn r.turns, dL 1 (eL 1 (eI .i64)) r.clauses]) := by
  unfold F_truth_of at h
  refine Fn.of_body (N := 37) (rs := [.cell 2 73]) Try.func32 (c := _) rfl rfl rfl (by kernel_rfl) (Nat.le_of_ble_eq_true rfl) (fun _B => ?_)
  refine awp_rs ?_
  refine rn (r := 1001) rfl rfl (st_box rfl rfl rfl co25 rfl rfl) rfl ?_
  refine rn (r := 1002) rfl rfl (st_alloc zc73 rfl rfl) rfl ?_
  refine rw_nilk ?_
  refine awp_rs ?_
  refine ro rfl rfl (st_faP fo25_1 rfl) ?_
  refine ro rfl rfl (st_ldP (v := dL 1 (eL 1 (eI .i64)) a0.Clauses) ta23 rfl rfl rfl rfl) ?_
  refine ro rfl rfl (st_build (vs := [.nilS, dL 1 (eL 1 (eI .i64)) a0.Clauses]) bl73 rfl rfl) ?_
  refine rn (r := 1003) rfl rfl (st_alloc zc73 rfl rfl) rfl ?_
  refine rx (L' := [(1001, .row 0 25 [[dL 2 e_S_api_Block a0.Prefix, dL 1 (eL 1 (eI .i64)) a0.Clauses]]), (1002, .row 0 73 [[.nilS, .nilS]]), (1003, .row 0 73 [[.nilS, dL 1 (eL 1 (eI .i64)) a0.Clauses]])]) rfl rfl (st_stP ta73 rfl rfl rfl rfl rfl rfl rfl rfl) rfl ?_
  refine rw_nilk ?_
  refine awp_seq ?_
  refine awp_rs ?_
  refine ro rfl rfl (st_faP fo25_0 rfl) ?_
  refine ro rfl rfl (st_ldP (v := dL 2 e_S_api_Block a0.Prefix) ta22 rfl rfl rfl rfl) ?_
  refine ro rfl rfl (st_lenD rfl un22) ?_
  refine ro rfl rfl (st_mv rfl) ?_
  refine rw_nilk ?_
  refine awp_block ?_
  refine awp_len (t := 12) rfl (fun hl104 => ?_)
  rw [List.length_map] at hl104
  refine awp_range (fun (j104 : Nat) (s101 : (List S_truth_turn)) (g102 : Nat) => [(2, .ptr 1002 0 0 0), (3, .ptr 1003 0 0 0), (12, dL 2 e_S_api_Block a0.Prefix), (13, dI .i64 ((a0.Prefix.length : Nat) : Int)), (14, dI .i64 ((j104 : Nat) : Int))]) (fun (s101 : (List S_truth_turn)) (g102 : Nat) => [(1002, .row 0 73 [[.nilS, .nilS]]), (1003, .row 0 73 [[.slice 1006 g102 0 s101.length, dL 1 (eL 1 (eI .i64)) a0.Clauses]]), (1006, rw' g102 95 e_S_truth_turn s101)]) 0 (fun _ _ _ h => h) h (Gh.trans (gh_nil (r := 1006) (E' := [(2, .ptr 1002 0 0 0), (3, .ptr 1003 0 0 0), (12, dL 2 e_S_api_Block a0.Prefix), (13, dI .i64 ((a0.Prefix.length : Nat) : Int)), (14, dI .i64 (0 : Int))]) (L' := [(1001, .row 0 25 [[dL 2 e_S_api_Block a0.Prefix, dL 1 (eL 1 (eI .i64)) a0.Clauses]]), (1002, .row 0 73 [[.nilS, .nilS]]), (1003, .row 0 73 [[.slice 1006 0 0 (([] : List S_truth_turn).length), dL 1 (eL 1 (eI .i64)) a0.Clauses]])]) rfl co95 rfl rfl ⟨⟨_, rfl, .keep _⟩, ⟨_, rfl, .keep _⟩, ⟨_, rfl, .keep _⟩, ⟨_, rfl, .keep _⟩, ⟨_, rfl, .keep _⟩, trivial⟩ ⟨⟨_, rfl, .keep _⟩, ⟨_, rfl, .keep _⟩, ⟨_, rfl, nilOne ⟨.nil, .keep _, trivial⟩⟩, trivial⟩) (gh_frz rfl rfl ⟨⟨_, rfl, .keep rfl⟩, ⟨_, rfl, .keep rfl⟩, ⟨_, rfl, .keep rfl⟩, ⟨_, rfl, .keep rfl⟩, ⟨_, rfl, .keep rfl⟩, trivial⟩ ⟨⟨_, rfl, objOne ⟨⟨rfl, .keep rfl⟩, ⟨rfl, .keep rfl⟩, trivial⟩⟩, ⟨_, rfl, objOne ⟨⟨rfl, .keep rfl⟩, ⟨rfl, .keep rfl⟩, trivial⟩⟩, ⟨_, rfl, objRow (List.map e_S_truth_turn ([] : List S_truth_turn))⟩, trivial⟩)) ?_ ?_
  · clear h
    intro j104 x105 s101 g102 k103 hj104 hx104 h ih103
    refine awp_rs ?_
    refine ro rfl rfl (st_bin (v := dB (decide (((j104 : Nat) : Int) < ((a0.Prefix.length : Nat) : Int)))) rfl rfl rfl) ?_
    refine rw_nilk ?_
    refine awp_seq ?_
    refine awp_ifT rfl (dlt hj104) ?_
    refine awp_skip ?_
    refine nx_then ?_
    refine awp_seq ?_
    refine awp_block ?_
    refine awp_rs ?_
    refine ro rfl rfl (st_ixDn sl22 rfl rfl hx104) ?_
    refine ro rfl rfl (st_ldD (v := .agg [dB x105.Exists, dL 1 (eI .i64) x105.Vars]) ta65 rfl rfl) ?_
    refine rn (r := 1007) rfl rfl (st_alloc zc65 rfl rfl) rfl ?_
    refine rx (L' := [(1002, .row 0 73 [[.nilS, .nilS]]), (1003, .row 0 73 [[.slice 1006 g102 0 s101.length, dL 1 (eL 1 (eI .i64)) a0.Clauses]]), (1006, rw' g102 95 e_S_truth_turn s101), (1007, .row 0 65 [[dB x105.Exists, dL 1 (eI .i64) x105.Vars]])]) rfl rfl (st_stP ta65 rfl rfl rfl rfl rfl rfl rfl rfl) rfl ?_
    refine rw_nilk ?_
    refine awp_rs ?_
    refine ro rfl rfl (st_faP fo65_1 rfl) ?_
    refine ro rfl rfl (st_ldP (v := dL 1 (eI .i64) x105.Vars) ta34 rfl rfl rfl rfl) ?_
    refine ro rfl rfl (st_lenD rfl un34) ?_
    refine ro rfl rfl (st_mv rfl) ?_
    refine rw_nilk ?_
    refine awp_block ?_
    refine awp_len (t := 19) rfl (fun hl134 => ?_)
    rw [List.length_map] at hl134
    refine awp_range (fun (j134 : Nat) (s131 : (List S_truth_turn)) (g132 : Nat) => [(2, .ptr 1002 0 0 0), (3, .ptr 1003 0 0 0), (5, .ptr 1007 0 0 0), (12, dL 2 e_S_api_Block a0.Prefix), (13, dI .i64 ((a0.Prefix.length : Nat) : Int)), (14, dI .i64 ((j104 : Nat) : Int)), (19, dL 1 (eI .i64) x105.Vars), (20, dI .i64 ((x105.Vars.length : Nat) : Int)), (21, dI .i64 ((j134 : Nat) : Int))]) (fun (s131 : (List S_truth_turn)) (g132 : Nat) => [(1002, .row 0 73 [[.nilS, .nilS]]), (1003, .row 0 73 [[.slice 1006 g132 0 s131.length, dL 1 (eL 1 (eI .i64)) a0.Clauses]]), (1006, rw' g132 95 e_S_truth_turn s131), (1007, .row 0 65 [[dB x105.Exists, dL 1 (eI .i64) x105.Vars]])]) g102 (fun _ _ _ h => h) h (gh_frz rfl rfl ⟨⟨_, rfl, .keep rfl⟩, ⟨_, rfl, .keep rfl⟩, ⟨_, rfl, .keep rfl⟩, ⟨_, rfl, .keep rfl⟩, ⟨_, rfl, .keep rfl⟩, ⟨_, rfl, .keep rfl⟩, ⟨_, rfl, .keep rfl⟩, ⟨_, rfl, .keep rfl⟩, ⟨_, rfl, .keep rfl⟩, trivial⟩ ⟨⟨_, rfl, objOne ⟨⟨rfl, .keep rfl⟩, ⟨rfl, .keep rfl⟩, trivial⟩⟩, ⟨_, rfl, objOne ⟨⟨rfl, .keep rfl⟩, ⟨rfl, .keep rfl⟩, trivial⟩⟩, ⟨_, rfl, objRow _⟩, ⟨_, rfl, objOne ⟨⟨rfl, .keep rfl⟩, ⟨rfl, .keep rfl⟩, trivial⟩⟩, trivial⟩) ?_ ?_
    · clear h
      intro j134 x135 s131 g132 k133 hj134 hx134 h ih133
      refine awp_rs ?_
      refine ro rfl rfl (st_bin (v := dB (decide (((j134 : Nat) : Int) < ((x105.Vars.length : Nat) : Int)))) rfl rfl rfl) ?_
      refine rw_nilk ?_
      refine awp_seq ?_
      refine awp_ifT rfl (dlt hj134) ?_
      refine awp_skip ?_
      refine nx_then ?_
      refine awp_seq ?_
      refine awp_block ?_
      refine awp_rs ?_
      refine ro rfl rfl (st_ixDn sl34 rfl rfl hx134) ?_
      refine ro rfl rfl (st_ldD (v := dI .i64 x135) ta3 rfl rfl) ?_
      refine ro rfl rfl (st_as rfl) ?_
      refine rw_nilk ?_
      refine awp_rw ?_
      refine ro rfl rfl (st_faP fo73_0 rfl) ?_
      refine ro rfl rfl (st_ldP (v := .slice 1006 g132 0 s131.length) ta71 rfl rfl rfl rfl) ?_
      refine ro rfl rfl (st_mv rfl) ?_
      refine ro rfl rfl (st_faP fo65_0 rfl) ?_
      refine ro rfl rfl (st_ldP (v := dB x105.Exists) ta4 rfl rfl rfl rfl) ?_
      refine ro rfl rfl (st_build (vs := [dI .i64 x135, dB x105.Exists]) bl95 rfl rfl) ?_
      refine rn (r := 1008) rfl rfl (st_bsl (els := [[dI .i64 x135, dB x105.Exists]]) sl71 zc95 rfl rfl rfl rfl rfl) rfl ?_
      obtain ⟨c138, h⟩ := capN_some h
      refine rn (r := 0) (L' := [(1002, .row 0 73 [[.nilS, .nilS]]), (1003, .row 0 73 [[.slice 1006 g132 0 s131.length, dL 1 (eL 1 (eI .i64)) a0.Clauses]]), (1006, rw' (g132 + 2) 95 e_S_truth_turn (s131 ++ [(S_truth_turn.mk x135 x105.Exists)])), (1007, .row 0 65 [[dB x105.Exists, dL 1 (eI .i64) x105.Vars]]), (1008, .row 1 95 [[dI .i64 x135, dB x105.Exists]])]) rfl rfl (st_appR (f := e_S_truth_turn) (xs := s131) (ys := [(S_truth_turn.mk x135 x105.Exists)]) sl71 zc95 rfl rfl rfl rfl rfl (news_one (a := (S_truth_turn.mk x135 x105.Exists)) rfl rfl) c138) rfl ?_
      refine ro rfl rfl (st_faP fo73_0 rfl) ?_
      refine rx (L' := [(1002, .row 0 73 [[.nilS, .nilS]]), (1003, .row 0 73 [[.slice 1006 (g132 + 2) 0 ((s131 ++ [(S_truth_turn.mk x135 x105.Exists)]).length), dL 1 (eL 1 (eI .i64)) a0.Clauses]]), (1006, rw' (g132 + 2) 95 e_S_truth_turn (s131 ++ [(S_truth_turn.mk x135 x105.Exists)])), (1007, .row 0 65 [[dB x105.Exists, dL 1 (eI .i64) x105.Vars]]), (1008, .row 1 95 [[dI .i64 x135, dB x105.Exists]])]) rfl rfl (st_stP ta71 rfl rfl rfl rfl rfl rfl rfl rfl) rfl ?_
      refine rw_nil ?_
      refine nx_block ?_
      refine nx_then ?_
      refine awp_rw ?_
      refine ro rfl rfl (st_inc rfl rfl hj134 hl134) ?_
      refine ro rfl rfl (st_mv rfl) ?_
      refine rw_nil ?_
      refine nx_then ?_
      refine awp_gh ?_ (ih133 (s131 ++ [(S_truth_turn.mk x135 x105.Exists)]) (g132 + 2) h)
      exact (gh_frz rfl rfl ⟨⟨_, rfl, .keep rfl⟩, ⟨_, rfl, .keep rfl⟩, ⟨_, rfl, .keep rfl⟩, ⟨_, rfl, .keep rfl⟩, ⟨_, rfl, .keep rfl⟩, ⟨_, rfl, .keep rfl⟩, ⟨_, rfl, .keep rfl⟩, ⟨_, rfl, .keep rfl⟩, ⟨_, rfl, .keep rfl⟩, trivial⟩ ⟨⟨_, rfl, objOne ⟨⟨rfl, .keep rfl⟩, ⟨rfl, .keep rfl⟩, trivial⟩⟩, ⟨_, rfl, objOne ⟨⟨rfl, .keep rfl⟩, ⟨rfl, .keep rfl⟩, trivial⟩⟩, ⟨_, rfl, objRow _⟩, ⟨_, rfl, objOne ⟨⟨rfl, .keep rfl⟩, ⟨rfl, .keep rfl⟩, trivial⟩⟩, trivial⟩)
    · clear h
      intro s131 g132 h
      refine awp_rs ?_
      refine ro rfl rfl (st_bin (v := dB (decide (((x105.Vars.length : Nat) : Int) < ((x105.Vars.length : Nat) : Int)))) rfl rfl rfl) ?_
      refine rw_nilk ?_
      refine awp_seq ?_
      refine awp_ifF rfl dge ?_
      refine awp_exit ?_
      refine ex_out ?_
      refine ex_out ?_
      refine ex_in ?_
      refine nx_block ?_
      refine nx_then ?_
      refine awp_rw ?_
      refine ro rfl rfl (st_inc rfl rfl hj104 hl104) ?_
      refine ro rfl rfl (st_mv rfl) ?_
      refine rw_nil ?_
      refine nx_then ?_
      refine awp_gh ?_ (ih103 s131 g132 h)
      exact (gh_frz rfl rfl ⟨⟨_, rfl, .keep rfl⟩, ⟨_, rfl, .keep rfl⟩, ⟨_, rfl, .keep rfl⟩, ⟨_, rfl, .keep rfl⟩, ⟨_, rfl, .keep rfl⟩, trivial⟩ ⟨⟨_, rfl, objOne ⟨⟨rfl, .keep rfl⟩, ⟨rfl, .keep rfl⟩, trivial⟩⟩, ⟨_, rfl, objOne ⟨⟨rfl, .keep rfl⟩, ⟨rfl, .keep rfl⟩, trivial⟩⟩, ⟨_, rfl, objRow _⟩, trivial⟩)
  · clear h
    intro s101 g102 h
    refine awp_rs ?_
    refine ro rfl rfl (st_bin (v := dB (decide (((a0.Prefix.length : Nat) : Int) < ((a0.Prefix.length : Nat) : Int)))) rfl rfl rfl) ?_
    refine rw_nilk ?_
    refine awp_seq ?_
    refine awp_ifF rfl dge ?_
    refine awp_exit ?_
    refine ex_out ?_
    refine ex_out ?_
    refine ex_in ?_
    refine nx_then ?_
    refine awp_rs ?_
    refine ro rfl rfl (st_ldP (v := .agg [.slice 1006 g102 0 s101.length, dL 1 (eL 1 (eI .i64)) a0.Clauses]) ta73 rfl rfl rfl rfl) ?_
    refine rx (L' := [(1002, .row 0 73 [[.slice 1006 g102 0 s101.length, dL 1 (eL 1 (eI .i64)) a0.Clauses]]), (1003, .row 0 73 [[.slice 1006 g102 0 s101.length, dL 1 (eL 1 (eI .i64)) a0.Clauses]]), (1006, rw' g102 95 e_S_truth_turn s101)]) rfl rfl (st_stP ta73 rfl rfl rfl rfl rfl rfl rfl rfl) rfl ?_
    refine rw_nilk ?_
    refine awp_ret ?_
    injection h with h
    subst h
    exact ret_out (v := .agg [.slice 1006 g102 0 s101.length, dL 1 (eL 1 (eI .i64)) a0.Clauses]) (resV_one (resVs_cell (v := .agg [.slice 1006 g102 0 s101.length, dL 1 (eL 1 (eI .i64)) a0.Clauses]) ta73 rfl rfl rfl rfl resVs_nil)) (frz_agg ⟨(frzT rfl rfl co95 rfl), (.keep rfl), trivial⟩)

theorem ok_prefix_count {a0 : (List S_api_Block)} {r : (Int × Bool)} (h : F_prefix_count a0 = some r) : Fn Try.prog 98 [dL 2 e_S_api_Block a0] (.tup [dI .i64 r.1, dB r.2]) := by
  unfold F_prefix_count at h
  refine Fn.of_body (N := 27) (rs := [.cell 2 3, .cell 3 4]) Try.func98 (c := _) rfl rfl rfl (by kernel_rfl) (Nat.le_of_ble_eq_true rfl) (fun _B => ?_)
  refine awp_rs ?_
  refine rn (r := 1001) rfl rfl (st_alloc zc3 rfl rfl) rfl ?_
  refine rn (r := 1002) rfl rfl (st_alloc zc4 rfl rfl) rfl ?_
  refine rw_nilk ?_
  refine awp_rs ?_
  refine rn (r := 1003) (L' := [(1001, .row 0 3 [[dI .i64 (0 : Int)]]), (1002, .row 0 4 [[dB false]]), (1003, mapO .i64 (fun (b : Bool) => dB b) ([] : List (Int × Bool)))]) rfl rfl (st_mkM rfl) rfl ?_
  refine rn (r := 1004) rfl rfl (st_alloc zc76 rfl rfl) rfl ?_
  refine rx (L' := [(1001, .row 0 3 [[dI .i64 (0 : Int)]]), (1002, .row 0 4 [[dB false]]), (1003, mapO .i64 (fun (b : Bool) => dB b) ([] : List (Int × Bool))), (1004, .row 0 76 [[.map 1003]])]) rfl rfl (st_stP ta76 rfl rfl rfl rfl rfl rfl rfl rfl) rfl ?_
  refine rw_nilk ?_
  refine awp_seq ?_
  refine awp_rs ?_
  refine ro rfl rfl (st_mv rfl) ?_
  refine ri (N := 4) (rs := [.tmp 2]) rfl rfl rfl rfl Try.func100 rfl rfl rfl (by kernel_rfl) rfl (fun _B => ?_)
  refine awp_rs ?_
  refine rn (r := 1005) rfl rfl (st_box rfl rfl rfl co22 rfl rfl) rfl ?_
  refine ro rfl rfl (st_as rfl) ?_
  refine rw_nilk ?_
  refine awp_rs ?_
  refine ro rfl rfl (st_fn rfl rfl) ?_
  refine ro rfl rfl (st_as rfl) ?_
  refine rw_nilk ?_
  refine awp_ret ?_
  refine ret_in (v := .fn 112 [] [.ptr 1005 0 0 0]) (resV_one (resVs_tmp rfl resVs_nil)) ?_
  show RW _ _ _ _ _ _ _
  refine rw_nilk ?_
  refine awp_block ?_
  refine awp_rangeFuncR 1006 [(2, .ptr 1001 0 0 0), (3, .ptr 1002 0 0 0), (4, .ptr 1004 0 0 0)] rfl rfl rfl ⟨rfl, rfl, rfl, trivial⟩ Try.func112 rfl rfl (N' := 28) rfl (by kernel_rfl) rfl (fun O1274 hO1274 _B => ?_)
  refine awp_rs ?_
  refine ro rfl rfl (st_ldP (v := dL 2 e_S_api_Block a0) ta22 rfl rfl rfl rfl) ?_
  refine ro rfl rfl (st_lenD rfl un22) ?_
  refine ro rfl rfl (st_mv rfl) ?_
  refine rw_nilk ?_
  refine awp_block ?_
  refine awp_len (t := 7) rfl (fun hl1278 => ?_)
  rw [List.length_map] at hl1278
  refine awp_range (fun (j1278 : Nat) (s1275 : (List (Int × Bool))) (g1276 : Unit) => [(0, .yld 1006), (7, dL 2 e_S_api_Block a0), (8, dI .i64 ((a0.length : Nat) : Int)), (9, dI .i64 ((j1278 : Nat) : Int))]) (fun (s1275 : (List (Int × Bool))) (g1276 : Unit) => [(1001, .row 0 3 [[dI .i64 (0 : Int)]]), (1002, .row 0 4 [[dB false]]), (1003, mapO .i64 (fun (b : Bool) => dB b) s1275), (1004, .row 0 76 [[.map 1003]]), (1005, .row 0 22 [[dL 2 e_S_api_Block a0]]), (1006, O1274 .ready none)]) () (fun _ _ _ h => h) h (gh_frz rfl rfl ⟨⟨_, rfl, .keep rfl⟩, ⟨_, rfl, .keep rfl⟩, ⟨_, rfl, .keep rfl⟩, ⟨_, rfl, .keep rfl⟩, trivial⟩ ⟨⟨_, rfl, objOne ⟨⟨rfl, .keep rfl⟩, trivial⟩⟩, ⟨_, rfl, objOne ⟨⟨rfl, .keep rfl⟩, trivial⟩⟩, ⟨_, rfl, objMap (fun _ => rfl) _⟩, ⟨_, rfl, objOne ⟨⟨rfl, .keep rfl⟩, trivial⟩⟩, ⟨_, rfl, objOne ⟨⟨rfl, .keep rfl⟩, trivial⟩⟩, ⟨_, rfl, objLoop (hO1274 _ _) rfl⟩, trivial⟩) ?_ ?_
  · clear h
    intro j1278 x1279 s1275 g1276 k1277 hj1278 hx1278 h ih1277
    refine awp_rs ?_
    refine ro rfl rfl (st_bin (v := dB (decide (((j1278 : Nat) : Int) < ((a0.length : Nat) : Int)))) rfl rfl rfl) ?_
    refine rw_nilk ?_
    refine awp_seq ?_
    refine awp_ifT rfl (dlt hj1278) ?_
    refine awp_skip ?_
    refine nx_then ?_
    refine awp_seq ?_
    refine awp_block ?_
    refine awp_rs ?_
    refine ro rfl rfl (st_mv rfl) ?_
    refine ro rfl rfl (st_ixDn sl22 rfl rfl hx1278) ?_
    refine ro rfl rfl (st_ldD (v := .agg [dB x1279.Exists, dL 1 (eI .i64) x1279.Vars]) ta65 rfl rfl) ?_
    refine rn (r := 1007) rfl rfl (st_alloc zc65 rfl rfl) rfl ?_
    refine ro rfl rfl (st_as rfl) ?_
    refine rx (L' := [(1001, .row 0 3 [[dI .i64 (0 : Int)]]), (1002, .row 0 4 [[dB false]]), (1003, mapO .i64 (fun (b : Bool) => dB b) s1275), (1004, .row 0 76 [[.map 1003]]), (1005, .row 0 22 [[dL 2 e_S_api_Block a0]]), (1006, O1274 .ready none), (1007, .row 0 65 [[dB x1279.Exists, dL 1 (eI .i64) x1279.Vars]])]) rfl rfl (st_stP ta65 rfl rfl rfl rfl rfl rfl rfl rfl) rfl ?_
    refine rw_nilk ?_
    refine awp_rs ?_
    refine ro rfl rfl (st_faP fo65_1 rfl) ?_
    refine ro rfl rfl (st_ldP (v := dL 1 (eI .i64) x1279.Vars) ta34 rfl rfl rfl rfl) ?_
    refine ro rfl rfl (st_lenD rfl un34) ?_
    refine ro rfl rfl (st_mv rfl) ?_
    refine rw_nilk ?_
    refine awp_block ?_
    refine awp_len (t := 15) rfl (fun hl2061 => ?_)
    rw [List.length_map] at hl2061
    refine awp_range (fun (j2061 : Nat) (s2058 : (List (Int × Bool))) (g2059 : Unit) => [(0, .yld 1006), (3, dI .i64 ((j1278 : Nat) : Int)), (7, dL 2 e_S_api_Block a0), (8, dI .i64 ((a0.length : Nat) : Int)), (9, dI .i64 ((j1278 : Nat) : Int)), (15, dL 1 (eI .i64) x1279.Vars), (16, dI .i64 ((x1279.Vars.length : Nat) : Int)), (17, dI .i64 ((j2061 : Nat) : Int))]) (fun (s2058 : (List (Int × Bool))) (g2059 : Unit) => [(1001, .row 0 3 [[dI .i64 (0 : Int)]]), (1002, .row 0 4 [[dB false]]), (1003, mapO .i64 (fun (b : Bool) => dB b) s2058), (1004, .row 0 76 [[.map 1003]]), (1005, .row 0 22 [[dL 2 e_S_api_Block a0]]), (1006, O1274 .ready none)]) () (fun _ _ _ h => h) h (gh_frz rfl rfl ⟨⟨_, rfl, .keep rfl⟩, ⟨_, rfl, .keep rfl⟩, ⟨_, rfl, .keep rfl⟩, ⟨_, rfl, .keep rfl⟩, ⟨_, rfl, .keep rfl⟩, ⟨_, rfl, .keep rfl⟩, ⟨_, rfl, .keep rfl⟩, ⟨_, rfl, .keep rfl⟩, trivial⟩ ⟨⟨_, rfl, objOne ⟨⟨rfl, .keep rfl⟩, trivial⟩⟩, ⟨_, rfl, objOne ⟨⟨rfl, .keep rfl⟩, trivial⟩⟩, ⟨_, rfl, objMap (fun _ => rfl) _⟩, ⟨_, rfl, objOne ⟨⟨rfl, .keep rfl⟩, trivial⟩⟩, ⟨_, rfl, objOne ⟨⟨rfl, .keep rfl⟩, trivial⟩⟩, ⟨_, rfl, objLoop (hO1274 _ _) rfl⟩, trivial⟩) ?_ ?_
    · clear h
      intro j2061 x2062 s2058 g2059 k2060 hj2061 hx2061 h ih2060
      refine awp_rs ?_
      refine ro rfl rfl (st_bin (v := dB (decide (((j2061 : Nat) : Int) < ((x1279.Vars.length : Nat) : Int)))) rfl rfl rfl) ?_
      refine rw_nilk ?_
      refine awp_seq ?_
      refine awp_ifT rfl (dlt hj2061) ?_
      refine awp_skip ?_
      refine nx_then ?_
      refine awp_seq ?_
      refine awp_block ?_
      refine awp_rs ?_
      refine ro rfl rfl (st_ixDn sl34 rfl rfl hx2061) ?_
      refine ro rfl rfl (st_ldD (v := dI .i64 x2062) ta3 rfl rfl) ?_
      refine ro rfl rfl (st_as rfl) ?_
      refine rw_nilk ?_
      refine awp_rs ?_
      refine ro rfl rfl (st_mv rfl) ?_
      refine ro rfl rfl (st_mv rfl) ?_
      refine ro rfl rfl (st_mv rfl) ?_
      refine rw_yld (N := 27) rfl rfl rfl rfl hO1274 rfl rfl rfl (fun _B _F _hF => ?_)
      refine awp_rw ?_
      refine ro rfl rfl (st_as rfl) ?_
      refine rw_nil ?_
      refine as_n rfl ?_
      refine awp_block ?_
      refine awp_seq ?_
      refine awp_jn (fun (s2441 : Bool) (g2442 : Unit) => [(2, .ptr 1001 0 0 0), (3, .ptr 1002 0 0 0), (4, .ptr 1004 0 0 0), (6, dI .i64 x2062), (22, dB s2441)]) (fun (s2441 : Bool) (g2442 : Unit) => [(1001, .row 0 3 [[dI .i64 (0 : Int)]]), (1002, .row 0 4 [[dB false]]), (1003, mapO .i64 (fun (b : Bool) => dB b) s2058), (1004, .row 0 76 [[.map 1003]]), (1005, .row 0 22 [[dL 2 e_S_api_Block a0]]), (1006, O1274 .busy none)]) h ?_ ?_
      · clear h
        intro s2441 g2442 h
        refine awp_ite (b := s2441) rfl (fun p2444 => ?_) (fun p2444 => ?_)
        · replace h := ite_T p2444 h
          refine awp_rs ?_
          refine rx (L' := [(1001, .row 0 3 [[dI .i64 (0 : Int)]]), (1002, .row 0 4 [[dB false]]), (1003, mapO .i64 (fun (b : Bool) => dB b) s2058), (1004, .row 0 76 [[.map 1003]]), (1005, .row 0 22 [[dL 2 e_S_api_Block a0]]), (1006, O1274 .busy none)]) rfl rfl (st_stP ta3 rfl rfl rfl rfl rfl rfl rfl rfl) rfl ?_
          refine rx (L' := [(1001, .row 0 3 [[dI .i64 (0 : Int)]]), (1002, .row 0 4 [[dB false]]), (1003, mapO .i64 (fun (b : Bool) => dB b) s2058), (1004, .row 0 76 [[.map 1003]]), (1005, .row 0 22 [[dL 2 e_S_api_Block a0]]), (1006, O1274 .busy none)]) rfl rfl (st_stP ta4 rfl rfl rfl rfl rfl rfl rfl rfl) rfl ?_
          refine rw_nilk ?_
          refine awp_ret ?_
          refine rt_then ?_
          refine rt_block ?_
          refine rk_r rfl ?_
          show RW _ _ _ _ _ _ _
          refine ro rfl rfl (st_un (v := dB true) rfl rfl) ?_
          refine rw_nilk ?_
          refine awp_condT rfl ?_
          refine awp_ret ?_
          refine rt_block ?_
          refine rt_then ?_
          refine rt_then ?_
          refine rt_block ?_
          refine rt_block ?_
          refine rt_then ?_
          refine rt_then ?_
          refine rt_block ?_
          refine ret_in (v := .tup []) (resV_none resVs_nil) ?_
          refine ⟨_, _, _, rfl, rfl, (by intro h; cases h), ?_⟩
          refine bh_r ?_
          refine rt_block ?_
          refine rt_then ?_
          injection h with h
          subst h
          exact ret_out (v := .tup [dI .i64 (0 : Int), dB false]) (resV_many (resVs_cell (v := dI .i64 (0 : Int)) ta3 rfl rfl rfl rfl (resVs_cell (v := dB false) ta4 rfl rfl rfl rfl resVs_nil))) (.keep rfl)
        · replace h := ite_F p2444 h
          refine awp_skip ?_
          refine nx_then ?_
          refine awp_rw ?_
          refine ro rfl rfl (st_ldP (v := .map 1003) ta76 rfl rfl rfl rfl) ?_
          refine ro rfl rfl (st_mv rfl) ?_
          refine rx (L' := [(1001, .row 0 3 [[dI .i64 (0 : Int)]]), (1002, .row 0 4 [[dB false]]), (1003, mapO .i64 (fun (b : Bool) => dB b) (mset s2058 x2062 true)), (1004, .row 0 76 [[.map 1003]]), (1005, .row 0 22 [[dL 2 e_S_api_Block a0]]), (1006, O1274 .busy none)]) rfl rfl (st_mapUp (vf := (fun (b : Bool) => dB b)) (b := true) (xs := s2058) un76 un3 rfl rfl rfl rfl) rfl ?_
          refine rw_nil ?_
          refine nx_block ?_
          refine rk_n rfl ?_
          show RW _ _ _ _ _ _ _
          refine ro rfl rfl (st_un (v := dB false) rfl rfl) ?_
          refine rw_nilk ?_
          refine awp_condF rfl ?_
          refine awp_skip ?_
          refine nx_block ?_
          refine nx_then ?_
          refine awp_rw ?_
          refine ro rfl rfl (st_inc rfl rfl hj2061 hl2061) ?_
          refine ro rfl rfl (st_mv rfl) ?_
          refine rw_nil ?_
          refine nx_then ?_
          refine awp_gh ?_ (ih2060 (mset s2058 x2062 true) () h)
          exact (gh_frz rfl rfl ⟨⟨_, rfl, .keep rfl⟩, ⟨_, rfl, .keep rfl⟩, ⟨_, rfl, .keep rfl⟩, ⟨_, rfl, .keep rfl⟩, ⟨_, rfl, .keep rfl⟩, ⟨_, rfl, .keep rfl⟩, ⟨_, rfl, .keep rfl⟩, ⟨_, rfl, .keep rfl⟩, trivial⟩ ⟨⟨_, rfl, objOne ⟨⟨rfl, .keep rfl⟩, trivial⟩⟩, ⟨_, rfl, objOne ⟨⟨rfl, .keep rfl⟩, trivial⟩⟩, ⟨_, rfl, objMap (fun _ => rfl) _⟩, ⟨_, rfl, objOne ⟨⟨rfl, .keep rfl⟩, trivial⟩⟩, ⟨_, rfl, objOne ⟨⟨rfl, .keep rfl⟩, trivial⟩⟩, ⟨_, rfl, objLoop (hO1274 _ _) rfl⟩, trivial⟩)
      · clear h
        intro k2443 h J2443
        refine awp_rw ?_
        refine ro rfl rfl (st_mv rfl) ?_
        refine ro rfl rfl (st_bin (v := dB (decide (x2062 < (1 : Int)))) rfl rfl rfl) ?_
        refine ro rfl rfl (st_mv rfl) ?_
        refine bool_split (decide (x2062 < (1 : Int))) (fun p2445 => ?_) (fun p2445 => ?_)
        · replace h := ite_T p2445 h
          rw [p2445]
          refine rz rfl rfl ?_
          refine rz rfl rfl ?_
          refine ro rfl rfl (st_pickT rfl rfl) ?_
          refine ro rfl rfl (st_mv rfl) ?_
          refine rz rfl rfl ?_
          refine rz rfl rfl ?_
          refine rz rfl rfl ?_
          refine ro rfl rfl (st_pickT rfl rfl) ?_
          refine rw_nil ?_
          refine nx_then ?_
          exact J2443 true () _ _ h (gh_frz rfl rfl ⟨⟨_, rfl, .keep rfl⟩, ⟨_, rfl, .keep rfl⟩, ⟨_, rfl, .keep rfl⟩, ⟨_, rfl, .keep rfl⟩, ⟨_, rfl, .keep rfl⟩, trivial⟩ ⟨⟨_, rfl, objOne ⟨⟨rfl, .keep rfl⟩, trivial⟩⟩, ⟨_, rfl, objOne ⟨⟨rfl, .keep rfl⟩, trivial⟩⟩, ⟨_, rfl, objMap (fun _ => rfl) _⟩, ⟨_, rfl, objOne ⟨⟨rfl, .keep rfl⟩, trivial⟩⟩, ⟨_, rfl, objOne ⟨⟨rfl, .keep rfl⟩, trivial⟩⟩, ⟨_, rfl, objLoop (hO1274 _ _) rfl⟩, trivial⟩)
        · replace h := ite_F p2445 h
          rw [p2445]
          refine ro rfl rfl (st_mv rfl) ?_
          refine ro rfl rfl (st_bin (v := dB (decide (x2062 > (65536 : Int)))) rfl rfl rfl) ?_
          refine ro rfl rfl (st_pickF rfl rfl) ?_
          refine ro rfl rfl (st_mv rfl) ?_
          refine bool_split (decide (x2062 > (65536 : Int))) (fun p2446 => ?_) (fun p2446 => ?_)
          · replace h := ite_T p2446 h
            rw [p2446]
            refine rz rfl rfl ?_
            refine rz rfl rfl ?_
            refine rz rfl rfl ?_
            refine ro rfl rfl (st_pickT rfl rfl) ?_
            refine rw_nil ?_
            refine nx_then ?_
            exact J2443 true () _ _ h (gh_frz rfl rfl ⟨⟨_, rfl, .keep rfl⟩, ⟨_, rfl, .keep rfl⟩, ⟨_, rfl, .keep rfl⟩, ⟨_, rfl, .keep rfl⟩, ⟨_, rfl, .keep rfl⟩, trivial⟩ ⟨⟨_, rfl, objOne ⟨⟨rfl, .keep rfl⟩, trivial⟩⟩, ⟨_, rfl, objOne ⟨⟨rfl, .keep rfl⟩, trivial⟩⟩, ⟨_, rfl, objMap (fun _ => rfl) _⟩, ⟨_, rfl, objOne ⟨⟨rfl, .keep rfl⟩, trivial⟩⟩, ⟨_, rfl, objOne ⟨⟨rfl, .keep rfl⟩, trivial⟩⟩, ⟨_, rfl, objLoop (hO1274 _ _) rfl⟩, trivial⟩)
          · replace h := ite_F p2446 h
            rw [p2446]
            refine ro rfl rfl (st_ldP (v := .map 1003) ta76 rfl rfl rfl rfl) ?_
            refine ro rfl rfl (st_mv rfl) ?_
            refine ro rfl rfl (st_look (vf := (fun (b : Bool) => dB b)) (z := false) (xs := s2058) un76 un3 za4 rfl rfl rfl) ?_
            refine ro rfl rfl (st_pickF rfl rfl) ?_
            refine rw_nil ?_
            refine nx_then ?_
            exact J2443 ((mget s2058 x2062).getD false) () _ _ h (gh_frz rfl rfl ⟨⟨_, rfl, .keep rfl⟩, ⟨_, rfl, .keep rfl⟩, ⟨_, rfl, .keep rfl⟩, ⟨_, rfl, .keep rfl⟩, ⟨_, rfl, .keep rfl⟩, trivial⟩ ⟨⟨_, rfl, objOne ⟨⟨rfl, .keep rfl⟩, trivial⟩⟩, ⟨_, rfl, objOne ⟨⟨rfl, .keep rfl⟩, trivial⟩⟩, ⟨_, rfl, objMap (fun _ => rfl) _⟩, ⟨_, rfl, objOne ⟨⟨rfl, .keep rfl⟩, trivial⟩⟩, ⟨_, rfl, objOne ⟨⟨rfl, .keep rfl⟩, trivial⟩⟩, ⟨_, rfl, objLoop (hO1274 _ _) rfl⟩, trivial⟩)
    · clear h
      intro s2058 g2059 h
      refine awp_rs ?_
      refine ro rfl rfl (st_bin (v := dB (decide (((x1279.Vars.length : Nat) : Int) < ((x1279.Vars.length : Nat) : Int)))) rfl rfl rfl) ?_
      refine rw_nilk ?_
      refine awp_seq ?_
      refine awp_ifF rfl dge ?_
      refine awp_exit ?_
      refine ex_out ?_
      refine ex_out ?_
      refine ex_in ?_
      refine nx_block ?_
      refine nx_then ?_
      refine awp_rw ?_
      refine ro rfl rfl (st_inc rfl rfl hj1278 hl1278) ?_
      refine ro rfl rfl (st_mv rfl) ?_
      refine rw_nil ?_
      refine nx_then ?_
      refine awp_gh ?_ (ih1277 s2058 () h)
      exact (gh_frz rfl rfl ⟨⟨_, rfl, .keep rfl⟩, ⟨_, rfl, .keep rfl⟩, ⟨_, rfl, .keep rfl⟩, ⟨_, rfl, .keep rfl⟩, trivial⟩ ⟨⟨_, rfl, objOne ⟨⟨rfl, .keep rfl⟩, trivial⟩⟩, ⟨_, rfl, objOne ⟨⟨rfl, .keep rfl⟩, trivial⟩⟩, ⟨_, rfl, objMap (fun _ => rfl) _⟩, ⟨_, rfl, objOne ⟨⟨rfl, .keep rfl⟩, trivial⟩⟩, ⟨_, rfl, objOne ⟨⟨rfl, .keep rfl⟩, trivial⟩⟩, ⟨_, rfl, objLoop (hO1274 _ _) rfl⟩, trivial⟩)
  · clear h
    intro s1275 g1276 h
    refine awp_rs ?_
    refine ro rfl rfl (st_bin (v := dB (decide (((a0.length : Nat) : Int) < ((a0.length : Nat) : Int)))) rfl rfl rfl) ?_
    refine rw_nilk ?_
    refine awp_seq ?_
    refine awp_ifF rfl dge ?_
    refine awp_exit ?_
    refine ex_out ?_
    refine ex_out ?_
    refine ex_in ?_
    refine ret_inN (v := .tup []) (resV_none resVs_nil) ?_
    refine ⟨_, _, _, rfl, rfl, (by intro h; cases h), ?_⟩
    refine bh_0 ?_
    refine nx_block ?_
    refine nx_then ?_
    refine awp_rs ?_
    refine ro rfl rfl (st_ldP (v := .map 1003) ta76 rfl rfl rfl rfl) ?_
    refine ro rfl rfl (st_lenM (kk := .i64) (vf := (fun (b : Bool) => dB b)) (xs := s1275) rfl un76 rfl) ?_
    refine rx (L' := [(1001, .row 0 3 [[dI .i64 ((s1275.length : Nat) : Int)]]), (1002, .row 0 4 [[dB false]]), (1003, mapO .i64 (fun (b : Bool) => dB b) s1275), (1004, .row 0 76 [[.map 1003]]), (1005, .row 0 22 [[dL 2 e_S_api_Block a0]]), (1006, O1274 .exhausted none)]) rfl rfl (st_stP ta3 rfl rfl rfl rfl rfl rfl rfl rfl) rfl ?_
    refine rx (L' := [(1001, .row 0 3 [[dI .i64 ((s1275.length : Nat) : Int)]]), (1002, .row 0 4 [[dB true]]), (1003, mapO .i64 (fun (b : Bool) => dB b) s1275), (1004, .row 0 76 [[.map 1003]]), (1005, .row 0 22 [[dL 2 e_S_api_Block a0]]), (1006, O1274 .exhausted none)]) rfl rfl (st_stP ta4 rfl rfl rfl rfl rfl rfl rfl rfl) rfl ?_
    refine rw_nilk ?_
    refine awp_ret ?_
    injection h with h
    subst h
    exact ret_out (v := .tup [dI .i64 ((s1275.length : Nat) : Int), dB true]) (resV_many (resVs_cell (v := dI .i64 ((s1275.length : Nat) : Int)) ta3 rfl rfl rfl rfl (resVs_cell (v := dB true) ta4 rfl rfl rfl rfl resVs_nil))) (.keep rfl)

theorem ok_prefix_May {a0 : (List S_api_Block)} {r : Bool} (h : F_prefix_May a0 = some r) : Fn Try.prog 87 [dL 2 e_S_api_Block a0] (dB r) := by
  unfold F_prefix_May at h
  refine Fn.of_body (N := 44) (rs := [.tmp 2]) Try.func87 (c := _) rfl rfl rfl (by kernel_rfl) (Nat.le_of_ble_eq_true rfl) (fun _B => ?_)
  refine awp_rs ?_
  refine ro rfl rfl (st_as rfl) ?_
  refine rw_nilk ?_
  refine awp_seq ?_
  refine awp_rs ?_
  refine ro rfl rfl (st_mv rfl) ?_
  refine ro rfl rfl (st_lenD rfl un22) ?_
  refine ro rfl rfl (st_mv rfl) ?_
  refine rw_nilk ?_
  refine awp_block ?_
  refine awp_len (t := 0) rfl (fun hl104 => ?_)
  rw [List.length_map] at hl104
  refine awp_range (fun (j104 : Nat) (s101 : Unit) (g102 : Unit) => [(0, dL 2 e_S_api_Block a0), (7, dL 2 e_S_api_Block a0), (8, dI .i64 ((a0.length : Nat) : Int)), (9, dI .i64 ((j104 : Nat) : Int))]) (fun (s101 : Unit) (g102 : Unit) => []) () (fun _ _ _ h => h) h (gh_frz rfl rfl ⟨⟨_, rfl, .keep rfl⟩, ⟨_, rfl, .keep rfl⟩, ⟨_, rfl, .keep rfl⟩, ⟨_, rfl, .keep rfl⟩, trivial⟩ trivial) ?_ ?_
  · clear h
    intro j104 x105 s101 g102 k103 hj104 hx104 h ih103
    refine awp_rs ?_
    refine ro rfl rfl (st_bin (v := dB (decide (((j104 : Nat) : Int) < ((a0.length : Nat) : Int)))) rfl rfl rfl) ?_
    refine rw_nilk ?_
    refine awp_seq ?_
    refine awp_ifT rfl (dlt hj104) ?_
    refine awp_skip ?_
    refine nx_then ?_
    refine awp_seq ?_
    refine awp_block ?_
    refine awp_rs ?_
    refine ro rfl rfl (st_mv rfl) ?_
    refine ro rfl rfl (st_ixDn sl22 rfl rfl hx104) ?_
    refine ro rfl rfl (st_ldD (v := .agg [dB x105.Exists, dL 1 (eI .i64) x105.Vars]) ta65 rfl rfl) ?_
    refine rn (r := 1001) rfl rfl (st_alloc zc65 rfl rfl) rfl ?_
    refine ro rfl rfl (st_as rfl) ?_
    refine rx (L' := [(1001, .row 0 65 [[dB x105.Exists, dL 1 (eI .i64) x105.Vars]])]) rfl rfl (st_stP ta65 rfl rfl rfl rfl rfl rfl rfl rfl) rfl ?_
    refine rw_nilk ?_
    refine awp_jn (fun (s139 : Bool) (g140 : Unit) => [(0, dL 2 e_S_api_Block a0), (7, dL 2 e_S_api_Block a0), (8, dI .i64 ((a0.length : Nat) : Int)), (9, dI .i64 ((j104 : Nat) : Int)), (32, dB s139)]) (fun (s139 : Bool) (g140 : Unit) => []) h ?_ ?_
    · clear h
      intro s139 g140 h
      refine awp_ite (b := s139) rfl (fun p142 => ?_) (fun p142 => ?_)
      · replace h := ite_T p142 h
        refine awp_rs ?_
        refine ro rfl rfl (st_as rfl) ?_
        refine rw_nilk ?_
        refine awp_ret ?_
        refine rt_block ?_
        refine rt_then ?_
        refine rt_then ?_
        refine rt_block ?_
        refine rt_then ?_
        injection h with h
        subst h
        exact ret_out (v := dB false) (resV_one (resVs_tmp rfl resVs_nil)) (.keep rfl)
      · replace h := ite_F p142 h
        refine awp_skip ?_
        refine nx_block ?_
        refine nx_then ?_
        refine awp_rw ?_
        refine ro rfl rfl (st_inc rfl rfl hj104 hl104) ?_
        refine ro rfl rfl (st_mv rfl) ?_
        refine rw_nil ?_
        refine nx_then ?_
        refine awp_gh ?_ (ih103 () () h)
        exact (gh_frz rfl rfl ⟨⟨_, rfl, .keep rfl⟩, ⟨_, rfl, .keep rfl⟩, ⟨_, rfl, .keep rfl⟩, ⟨_, rfl, .keep rfl⟩, trivial⟩ trivial)
    · clear h
      intro k141 h J141
      refine awp_rd hmix ?_
      refine do_ rfl rfl (st_faP fo65_1 rfl) rfl rfl rfl ?_
      refine do_ rfl rfl (st_ldP (v := dL 1 (eI .i64) x105.Vars) ta34 rfl rfl rfl rfl) rfl rfl rfl ?_
      refine do_ rfl rfl (st_lenD rfl un34) rfl rfl rfl ?_
      refine do_ rfl rfl (st_bin (v := dB (((x105.Vars.length : Nat) : Int) == (0 : Int))) rfl rfl rfl) rfl rfl rfl ?_
      refine do_ rfl rfl (st_mv rfl) rfl rfl rfl ?_
      refine bool_split (((x105.Vars.length : Nat) : Int) == (0 : Int)) (fun p143 => ?_) (fun p143 => ?_)
      · replace h := ite_T p143 h
        rw [p143]
        refine dz rfl rfl ?_
        refine dz rfl rfl ?_
        refine dz rfl rfl ?_
        refine dz rfl rfl ?_
        refine dz rfl rfl ?_
        refine dz rfl rfl ?_
        refine dz rfl rfl ?_
        refine dz rfl rfl ?_
        refine dz rfl rfl ?_
        refine dz rfl rfl ?_
        refine dz rfl rfl ?_
        refine dz rfl rfl ?_
        refine dz rfl rfl ?_
        refine do_ rfl rfl (st_pickT rfl rfl) rfl rfl rfl ?_
        refine rd_nil (by kernel_rfl) ?_
        refine nx_then ?_
        exact J141 true () _ _ h (gh_frz rfl rfl ⟨⟨_, rfl, .keep rfl⟩, ⟨_, rfl, .keep rfl⟩, ⟨_, rfl, .keep rfl⟩, ⟨_, rfl, .keep rfl⟩, ⟨_, rfl, .keep rfl⟩, trivial⟩ trivial)
      · replace h := ite_F p143 h
        rw [p143]
        refine do_ rfl rfl (st_mv rfl) rfl rfl rfl ?_
        refine do_ rfl rfl (st_bin (v := dB (decide (((j104 : Nat) : Int) > (0 : Int)))) rfl rfl rfl) rfl rfl rfl ?_
        refine do_ rfl rfl (st_mv rfl) rfl rfl rfl ?_
        refine bool_split (decide (((j104 : Nat) : Int) > (0 : Int))) (fun p144 => ?_) (fun p144 => ?_)
        · replace h := ite_T p144 h
          rw [p144]
          refine do_ rfl rfl (st_mv rfl) rfl rfl rfl ?_
          refine do_ rfl rfl (st_mv rfl) rfl rfl rfl ?_
          refine do_ rfl rfl (st_bin (v := dI .i64 (IntKind.wrap .i64 (((j104 : Nat) : Int) - (1 : Int)))) rfl rfl rfl) rfl rfl rfl ?_
          obtain ⟨x145, h0145, hx145, h⟩ := getI_some h
          refine do_ rfl rfl (st_ixD sl22 rfl rfl h0145 hx145) rfl rfl rfl ?_
          refine do_ rfl rfl (st_faD fo65_0 rfl) rfl rfl rfl ?_
          refine do_ rfl rfl (st_ldD (v := dB x145.Exists) ta4 rfl rfl) rfl rfl rfl ?_
          refine do_ rfl rfl (st_faP fo65_0 rfl) rfl rfl rfl ?_
          refine do_ rfl rfl (st_ldP (v := dB x105.Exists) ta4 rfl rfl rfl rfl) rfl rfl rfl ?_
          refine do_ rfl rfl (st_binB (v := dB (x145.Exists == x105.Exists)) rfl rfl un4 rfl) rfl rfl rfl ?_
          refine do_ rfl rfl (st_pickT rfl rfl) rfl rfl rfl ?_
          refine do_ rfl rfl (st_pickF rfl rfl) rfl rfl rfl ?_
          refine rd_nil (by kernel_rfl) ?_
          refine nx_then ?_
          exact J141 (x145.Exists == x105.Exists) () _ _ h (gh_frz rfl rfl ⟨⟨_, rfl, .keep rfl⟩, ⟨_, rfl, .keep rfl⟩, ⟨_, rfl, .keep rfl⟩, ⟨_, rfl, .keep rfl⟩, ⟨_, rfl, .keep rfl⟩, trivial⟩ trivial)
        · replace h := ite_F p144 h
          rw [p144]
          refine dz rfl rfl ?_
          refine dz rfl rfl ?_
          refine dz rfl rfl ?_
          refine dz rfl rfl ?_
          refine dz rfl rfl ?_
          refine dz rfl rfl ?_
          refine dz rfl rfl ?_
          refine dz rfl rfl ?_
          refine dz rfl rfl ?_
          refine do_ rfl rfl (st_pickF rfl rfl) rfl rfl rfl ?_
          refine do_ rfl rfl (st_pickF rfl rfl) rfl rfl rfl ?_
          refine rd_nil (by kernel_rfl) ?_
          refine nx_then ?_
          exact J141 false () _ _ h (gh_frz rfl rfl ⟨⟨_, rfl, .keep rfl⟩, ⟨_, rfl, .keep rfl⟩, ⟨_, rfl, .keep rfl⟩, ⟨_, rfl, .keep rfl⟩, ⟨_, rfl, .keep rfl⟩, trivial⟩ trivial)
  · clear h
    intro s101 g102 h
    refine awp_rs ?_
    refine ro rfl rfl (st_bin (v := dB (decide (((a0.length : Nat) : Int) < ((a0.length : Nat) : Int)))) rfl rfl rfl) ?_
    refine rw_nilk ?_
    refine awp_seq ?_
    refine awp_ifF rfl dge ?_
    refine awp_exit ?_
    refine ex_out ?_
    refine ex_out ?_
    refine ex_in ?_
    refine nx_then ?_
    refine awp_rs ?_
    refine ro rfl rfl (st_mv rfl) ?_
    obtain ⟨y146, hy146, h⟩ := bind_some_elim h
    refine rf rfl rfl (ok_prefix_count hy146) rfl rfl ?_
    refine ro rfl rfl (st_mv rfl) ?_
    refine ro rfl rfl (st_ext rfl rfl) ?_
    refine ro rfl rfl (st_ext rfl rfl) ?_
    refine ro rfl rfl (st_as rfl) ?_
    refine ro rfl rfl (st_as rfl) ?_
    refine rw_nilk ?_
    refine awp_rs ?_
    refine ro rfl rfl (st_mv rfl) ?_
    refine ro rfl rfl (st_mv rfl) ?_
    refine bool_split y146.2 (fun p148 => ?_) (fun p148 => ?_)
    · replace h := ite_T p148 h
      rw [p148]
      refine ro rfl rfl (st_mv rfl) ?_
      refine ro rfl rfl (st_bin (v := dB (decide (y146.1 ≤ (1024 : Int)))) rfl rfl rfl) ?_
      refine ro rfl rfl (st_pickT rfl rfl) ?_
      refine ro rfl rfl (st_as rfl) ?_
      refine rw_nilk ?_
      refine awp_ret ?_
      injection h with h
      subst h
      exact ret_out (v := dB (decide (y146.1 ≤ (1024 : Int)))) (resV_one (resVs_tmp rfl resVs_nil)) (.keep rfl)
    · replace h := ite_F p148 h
      rw [p148]
      refine rz rfl rfl ?_
      refine rz rfl rfl ?_
      refine ro rfl rfl (st_pickF rfl rfl) ?_
      refine ro rfl rfl (st_as rfl) ?_
      refine rw_nilk ?_
      refine awp_ret ?_
      injection h with h
      subst h
      exact ret_out (v := dB false) (resV_one (resVs_tmp rfl resVs_nil)) (.keep rfl)

theorem ok_prefix_abs {a0 : Int} {r : Int} (h : F_prefix_abs a0 = some r) : Fn Try.prog 92 [dI .i64 a0] (dI .i64 r) := by
  unfold F_prefix_abs at h
  refine Fn.of_body (N := 7) (rs := [.tmp 2]) Try.func92 (c := _) rfl rfl rfl (by kernel_rfl) (Nat.le_of_ble_eq_true rfl) (fun _B => ?_)
  refine awp_rs ?_
  refine ro rfl rfl (st_as rfl) ?_
  refine rw_nilk ?_
  refine awp_rs ?_
  refine ro rfl rfl (st_mv rfl) ?_
  refine ro rfl rfl (st_mv rfl) ?_
  refine ro rfl rfl (st_un (v := dI .i64 (IntKind.wrap .i64 (0 - a0))) rfl rfl) ?_
  refine ro rfl rfl (st_max rfl rfl) ?_
  refine ro rfl rfl (st_as rfl) ?_
  refine rw_nilk ?_
  refine awp_ret ?_
  injection h with h
  subst h
  exact ret_out (v := dI .i64 (imx a0 (IntKind.wrap .i64 (0 - a0)))) (resV_one (resVs_tmp rfl resVs_nil)) (.keep rfl)

theorem ok_prefix_MayQbf {a0 : S_api_Qbf} {r : Bool} (h : F_prefix_MayQbf a0 = some r) : Fn Try.prog 66 [.agg [dL 2 e_S_api_Block a0.Prefix, dL 1 (eL 1 (eI .i64)) a0.Clauses]] (dB r) := by
  unfold F_prefix_MayQbf at h
  refine Fn.of_body (N := 15) (rs := [.tmp 2]) Try.func66 (c := _) rfl rfl rfl (by kernel_rfl) (Nat.le_of_ble_eq_true rfl) (fun _B => ?_)
  refine awp_rs ?_
  refine rn (r := 1001) rfl rfl (st_box rfl rfl rfl co25 rfl rfl) rfl ?_
  refine ro rfl rfl (st_as rfl) ?_
  refine rw_nilk ?_
  refine awp_rds hmix ?_
  refine do_ rfl rfl (st_faP fo25_0 rfl) rfl rfl rfl ?_
  refine do_ rfl rfl (st_ldP (v := dL 2 e_S_api_Block a0.Prefix) ta22 rfl rfl rfl rfl) rfl rfl rfl ?_
  obtain ⟨y2140, hy2140, h⟩ := bind_some_elim h
  refine df rfl rfl (ok_prefix_May hy2140) rfl rfl ?_
  refine do_ rfl rfl (st_mv rfl) rfl rfl rfl ?_
  refine bool_split y2140 (fun p2141 => ?_) (fun p2141 => ?_)
  · replace h := ite_T p2141 h
    rw [p2141]
    refine do_ rfl rfl (st_faP fo25_1 rfl) rfl rfl rfl ?_
    refine do_ rfl rfl (st_ldP (v := dL 1 (eL 1 (eI .i64)) a0.Clauses) ta23 rfl rfl rfl rfl) rfl rfl rfl ?_
    refine do_ rfl rfl (st_faP fo25_0 rfl) rfl rfl rfl ?_
    refine do_ rfl rfl (st_ldP (v := dL 2 e_S_api_Block a0.Prefix) ta22 rfl rfl rfl rfl) rfl rfl rfl ?_
    obtain ⟨y2544, hy2544, h⟩ := bind_some_elim h
    refine dcall (v := .map 1003) (L0 := ([] : LH)) (L1 := [(1003, mapO .i64 (fun (b : S_prefix_place) => .agg [dI .i64 b.block, dB b.f_exists]) y2544)]) (L' := [(1001, .row 0 25 [[dL 2 e_S_api_Block a0.Prefix, dL 1 (eL 1 (eI .i64)) a0.Clauses]]), (1003, mapO .i64 (fun (b : S_prefix_place) => .agg [dI .i64 b.block, dB b.f_exists]) y2544)]) rfl rfl rfl rfl ?_ trivial rfl trivial rfl rfl ?_
    · replace h := hy2544
      refine Ev.of_bodyX (N := 31) (rs := [.tmp 2]) Try.func89 (c := _) rfl rfl rfl (by kernel_rfl) rfl (Nat.le_of_ble_eq_true rfl) (fun _B => ?_)
      refine awp_rs ?_
      refine rn (r := 1002) rfl rfl (st_box rfl rfl rfl co22 rfl rfl) rfl ?_
      refine ro rfl rfl (st_as rfl) ?_
      refine rw_nilk ?_
      refine awp_rs ?_
      refine rn (r := 1003) (L' := [(1002, .row 0 22 [[dL 2 e_S_api_Block a0.Prefix]]), (1003, mapO .i64 (fun (b : S_prefix_place) => .agg [dI .i64 b.block, dB b.f_exists]) ([] : List (Int × S_prefix_place)))]) rfl rfl (st_mkM rfl) rfl ?_
      refine rn (r := 1004) rfl rfl (st_alloc zc129 rfl rfl) rfl ?_
      refine rx (L' := [(1002, .row 0 22 [[dL 2 e_S_api_Block a0.Prefix]]), (1003, mapO .i64 (fun (b : S_prefix_place) => .agg [dI .i64 b.block, dB b.f_exists]) ([] : List (Int × S_prefix_place))), (1004, .row 0 129 [[.map 1003]])]) rfl rfl (st_stP ta129 rfl rfl rfl rfl rfl rfl rfl rfl) rfl ?_
      refine rw_nilk ?_
      refine awp_seq ?_
      refine awp_rs ?_
      refine ro rfl rfl (st_ldP (v := dL 2 e_S_api_Block a0.Prefix) ta22 rfl rfl rfl rfl) ?_
      refine ri (N := 4) (rs := [.tmp 2]) rfl rfl rfl rfl Try.func100 rfl rfl rfl (by kernel_rfl) rfl (fun _B => ?_)
      refine awp_rs ?_
      refine rn (r := 1005) rfl rfl (st_box rfl rfl rfl co22 rfl rfl) rfl ?_
      refine ro rfl rfl (st_as rfl) ?_
      refine rw_nilk ?_
      refine awp_rs ?_
      refine ro rfl rfl (st_fn rfl rfl) ?_
      refine ro rfl rfl (st_as rfl) ?_
      refine rw_nilk ?_
      refine awp_ret ?_
      refine ret_in (v := .fn 112 [] [.ptr 1005 0 0 0]) (resV_one (resVs_tmp rfl resVs_nil)) ?_
      show RW _ _ _ _ _ _ _
      refine rw_nilk ?_
      refine awp_block ?_
      refine awp_rangeFuncR 1006 [(1, .ptr 1002 0 0 0), (3, .ptr 1004 0 0 0)] rfl rfl rfl ⟨rfl, rfl, trivial⟩ Try.func112 rfl rfl (N' := 28) rfl (by kernel_rfl) rfl (fun O2746 hO2746 _B => ?_)
      refine awp_rs ?_
      refine ro rfl rfl (st_ldP (v := dL 2 e_S_api_Block a0.Prefix) ta22 rfl rfl rfl rfl) ?_
      refine ro rfl rfl (st_lenD rfl un22) ?_
      refine ro rfl rfl (st_mv rfl) ?_
      refine rw_nilk ?_
      refine awp_block ?_
      refine awp_len (t := 7) rfl (fun hl2750 => ?_)
      rw [List.length_map] at hl2750
      refine awp_range (fun (j2750 : Nat) (s2747 : (List (Int × S_prefix_place))) (g2748 : Unit) => [(0, .yld 1006), (7, dL 2 e_S_api_Block a0.Prefix), (8, dI .i64 ((a0.Prefix.length : Nat) : Int)), (9, dI .i64 ((j2750 : Nat) : Int))]) (fun (s2747 : (List (Int × S_prefix_place))) (g2748 : Unit) => [(1002, .row 0 22 [[dL 2 e_S_api_Block a0.Prefix]]), (1003, mapO .i64 (fun (b : S_prefix_place) => .agg [dI .i64 b.block, dB b.f_exists]) s2747), (1004, .row 0 129 [[.map 1003]]), (1005, .row 0 22 [[dL 2 e_S_api_Block a0.Prefix]]), (1006, O2746 .ready none)]) () (fun _ _ _ h => h) h (gh_frz rfl rfl ⟨⟨_, rfl, .keep rfl⟩, ⟨_, rfl, .keep rfl⟩, ⟨_, rfl, .keep rfl⟩, ⟨_, rfl, .keep rfl⟩, trivial⟩ ⟨⟨_, rfl, objOne ⟨⟨rfl, .keep rfl⟩, trivial⟩⟩, ⟨_, rfl, objMap (fun _ => rfl) _⟩, ⟨_, rfl, objOne ⟨⟨rfl, .keep rfl⟩, trivial⟩⟩, ⟨_, rfl, objOne ⟨⟨rfl, .keep rfl⟩, trivial⟩⟩, ⟨_, rfl, objLoop (hO2746 _ _) rfl⟩, trivial⟩) ?_ ?_
      · clear h
        intro j2750 x2751 s2747 g2748 k2749 hj2750 hx2750 h ih2749
        refine awp_rs ?_
        refine ro rfl rfl (st_bin (v := dB (decide (((j2750 : Nat) : Int) < ((a0.Prefix.length : Nat) : Int)))) rfl rfl rfl) ?_
        refine rw_nilk ?_
        refine awp_seq ?_
        refine awp_ifT rfl (dlt hj2750) ?_
        refine awp_skip ?_
        refine nx_then ?_
        refine awp_seq ?_
        refine awp_block ?_
        refine awp_rs ?_
        refine ro rfl rfl (st_mv rfl) ?_
        refine ro rfl rfl (st_ixDn sl22 rfl rfl hx2750) ?_
        refine ro rfl rfl (st_ldD (v := .agg [dB x2751.Exists, dL 1 (eI .i64) x2751.Vars]) ta65 rfl rfl) ?_
        refine rn (r := 1007) rfl rfl (st_alloc zc65 rfl rfl) rfl ?_
        refine ro rfl rfl (st_as rfl) ?_
        refine rx (L' := [(1002, .row 0 22 [[dL 2 e_S_api_Block a0.Prefix]]), (1003, mapO .i64 (fun (b : S_prefix_place) => .agg [dI .i64 b.block, dB b.f_exists]) s2747), (1004, .row 0 129 [[.map 1003]]), (1005, .row 0 22 [[dL 2 e_S_api_Block a0.Prefix]]), (1006, O2746 .ready none), (1007, .row 0 65 [[dB x2751.Exists, dL 1 (eI .i64) x2751.Vars]])]) rfl rfl (st_stP ta65 rfl rfl rfl rfl rfl rfl rfl rfl) rfl ?_
        refine rw_nilk ?_
        refine awp_rs ?_
        refine ro rfl rfl (st_faP fo65_1 rfl) ?_
        refine ro rfl rfl (st_ldP (v := dL 1 (eI .i64) x2751.Vars) ta34 rfl rfl rfl rfl) ?_
        refine ro rfl rfl (st_lenD rfl un34) ?_
        refine ro rfl rfl (st_mv rfl) ?_
        refine rw_nilk ?_
        refine awp_block ?_
        refine awp_len (t := 15) rfl (fun hl2885 => ?_)
        rw [List.length_map] at hl2885
        refine awp_range (fun (j2885 : Nat) (s2882 : (List (Int × S_prefix_place))) (g2883 : Unit) => [(0, .yld 1006), (3, dI .i64 ((j2750 : Nat) : Int)), (7, dL 2 e_S_api_Block a0.Prefix), (8, dI .i64 ((a0.Prefix.length : Nat) : Int)), (9, dI .i64 ((j2750 : Nat) : Int)), (15, dL 1 (eI .i64) x2751.Vars), (16, dI .i64 ((x2751.Vars.length : Nat) : Int)), (17, dI .i64 ((j2885 : Nat) : Int))]) (fun (s2882 : (List (Int × S_prefix_place))) (g2883 : Unit) => [(1002, .row 0 22 [[dL 2 e_S_api_Block a0.Prefix]]), (1003, mapO .i64 (fun (b : S_prefix_place) => .agg [dI .i64 b.block, dB b.f_exists]) s2882), (1004, .row 0 129 [[.map 1003]]), (1005, .row 0 22 [[dL 2 e_S_api_Block a0.Prefix]]), (1006, O2746 .ready none)]) () (fun _ _ _ h => h) h (gh_frz rfl rfl ⟨⟨_, rfl, .keep rfl⟩, ⟨_, rfl, .keep rfl⟩, ⟨_, rfl, .keep rfl⟩, ⟨_, rfl, .keep rfl⟩, ⟨_, rfl, .keep rfl⟩, ⟨_, rfl, .keep rfl⟩, ⟨_, rfl, .keep rfl⟩, ⟨_, rfl, .keep rfl⟩, trivial⟩ ⟨⟨_, rfl, objOne ⟨⟨rfl, .keep rfl⟩, trivial⟩⟩, ⟨_, rfl, objMap (fun _ => rfl) _⟩, ⟨_, rfl, objOne ⟨⟨rfl, .keep rfl⟩, trivial⟩⟩, ⟨_, rfl, objOne ⟨⟨rfl, .keep rfl⟩, trivial⟩⟩, ⟨_, rfl, objLoop (hO2746 _ _) rfl⟩, trivial⟩) ?_ ?_
        · clear h
          intro j2885 x2886 s2882 g2883 k2884 hj2885 hx2885 h ih2884
          refine awp_rs ?_
          refine ro rfl rfl (st_bin (v := dB (decide (((j2885 : Nat) : Int) < ((x2751.Vars.length : Nat) : Int)))) rfl rfl rfl) ?_
          refine rw_nilk ?_
          refine awp_seq ?_
          refine awp_ifT rfl (dlt hj2885) ?_
          refine awp_skip ?_
          refine nx_then ?_
          refine awp_seq ?_
          refine awp_block ?_
          refine awp_rs ?_
          refine ro rfl rfl (st_ixDn sl34 rfl rfl hx2885) ?_
          refine ro rfl rfl (st_ldD (v := dI .i64 x2886) ta3 rfl rfl) ?_
          refine ro rfl rfl (st_as rfl) ?_
          refine rw_nilk ?_
          refine awp_rs ?_
          refine ro rfl rfl (st_mv rfl) ?_
          refine ro rfl rfl (st_mv rfl) ?_
          refine ro rfl rfl (st_mv rfl) ?_
          refine rw_jn (fun (s2943 : (List (Int × S_prefix_place))) (g2944 : Unit) => [(0, .yld 1006), (3, dI .i64 ((j2750 : Nat) : Int)), (7, dL 2 e_S_api_Block a0.Prefix), (8, dI .i64 ((a0.Prefix.length : Nat) : Int)), (9, dI .i64 ((j2750 : Nat) : Int)), (15, dL 1 (eI .i64) x2751.Vars), (16, dI .i64 ((x2751.Vars.length : Nat) : Int)), (17, dI .i64 ((j2885 : Nat) : Int)), (24, dB true)]) (fun (s2943 : (List (Int × S_prefix_place))) (g2944 : Unit) => [(1002, .row 0 22 [[dL 2 e_S_api_Block a0.Prefix]]), (1003, mapO .i64 (fun (b : S_prefix_place) => .agg [dI .i64 b.block, dB b.f_exists]) s2943), (1004, .row 0 129 [[.map 1003]]), (1005, .row 0 22 [[dL 2 e_S_api_Block a0.Prefix]]), (1006, O2746 .ready none)]) h ?_ ?_
          · clear h
            intro s2943 g2944 h
            refine ro rfl rfl (st_un (v := dB false) rfl rfl) ?_
            refine rw_nilk ?_
            refine awp_condF rfl ?_
            refine awp_skip ?_
            refine nx_block ?_
            refine nx_then ?_
            refine awp_rw ?_
            refine ro rfl rfl (st_inc rfl rfl hj2885 hl2885) ?_
            refine ro rfl rfl (st_mv rfl) ?_
            refine rw_nil ?_
            refine nx_then ?_
            refine awp_gh ?_ (ih2884 s2943 () h)
            exact (gh_frz rfl rfl ⟨⟨_, rfl, .keep rfl⟩, ⟨_, rfl, .keep rfl⟩, ⟨_, rfl, .keep rfl⟩, ⟨_, rfl, .keep rfl⟩, ⟨_, rfl, .keep rfl⟩, ⟨_, rfl, .keep rfl⟩, ⟨_, rfl, .keep rfl⟩, ⟨_, rfl, .keep rfl⟩, trivial⟩ ⟨⟨_, rfl, objOne ⟨⟨rfl, .keep rfl⟩, trivial⟩⟩, ⟨_, rfl, objMap (fun _ => rfl) _⟩, ⟨_, rfl, objOne ⟨⟨rfl, .keep rfl⟩, trivial⟩⟩, ⟨_, rfl, objOne ⟨⟨rfl, .keep rfl⟩, trivial⟩⟩, ⟨_, rfl, objLoop (hO2746 _ _) rfl⟩, trivial⟩)
          · clear h
            intro k2945 h J2945
            refine rw_yld (N := 31) rfl rfl rfl rfl hO2746 rfl rfl rfl (fun _B _F _hF => ?_)
            refine awp_rs ?_
            refine ro rfl rfl (st_as rfl) ?_
            refine rw_nilk ?_
            refine awp_rw ?_
            refine ro rfl rfl (st_as rfl) ?_
            refine rw_nil ?_
            refine as_n rfl ?_
            refine awp_block ?_
            refine awp_rs ?_
            refine ro rfl rfl (st_ldP (v := .map 1003) ta129 rfl rfl rfl rfl) ?_
            refine ro rfl rfl (st_mv rfl) ?_
            refine ro rfl rfl (st_lookOk (vf := (fun (b : S_prefix_place) => .agg [dI .i64 b.block, dB b.f_exists])) (z := (S_prefix_place.mk (0 : Int) false)) (xs := s2882) un129 un3 za128 rfl rfl rfl) ?_
            refine ro rfl rfl (st_mv rfl) ?_
            refine ro rfl rfl (st_ext rfl rfl) ?_
            refine ro rfl rfl (st_ext rfl rfl) ?_
            refine rn (r := 1008) rfl rfl (st_alloc zc128 rfl rfl) rfl ?_
            refine rx (L' := [(1002, .row 0 22 [[dL 2 e_S_api_Block a0.Prefix]]), (1003, mapO .i64 (fun (b : S_prefix_place) => .agg [dI .i64 b.block, dB b.f_exists]) s2882), (1004, .row 0 129 [[.map 1003]]), (1005, .row 0 22 [[dL 2 e_S_api_Block a0.Prefix]]), (1006, O2746 .busy none), (1008, .row 0 128 [[dI .i64 (((mget s2882 x2886).getD (S_prefix_place.mk (0 : Int) false)).block), dB (((mget s2882 x2886).getD (S_prefix_place.mk (0 : Int) false)).f_exists)]])]) rfl rfl (st_stP ta128 rfl rfl rfl rfl rfl rfl rfl rfl) rfl ?_
            refine ro rfl rfl (st_as rfl) ?_
            refine rw_nilk ?_
            refine awp_rs ?_
            refine ro rfl rfl (st_mv rfl) ?_
            refine ro rfl rfl (st_un (v := dB (!(mget s2882 x2886).isSome)) rfl rfl) ?_
            refine rw_nilk ?_
            refine awp_ite (b := (!(mget s2882 x2886).isSome)) rfl (fun p2946 => ?_) (fun p2946 => ?_)
            · replace h := ite_T p2946 h
              refine awp_rd hmix ?_
              refine do_ rfl rfl (st_ldP (v := .map 1003) ta129 rfl rfl rfl rfl) rfl rfl rfl ?_
              refine do_ rfl rfl (st_mv rfl) rfl rfl rfl ?_
              refine do_ rfl rfl (st_mv rfl) rfl rfl rfl ?_
              refine do_ rfl rfl (st_ldP (v := dL 2 e_S_api_Block a0.Prefix) ta22 rfl rfl rfl rfl) rfl rfl rfl ?_
              refine do_ rfl rfl (st_mv rfl) rfl rfl rfl ?_
              refine do_ rfl rfl (st_ixDn sl22 rfl rfl hx2750) rfl rfl rfl ?_
              refine do_ rfl rfl (st_faD fo65_0 rfl) rfl rfl rfl ?_
              refine do_ rfl rfl (st_ldD (v := dB x2751.Exists) ta4 rfl rfl) rfl rfl rfl ?_
              refine do_ rfl rfl (st_build (vs := [dI .i64 ((j2750 : Nat) : Int), dB x2751.Exists]) bl128 rfl rfl) rfl rfl rfl ?_
              refine dx (L' := [(1002, .row 0 22 [[dL 2 e_S_api_Block a0.Prefix]]), (1003, mapO .i64 (fun (b : S_prefix_place) => .agg [dI .i64 b.block, dB b.f_exists]) (mset s2882 x2886 (S_prefix_place.mk ((j2750 : Nat) : Int) x2751.Exists))), (1004, .row 0 129 [[.map 1003]]), (1005, .row 0 22 [[dL 2 e_S_api_Block a0.Prefix]]), (1006, O2746 .busy none), (1008, .row 0 128 [[dI .i64 (((mget s2882 x2886).getD (S_prefix_place.mk (0 : Int) false)).block), dB (((mget s2882 x2886).getD (S_prefix_place.mk (0 : Int) false)).f_exists)]])]) rfl rfl (st_mapUp (vf := (fun (b : S_prefix_place) => .agg [dI .i64 b.block, dB b.f_exists])) (b := (S_prefix_place.mk ((j2750 : Nat) : Int) x2751.Exists)) (xs := s2882) un129 un3 rfl rfl rfl rfl) rfl rfl rfl rfl ?_
              refine rd_nil (by kernel_rfl) ?_
              refine nx_block ?_
              refine rk_n rfl ?_
              exact J2945 (mset s2882 x2886 (S_prefix_place.mk ((j2750 : Nat) : Int) x2751.Exists)) () _ _ h (gh_frz rfl rfl ⟨⟨_, rfl, .keep rfl⟩, ⟨_, rfl, .keep rfl⟩, ⟨_, rfl, .keep rfl⟩, ⟨_, rfl, .keep rfl⟩, ⟨_, rfl, .keep rfl⟩, ⟨_, rfl, .keep rfl⟩, ⟨_, rfl, .keep rfl⟩, ⟨_, rfl, .keep rfl⟩, ⟨_, rfl, .keep rfl⟩, trivial⟩ ⟨⟨_, rfl, objOne ⟨⟨rfl, .keep rfl⟩, trivial⟩⟩, ⟨_, rfl, objMap (fun _ => rfl) _⟩, ⟨_, rfl, objOne ⟨⟨rfl, .keep rfl⟩, trivial⟩⟩, ⟨_, rfl, objOne ⟨⟨rfl, .keep rfl⟩, trivial⟩⟩, ⟨_, rfl, objLoop (hO2746 _ _) rfl⟩, trivial⟩)
            · replace h := ite_F p2946 h
              refine awp_skip ?_
              refine nx_block ?_
              refine rk_n rfl ?_
              exact J2945 s2882 () _ _ h (gh_frz rfl rfl ⟨⟨_, rfl, .keep rfl⟩, ⟨_, rfl, .keep rfl⟩, ⟨_, rfl, .keep rfl⟩, ⟨_, rfl, .keep rfl⟩, ⟨_, rfl, .keep rfl⟩, ⟨_, rfl, .keep rfl⟩, ⟨_, rfl, .keep rfl⟩, ⟨_, rfl, .keep rfl⟩, ⟨_, rfl, .keep rfl⟩, trivial⟩ ⟨⟨_, rfl, objOne ⟨⟨rfl, .keep rfl⟩, trivial⟩⟩, ⟨_, rfl, objMap (fun _ => rfl) _⟩, ⟨_, rfl, objOne ⟨⟨rfl, .keep rfl⟩, trivial⟩⟩, ⟨_, rfl, objOne ⟨⟨rfl, .keep rfl⟩, trivial⟩⟩, ⟨_, rfl, objLoop (hO2746 _ _) rfl⟩, trivial⟩)
        · clear h
          intro s2882 g2883 h
          refine awp_rs ?_
          refine ro rfl rfl (st_bin (v := dB (decide (((x2751.Vars.length : Nat) : Int) < ((x2751.Vars.length : Nat) : Int)))) rfl rfl rfl) ?_
          refine rw_nilk ?_
          refine awp_seq ?_
          refine awp_ifF rfl dge ?_
          refine awp_exit ?_
          refine ex_out ?_
          refine ex_out ?_
          refine ex_in ?_
          refine nx_block ?_
          refine nx_then ?_
          refine awp_rw ?_
          refine ro rfl rfl (st_inc rfl rfl hj2750 hl2750) ?_
          refine ro rfl rfl (st_mv rfl) ?_
          refine rw_nil ?_
          refine nx_then ?_
          refine awp_gh ?_ (ih2749 s2882 () h)
          exact (gh_frz rfl rfl ⟨⟨_, rfl, .keep rfl⟩, ⟨_, rfl, .keep rfl⟩, ⟨_, rfl, .keep rfl⟩, ⟨_, rfl, .keep rfl⟩, trivial⟩ ⟨⟨_, rfl, objOne ⟨⟨rfl, .keep rfl⟩, trivial⟩⟩, ⟨_, rfl, objMap (fun _ => rfl) _⟩, ⟨_, rfl, objOne ⟨⟨rfl, .keep rfl⟩, trivial⟩⟩, ⟨_, rfl, objOne ⟨⟨rfl, .keep rfl⟩, trivial⟩⟩, ⟨_, rfl, objLoop (hO2746 _ _) rfl⟩, trivial⟩)
      · clear h
        intro s2747 g2748 h
        refine awp_rs ?_
        refine ro rfl rfl (st_bin (v := dB (decide (((a0.Prefix.length : Nat) : Int) < ((a0.Prefix.length : Nat) : Int)))) rfl rfl rfl) ?_
        refine rw_nilk ?_
        refine awp_seq ?_
        refine awp_ifF rfl dge ?_
        refine awp_exit ?_
        refine ex_out ?_
        refine ex_out ?_
        refine ex_in ?_
        refine ret_inN (v := .tup []) (resV_none resVs_nil) ?_
        refine ⟨_, _, _, rfl, rfl, (by intro h; cases h), ?_⟩
        refine bh_0 ?_
        refine nx_block ?_
        refine nx_then ?_
        refine awp_rs ?_
        refine ro rfl rfl (st_ldP (v := .map 1003) ta129 rfl rfl rfl rfl) ?_
        refine ro rfl rfl (st_as rfl) ?_
        refine rw_nilk ?_
        refine awp_ret ?_
        injection h with h
        subst h
        exact retX (v := .map 1003) (resV_one (resVs_tmp rfl resVs_nil)) (.keep rfl) ⟨⟨_, rfl, objMap (fun _ => rfl) _⟩, trivial⟩
    · obtain ⟨y2947, hy2947, h⟩ := bind_some_elim h
      refine dcall (v := .fn 99 [] [.ptr 1009 0 0 0]) (L0 := [(1003, mapO .i64 (fun (b : S_prefix_place) => .agg [dI .i64 b.block, dB b.f_exists]) y2544)]) (L1 := [(1009, .row 0 129 [[.map 1003]]), (1003, mapO .i64 (fun (b : S_prefix_place) => .agg [dI .i64 b.block, dB b.f_exists]) y2544)]) (L' := [(1001, .row 0 25 [[dL 2 e_S_api_Block a0.Prefix, dL 1 (eL 1 (eI .i64)) a0.Clauses]]), (1003, mapO .i64 (fun (b : S_prefix_place) => .agg [dI .i64 b.block, dB b.f_exists]) y2544), (1009, .row 0 129 [[.map 1003]])]) rfl rfl rfl rfl ?_ ⟨rfl, trivial⟩ rfl ⟨closM (fun _ => rfl), trivial⟩ rfl rfl ?_
      · replace h := hy2947
        refine Ev.of_bodyX (N := 4) (rs := [.tmp 2]) Try.func88 (c := _) rfl rfl rfl (by kernel_rfl) rfl (Nat.le_of_ble_eq_true rfl) (fun _B => ?_)
        refine awp_rs ?_
        refine rn (r := 1009) rfl rfl (st_box rfl rfl rfl co129 rfl rfl) rfl ?_
        refine ro rfl rfl (st_as rfl) ?_
        refine rw_nilk ?_
        refine awp_rs ?_
        refine ro rfl rfl (st_fn rfl rfl) ?_
        refine ro rfl rfl (st_as rfl) ?_
        refine rw_nilk ?_
        refine awp_ret ?_
        injection h with h
        subst h
        exact retX (v := .fn 99 [] [.ptr 1009 0 0 0]) (resV_one (resVs_tmp rfl resVs_nil)) (.keep rfl) ⟨⟨_, rfl, objOne ⟨⟨rfl, .keep rfl⟩, trivial⟩⟩, ⟨_, rfl, objMap (fun _ => rfl) _⟩, trivial⟩
      · obtain ⟨y3563, hy3563, h⟩ := bind_some_elim h
        refine dcall (v := dB y3563) (L0 := [(1003, mapO .i64 (fun (b : S_prefix_place) => .agg [dI .i64 b.block, dB b.f_exists]) y2544), (1009, .row 0 129 [[.map 1003]])]) (L1 := [(1009, .row 0 129 [[.map 1003]]), (1003, mapO .i64 (fun (b : S_prefix_place) => .agg [dI .i64 b.block, dB b.f_exists]) y2544)]) (L' := [(1001, .row 0 25 [[dL 2 e_S_api_Block a0.Prefix, dL 1 (eL 1 (eI .i64)) a0.Clauses]]), (1003, mapO .i64 (fun (b : S_prefix_place) => .agg [dI .i64 b.block, dB b.f_exists]) y2544), (1009, .row 0 129 [[.map 1003]])]) rfl rfl rfl rfl ?_ ⟨rfl, rfl, trivial⟩ rfl ⟨closM (fun _ => rfl), rfl, trivial⟩ rfl rfl ?_
        · replace h := hy3563
          refine Ev.of_bodyX (N := 59) (rs := [.tmp 4]) Try.func73 (c := _) rfl rfl rfl (by kernel_rfl) rfl (Nat.le_of_ble_eq_true rfl) (fun _B => ?_)
          refine awp_rs ?_
          refine ro rfl rfl (st_as rfl) ?_
          refine rw_nilk ?_
          refine awp_seq ?_
          refine awp_rs ?_
          refine ro rfl rfl (st_mv rfl) ?_
          refine ro rfl rfl (st_lenD rfl un23) ?_
          refine ro rfl rfl (st_bin (v := dB (decide (((a0.Clauses.length : Nat) : Int) > (20000 : Int)))) rfl rfl rfl) ?_
          refine rw_nilk ?_
          refine awp_ite (b := (decide (((a0.Clauses.length : Nat) : Int) > (20000 : Int)))) rfl (fun p3564 => ?_) (fun p3564 => ?_)
          · replace h := ite_T p3564 h
            refine awp_rs ?_
            refine ro rfl rfl (st_as rfl) ?_
            refine rw_nilk ?_
            refine awp_ret ?_
            refine rt_then ?_
            injection h with h
            subst h
            exact retX (v := dB false) (resV_one (resVs_tmp rfl resVs_nil)) (.keep rfl) ⟨⟨_, rfl, objOne ⟨⟨rfl, .keep rfl⟩, trivial⟩⟩, ⟨_, rfl, objMap (fun _ => rfl) _⟩, trivial⟩
          · replace h := ite_F p3564 h
            refine awp_skip ?_
            refine nx_then ?_
            refine awp_rs ?_
            refine ro rfl rfl (st_as rfl) ?_
            refine rw_nilk ?_
            refine awp_seq ?_
            refine awp_rs ?_
            refine ro rfl rfl (st_mv rfl) ?_
            refine ro rfl rfl (st_lenD rfl un23) ?_
            refine ro rfl rfl (st_mv rfl) ?_
            refine rw_nilk ?_
            refine awp_block ?_
            refine awp_len (t := 0) rfl (fun hl3568 => ?_)
            rw [List.length_map] at hl3568
            refine awp_range (fun (j3568 : Nat) (s3565 : Int) (g3566 : Unit) => [(1, .fn 99 [] [.ptr 1009 0 0 0]), (5, dI .i64 s3565), (14, dL 1 (eL 1 (eI .i64)) a0.Clauses), (15, dI .i64 ((a0.Clauses.length : Nat) : Int)), (16, dI .i64 ((j3568 : Nat) : Int))]) (fun (s3565 : Int) (g3566 : Unit) => [(1003, mapO .i64 (fun (b : S_prefix_place) => .agg [dI .i64 b.block, dB b.f_exists]) y2544), (1009, .row 0 129 [[.map 1003]])]) () (fun _ _ _ h => h) h (gh_frz rfl rfl ⟨⟨_, rfl, .keep rfl⟩, ⟨_, rfl, .keep rfl⟩, ⟨_, rfl, .keep rfl⟩, ⟨_, rfl, .keep rfl⟩, ⟨_, rfl, .keep rfl⟩, trivial⟩ ⟨⟨_, rfl, objMap (fun _ => rfl) _⟩, ⟨_, rfl, objOne ⟨⟨rfl, .keep rfl⟩, trivial⟩⟩, trivial⟩) ?_ ?_
            · clear h
              intro j3568 x3569 s3565 g3566 k3567 hj3568 hx3568 h ih3567
              refine awp_rs ?_
              refine ro rfl rfl (st_bin (v := dB (decide (((j3568 : Nat) : Int) < ((a0.Clauses.length : Nat) : Int)))) rfl rfl rfl) ?_
              refine rw_nilk ?_
              refine awp_seq ?_
              refine awp_ifT rfl (dlt hj3568) ?_
              refine awp_skip ?_
              refine nx_then ?_
              refine awp_seq ?_
              refine awp_block ?_
              refine awp_rs ?_
              refine ro rfl rfl (st_ixDn sl23 rfl rfl hx3568) ?_
              refine ro rfl rfl (st_ldD (v := dL 1 (eI .i64) x3569) ta34 rfl rfl) ?_
              refine ro rfl rfl (st_as rfl) ?_
              refine rw_nilk ?_
              refine awp_rs ?_
              refine ro rfl rfl (st_as rfl) ?_
              refine rw_nilk ?_
              refine awp_seq ?_
              refine awp_rs ?_
              refine ro rfl rfl (st_mv rfl) ?_
              refine ro rfl rfl (st_lenD rfl un34) ?_
              refine ro rfl rfl (st_mv rfl) ?_
              refine rw_nilk ?_
              refine awp_block ?_
              refine awp_len (t := 7) rfl (fun hl3979 => ?_)
              rw [List.length_map] at hl3979
              refine awp_range (fun (j3979 : Nat) (s3976 : Int) (g3977 : Unit) => [(1, .fn 99 [] [.ptr 1009 0 0 0]), (5, dI .i64 s3565), (7, dL 1 (eI .i64) x3569), (8, dI .i64 s3976), (14, dL 1 (eL 1 (eI .i64)) a0.Clauses), (15, dI .i64 ((a0.Clauses.length : Nat) : Int)), (16, dI .i64 ((j3568 : Nat) : Int)), (20, dL 1 (eI .i64) x3569), (21, dI .i64 ((x3569.length : Nat) : Int)), (22, dI .i64 ((j3979 : Nat) : Int))]) (fun (s3976 : Int) (g3977 : Unit) => [(1003, mapO .i64 (fun (b : S_prefix_place) => .agg [dI .i64 b.block, dB b.f_exists]) y2544), (1009, .row 0 129 [[.map 1003]])]) () (fun _ _ _ h => h) h (gh_frz rfl rfl ⟨⟨_, rfl, .keep rfl⟩, ⟨_, rfl, .keep rfl⟩, ⟨_, rfl, .keep rfl⟩, ⟨_, rfl, .keep rfl⟩, ⟨_, rfl, .keep rfl⟩, ⟨_, rfl, .keep rfl⟩, ⟨_, rfl, .keep rfl⟩, ⟨_, rfl, .keep rfl⟩, ⟨_, rfl, .keep rfl⟩, ⟨_, rfl, .keep rfl⟩, trivial⟩ ⟨⟨_, rfl, objMap (fun _ => rfl) _⟩, ⟨_, rfl, objOne ⟨⟨rfl, .keep rfl⟩, trivial⟩⟩, trivial⟩) ?_ ?_
              · clear h
                intro j3979 x3980 s3976 g3977 k3978 hj3979 hx3979 h ih3978
                refine awp_rs ?_
                refine ro rfl rfl (st_bin (v := dB (decide (((j3979 : Nat) : Int) < ((x3569.length : Nat) : Int)))) rfl rfl rfl) ?_
                refine rw_nilk ?_
                refine awp_seq ?_
                refine awp_ifT rfl (dlt hj3979) ?_
                refine awp_skip ?_
                refine nx_then ?_
                refine awp_seq ?_
                refine awp_block ?_
                refine awp_rs ?_
                refine ro rfl rfl (st_ixDn sl34 rfl rfl hx3979) ?_
                refine ro rfl rfl (st_ldD (v := dI .i64 x3980) ta3 rfl rfl) ?_
                refine ro rfl rfl (st_as rfl) ?_
                refine rw_nilk ?_
                refine awp_seq ?_
                refine awp_jn (fun (s4168 : Bool) (g4169 : Unit) => [(1, .fn 99 [] [.ptr 1009 0 0 0]), (5, dI .i64 s3565), (7, dL 1 (eI .i64) x3569), (10, dI .i64 x3980), (14, dL 1 (eL 1 (eI .i64)) a0.Clauses), (15, dI .i64 ((a0.Clauses.length : Nat) : Int)), (16, dI .i64 ((j3568 : Nat) : Int)), (20, dL 1 (eI .i64) x3569), (21, dI .i64 ((x3569.length : Nat) : Int)), (22, dI .i64 ((j3979 : Nat) : Int)), (48, dB s4168)]) (fun (s4168 : Bool) (g4169 : Unit) => [(1003, mapO .i64 (fun (b : S_prefix_place) => .agg [dI .i64 b.block, dB b.f_exists]) y2544), (1009, .row 0 129 [[.map 1003]])]) h ?_ ?_
                · clear h
                  intro s4168 g4169 h
                  refine awp_ite (b := s4168) rfl (fun p4171 => ?_) (fun p4171 => ?_)
                  · replace h := ite_T p4171 h
                    refine awp_rs ?_
                    refine ro rfl rfl (st_as rfl) ?_
                    refine rw_nilk ?_
                    refine awp_ret ?_
                    refine rt_then ?_
                    refine rt_block ?_
                    refine rt_then ?_
                    refine rt_then ?_
                    refine rt_block ?_
                    refine rt_then ?_
                    refine rt_block ?_
                    refine rt_then ?_
                    refine rt_then ?_
                    refine rt_block ?_
                    refine rt_then ?_
                    injection h with h
                    subst h
                    exact retX (v := dB false) (resV_one (resVs_tmp rfl resVs_nil)) (.keep rfl) ⟨⟨_, rfl, objOne ⟨⟨rfl, .keep rfl⟩, trivial⟩⟩, ⟨_, rfl, objMap (fun _ => rfl) _⟩, trivial⟩
                  · replace h := ite_F p4171 h
                    refine awp_skip ?_
                    refine nx_then ?_
                    refine awp_rw ?_
                    refine ro rfl rfl (st_mv rfl) ?_
                    obtain ⟨y4172, hy4172, h⟩ := bind_some_elim h
                    refine rf rfl rfl (ok_prefix_abs hy4172) rfl rfl ?_
                    refine ro rfl rfl (st_as rfl) ?_
                    refine rw_nil ?_
                    refine nx_block ?_
                    refine nx_then ?_
                    refine awp_rw ?_
                    refine ro rfl rfl (st_inc rfl rfl hj3979 hl3979) ?_
                    refine ro rfl rfl (st_mv rfl) ?_
                    refine rw_nil ?_
                    refine nx_then ?_
                    refine awp_gh ?_ (ih3978 y4172 () h)
                    exact (gh_frz rfl rfl ⟨⟨_, rfl, .keep rfl⟩, ⟨_, rfl, .keep rfl⟩, ⟨_, rfl, .keep rfl⟩, ⟨_, rfl, .keep rfl⟩, ⟨_, rfl, .keep rfl⟩, ⟨_, rfl, .keep rfl⟩, ⟨_, rfl, .keep rfl⟩, ⟨_, rfl, .keep rfl⟩, ⟨_, rfl, .keep rfl⟩, ⟨_, rfl, .keep rfl⟩, trivial⟩ ⟨⟨_, rfl, objMap (fun _ => rfl) _⟩, ⟨_, rfl, objOne ⟨⟨rfl, .keep rfl⟩, trivial⟩⟩, trivial⟩)
                · clear h
                  intro k4170 h J4170
                  refine awp_rw ?_
                  refine ro rfl rfl (st_mv rfl) ?_
                  refine ro rfl rfl (st_bin (v := dB (x3980 == (0 : Int))) rfl rfl rfl) ?_
                  refine ro rfl rfl (st_mv rfl) ?_
                  refine bool_split (x3980 == (0 : Int)) (fun p4173 => ?_) (fun p4173 => ?_)
                  · replace h := ite_T p4173 h
                    rw [p4173]
                    refine rz rfl rfl ?_
                    refine rz rfl rfl ?_
                    refine ro rfl rfl (st_pickT rfl rfl) ?_
                    refine ro rfl rfl (st_mv rfl) ?_
                    refine rz rfl rfl ?_
                    refine rz rfl rfl ?_
                    refine ro rfl rfl (st_pickT rfl rfl) ?_
                    refine ro rfl rfl (st_mv rfl) ?_
                    refine rz rfl rfl ?_
                    refine rz rfl rfl ?_
                    refine rz rfl rfl ?_
                    refine rz rfl rfl ?_
                    refine ro rfl rfl (st_pickT rfl rfl) ?_
                    refine ro rfl rfl (st_mv rfl) ?_
                    refine rz rfl rfl ?_
                    refine rz rfl rfl ?_
                    refine rz rfl rfl ?_
                    refine rz rfl rfl ?_
                    refine rz rfl rfl ?_
                    refine ro rfl rfl (st_pickT rfl rfl) ?_
                    refine rw_nil ?_
                    refine nx_then ?_
                    exact J4170 true () _ _ h (gh_frz rfl rfl ⟨⟨_, rfl, .keep rfl⟩, ⟨_, rfl, .keep rfl⟩, ⟨_, rfl, .keep rfl⟩, ⟨_, rfl, .keep rfl⟩, ⟨_, rfl, .keep rfl⟩, ⟨_, rfl, .keep rfl⟩, ⟨_, rfl, .keep rfl⟩, ⟨_, rfl, .keep rfl⟩, ⟨_, rfl, .keep rfl⟩, ⟨_, rfl, .keep rfl⟩, ⟨_, rfl, .keep rfl⟩, trivial⟩ ⟨⟨_, rfl, objMap (fun _ => rfl) _⟩, ⟨_, rfl, objOne ⟨⟨rfl, .keep rfl⟩, trivial⟩⟩, trivial⟩)
                  · replace h := ite_F p4173 h
                    rw [p4173]
                    refine ro rfl rfl (st_mv rfl) ?_
                    refine ro rfl rfl (st_bin (v := dB (decide (x3980 < (-65536 : Int)))) rfl rfl rfl) ?_
                    refine ro rfl rfl (st_pickF rfl rfl) ?_
                    refine ro rfl rfl (st_mv rfl) ?_
                    refine bool_split (decide (x3980 < (-65536 : Int))) (fun p4174 => ?_) (fun p4174 => ?_)
                    · replace h := ite_T p4174 h
                      rw [p4174]
                      refine rz rfl rfl ?_
                      refine rz rfl rfl ?_
                      refine ro rfl rfl (st_pickT rfl rfl) ?_
                      refine ro rfl rfl (st_mv rfl) ?_
                      refine rz rfl rfl ?_
                      refine rz rfl rfl ?_
                      refine rz rfl rfl ?_
                      refine rz rfl rfl ?_
                      refine ro rfl rfl (st_pickT rfl rfl) ?_
                      refine ro rfl rfl (st_mv rfl) ?_
                      refine rz rfl rfl ?_
                      refine rz rfl rfl ?_
                      refine rz rfl rfl ?_
                      refine rz rfl rfl ?_
                      refine rz rfl rfl ?_
                      refine ro rfl rfl (st_pickT rfl rfl) ?_
                      refine rw_nil ?_
                      refine nx_then ?_
                      exact J4170 true () _ _ h (gh_frz rfl rfl ⟨⟨_, rfl, .keep rfl⟩, ⟨_, rfl, .keep rfl⟩, ⟨_, rfl, .keep rfl⟩, ⟨_, rfl, .keep rfl⟩, ⟨_, rfl, .keep rfl⟩, ⟨_, rfl, .keep rfl⟩, ⟨_, rfl, .keep rfl⟩, ⟨_, rfl, .keep rfl⟩, ⟨_, rfl, .keep rfl⟩, ⟨_, rfl, .keep rfl⟩, ⟨_, rfl, .keep rfl⟩, trivial⟩ ⟨⟨_, rfl, objMap (fun _ => rfl) _⟩, ⟨_, rfl, objOne ⟨⟨rfl, .keep rfl⟩, trivial⟩⟩, trivial⟩)
                    · replace h := ite_F p4174 h
                      rw [p4174]
                      refine ro rfl rfl (st_mv rfl) ?_
                      refine ro rfl rfl (st_bin (v := dB (decide (x3980 > (65536 : Int)))) rfl rfl rfl) ?_
                      refine ro rfl rfl (st_pickF rfl rfl) ?_
                      refine ro rfl rfl (st_mv rfl) ?_
                      refine bool_split (decide (x3980 > (65536 : Int))) (fun p4175 => ?_) (fun p4175 => ?_)
                      · replace h := ite_T p4175 h
                        rw [p4175]
                        refine rz rfl rfl ?_
                        refine rz rfl rfl ?_
                        refine rz rfl rfl ?_
                        refine rz rfl rfl ?_
                        refine ro rfl rfl (st_pickT rfl rfl) ?_
                        refine ro rfl rfl (st_mv rfl) ?_
                        refine rz rfl rfl ?_
                        refine rz rfl rfl ?_
                        refine rz rfl rfl ?_
                        refine rz rfl rfl ?_
                        refine rz rfl rfl ?_
                        refine ro rfl rfl (st_pickT rfl rfl) ?_
                        refine rw_nil ?_
                        refine nx_then ?_
                        exact J4170 true () _ _ h (gh_frz rfl rfl ⟨⟨_, rfl, .keep rfl⟩, ⟨_, rfl, .keep rfl⟩, ⟨_, rfl, .keep rfl⟩, ⟨_, rfl, .keep rfl⟩, ⟨_, rfl, .keep rfl⟩, ⟨_, rfl, .keep rfl⟩, ⟨_, rfl, .keep rfl⟩, ⟨_, rfl, .keep rfl⟩, ⟨_, rfl, .keep rfl⟩, ⟨_, rfl, .keep rfl⟩, ⟨_, rfl, .keep rfl⟩, trivial⟩ ⟨⟨_, rfl, objMap (fun _ => rfl) _⟩, ⟨_, rfl, objOne ⟨⟨rfl, .keep rfl⟩, trivial⟩⟩, trivial⟩)
                      · replace h := ite_F p4175 h
                        rw [p4175]
                        refine ro rfl rfl (st_mv rfl) ?_
                        obtain ⟨y4176, hy4176, h⟩ := bind_some_elim h
                        refine rf rfl rfl (ok_prefix_abs hy4176) rfl rfl ?_
                        refine ro rfl rfl (st_mv rfl) ?_
                        refine ro rfl rfl (st_bin (v := dB (decide (y4176 ≤ s3976))) rfl rfl rfl) ?_
                        refine ro rfl rfl (st_pickF rfl rfl) ?_
                        refine ro rfl rfl (st_mv rfl) ?_
                        refine bool_split (decide (y4176 ≤ s3976)) (fun p4177 => ?_) (fun p4177 => ?_)
                        · replace h := ite_T p4177 h
                          rw [p4177]
                          refine rz rfl rfl ?_
                          refine rz rfl rfl ?_
                          refine rz rfl rfl ?_
                          refine rz rfl rfl ?_
                          refine rz rfl rfl ?_
                          refine ro rfl rfl (st_pickT rfl rfl) ?_
                          refine rw_nil ?_
                          refine nx_then ?_
                          exact J4170 true () _ _ h (gh_frz rfl rfl ⟨⟨_, rfl, .keep rfl⟩, ⟨_, rfl, .keep rfl⟩, ⟨_, rfl, .keep rfl⟩, ⟨_, rfl, .keep rfl⟩, ⟨_, rfl, .keep rfl⟩, ⟨_, rfl, .keep rfl⟩, ⟨_, rfl, .keep rfl⟩, ⟨_, rfl, .keep rfl⟩, ⟨_, rfl, .keep rfl⟩, ⟨_, rfl, .keep rfl⟩, ⟨_, rfl, .keep rfl⟩, trivial⟩ ⟨⟨_, rfl, objMap (fun _ => rfl) _⟩, ⟨_, rfl, objOne ⟨⟨rfl, .keep rfl⟩, trivial⟩⟩, trivial⟩)
                        · replace h := ite_F p4177 h
                          rw [p4177]
                          refine ro rfl rfl (st_mv rfl) ?_
                          refine ro rfl rfl (st_mv rfl) ?_
                          obtain ⟨y4178, hy4178, h⟩ := bind_some_elim h
                          refine rf rfl rfl (ok_prefix_abs hy4178) rfl rfl ?_
                          refine ri (N := 13) (rs := [.tmp 3]) rfl rfl rfl rfl Try.func99 rfl rfl rfl (by kernel_rfl) rfl (fun _B => ?_)
                          refine awp_rs ?_
                          refine ro rfl rfl (st_as rfl) ?_
                          refine rw_nilk ?_
                          refine awp_rs ?_
                          refine ro rfl rfl (st_ldP (v := .map 1003) ta129 rfl rfl rfl rfl) ?_
                          refine ro rfl rfl (st_mv rfl) ?_
                          refine ro rfl rfl (st_lookOk (vf := (fun (b : S_prefix_place) => .agg [dI .i64 b.block, dB b.f_exists])) (z := (S_prefix_place.mk (0 : Int) false)) (xs := y2544) un129 un3 za128 rfl rfl rfl) ?_
                          refine ro rfl rfl (st_mv rfl) ?_
                          refine ro rfl rfl (st_ext rfl rfl) ?_
                          refine ro rfl rfl (st_ext rfl rfl) ?_
                          refine rn (r := 1010) rfl rfl (st_alloc zc128 rfl rfl) rfl ?_
                          refine rx (L' := [(1003, mapO .i64 (fun (b : S_prefix_place) => .agg [dI .i64 b.block, dB b.f_exists]) y2544), (1009, .row 0 129 [[.map 1003]]), (1010, .row 0 128 [[dI .i64 (((mget y2544 y4178).getD (S_prefix_place.mk (0 : Int) false)).block), dB (((mget y2544 y4178).getD (S_prefix_place.mk (0 : Int) false)).f_exists)]])]) rfl rfl (st_stP ta128 rfl rfl rfl rfl rfl rfl rfl rfl) rfl ?_
                          refine ro rfl rfl (st_as rfl) ?_
                          refine rw_nilk ?_
                          refine awp_rs ?_
                          refine ro rfl rfl (st_mv rfl) ?_
                          refine ro rfl rfl (st_as rfl) ?_
                          refine rw_nilk ?_
                          refine awp_ret ?_
                          refine ret_in (v := dB ((mget y2544 y4178).isSome)) (resV_one (resVs_tmp rfl resVs_nil)) ?_
                          show RW _ _ _ _ _ _ _
                          refine ro rfl rfl (st_un (v := dB (!(mget y2544 y4178).isSome)) rfl rfl) ?_
                          refine ro rfl rfl (st_pickF rfl rfl) ?_
                          refine rw_nil ?_
                          refine nx_then ?_
                          exact J4170 (!(mget y2544 y4178).isSome) () _ _ h (gh_frz rfl rfl ⟨⟨_, rfl, .keep rfl⟩, ⟨_, rfl, .keep rfl⟩, ⟨_, rfl, .keep rfl⟩, ⟨_, rfl, .keep rfl⟩, ⟨_, rfl, .keep rfl⟩, ⟨_, rfl, .keep rfl⟩, ⟨_, rfl, .keep rfl⟩, ⟨_, rfl, .keep rfl⟩, ⟨_, rfl, .keep rfl⟩, ⟨_, rfl, .keep rfl⟩, ⟨_, rfl, .keep rfl⟩, trivial⟩ ⟨⟨_, rfl, objMap (fun _ => rfl) _⟩, ⟨_, rfl, objOne ⟨⟨rfl, .keep rfl⟩, trivial⟩⟩, trivial⟩)
              · clear h
                intro s3976 g3977 h
                refine awp_rs ?_
                refine ro rfl rfl (st_bin (v := dB (decide (((x3569.length : Nat) : Int) < ((x3569.length : Nat) : Int)))) rfl rfl rfl) ?_
                refine rw_nilk ?_
                refine awp_seq ?_
                refine awp_ifF rfl dge ?_
                refine awp_exit ?_
                refine ex_out ?_
                refine ex_out ?_
                refine ex_in ?_
                refine nx_then ?_
                refine awp_rw ?_
                refine ro rfl rfl (st_mv rfl) ?_
                refine ro rfl rfl (st_mv rfl) ?_
                refine ro rfl rfl (st_lenD rfl un34) ?_
                refine ro rfl rfl (st_bin (v := dI .i64 (IntKind.wrap .i64 (s3565 + ((x3569.length : Nat) : Int)))) rfl rfl rfl) ?_
                refine ro rfl rfl (st_as rfl) ?_
                refine rw_nil ?_
                refine nx_block ?_
                refine nx_then ?_
                refine awp_rw ?_
                refine ro rfl rfl (st_inc rfl rfl hj3568 hl3568) ?_
                refine ro rfl rfl (st_mv rfl) ?_
                refine rw_nil ?_
                refine nx_then ?_
                refine awp_gh ?_ (ih3567 (IntKind.wrap .i64 (s3565 + ((x3569.length : Nat) : Int))) () h)
                exact (gh_frz rfl rfl ⟨⟨_, rfl, .keep rfl⟩, ⟨_, rfl, .keep rfl⟩, ⟨_, rfl, .keep rfl⟩, ⟨_, rfl, .keep rfl⟩, ⟨_, rfl, .keep rfl⟩, trivial⟩ ⟨⟨_, rfl, objMap (fun _ => rfl) _⟩, ⟨_, rfl, objOne ⟨⟨rfl, .keep rfl⟩, trivial⟩⟩, trivial⟩)
            · clear h
              intro s3565 g3566 h
              refine awp_rs ?_
              refine ro rfl rfl (st_bin (v := dB (decide (((a0.Clauses.length : Nat) : Int) < ((a0.Clauses.length : Nat) : Int)))) rfl rfl rfl) ?_
              refine rw_nilk ?_
              refine awp_seq ?_
              refine awp_ifF rfl dge ?_
              refine awp_exit ?_
              refine ex_out ?_
              refine ex_out ?_
              refine ex_in ?_
              refine nx_then ?_
              refine awp_rs ?_
              refine ro rfl rfl (st_mv rfl) ?_
              refine ro rfl rfl (st_bin (v := dB (decide (s3565 ≤ (200000 : Int)))) rfl rfl rfl) ?_
              refine ro rfl rfl (st_as rfl) ?_
              refine rw_nilk ?_
              refine awp_ret ?_
              injection h with h
              subst h
              exact retX (v := dB (decide (s3565 ≤ (200000 : Int)))) (resV_one (resVs_tmp rfl resVs_nil)) (.keep rfl) ⟨⟨_, rfl, objOne ⟨⟨rfl, .keep rfl⟩, trivial⟩⟩, ⟨_, rfl, objMap (fun _ => rfl) _⟩, trivial⟩
        · refine do_ rfl rfl (st_pickT rfl rfl) rfl rfl rfl ?_
          refine do_ rfl rfl (st_as rfl) rfl rfl rfl ?_
          refine rd_nil (by kernel_rfl) ?_
          refine awp_ret ?_
          injection h with h
          subst h
          exact ret_out (v := dB y3563) (resV_one (resVs_tmp rfl resVs_nil)) (.keep rfl)
  · replace h := ite_F p2141 h
    rw [p2141]
    refine dz rfl rfl ?_
    refine dz rfl rfl ?_
    refine dz rfl rfl ?_
    refine dz rfl rfl ?_
    refine dz rfl rfl ?_
    refine dz rfl rfl ?_
    refine dz rfl rfl ?_
    refine do_ rfl rfl (st_pickF rfl rfl) rfl rfl rfl ?_
    refine do_ rfl rfl (st_as rfl) rfl rfl rfl ?_
    refine rd_nil (by kernel_rfl) ?_
    refine awp_ret ?_
    injection h with h
    subst h
    exact ret_out (v := dB false) (resV_one (resVs_tmp rfl resVs_nil)) (.keep rfl)

theorem ok_truth_small {a0 : S_api_Qbf} {r : Int} (h : F_truth_small a0 = some r) : Fn Try.prog 30 [.agg [dL 2 e_S_api_Block a0.Prefix, dL 1 (eL 1 (eI .i64)) a0.Clauses]] (dI .i64 r) := by
  unfold F_truth_small at h
  refine Fn.of_body (N := 11) (rs := [.tmp 2]) Try.func30 (c := _) rfl rfl rfl (by kernel_rfl) (Nat.le_of_ble_eq_true rfl) (fun _B => ?_)
  refine awp_rs ?_
  refine rn (r := 1001) rfl rfl (st_box rfl rfl rfl co25 rfl rfl) rfl ?_
  refine ro rfl rfl (st_as rfl) ?_
  refine rw_nilk ?_
  refine awp_seq ?_
  refine awp_rs ?_
  refine ro rfl rfl (st_ldP (v := .agg [dL 2 e_S_api_Block a0.Prefix, dL 1 (eL 1 (eI .i64)) a0.Clauses]) ta25 rfl rfl rfl rfl) ?_
  obtain ⟨y101, hy101, h⟩ := bind_some_elim h
  refine rf rfl rfl (ok_prefix_MayQbf hy101) rfl rfl ?_
  refine ro rfl rfl (st_un (v := dB (!y101)) rfl rfl) ?_
  refine rw_nilk ?_
  refine awp_ite (b := (!y101)) rfl (fun p102 => ?_) (fun p102 => ?_)
  · replace h := ite_T p102 h
    refine awp_rs ?_
    refine ro rfl rfl (st_as rfl) ?_
    refine rw_nilk ?_
    refine awp_ret ?_
    refine rt_then ?_
    injection h with h
    subst h
    exact ret_out (v := dI .i64 (2 : Int)) (resV_one (resVs_tmp rfl resVs_nil)) (.keep rfl)
  · replace h := ite_F p102 h
    refine awp_skip ?_
    refine nx_then ?_
    refine awp_seq ?_
    refine awp_rs ?_
    refine ro rfl rfl (st_ldP (v := .agg [dL 2 e_S_api_Block a0.Prefix, dL 1 (eL 1 (eI .i64)) a0.Clauses]) ta25 rfl rfl rfl rfl) ?_
    obtain ⟨y103, hy103, h⟩ := bind_some_elim h
    refine rf rfl rfl (ok_truth_of hy103) rfl rfl ?_
    refine ro rfl rfl (st_field (v := dL 2 e_S_truth_turn y103.turns) fo73_0 rfl rfl) ?_
    refine ro rfl rfl (st_lenD rfl un71) ?_
    refine ro rfl rfl (st_bin (v := dB (decide (((y103.turns.length : Nat) : Int) > (16 : Int)))) rfl rfl rfl) ?_
    refine rw_nilk ?_
    refine awp_ite (b := (decide (((y103.turns.length : Nat) : Int) > (16 : Int)))) rfl (fun p104 => ?_) (fun p104 => ?_)
    · replace h := ite_T p104 h
      refine awp_rs ?_
      refine ro rfl rfl (st_as rfl) ?_
      refine rw_nilk ?_
      refine awp_ret ?_
      refine rt_then ?_
      injection h with h
      subst h
      exact ret_out (v := dI .i64 (3 : Int)) (resV_one (resVs_tmp rfl resVs_nil)) (.keep rfl)
    · replace h := ite_F p104 h
      refine awp_skip ?_
      refine nx_then ?_
      refine awp_rs ?_
      refine ro rfl rfl (st_as rfl) ?_
      refine rw_nilk ?_
      refine awp_ret ?_
      injection h with h
      subst h
      exact ret_out (v := dI .i64 (0 : Int)) (resV_one (resVs_tmp rfl resVs_nil)) (.keep rfl)

theorem ok_truth_value {a0 : Bool} {r : Int} (h : F_truth_value a0 = some r) : Fn Try.prog 31 [dB a0] (dI .u8 r) := by
  unfold F_truth_value at h
  refine Fn.of_body (N := 4) (rs := [.tmp 2]) Try.func31 (c := _) rfl rfl rfl (by kernel_rfl) (Nat.le_of_ble_eq_true rfl) (fun _B => ?_)
  refine awp_rs ?_
  refine ro rfl rfl (st_as rfl) ?_
  refine rw_nilk ?_
  refine awp_seq ?_
  refine awp_rs ?_
  refine ro rfl rfl (st_mv rfl) ?_
  refine rw_nilk ?_
  refine awp_ite (b := a0) rfl (fun p101 => ?_) (fun p101 => ?_)
  · replace h := ite_T p101 h
    refine awp_rs ?_
    refine ro rfl rfl (st_as rfl) ?_
    refine rw_nilk ?_
    refine awp_ret ?_
    refine rt_then ?_
    injection h with h
    subst h
    exact ret_out (v := dI .u8 (1 : Int)) (resV_one (resVs_tmp rfl resVs_nil)) (.keep rfl)
  · replace h := ite_F p101 h
    refine awp_skip ?_
    refine nx_then ?_
    refine awp_rs ?_
    refine ro rfl rfl (st_as rfl) ?_
    refine rw_nilk ?_
    refine awp_ret ?_
    injection h with h
    subst h
    exact ret_out (v := dI .u8 (2 : Int)) (resV_one (resVs_tmp rfl resVs_nil)) (.keep rfl)

theorem oc_truth_game_left_c1 : ∀ (n : Nat) {p0 : (List S_truth_turn)} {p1 : (List (List Int))} {b0 : Int} {m0 : (List (Int × Bool))} {r : Bool × (List (Int × Bool))} (h : F_truth_game_left_c1 n p0 p1 b0 m0 = some r), Ev Try.prog 68 [dI .i64 b0, .ptr 1003 0 0 0, .ptr 1004 0 0 0, .ptr 1005 0 0 0] [(1002, mapO .i64 (fun (b : Bool) => dB b) m0), (1003, .row 0 73 [[dL 2 e_S_truth_turn p0, dL 1 (eL 1 (eI .i64)) p1]]), (1004, .row 0 77 [[.map 1002]]), (1005, .row 0 84 [[.fn 68 [] [.ptr 1003 0 0 0, .ptr 1004 0 0 0, .ptr 1005 0 0 0]]])] (.ret (dB r.1)) [(1002, mapO .i64 (fun (b : Bool) => dB b) r.2), (1003, .row 0 73 [[dL 2 e_S_truth_turn p0, dL 1 (eL 1 (eI .i64)) p1]]), (1004, .row 0 77 [[.map 1002]]), (1005, .row 0 84 [[.fn 68 [] [.ptr 1003 0 0 0, .ptr 1004 0 0 0, .ptr 1005 0 0 0]]])]
  | 0, _, _, _, _, _, h => by simp [F_truth_game_left_c1] at h
  | n + 1, p0, p1, b0, m0, r, h => by
    have ih : ∀ {p0 : (List S_truth_turn)} {p1 : (List (List Int))} {b0 : Int} {m0 : (List (Int × Bool))} {r : Bool × (List (Int × Bool))} (h : F_truth_game_left_c1 n p0 p1 b0 m0 = some r), Ev Try.prog 68 [dI .i64 b0, .ptr 1003 0 0 0, .ptr 1004 0 0 0, .ptr 1005 0 0 0] [(1002, mapO .i64 (fun (b : Bool) => dB b) m0), (1003, .row 0 73 [[dL 2 e_S_truth_turn p0, dL 1 (eL 1 (eI .i64)) p1]]), (1004, .row 0 77 [[.map 1002]]), (1005, .row 0 84 [[.fn 68 [] [.ptr 1003 0 0 0, .ptr 1004 0 0 0, .ptr 1005 0 0 0]]])] (.ret (dB r.1)) [(1002, mapO .i64 (fun (b : Bool) => dB b) r.2), (1003, .row 0 73 [[dL 2 e_S_truth_turn p0, dL 1 (eL 1 (eI .i64)) p1]]), (1004, .row 0 77 [[.map 1002]]), (1005, .row 0 84 [[.fn 68 [] [.ptr 1003 0 0 0, .ptr 1004 0 0 0, .ptr 1005 0 0 0]]])] := oc_truth_game_left_c1 n
    simp only [F_truth_game_left_c1] at h
    refine Ev.of_bodyM (N := 40) (rs := [.tmp 5]) Try.func68 (c := _) rfl rfl rfl (by kernel_rfl) rfl (Nat.le_of_ble_eq_true rfl) (fun _B => ?_)
    refine awp_rs ?_
    refine ro rfl rfl (st_as rfl) ?_
    refine rw_nilk ?_
    refine awp_seq ?_
    refine awp_rs ?_
    refine ro rfl rfl (st_mv rfl) ?_
    refine ro rfl rfl (st_faP fo73_0 rfl) ?_
    refine ro rfl rfl (st_ldP (v := dL 2 e_S_truth_turn p0) ta71 rfl rfl rfl rfl) ?_
    refine ro rfl rfl (st_lenD rfl un71) ?_
    refine ro rfl rfl (st_bin (v := dB (b0 == ((p0.length : Nat) : Int))) rfl rfl rfl) ?_
    refine rw_nilk ?_
    refine awp_ite (b := (b0 == ((p0.length : Nat) : Int))) rfl (fun p101 => ?_) (fun p101 => ?_)
    · replace h := ite_T p101 h
      refine awp_rs ?_
      refine ro rfl rfl (st_ldP (v := .map 1002) ta77 rfl rfl rfl rfl) ?_
      refine ro rfl rfl (st_faP fo73_1 rfl) ?_
      refine ro rfl rfl (st_ldP (v := dL 1 (eL 1 (eI .i64)) p1) ta23 rfl rfl rfl rfl) ?_
      refine rw_jn (fun (s513 : Bool) (g514 : Unit) => [(15, dB s513)]) (fun (s513 : Bool) (g514 : Unit) => [(1002, mapO .i64 (fun (b : Bool) => dB b) m0), (1003, .row 0 73 [[dL 2 e_S_truth_turn p0, dL 1 (eL 1 (eI .i64)) p1]]), (1004, .row 0 77 [[.map 1002]]), (1005, .row 0 84 [[.fn 68 [] [.ptr 1003 0 0 0, .ptr 1004 0 0 0, .ptr 1005 0 0 0]]])]) h ?_ ?_
      · clear h
        intro s513 g514 h
        refine ro rfl rfl (st_as rfl) ?_
        refine rw_nilk ?_
        refine awp_ret ?_
        refine rt_then ?_
        injection h with h
        subst h
        exact retM (v := dB s513) (resV_one (resVs_tmp rfl resVs_nil)) rfl (.keep rfl) ⟨⟨_, rfl, objMap (fun _ => rfl) _⟩, ⟨_, rfl, objOne ⟨⟨rfl, .keep rfl⟩, ⟨rfl, .keep rfl⟩, trivial⟩⟩, ⟨_, rfl, objOne ⟨⟨rfl, .keep rfl⟩, trivial⟩⟩, ⟨_, rfl, objOne ⟨⟨rfl, .keep rfl⟩, trivial⟩⟩, trivial⟩
      · clear h
        intro k515 h J515
        refine ri (N := 19) (rs := [.tmp 4]) rfl rfl rfl rfl Try.func67 rfl rfl rfl (by kernel_rfl) rfl (fun _B => ?_)
        refine awp_rs ?_
        refine ro rfl rfl (st_as rfl) ?_
        refine rw_nilk ?_
        refine awp_seq ?_
        refine awp_rs ?_
        refine ro rfl rfl (st_mv rfl) ?_
        refine ro rfl rfl (st_lenD rfl un23) ?_
        refine ro rfl rfl (st_mv rfl) ?_
        refine rw_nilk ?_
        refine awp_block ?_
        refine awp_len (t := 1) rfl (fun hl519 => ?_)
        rw [List.length_map] at hl519
        refine awp_range (fun (j519 : Nat) (s516 : Unit) (g517 : Unit) => [(0, .map 1002), (7, dL 1 (eL 1 (eI .i64)) p1), (8, dI .i64 ((p1.length : Nat) : Int)), (9, dI .i64 ((j519 : Nat) : Int))]) (fun (s516 : Unit) (g517 : Unit) => [(1002, mapO .i64 (fun (b : Bool) => dB b) m0), (1003, .row 0 73 [[dL 2 e_S_truth_turn p0, dL 1 (eL 1 (eI .i64)) p1]]), (1004, .row 0 77 [[.map 1002]]), (1005, .row 0 84 [[.fn 68 [] [.ptr 1003 0 0 0, .ptr 1004 0 0 0, .ptr 1005 0 0 0]]])]) () (fun _ _ _ h => h) h (gh_frz rfl rfl ⟨⟨_, rfl, .keep rfl⟩, ⟨_, rfl, .keep rfl⟩, ⟨_, rfl, .keep rfl⟩, ⟨_, rfl, .keep rfl⟩, trivial⟩ ⟨⟨_, rfl, objMap (fun _ => rfl) _⟩, ⟨_, rfl, objOne ⟨⟨rfl, .keep rfl⟩, ⟨rfl, .keep rfl⟩, trivial⟩⟩, ⟨_, rfl, objOne ⟨⟨rfl, .keep rfl⟩, trivial⟩⟩, ⟨_, rfl, objOne ⟨⟨rfl, .keep rfl⟩, trivial⟩⟩, trivial⟩) ?_ ?_
        · clear h
          intro j519 x520 s516 g517 k518 hj519 hx519 h ih518
          refine awp_rs ?_
          refine ro rfl rfl (st_bin (v := dB (decide (((j519 : Nat) : Int) < ((p1.length : Nat) : Int)))) rfl rfl rfl) ?_
          refine rw_nilk ?_
          refine awp_seq ?_
          refine awp_ifT rfl (dlt hj519) ?_
          refine awp_skip ?_
          refine nx_then ?_
          refine awp_seq ?_
          refine awp_block ?_
          refine awp_rs ?_
          refine ro rfl rfl (st_ixDn sl23 rfl rfl hx519) ?_
          refine ro rfl rfl (st_ldD (v := dL 1 (eI .i64) x520) ta34 rfl rfl) ?_
          refine ro rfl rfl (st_as rfl) ?_
          refine rw_nilk ?_
          refine awp_rs ?_
          refine ro rfl rfl (st_mv rfl) ?_
          refine ro rfl rfl (st_mv rfl) ?_
          refine ro rfl rfl (st_fn rfl rfl) ?_
          refine ri (N := 9) (rs := [.tmp 4]) rfl rfl rfl rfl Try.func71 rfl rfl rfl (by kernel_rfl) rfl (fun _B => ?_)
          refine awp_rs ?_
          refine ro rfl rfl (st_as rfl) ?_
          refine rw_nilk ?_
          refine awp_rs ?_
          refine ro rfl rfl (st_mv rfl) ?_
          refine ro rfl rfl (st_mv rfl) ?_
          refine rw_jn (fun (s874 : Int) (g875 : Unit) => [(7, dI .i64 s874)]) (fun (s874 : Int) (g875 : Unit) => [(1002, mapO .i64 (fun (b : Bool) => dB b) m0), (1003, .row 0 73 [[dL 2 e_S_truth_turn p0, dL 1 (eL 1 (eI .i64)) p1]]), (1004, .row 0 77 [[.map 1002]]), (1005, .row 0 84 [[.fn 68 [] [.ptr 1003 0 0 0, .ptr 1004 0 0 0, .ptr 1005 0 0 0]]])]) h ?_ ?_
          · clear h
            intro s874 g875 h
            refine ro rfl rfl (st_bin (v := dB (decide (s874 ≥ (0 : Int)))) rfl rfl rfl) ?_
            refine ro rfl rfl (st_as rfl) ?_
            refine rw_nilk ?_
            refine awp_ret ?_
            refine ret_in (v := dB (decide (s874 ≥ (0 : Int)))) (resV_one (resVs_tmp rfl resVs_nil)) ?_
            show RW _ _ _ _ _ _ _
            refine ro rfl rfl (st_un (v := dB (!(decide (s874 ≥ (0 : Int))))) rfl rfl) ?_
            refine rw_nilk ?_
            refine awp_ite (b := (!(decide (s874 ≥ (0 : Int))))) rfl (fun p877 => ?_) (fun p877 => ?_)
            · replace h := ite_T p877 h
              refine awp_rs ?_
              refine ro rfl rfl (st_as rfl) ?_
              refine rw_nilk ?_
              refine awp_ret ?_
              refine rt_block ?_
              refine rt_then ?_
              refine rt_then ?_
              refine rt_block ?_
              refine rt_then ?_
              refine ret_in (v := dB false) (resV_one (resVs_tmp rfl resVs_nil)) ?_
              exact J515 false () _ _ h (gh_frz rfl rfl ⟨⟨_, rfl, .keep rfl⟩, trivial⟩ ⟨⟨_, rfl, objMap (fun _ => rfl) _⟩, ⟨_, rfl, objOne ⟨⟨rfl, .keep rfl⟩, ⟨rfl, .keep rfl⟩, trivial⟩⟩, ⟨_, rfl, objOne ⟨⟨rfl, .keep rfl⟩, trivial⟩⟩, ⟨_, rfl, objOne ⟨⟨rfl, .keep rfl⟩, trivial⟩⟩, trivial⟩)
            · replace h := ite_F p877 h
              refine awp_skip ?_
              refine nx_block ?_
              refine nx_then ?_
              refine awp_rw ?_
              refine ro rfl rfl (st_inc rfl rfl hj519 hl519) ?_
              refine ro rfl rfl (st_mv rfl) ?_
              refine rw_nil ?_
              refine nx_then ?_
              refine awp_gh ?_ (ih518 () () h)
              exact (gh_frz rfl rfl ⟨⟨_, rfl, .keep rfl⟩, ⟨_, rfl, .keep rfl⟩, ⟨_, rfl, .keep rfl⟩, ⟨_, rfl, .keep rfl⟩, trivial⟩ ⟨⟨_, rfl, objMap (fun _ => rfl) _⟩, ⟨_, rfl, objOne ⟨⟨rfl, .keep rfl⟩, ⟨rfl, .keep rfl⟩, trivial⟩⟩, ⟨_, rfl, objOne ⟨⟨rfl, .keep rfl⟩, trivial⟩⟩, ⟨_, rfl, objOne ⟨⟨rfl, .keep rfl⟩, trivial⟩⟩, trivial⟩)
          · clear h
            intro k876 h J876
            refine ri (N := 19) (rs := [.tmp 4]) rfl rfl rfl rfl Try.func91 rfl rfl rfl (by kernel_rfl) rfl (fun _B => ?_)
            refine awp_rs ?_
            refine ro rfl rfl (st_as rfl) ?_
            refine rw_nilk ?_
            refine awp_seq ?_
            refine awp_rs ?_
            refine ro rfl rfl (st_mv rfl) ?_
            refine ro rfl rfl (st_lenD rfl un34) ?_
            refine ro rfl rfl (st_mv rfl) ?_
            refine rw_nilk ?_
            refine awp_block ?_
            refine awp_len (t := 0) rfl (fun hl881 => ?_)
            rw [List.length_map] at hl881
            refine awp_range (fun (j881 : Nat) (s878 : Unit) (g879 : Unit) => [(0, dL 1 (eI .i64) x520), (1, .fn 90 [.map 1002] []), (7, dI .i64 ((x520.length : Nat) : Int)), (8, dI .i64 ((j881 : Nat) : Int))]) (fun (s878 : Unit) (g879 : Unit) => [(1002, mapO .i64 (fun (b : Bool) => dB b) m0), (1003, .row 0 73 [[dL 2 e_S_truth_turn p0, dL 1 (eL 1 (eI .i64)) p1]]), (1004, .row 0 77 [[.map 1002]]), (1005, .row 0 84 [[.fn 68 [] [.ptr 1003 0 0 0, .ptr 1004 0 0 0, .ptr 1005 0 0 0]]])]) () (fun _ _ _ h => h) h (gh_frz rfl rfl ⟨⟨_, rfl, .keep rfl⟩, ⟨_, rfl, .keep rfl⟩, ⟨_, rfl, .keep rfl⟩, ⟨_, rfl, .keep rfl⟩, trivial⟩ ⟨⟨_, rfl, objMap (fun _ => rfl) _⟩, ⟨_, rfl, objOne ⟨⟨rfl, .keep rfl⟩, ⟨rfl, .keep rfl⟩, trivial⟩⟩, ⟨_, rfl, objOne ⟨⟨rfl, .keep rfl⟩, trivial⟩⟩, ⟨_, rfl, objOne ⟨⟨rfl, .keep rfl⟩, trivial⟩⟩, trivial⟩) ?_ ?_
            · clear h
              intro j881 x882 s878 g879 k880 hj881 hx881 h ih880
              refine awp_rs ?_
              refine ro rfl rfl (st_bin (v := dB (decide (((j881 : Nat) : Int) < ((x520.length : Nat) : Int)))) rfl rfl rfl) ?_
              refine rw_nilk ?_
              refine awp_seq ?_
              refine awp_ifT rfl (dlt hj881) ?_
              refine awp_skip ?_
              refine nx_then ?_
              refine awp_seq ?_
              refine awp_block ?_
              refine awp_rs ?_
              refine ro rfl rfl (st_mv rfl) ?_
              refine ro rfl rfl (st_as rfl) ?_
              refine rw_nilk ?_
              refine awp_rs ?_
              refine ro rfl rfl (st_mv rfl) ?_
              refine ro rfl rfl (st_mv rfl) ?_
              refine ro rfl rfl (st_mv rfl) ?_
              refine ro rfl rfl (st_ixDn sl34 rfl rfl hx881) ?_
              refine ro rfl rfl (st_ldD (v := dI .i64 x882) ta3 rfl rfl) ?_
              refine rw_jn (fun (s922 : Bool) (g923 : Unit) => [(0, dL 1 (eI .i64) x520), (1, .fn 90 [.map 1002] []), (5, dI .i64 ((j881 : Nat) : Int)), (7, dI .i64 ((x520.length : Nat) : Int)), (8, dI .i64 ((j881 : Nat) : Int)), (16, dB s922)]) (fun (s922 : Bool) (g923 : Unit) => [(1002, mapO .i64 (fun (b : Bool) => dB b) m0), (1003, .row 0 73 [[dL 2 e_S_truth_turn p0, dL 1 (eL 1 (eI .i64)) p1]]), (1004, .row 0 77 [[.map 1002]]), (1005, .row 0 84 [[.fn 68 [] [.ptr 1003 0 0 0, .ptr 1004 0 0 0, .ptr 1005 0 0 0]]])]) h ?_ ?_
              · clear h
                intro s922 g923 h
                refine rw_nilk ?_
                refine awp_ite (b := s922) rfl (fun p925 => ?_) (fun p925 => ?_)
                · replace h := ite_T p925 h
                  refine awp_rs ?_
                  refine ro rfl rfl (st_mv rfl) ?_
                  refine ro rfl rfl (st_as rfl) ?_
                  refine rw_nilk ?_
                  refine awp_ret ?_
                  refine rt_block ?_
                  refine rt_then ?_
                  refine rt_then ?_
                  refine rt_block ?_
                  refine rt_then ?_
                  refine ret_in (v := dI .i64 ((j881 : Nat) : Int)) (resV_one (resVs_tmp rfl resVs_nil)) ?_
                  exact J876 ((j881 : Nat) : Int) () _ _ h (gh_frz rfl rfl ⟨⟨_, rfl, .keep rfl⟩, trivial⟩ ⟨⟨_, rfl, objMap (fun _ => rfl) _⟩, ⟨_, rfl, objOne ⟨⟨rfl, .keep rfl⟩, ⟨rfl, .keep rfl⟩, trivial⟩⟩, ⟨_, rfl, objOne ⟨⟨rfl, .keep rfl⟩, trivial⟩⟩, ⟨_, rfl, objOne ⟨⟨rfl, .keep rfl⟩, trivial⟩⟩, trivial⟩)
                · replace h := ite_F p925 h
                  refine awp_skip ?_
                  refine nx_block ?_
                  refine nx_then ?_
                  refine awp_rw ?_
                  refine ro rfl rfl (st_inc rfl rfl hj881 hl881) ?_
                  refine ro rfl rfl (st_mv rfl) ?_
                  refine rw_nil ?_
                  refine nx_then ?_
                  refine awp_gh ?_ (ih880 () () h)
                  exact (gh_frz rfl rfl ⟨⟨_, rfl, .keep rfl⟩, ⟨_, rfl, .keep rfl⟩, ⟨_, rfl, .keep rfl⟩, ⟨_, rfl, .keep rfl⟩, trivial⟩ ⟨⟨_, rfl, objMap (fun _ => rfl) _⟩, ⟨_, rfl, objOne ⟨⟨rfl, .keep rfl⟩, ⟨rfl, .keep rfl⟩, trivial⟩⟩, ⟨_, rfl, objOne ⟨⟨rfl, .keep rfl⟩, trivial⟩⟩, ⟨_, rfl, objOne ⟨⟨rfl, .keep rfl⟩, trivial⟩⟩, trivial⟩)
              · clear h
                intro k924 h J924
                refine ri (N := 15) (rs := [.tmp 4]) rfl rfl rfl rfl Try.func90 rfl rfl rfl (by kernel_rfl) rfl (fun _B => ?_)
                refine awp_rs ?_
                refine ro rfl rfl (st_as rfl) ?_
                refine rw_nilk ?_
                refine awp_seq ?_
                refine awp_rs ?_
                refine ro rfl rfl (st_mv rfl) ?_
                refine ro rfl rfl (st_bin (v := dB (decide (x882 < (0 : Int)))) rfl rfl rfl) ?_
                refine rw_nilk ?_
                refine awp_ite (b := (decide (x882 < (0 : Int)))) rfl (fun p926 => ?_) (fun p926 => ?_)
                · replace h := ite_T p926 h
                  refine awp_rs ?_
                  refine ro rfl rfl (st_mv rfl) ?_
                  refine ro rfl rfl (st_mv rfl) ?_
                  refine ro rfl rfl (st_un (v := dI .i64 (IntKind.wrap .i64 (0 - x882))) rfl rfl) ?_
                  refine ro rfl rfl (st_look (vf := (fun (b : Bool) => dB b)) (z := false) (xs := m0) un77 un3 za4 rfl rfl rfl) ?_
                  refine ro rfl rfl (st_un (v := dB (!((mget m0 (IntKind.wrap .i64 (0 - x882))).getD false))) rfl rfl) ?_
                  refine ro rfl rfl (st_as rfl) ?_
                  refine rw_nilk ?_
                  refine awp_ret ?_
                  refine rt_then ?_
                  refine ret_in (v := dB (!((mget m0 (IntKind.wrap .i64 (0 - x882))).getD false))) (resV_one (resVs_tmp rfl resVs_nil)) ?_
                  exact J924 (!((mget m0 (IntKind.wrap .i64 (0 - x882))).getD false)) () _ _ h (gh_frz rfl rfl ⟨⟨_, rfl, .keep rfl⟩, ⟨_, rfl, .keep rfl⟩, ⟨_, rfl, .keep rfl⟩, ⟨_, rfl, .keep rfl⟩, ⟨_, rfl, .keep rfl⟩, ⟨_, rfl, .keep rfl⟩, trivial⟩ ⟨⟨_, rfl, objMap (fun _ => rfl) _⟩, ⟨_, rfl, objOne ⟨⟨rfl, .keep rfl⟩, ⟨rfl, .keep rfl⟩, trivial⟩⟩, ⟨_, rfl, objOne ⟨⟨rfl, .keep rfl⟩, trivial⟩⟩, ⟨_, rfl, objOne ⟨⟨rfl, .keep rfl⟩, trivial⟩⟩, trivial⟩)
                · replace h := ite_F p926 h
                  refine awp_skip ?_
                  refine nx_then ?_
                  refine awp_rs ?_
                  refine ro rfl rfl (st_mv rfl) ?_
                  refine ro rfl rfl (st_mv rfl) ?_
                  refine ro rfl rfl (st_look (vf := (fun (b : Bool) => dB b)) (z := false) (xs := m0) un77 un3 za4 rfl rfl rfl) ?_
                  refine ro rfl rfl (st_as rfl) ?_
                  refine rw_nilk ?_
                  refine awp_ret ?_
                  refine ret_in (v := dB ((mget m0 x882).getD false)) (resV_one (resVs_tmp rfl resVs_nil)) ?_
                  exact J924 ((mget m0 x882).getD false) () _ _ h (gh_frz rfl rfl ⟨⟨_, rfl, .keep rfl⟩, ⟨_, rfl, .keep rfl⟩, ⟨_, rfl, .keep rfl⟩, ⟨_, rfl, .keep rfl⟩, ⟨_, rfl, .keep rfl⟩, ⟨_, rfl, .keep rfl⟩, trivial⟩ ⟨⟨_, rfl, objMap (fun _ => rfl) _⟩, ⟨_, rfl, objOne ⟨⟨rfl, .keep rfl⟩, ⟨rfl, .keep rfl⟩, trivial⟩⟩, ⟨_, rfl, objOne ⟨⟨rfl, .keep rfl⟩, trivial⟩⟩, ⟨_, rfl, objOne ⟨⟨rfl, .keep rfl⟩, trivial⟩⟩, trivial⟩)
            · clear h
              intro s878 g879 h
              refine awp_rs ?_
              refine ro rfl rfl (st_bin (v := dB (decide (((x520.length : Nat) : Int) < ((x520.length : Nat) : Int)))) rfl rfl rfl) ?_
              refine rw_nilk ?_
              refine awp_seq ?_
              refine awp_ifF rfl dge ?_
              refine awp_exit ?_
              refine ex_out ?_
              refine ex_out ?_
              refine ex_in ?_
              refine nx_then ?_
              refine awp_rs ?_
              refine ro rfl rfl (st_as rfl) ?_
              refine rw_nilk ?_
              refine awp_ret ?_
              refine ret_in (v := dI .i64 (-1 : Int)) (resV_one (resVs_tmp rfl resVs_nil)) ?_
              exact J876 (-1 : Int) () _ _ h (gh_frz rfl rfl ⟨⟨_, rfl, .keep rfl⟩, trivial⟩ ⟨⟨_, rfl, objMap (fun _ => rfl) _⟩, ⟨_, rfl, objOne ⟨⟨rfl, .keep rfl⟩, ⟨rfl, .keep rfl⟩, trivial⟩⟩, ⟨_, rfl, objOne ⟨⟨rfl, .keep rfl⟩, trivial⟩⟩, ⟨_, rfl, objOne ⟨⟨rfl, .keep rfl⟩, trivial⟩⟩, trivial⟩)
        · clear h
          intro s516 g517 h
          refine awp_rs ?_
          refine ro rfl rfl (st_bin (v := dB (decide (((p1.length : Nat) : Int) < ((p1.length : Nat) : Int)))) rfl rfl rfl) ?_
          refine rw_nilk ?_
          refine awp_seq ?_
          refine awp_ifF rfl dge ?_
          refine awp_exit ?_
          refine ex_out ?_
          refine ex_out ?_
          refine ex_in ?_
          refine nx_then ?_
          refine awp_rs ?_
          refine ro rfl rfl (st_as rfl) ?_
          refine rw_nilk ?_
          refine awp_ret ?_
          refine ret_in (v := dB true) (resV_one (resVs_tmp rfl resVs_nil)) ?_
          exact J515 true () _ _ h (gh_frz rfl rfl ⟨⟨_, rfl, .keep rfl⟩, trivial⟩ ⟨⟨_, rfl, objMap (fun _ => rfl) _⟩, ⟨_, rfl, objOne ⟨⟨rfl, .keep rfl⟩, ⟨rfl, .keep rfl⟩, trivial⟩⟩, ⟨_, rfl, objOne ⟨⟨rfl, .keep rfl⟩, trivial⟩⟩, ⟨_, rfl, objOne ⟨⟨rfl, .keep rfl⟩, trivial⟩⟩, trivial⟩)
    · replace h := ite_F p101 h
      refine awp_skip ?_
      refine nx_then ?_
      refine awp_rs ?_
      refine ro rfl rfl (st_faP fo73_0 rfl) ?_
      refine ro rfl rfl (st_ldP (v := dL 2 e_S_truth_turn p0) ta71 rfl rfl rfl rfl) ?_
      refine ro rfl rfl (st_mv rfl) ?_
      obtain ⟨x927, h0927, hx927, h⟩ := getI_some h
      refine ro rfl rfl (st_ixD sl71 rfl rfl h0927 hx927) ?_
      refine ro rfl rfl (st_ldD (v := .agg [dI .i64 x927.v, dB x927.f_exists]) ta95 rfl rfl) ?_
      refine rn (r := 1006) rfl rfl (st_alloc zc95 rfl rfl) rfl ?_
      refine rx (L' := [(1002, mapO .i64 (fun (b : Bool) => dB b) m0), (1003, .row 0 73 [[dL 2 e_S_truth_turn p0, dL 1 (eL 1 (eI .i64)) p1]]), (1004, .row 0 77 [[.map 1002]]), (1005, .row 0 84 [[.fn 68 [] [.ptr 1003 0 0 0, .ptr 1004 0 0 0, .ptr 1005 0 0 0]]]), (1006, .row 0 95 [[dI .i64 x927.v, dB x927.f_exists]])]) rfl rfl (st_stP ta95 rfl rfl rfl rfl rfl rfl rfl rfl) rfl ?_
      refine rw_nilk ?_
      refine awp_rs ?_
      refine ro rfl rfl (st_ldP (v := .map 1002) ta77 rfl rfl rfl rfl) ?_
      refine ro rfl rfl (st_faP fo95_0 rfl) ?_
      refine ro rfl rfl (st_ldP (v := dI .i64 x927.v) ta3 rfl rfl rfl rfl) ?_
      refine rx (L' := [(1002, mapO .i64 (fun (b : Bool) => dB b) (mset m0 x927.v false)), (1003, .row 0 73 [[dL 2 e_S_truth_turn p0, dL 1 (eL 1 (eI .i64)) p1]]), (1004, .row 0 77 [[.map 1002]]), (1005, .row 0 84 [[.fn 68 [] [.ptr 1003 0 0 0, .ptr 1004 0 0 0, .ptr 1005 0 0 0]]]), (1006, .row 0 95 [[dI .i64 x927.v, dB x927.f_exists]])]) rfl rfl (st_mapUp (vf := (fun (b : Bool) => dB b)) (b := false) (xs := m0) un77 un3 rfl rfl rfl rfl) rfl ?_
      refine rw_nilk ?_
      refine awp_seq ?_
      refine awp_rds hmix ?_
      refine do_ rfl rfl (st_ldP (v := .fn 68 [] [.ptr 1003 0 0 0, .ptr 1004 0 0 0, .ptr 1005 0 0 0]) ta84 rfl rfl rfl rfl) rfl rfl rfl ?_
      refine do_ rfl rfl (st_mv rfl) rfl rfl rfl ?_
      refine do_ rfl rfl (st_bin (v := dI .i64 (IntKind.wrap .i64 (b0 + (1 : Int)))) rfl rfl rfl) rfl rfl rfl ?_
      obtain ⟨y932, hy932, h⟩ := bind_some_elim h
      refine dcall (v := dB y932.1) (L0 := [(1002, mapO .i64 (fun (b : Bool) => dB b) (mset m0 x927.v false)), (1003, .row 0 73 [[dL 2 e_S_truth_turn p0, dL 1 (eL 1 (eI .i64)) p1]]), (1004, .row 0 77 [[.map 1002]]), (1005, .row 0 84 [[.fn 68 [] [.ptr 1003 0 0 0, .ptr 1004 0 0 0, .ptr 1005 0 0 0]]])]) (L1 := [(1002, mapO .i64 (fun (b : Bool) => dB b) y932.2), (1003, .row 0 73 [[dL 2 e_S_truth_turn p0, dL 1 (eL 1 (eI .i64)) p1]]), (1004, .row 0 77 [[.map 1002]]), (1005, .row 0 84 [[.fn 68 [] [.ptr 1003 0 0 0, .ptr 1004 0 0 0, .ptr 1005 0 0 0]]])]) (L' := [(1002, mapO .i64 (fun (b : Bool) => dB b) y932.2), (1003, .row 0 73 [[dL 2 e_S_truth_turn p0, dL 1 (eL 1 (eI .i64)) p1]]), (1004, .row 0 77 [[.map 1002]]), (1005, .row 0 84 [[.fn 68 [] [.ptr 1003 0 0 0, .ptr 1004 0 0 0, .ptr 1005 0 0 0]]]), (1006, .row 0 95 [[dI .i64 x927.v, dB x927.f_exists]])]) rfl rfl rfl rfl (ih hy932) ⟨rfl, rfl, rfl, rfl, trivial⟩ rfl ⟨closM (fun _ => rfl), rfl, rfl, rfl, trivial⟩ rfl rfl ?_
      refine do_ rfl rfl (st_faP fo95_1 rfl) rfl rfl rfl ?_
      refine do_ rfl rfl (st_ldP (v := dB x927.f_exists) ta4 rfl rfl rfl rfl) rfl rfl rfl ?_
      refine do_ rfl rfl (st_binB (v := dB (y932.1 == x927.f_exists)) rfl rfl un4 rfl) rfl rfl rfl ?_
      refine rd_nil (by kernel_rfl) ?_
      refine awp_ite (b := (y932.1 == x927.f_exists)) rfl (fun p933 => ?_) (fun p933 => ?_)
      · replace h := ite_T p933 h
        refine awp_rs ?_
        refine ro rfl rfl (st_faP fo95_1 rfl) ?_
        refine ro rfl rfl (st_ldP (v := dB x927.f_exists) ta4 rfl rfl rfl rfl) ?_
        refine ro rfl rfl (st_as rfl) ?_
        refine rw_nilk ?_
        refine awp_ret ?_
        refine rt_then ?_
        injection h with h
        subst h
        exact retM (v := dB x927.f_exists) (resV_one (resVs_tmp rfl resVs_nil)) rfl (.keep rfl) ⟨⟨_, rfl, objMap (fun _ => rfl) _⟩, ⟨_, rfl, objOne ⟨⟨rfl, .keep rfl⟩, ⟨rfl, .keep rfl⟩, trivial⟩⟩, ⟨_, rfl, objOne ⟨⟨rfl, .keep rfl⟩, trivial⟩⟩, ⟨_, rfl, objOne ⟨⟨rfl, .keep rfl⟩, trivial⟩⟩, trivial⟩
      · replace h := ite_F p933 h
        refine awp_skip ?_
        refine nx_then ?_
        refine awp_rs ?_
        refine ro rfl rfl (st_ldP (v := .map 1002) ta77 rfl rfl rfl rfl) ?_
        refine ro rfl rfl (st_faP fo95_0 rfl) ?_
        refine ro rfl rfl (st_ldP (v := dI .i64 x927.v) ta3 rfl rfl rfl rfl) ?_
        refine rx (L' := [(1002, mapO .i64 (fun (b : Bool) => dB b) (mset y932.2 x927.v true)), (1003, .row 0 73 [[dL 2 e_S_truth_turn p0, dL 1 (eL 1 (eI .i64)) p1]]), (1004, .row 0 77 [[.map 1002]]), (1005, .row 0 84 [[.fn 68 [] [.ptr 1003 0 0 0, .ptr 1004 0 0 0, .ptr 1005 0 0 0]]]), (1006, .row 0 95 [[dI .i64 x927.v, dB x927.f_exists]])]) rfl rfl (st_mapUp (vf := (fun (b : Bool) => dB b)) (b := true) (xs := y932.2) un77 un3 rfl rfl rfl rfl) rfl ?_
        refine rw_nilk ?_
        refine awp_rs ?_
        refine ro rfl rfl (st_ldP (v := .fn 68 [] [.ptr 1003 0 0 0, .ptr 1004 0 0 0, .ptr 1005 0 0 0]) ta84 rfl rfl rfl rfl) ?_
        refine ro rfl rfl (st_mv rfl) ?_
        refine ro rfl rfl (st_bin (v := dI .i64 (IntKind.wrap .i64 (b0 + (1 : Int)))) rfl rfl rfl) ?_
        obtain ⟨y935, hy935, h⟩ := bind_some_elim h
        refine rcall (v := dB y935.1) (L0 := [(1002, mapO .i64 (fun (b : Bool) => dB b) (mset y932.2 x927.v true)), (1003, .row 0 73 [[dL 2 e_S_truth_turn p0, dL 1 (eL 1 (eI .i64)) p1]]), (1004, .row 0 77 [[.map 1002]]), (1005, .row 0 84 [[.fn 68 [] [.ptr 1003 0 0 0, .ptr 1004 0 0 0, .ptr 1005 0 0 0]]])]) (L1 := [(1002, mapO .i64 (fun (b : Bool) => dB b) y935.2), (1003, .row 0 73 [[dL 2 e_S_truth_turn p0, dL 1 (eL 1 (eI .i64)) p1]]), (1004, .row 0 77 [[.map 1002]]), (1005, .row 0 84 [[.fn 68 [] [.ptr 1003 0 0 0, .ptr 1004 0 0 0, .ptr 1005 0 0 0]]])]) (L' := [(1002, mapO .i64 (fun (b : Bool) => dB b) y935.2), (1003, .row 0 73 [[dL 2 e_S_truth_turn p0, dL 1 (eL 1 (eI .i64)) p1]]), (1004, .row 0 77 [[.map 1002]]), (1005, .row 0 84 [[.fn 68 [] [.ptr 1003 0 0 0, .ptr 1004 0 0 0, .ptr 1005 0 0 0]]]), (1006, .row 0 95 [[dI .i64 x927.v, dB x927.f_exists]])]) rfl rfl rfl rfl (ih hy935) ⟨rfl, rfl, rfl, rfl, trivial⟩ rfl ⟨closM (fun _ => rfl), rfl, rfl, rfl, trivial⟩ rfl rfl ?_
        refine ro rfl rfl (st_as rfl) ?_
        refine rw_nilk ?_
        refine awp_ret ?_
        injection h with h
        subst h
        exact retM (v := dB y935.1) (resV_one (resVs_tmp rfl resVs_nil)) rfl (.keep rfl) ⟨⟨_, rfl, objMap (fun _ => rfl) _⟩, ⟨_, rfl, objOne ⟨⟨rfl, .keep rfl⟩, ⟨rfl, .keep rfl⟩, trivial⟩⟩, ⟨_, rfl, objOne ⟨⟨rfl, .keep rfl⟩, trivial⟩⟩, ⟨_, rfl, objOne ⟨⟨rfl, .keep rfl⟩, trivial⟩⟩, trivial⟩

theorem ok_truth_Qbf {a0 : S_api_Qbf} {r : (Int × Int)} (h : F_truth_Qbf a0 = some r) : Fn Try.prog 11 [.agg [dL 2 e_S_api_Block a0.Prefix, dL 1 (eL 1 (eI .i64)) a0.Clauses]] (.tup [dI .u8 r.1, dI .i64 r.2]) := by
  unfold F_truth_Qbf at h
  refine Fn.of_body (N := 15) (rs := [.tmp 2, .tmp 3]) Try.func11 (c := _) rfl rfl rfl (by kernel_rfl) (Nat.le_of_ble_eq_true rfl) (fun _B => ?_)
  refine awp_rs ?_
  refine rn (r := 1001) rfl rfl (st_box rfl rfl rfl co25 rfl rfl) rfl ?_
  refine ro rfl rfl (st_as rfl) ?_
  refine ro rfl rfl (st_as rfl) ?_
  refine rw_nilk ?_
  refine awp_seq ?_
  refine awp_rs ?_
  refine ro rfl rfl (st_ldP (v := .agg [dL 2 e_S_api_Block a0.Prefix, dL 1 (eL 1 (eI .i64)) a0.Clauses]) ta25 rfl rfl rfl rfl) ?_
  obtain ⟨y101, hy101, h⟩ := bind_some_elim h
  refine rf rfl rfl (ok_truth_small hy101) rfl rfl ?_
  refine ro rfl rfl (st_as rfl) ?_
  refine rw_nilk ?_
  refine awp_rs ?_
  refine ro rfl rfl (st_mv rfl) ?_
  refine ro rfl rfl (st_bin (v := dB (y101 != (0 : Int))) rfl rfl rfl) ?_
  refine rw_nilk ?_
  refine awp_ite (b := (y101 != (0 : Int))) rfl (fun p102 => ?_) (fun p102 => ?_)
  · replace h := ite_T p102 h
    refine awp_rs ?_
    refine ro rfl rfl (st_mv rfl) ?_
    refine ro rfl rfl (st_as rfl) ?_
    refine ro rfl rfl (st_as rfl) ?_
    refine rw_nilk ?_
    refine awp_ret ?_
    refine rt_then ?_
    injection h with h
    subst h
    exact ret_out (v := .tup [dI .u8 (0 : Int), dI .i64 y101]) (resV_many (resVs_tmp rfl (resVs_tmp rfl resVs_nil))) (.keep rfl)
  · replace h := ite_F p102 h
    refine awp_skip ?_
    refine nx_then ?_
    refine awp_rs ?_
    refine ro rfl rfl (st_ldP (v := .agg [dL 2 e_S_api_Block a0.Prefix, dL 1 (eL 1 (eI .i64)) a0.Clauses]) ta25 rfl rfl rfl rfl) ?_
    obtain ⟨y103, hy103, h⟩ := bind_some_elim h
    refine rf rfl rfl (ok_truth_of hy103) rfl rfl ?_
    refine rn (r := 1002) (L' := [(1001, .row 0 25 [[dL 2 e_S_api_Block a0.Prefix, dL 1 (eL 1 (eI .i64)) a0.Clauses]]), (1002, mapO .i64 (fun (b : Bool) => dB b) ([] : List (Int × Bool)))]) rfl rfl (st_mkM rfl) rfl ?_
    refine ri (N := 12) (rs := [.tmp 6]) rfl rfl rfl rfl Try.func33 rfl rfl rfl (by kernel_rfl) rfl (fun _B => ?_)
    refine awp_rs ?_
    refine rn (r := 1003) rfl rfl (st_box rfl rfl rfl co73 rfl rfl) rfl ?_
    refine rn (r := 1004) rfl rfl (st_box rfl rfl rfl co77 rfl rfl) rfl ?_
    refine ro rfl rfl (st_as rfl) ?_
    refine rw_nilk ?_
    refine awp_rs ?_
    refine rn (r := 1005) rfl rfl (st_alloc zc84 rfl rfl) rfl ?_
    refine rw_nilk ?_
    refine awp_rs ?_
    refine ro rfl rfl (st_fn rfl rfl) ?_
    refine rx (L' := [(1001, .row 0 25 [[dL 2 e_S_api_Block a0.Prefix, dL 1 (eL 1 (eI .i64)) a0.Clauses]]), (1002, mapO .i64 (fun (b : Bool) => dB b) ([] : List (Int × Bool))), (1003, .row 0 73 [[dL 2 e_S_truth_turn y103.turns, dL 1 (eL 1 (eI .i64)) y103.clauses]]), (1004, .row 0 77 [[.map 1002]]), (1005, .row 0 84 [[.fn 68 [] [.ptr 1003 0 0 0, .ptr 1004 0 0 0, .ptr 1005 0 0 0]]])]) rfl rfl (st_stP ta84 rfl rfl rfl rfl rfl rfl rfl rfl) rfl ?_
    refine rw_nilk ?_
    refine awp_rs ?_
    refine ro rfl rfl (st_ldP (v := .fn 68 [] [.ptr 1003 0 0 0, .ptr 1004 0 0 0, .ptr 1005 0 0 0]) ta84 rfl rfl rfl rfl) ?_
    refine ro rfl rfl (st_mv rfl) ?_
    obtain ⟨y107, hy107, h⟩ := bind_some_elim h
    refine rcall (v := dB y107.1) (L0 := [(1002, mapO .i64 (fun (b : Bool) => dB b) ([] : List (Int × Bool))), (1003, .row 0 73 [[dL 2 e_S_truth_turn y103.turns, dL 1 (eL 1 (eI .i64)) y103.clauses]]), (1004, .row 0 77 [[.map 1002]]), (1005, .row 0 84 [[.fn 68 [] [.ptr 1003 0 0 0, .ptr 1004 0 0 0, .ptr 1005 0 0 0]]])]) (L1 := [(1002, mapO .i64 (fun (b : Bool) => dB b) y107.2), (1003, .row 0 73 [[dL 2 e_S_truth_turn y103.turns, dL 1 (eL 1 (eI .i64)) y103.clauses]]), (1004, .row 0 77 [[.map 1002]]), (1005, .row 0 84 [[.fn 68 [] [.ptr 1003 0 0 0, .ptr 1004 0 0 0, .ptr 1005 0 0 0]]])]) (L' := [(1001, .row 0 25 [[dL 2 e_S_api_Block a0.Prefix, dL 1 (eL 1 (eI .i64)) a0.Clauses]]), (1002, mapO .i64 (fun (b : Bool) => dB b) y107.2), (1003, .row 0 73 [[dL 2 e_S_truth_turn y103.turns, dL 1 (eL 1 (eI .i64)) y103.clauses]]), (1004, .row 0 77 [[.map 1002]]), (1005, .row 0 84 [[.fn 68 [] [.ptr 1003 0 0 0, .ptr 1004 0 0 0, .ptr 1005 0 0 0]]])]) rfl rfl rfl rfl (oc_truth_game_left_c1 1000000 hy107) ⟨rfl, rfl, rfl, rfl, trivial⟩ rfl ⟨closM (fun _ => rfl), rfl, rfl, rfl, trivial⟩ rfl rfl ?_
    refine ro rfl rfl (st_as rfl) ?_
    refine rw_nilk ?_
    refine awp_ret ?_
    refine ret_in (v := dB y107.1) (resV_one (resVs_tmp rfl resVs_nil)) ?_
    show RW _ _ _ _ _ _ _
    obtain ⟨y108, hy108, h⟩ := bind_some_elim h
    refine rf rfl rfl (ok_truth_value hy108) rfl rfl ?_
    refine ro rfl rfl (st_as rfl) ?_
    refine ro rfl rfl (st_as rfl) ?_
    refine rw_nilk ?_
    refine awp_ret ?_
    injection h with h
    subst h
    exact ret_out (v := .tup [dI .u8 y108, dI .i64 (0 : Int)]) (resV_many (resVs_tmp rfl (resVs_tmp rfl resVs_nil))) (.keep rfl)

theorem ok_skolemref03_Ints {a0 : (List Int)} {a1 : (List Int)} {r : Bool} (h : F_skolemref03_Ints a0 a1 = some r) : Fn Try.prog 44 [dL 1 (eI .i64) a0, dL 1 (eI .i64) a1] (dB r) := by
  unfold F_skolemref03_Ints at h
  refine Fn.of_body (N := 26) (rs := [.tmp 4]) Try.func44 (c := _) rfl rfl rfl (by kernel_rfl) (Nat.le_of_ble_eq_true rfl) (fun _B => ?_)
  refine awp_rs ?_
  refine ro rfl rfl (st_as rfl) ?_
  refine rw_nilk ?_
  refine awp_seq ?_
  refine awp_rs ?_
  refine ro rfl rfl (st_mv rfl) ?_
  refine ro rfl rfl (st_lenD rfl un34) ?_
  refine ro rfl rfl (st_mv rfl) ?_
  refine ro rfl rfl (st_lenD rfl un34) ?_
  refine ro rfl rfl (st_bin (v := dB (((a0.length : Nat) : Int) != ((a1.length : Nat) : Int))) rfl rfl rfl) ?_
  refine rw_nilk ?_
  refine awp_ite (b := (((a0.length : Nat) : Int) != ((a1.length : Nat) : Int))) rfl (fun p101 => ?_) (fun p101 => ?_)
  · replace h := ite_T p101 h
    refine awp_rs ?_
    refine ro rfl rfl (st_as rfl) ?_
    refine rw_nilk ?_
    refine awp_ret ?_
    refine rt_then ?_
    injection h with h
    subst h
    exact ret_out (v := dB false) (resV_one (resVs_tmp rfl resVs_nil)) (.keep rfl)
  · replace h := ite_F p101 h
    refine awp_skip ?_
    refine nx_then ?_
    refine awp_seq ?_
    refine awp_rs ?_
    refine ro rfl rfl (st_as rfl) ?_
    refine rw_nilk ?_
    refine awp_block ?_
    refine awp_len (t := 0) rfl (fun hl105 => ?_)
    rw [List.length_map] at hl105
    refine awp_range (fun (j105 : Nat) (s102 : Unit) (g103 : Unit) => [(0, dL 1 (eI .i64) a0), (1, dL 1 (eI .i64) a1), (5, dI .i64 ((j105 : Nat) : Int))]) (fun (s102 : Unit) (g103 : Unit) => []) () (fun _ _ _ h => h) h (gh_frz rfl rfl ⟨⟨_, rfl, .keep rfl⟩, ⟨_, rfl, .keep rfl⟩, ⟨_, rfl, .keep rfl⟩, trivial⟩ trivial) ?_ ?_
    · clear h
      intro j105 x106 s102 g103 k104 hj105 hx105 h ih104
      refine awp_seq ?_
      refine awp_rs ?_
      refine ro rfl rfl (st_mv rfl) ?_
      refine ro rfl rfl (st_mv rfl) ?_
      refine ro rfl rfl (st_lenD rfl un34) ?_
      refine ro rfl rfl (st_bin (v := dB (decide (((j105 : Nat) : Int) < ((a0.length : Nat) : Int)))) rfl rfl rfl) ?_
      refine rw_nilk ?_
      refine awp_ifT rfl (dlt hj105) ?_
      refine awp_skip ?_
      refine nx_then ?_
      refine awp_seq ?_
      refine awp_block ?_
      refine awp_rds hmix ?_
      refine do_ rfl rfl (st_mv rfl) rfl rfl rfl ?_
      refine do_ rfl rfl (st_mv rfl) rfl rfl rfl ?_
      refine do_ rfl rfl (st_ixDn sl34 rfl rfl hx105) rfl rfl rfl ?_
      refine do_ rfl rfl (st_ldD (v := dI .i64 x106) ta3 rfl rfl) rfl rfl rfl ?_
      refine do_ rfl rfl (st_mv rfl) rfl rfl rfl ?_
      refine do_ rfl rfl (st_mv rfl) rfl rfl rfl ?_
      obtain ⟨x109, h0109, hx109, h⟩ := getI_some h
      refine do_ rfl rfl (st_ixD sl34 rfl rfl h0109 hx109) rfl rfl rfl ?_
      refine do_ rfl rfl (st_ldD (v := dI .i64 x109) ta3 rfl rfl) rfl rfl rfl ?_
      refine do_ rfl rfl (st_bin (v := dB (x106 != x109)) rfl rfl rfl) rfl rfl rfl ?_
      refine rd_nil (by kernel_rfl) ?_
      refine awp_ite (b := (x106 != x109)) rfl (fun p110 => ?_) (fun p110 => ?_)
      · replace h := ite_T p110 h
        refine awp_rs ?_
        refine ro rfl rfl (st_as rfl) ?_
        refine rw_nilk ?_
        refine awp_ret ?_
        refine rt_block ?_
        refine rt_then ?_
        refine rt_then ?_
        refine rt_block ?_
        refine rt_then ?_
        injection h with h
        subst h
        exact ret_out (v := dB false) (resV_one (resVs_tmp rfl resVs_nil)) (.keep rfl)
      · replace h := ite_F p110 h
        refine awp_skip ?_
        refine nx_block ?_
        refine nx_then ?_
        refine awp_rw ?_
        refine ro rfl rfl (st_mv rfl) ?_
        refine ro rfl rfl (st_inc rfl rfl hj105 hl105) ?_
        refine ro rfl rfl (st_as rfl) ?_
        refine rw_nil ?_
        refine nx_then ?_
        refine awp_gh ?_ (ih104 () () h)
        exact (gh_frz rfl rfl ⟨⟨_, rfl, .keep rfl⟩, ⟨_, rfl, .keep rfl⟩, ⟨_, rfl, .keep rfl⟩, trivial⟩ trivial)
    · clear h
      intro s102 g103 h
      refine awp_seq ?_
      refine awp_rs ?_
      refine ro rfl rfl (st_mv rfl) ?_
      refine ro rfl rfl (st_mv rfl) ?_
      refine ro rfl rfl (st_lenD rfl un34) ?_
      refine ro rfl rfl (st_bin (v := dB (decide (((a0.length : Nat) : Int) < ((a0.length : Nat) : Int)))) rfl rfl rfl) ?_
      refine rw_nilk ?_
      refine awp_ifF rfl dge ?_
      refine awp_exit ?_
      refine ex_out ?_
      refine ex_out ?_
      refine ex_in ?_
      refine nx_then ?_
      refine awp_rs ?_
      refine ro rfl rfl (st_as rfl) ?_
      refine rw_nilk ?_
      refine awp_ret ?_
      injection h with h
      subst h
      exact ret_out (v := dB true) (resV_one (resVs_tmp rfl resVs_nil)) (.keep rfl)

theorem ok_skolemref04_SameTables {a0 : (List S_api_Table)} {a1 : (List S_api_Table)} {r : Bool} (h : F_skolemref04_SameTables a0 a1 = some r) : Fn Try.prog 18 [dL 3 e_S_api_Table a0, dL 3 e_S_api_Table a1] (dB r) := by
  unfold F_skolemref04_SameTables at h
  refine Fn.of_body (N := 85) (rs := [.tmp 4]) Try.func18 (c := _) rfl rfl rfl (by kernel_rfl) (Nat.le_of_ble_eq_true rfl) (fun _B => ?_)
  refine awp_rs ?_
  refine ro rfl rfl (st_as rfl) ?_
  refine rw_nilk ?_
  refine awp_seq ?_
  refine awp_rs ?_
  refine ro rfl rfl (st_mv rfl) ?_
  refine ro rfl rfl (st_lenD rfl un41) ?_
  refine ro rfl rfl (st_mv rfl) ?_
  refine ro rfl rfl (st_lenD rfl un41) ?_
  refine ro rfl rfl (st_bin (v := dB (((a0.length : Nat) : Int) != ((a1.length : Nat) : Int))) rfl rfl rfl) ?_
  refine rw_nilk ?_
  refine awp_ite (b := (((a0.length : Nat) : Int) != ((a1.length : Nat) : Int))) rfl (fun p101 => ?_) (fun p101 => ?_)
  · replace h := ite_T p101 h
    refine awp_rs ?_
    refine ro rfl rfl (st_as rfl) ?_
    refine rw_nilk ?_
    refine awp_ret ?_
    refine rt_then ?_
    injection h with h
    subst h
    exact ret_out (v := dB false) (resV_one (resVs_tmp rfl resVs_nil)) (.keep rfl)
  · replace h := ite_F p101 h
    refine awp_skip ?_
    refine nx_then ?_
    refine awp_seq ?_
    refine awp_rs ?_
    refine ro rfl rfl (st_as rfl) ?_
    refine rw_nilk ?_
    refine awp_block ?_
    refine awp_len (t := 0) rfl (fun hl105 => ?_)
    rw [List.length_map] at hl105
    refine awp_range (fun (j105 : Nat) (s102 : Unit) (g103 : Unit) => [(0, dL 3 e_S_api_Table a0), (1, dL 3 e_S_api_Table a1), (5, dI .i64 ((j105 : Nat) : Int))]) (fun (s102 : Unit) (g103 : Unit) => []) () (fun _ _ _ h => h) h (gh_frz rfl rfl ⟨⟨_, rfl, .keep rfl⟩, ⟨_, rfl, .keep rfl⟩, ⟨_, rfl, .keep rfl⟩, trivial⟩ trivial) ?_ ?_
    · clear h
      intro j105 x106 s102 g103 k104 hj105 hx105 h ih104
      refine awp_seq ?_
      refine awp_rs ?_
      refine ro rfl rfl (st_mv rfl) ?_
      refine ro rfl rfl (st_mv rfl) ?_
      refine ro rfl rfl (st_lenD rfl un41) ?_
      refine ro rfl rfl (st_bin (v := dB (decide (((j105 : Nat) : Int) < ((a0.length : Nat) : Int)))) rfl rfl rfl) ?_
      refine rw_nilk ?_
      refine awp_ifT rfl (dlt hj105) ?_
      refine awp_skip ?_
      refine nx_then ?_
      refine awp_jn (fun (s272 : Unit) (g273 : Unit) => [(0, dL 3 e_S_api_Table a0), (1, dL 3 e_S_api_Table a1), (5, dI .i64 ((j105 : Nat) : Int))]) (fun (s272 : Unit) (g273 : Unit) => []) h ?_ ?_
      · clear h
        intro s272 g273 h
        refine awp_rw ?_
        refine ro rfl rfl (st_mv rfl) ?_
        refine ro rfl rfl (st_inc rfl rfl hj105 hl105) ?_
        refine ro rfl rfl (st_as rfl) ?_
        refine rw_nil ?_
        refine nx_then ?_
        refine awp_gh ?_ (ih104 () () h)
        exact (gh_frz rfl rfl ⟨⟨_, rfl, .keep rfl⟩, ⟨_, rfl, .keep rfl⟩, ⟨_, rfl, .keep rfl⟩, trivial⟩ trivial)
      · clear h
        intro k274 h J274
        refine awp_block ?_
        refine awp_seq ?_
        refine awp_jn (fun (s297 : Bool) (g298 : Unit) => [(0, dL 3 e_S_api_Table a0), (1, dL 3 e_S_api_Table a1), (5, dI .i64 ((j105 : Nat) : Int)), (57, dB s297)]) (fun (s297 : Bool) (g298 : Unit) => []) h ?_ ?_
        · clear h
          intro s297 g298 h
          refine awp_ite (b := s297) rfl (fun p300 => ?_) (fun p300 => ?_)
          · replace h := ite_T p300 h
            refine awp_rs ?_
            refine ro rfl rfl (st_as rfl) ?_
            refine rw_nilk ?_
            refine awp_ret ?_
            refine rt_then ?_
            refine rt_block ?_
            refine rt_then ?_
            refine rt_then ?_
            refine rt_block ?_
            refine rt_then ?_
            injection h with h
            subst h
            exact ret_out (v := dB false) (resV_one (resVs_tmp rfl resVs_nil)) (.keep rfl)
          · replace h := ite_F p300 h
            refine awp_skip ?_
            refine nx_then ?_
            refine awp_rs ?_
            refine ro rfl rfl (st_as rfl) ?_
            refine rw_nilk ?_
            refine awp_block ?_
            refine awp_while (fun (s301 : Int) (g302 : Unit) => [(0, dL 3 e_S_api_Table a0), (1, dL 3 e_S_api_Table a1), (5, dI .i64 ((j105 : Nat) : Int)), (6, dI .i64 s301)]) (fun (s301 : Int) (g302 : Unit) => []) () (fun _ _ _ h => h) h (gh_frz rfl rfl ⟨⟨_, rfl, .keep rfl⟩, ⟨_, rfl, .keep rfl⟩, ⟨_, rfl, .keep rfl⟩, ⟨_, rfl, .keep rfl⟩, trivial⟩ trivial) ?_
            clear h
            intro s301 g302 k303 h ih303
            refine awp_seq ?_
            refine awp_rs ?_
            refine ro rfl rfl (st_mv rfl) ?_
            refine ro rfl rfl (st_mv rfl) ?_
            refine ro rfl rfl (st_mv rfl) ?_
            refine ro rfl rfl (st_ixDn sl41 rfl rfl hx105) ?_
            refine ro rfl rfl (st_faD fo56_2 rfl) ?_
            refine ro rfl rfl (st_ldD (v := dL 1 eB x106.Bits) ta54 rfl rfl) ?_
            refine ro rfl rfl (st_lenD rfl un54) ?_
            refine ro rfl rfl (st_bin (v := dB (decide (s301 < ((x106.Bits.length : Nat) : Int)))) rfl rfl rfl) ?_
            refine rw_nilk ?_
            refine awp_ite (b := (decide (s301 < ((x106.Bits.length : Nat) : Int)))) rfl (fun p318 => ?_) (fun p318 => ?_)
            · replace h := ite_T p318 h
              refine awp_skip ?_
              refine nx_then ?_
              refine awp_seq ?_
              refine awp_block ?_
              refine awp_rds hmix ?_
              refine do_ rfl rfl (st_mv rfl) rfl rfl rfl ?_
              refine do_ rfl rfl (st_mv rfl) rfl rfl rfl ?_
              refine do_ rfl rfl (st_ixDn sl41 rfl rfl hx105) rfl rfl rfl ?_
              refine do_ rfl rfl (st_faD fo56_2 rfl) rfl rfl rfl ?_
              refine do_ rfl rfl (st_ldD (v := dL 1 eB x106.Bits) ta54 rfl rfl) rfl rfl rfl ?_
              refine do_ rfl rfl (st_mv rfl) rfl rfl rfl ?_
              obtain ⟨x319, h0319, hx319, h⟩ := getI_some h
              refine do_ rfl rfl (st_ixD sl54 rfl rfl h0319 hx319) rfl rfl rfl ?_
              refine do_ rfl rfl (st_ldD (v := dB x319) ta4 rfl rfl) rfl rfl rfl ?_
              refine do_ rfl rfl (st_mv rfl) rfl rfl rfl ?_
              refine do_ rfl rfl (st_mv rfl) rfl rfl rfl ?_
              obtain ⟨x320, h0320, hx320, h⟩ := getI_some h
              refine do_ rfl rfl (st_ixD sl41 rfl rfl h0320 hx320) rfl rfl rfl ?_
              refine do_ rfl rfl (st_faD fo56_2 rfl) rfl rfl rfl ?_
              refine do_ rfl rfl (st_ldD (v := dL 1 eB x320.Bits) ta54 rfl rfl) rfl rfl rfl ?_
              refine do_ rfl rfl (st_mv rfl) rfl rfl rfl ?_
              obtain ⟨x321, h0321, hx321, h⟩ := getI_some h
              refine do_ rfl rfl (st_ixD sl54 rfl rfl h0321 hx321) rfl rfl rfl ?_
              refine do_ rfl rfl (st_ldD (v := dB x321) ta4 rfl rfl) rfl rfl rfl ?_
              refine do_ rfl rfl (st_binB (v := dB (!(x319 == x321))) rfl rfl un4 rfl) rfl rfl rfl ?_
              refine rd_nil (by kernel_rfl) ?_
              refine awp_ite (b := (!(x319 == x321))) rfl (fun p322 => ?_) (fun p322 => ?_)
              · replace h := ite_T p322 h
                refine awp_rs ?_
                refine ro rfl rfl (st_as rfl) ?_
                refine rw_nilk ?_
                refine awp_ret ?_
                refine rt_block ?_
                refine rt_then ?_
                refine rt_then ?_
                refine rt_block ?_
                refine rt_block ?_
                refine rt_then ?_
                refine rt_then ?_
                refine rt_block ?_
                refine rt_then ?_
                injection h with h
                subst h
                exact ret_out (v := dB false) (resV_one (resVs_tmp rfl resVs_nil)) (.keep rfl)
              · replace h := ite_F p322 h
                refine awp_skip ?_
                refine nx_block ?_
                refine nx_then ?_
                refine awp_rw ?_
                refine ro rfl rfl (st_mv rfl) ?_
                refine ro rfl rfl (st_bin (v := dI .i64 (IntKind.wrap .i64 (s301 + (1 : Int)))) rfl rfl rfl) ?_
                refine ro rfl rfl (st_as rfl) ?_
                refine rw_nil ?_
                refine nx_then ?_
                refine awp_gh ?_ (ih303 (IntKind.wrap .i64 (s301 + (1 : Int))) () h)
                exact (gh_frz rfl rfl ⟨⟨_, rfl, .keep rfl⟩, ⟨_, rfl, .keep rfl⟩, ⟨_, rfl, .keep rfl⟩, ⟨_, rfl, .keep rfl⟩, trivial⟩ trivial)
            · replace h := ite_F p318 h
              refine awp_exit ?_
              refine ex_out ?_
              refine ex_out ?_
              refine ex_in ?_
              refine nx_block ?_
              refine nx_then ?_
              exact J274 () () _ _ h (gh_frz rfl rfl ⟨⟨_, rfl, .keep rfl⟩, ⟨_, rfl, .keep rfl⟩, ⟨_, rfl, .keep rfl⟩, trivial⟩ trivial)
        · clear h
          intro k299 h J299
          refine awp_rd hmix ?_
          refine do_ rfl rfl (st_mv rfl) rfl rfl rfl ?_
          refine do_ rfl rfl (st_mv rfl) rfl rfl rfl ?_
          refine do_ rfl rfl (st_ixDn sl41 rfl rfl hx105) rfl rfl rfl ?_
          refine do_ rfl rfl (st_faD fo56_0 rfl) rfl rfl rfl ?_
          refine do_ rfl rfl (st_ldD (v := dI .i64 x106.Var) ta3 rfl rfl) rfl rfl rfl ?_
          refine do_ rfl rfl (st_mv rfl) rfl rfl rfl ?_
          refine do_ rfl rfl (st_mv rfl) rfl rfl rfl ?_
          obtain ⟨x323, h0323, hx323, h⟩ := getI_some h
          refine do_ rfl rfl (st_ixD sl41 rfl rfl h0323 hx323) rfl rfl rfl ?_
          refine do_ rfl rfl (st_faD fo56_0 rfl) rfl rfl rfl ?_
          refine do_ rfl rfl (st_ldD (v := dI .i64 x323.Var) ta3 rfl rfl) rfl rfl rfl ?_
          refine do_ rfl rfl (st_bin (v := dB (x106.Var != x323.Var)) rfl rfl rfl) rfl rfl rfl ?_
          refine do_ rfl rfl (st_mv rfl) rfl rfl rfl ?_
          refine bool_split (x106.Var != x323.Var) (fun p324 => ?_) (fun p324 => ?_)
          · replace h := ite_T p324 h
            rw [p324]
            refine dz rfl rfl ?_
            refine dz rfl rfl ?_
            refine dz rfl rfl ?_
            refine dz rfl rfl ?_
            refine dz rfl rfl ?_
            refine dz rfl rfl ?_
            refine dz rfl rfl ?_
            refine dz rfl rfl ?_
            refine dz rfl rfl ?_
            refine dz rfl rfl ?_
            refine dz rfl rfl ?_
            refine dz rfl rfl ?_
            refine do_ rfl rfl (st_pickT rfl rfl) rfl rfl rfl ?_
            refine do_ rfl rfl (st_mv rfl) rfl rfl rfl ?_
            refine dz rfl rfl ?_
            refine dz rfl rfl ?_
            refine dz rfl rfl ?_
            refine dz rfl rfl ?_
            refine dz rfl rfl ?_
            refine dz rfl rfl ?_
            refine dz rfl rfl ?_
            refine dz rfl rfl ?_
            refine dz rfl rfl ?_
            refine dz rfl rfl ?_
            refine dz rfl rfl ?_
            refine dz rfl rfl ?_
            refine dz rfl rfl ?_
            refine do_ rfl rfl (st_pickT rfl rfl) rfl rfl rfl ?_
            refine rd_nil (by kernel_rfl) ?_
            refine nx_then ?_
            exact J299 true () _ _ h (gh_frz rfl rfl ⟨⟨_, rfl, .keep rfl⟩, ⟨_, rfl, .keep rfl⟩, ⟨_, rfl, .keep rfl⟩, ⟨_, rfl, .keep rfl⟩, trivial⟩ trivial)
          · replace h := ite_F p324 h
            rw [p324]
            refine do_ rfl rfl (st_mv rfl) rfl rfl rfl ?_
            refine do_ rfl rfl (st_mv rfl) rfl rfl rfl ?_
            refine do_ rfl rfl (st_ixDn sl41 rfl rfl hx105) rfl rfl rfl ?_
            refine do_ rfl rfl (st_faD fo56_1 rfl) rfl rfl rfl ?_
            refine do_ rfl rfl (st_ldD (v := dL 1 (eI .i64) x106.On) ta34 rfl rfl) rfl rfl rfl ?_
            refine do_ rfl rfl (st_mv rfl) rfl rfl rfl ?_
            refine do_ rfl rfl (st_mv rfl) rfl rfl rfl ?_
            obtain ⟨x325, h0325, hx325, h⟩ := getI_some h
            refine do_ rfl rfl (st_ixD sl41 rfl rfl h0325 hx325) rfl rfl rfl ?_
            refine do_ rfl rfl (st_faD fo56_1 rfl) rfl rfl rfl ?_
            refine do_ rfl rfl (st_ldD (v := dL 1 (eI .i64) x325.On) ta34 rfl rfl) rfl rfl rfl ?_
            obtain ⟨y326, hy326, h⟩ := bind_some_elim h
            refine df rfl rfl (ok_skolemref03_Ints hy326) rfl rfl ?_
            refine do_ rfl rfl (st_un (v := dB (!y326)) rfl rfl) rfl rfl rfl ?_
            refine do_ rfl rfl (st_pickF rfl rfl) rfl rfl rfl ?_
            refine do_ rfl rfl (st_mv rfl) rfl rfl rfl ?_
            refine bool_split (!y326) (fun p327 => ?_) (fun p327 => ?_)
            · replace h := ite_T p327 h
              rw [p327]
              refine dz rfl rfl ?_
              refine dz rfl rfl ?_
              refine dz rfl rfl ?_
              refine dz rfl rfl ?_
              refine dz rfl rfl ?_
              refine dz rfl rfl ?_
              refine dz rfl rfl ?_
              refine dz rfl rfl ?_
              refine dz rfl rfl ?_
              refine dz rfl rfl ?_
              refine dz rfl rfl ?_
              refine dz rfl rfl ?_
              refine dz rfl rfl ?_
              refine do_ rfl rfl (st_pickT rfl rfl) rfl rfl rfl ?_
              refine rd_nil (by kernel_rfl) ?_
              refine nx_then ?_
              exact J299 true () _ _ h (gh_frz rfl rfl ⟨⟨_, rfl, .keep rfl⟩, ⟨_, rfl, .keep rfl⟩, ⟨_, rfl, .keep rfl⟩, ⟨_, rfl, .keep rfl⟩, trivial⟩ trivial)
            · replace h := ite_F p327 h
              rw [p327]
              refine do_ rfl rfl (st_mv rfl) rfl rfl rfl ?_
              refine do_ rfl rfl (st_mv rfl) rfl rfl rfl ?_
              refine do_ rfl rfl (st_ixDn sl41 rfl rfl hx105) rfl rfl rfl ?_
              refine do_ rfl rfl (st_faD fo56_2 rfl) rfl rfl rfl ?_
              refine do_ rfl rfl (st_ldD (v := dL 1 eB x106.Bits) ta54 rfl rfl) rfl rfl rfl ?_
              refine do_ rfl rfl (st_lenD rfl un54) rfl rfl rfl ?_
              refine do_ rfl rfl (st_mv rfl) rfl rfl rfl ?_
              refine do_ rfl rfl (st_mv rfl) rfl rfl rfl ?_
              obtain ⟨x328, h0328, hx328, h⟩ := getI_some h
              refine do_ rfl rfl (st_ixD sl41 rfl rfl h0328 hx328) rfl rfl rfl ?_
              refine do_ rfl rfl (st_faD fo56_2 rfl) rfl rfl rfl ?_
              refine do_ rfl rfl (st_ldD (v := dL 1 eB x328.Bits) ta54 rfl rfl) rfl rfl rfl ?_
              refine do_ rfl rfl (st_lenD rfl un54) rfl rfl rfl ?_
              refine do_ rfl rfl (st_bin (v := dB (((x106.Bits.length : Nat) : Int) != ((x328.Bits.length : Nat) : Int))) rfl rfl rfl) rfl rfl rfl ?_
              refine do_ rfl rfl (st_pickF rfl rfl) rfl rfl rfl ?_
              refine rd_nil (by kernel_rfl) ?_
              refine nx_then ?_
              exact J299 (((x106.Bits.length : Nat) : Int) != ((x328.Bits.length : Nat) : Int)) () _ _ h (gh_frz rfl rfl ⟨⟨_, rfl, .keep rfl⟩, ⟨_, rfl, .keep rfl⟩, ⟨_, rfl, .keep rfl⟩, ⟨_, rfl, .keep rfl⟩, trivial⟩ trivial)
    · clear h
      intro s102 g103 h
      refine awp_seq ?_
      refine awp_rs ?_
      refine ro rfl rfl (st_mv rfl) ?_
      refine ro rfl rfl (st_mv rfl) ?_
      refine ro rfl rfl (st_lenD rfl un41) ?_
      refine ro rfl rfl (st_bin (v := dB (decide (((a0.length : Nat) : Int) < ((a0.length : Nat) : Int)))) rfl rfl rfl) ?_
      refine rw_nilk ?_
      refine awp_ifF rfl dge ?_
      refine awp_exit ?_
      refine ex_out ?_
      refine ex_out ?_
      refine ex_in ?_
      refine nx_then ?_
      refine awp_rs ?_
      refine ro rfl rfl (st_as rfl) ?_
      refine rw_nilk ?_
      refine awp_ret ?_
      injection h with h
      subst h
      exact ret_out (v := dB true) (resV_one (resVs_tmp rfl resVs_nil)) (.keep rfl)
end Go.Sk.X
