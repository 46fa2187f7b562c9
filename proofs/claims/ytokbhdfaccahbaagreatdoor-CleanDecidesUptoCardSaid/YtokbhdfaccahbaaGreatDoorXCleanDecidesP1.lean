/- The program computes these plain functions (law CleanDecides, part 1). It has no conditions. -/
import Derived.Test.YtokbhdfaccahbaaGreatDoorProg
import Derived.Test.YtokbhdfaccahbaaGreatDoorSk7
import Derived.Test.YtokbhdfaccahbaaGreatDoorSk5
import Derived.Test.YtokbhdfaccahbaaGreatDoorXCleanDecidesF
import Derived.KernelRfl
set_option linter.unusedVariables false
set_option linter.unusedSimpArgs false
set_option maxRecDepth 100000
set_option maxHeartbeats 4000000
namespace Go.Sk.X
open Go Go.Sk Go.Proofs
abbrev e_S_api_Dep (x : S_api_Dep) : List Dat := [.int .i64 x.Var, .sl 1 (x.On.map (eI .i64))]
abbrev e_S_api_Dqbf (x : S_api_Dqbf) : List Dat := [.sl 1 (x.Univ.map (eI .i64)), .sl 2 (x.Exist.map e_S_api_Dep), .sl 1 (x.Clauses.map (eL 1 (eI .i64)))]
abbrev e_S_api_Change (x : S_api_Change) : List Dat := [.int .u8 x.Kind, .int .i64 x.Lit, .int .i64 x.To, .int .i64 x.At, .int .i64 x.By]
abbrev e_S_api_Table (x : S_api_Table) : List Dat := [.int .i64 x.Var, .sl 1 (x.On.map (eI .i64)), .sl 1 (x.Bits.map eB)]
theorem hmix : (Go.Proofs.Tryz.prog).follows .mixedOrders = true := by kernel_rfl
theorem ta3 : tAgg Go.Proofs.Tryz.prog 3 = some (false, 1) := by kernel_rfl
theorem co3 : Program.cellsOf Go.Proofs.Tryz.prog 3 = 1 := by kernel_rfl
theorem un3 : Program.underlying Go.Proofs.Tryz.prog 3 = some (.int .i64) := Go.Proofs.Tryz.underlying3
theorem za3 : zeroA Go.Proofs.Tryz.prog 3 = some (dI .i64 (0 : Int)) := by kernel_rfl
theorem zc3 : zCells Go.Proofs.Tryz.prog 3 = some [.dat (.int .i64 0)] := by kernel_rfl
theorem ta4 : tAgg Go.Proofs.Tryz.prog 4 = some (false, 1) := by kernel_rfl
theorem co4 : Program.cellsOf Go.Proofs.Tryz.prog 4 = 1 := by kernel_rfl
theorem za4 : zeroA Go.Proofs.Tryz.prog 4 = some (dB false) := by kernel_rfl
theorem zc4 : zCells Go.Proofs.Tryz.prog 4 = some [.dat (.bool false)] := by kernel_rfl
theorem ta22 : tAgg Go.Proofs.Tryz.prog 22 = some (false, 1) := by kernel_rfl
theorem co22 : Program.cellsOf Go.Proofs.Tryz.prog 22 = 1 := by kernel_rfl
theorem un22 : Program.underlying Go.Proofs.Tryz.prog 22 = some (.slice 3) := Go.Proofs.Tryz.underlying22
theorem za22 : zeroA Go.Proofs.Tryz.prog 22 = some .nilS := by kernel_rfl
theorem sl22 : slE Go.Proofs.Tryz.prog 22 = some (3, 1, 8) := by kernel_rfl
theorem zc22 : zCells Go.Proofs.Tryz.prog 22 = some [.nilS] := by kernel_rfl
theorem ta23 : tAgg Go.Proofs.Tryz.prog 23 = some (false, 1) := by kernel_rfl
theorem un23 : Program.underlying Go.Proofs.Tryz.prog 23 = some (.slice 44) := Go.Proofs.Tryz.underlying23
theorem sl23 : slE Go.Proofs.Tryz.prog 23 = some (44, 2, 32) := by kernel_rfl
theorem ta24 : tAgg Go.Proofs.Tryz.prog 24 = some (false, 1) := by kernel_rfl
theorem un24 : Program.underlying Go.Proofs.Tryz.prog 24 = some (.slice 22) := Go.Proofs.Tryz.underlying24
theorem sl24 : slE Go.Proofs.Tryz.prog 24 = some (22, 1, 24) := by kernel_rfl
theorem ta26 : tAgg Go.Proofs.Tryz.prog 26 = some (true, 3) := by kernel_rfl
theorem co26 : Program.cellsOf Go.Proofs.Tryz.prog 26 = 3 := by kernel_rfl
theorem fo26_0 : fOff Go.Proofs.Tryz.prog 26 0 = some (0, 1, false) := by kernel_rfl
theorem fo26_1 : fOff Go.Proofs.Tryz.prog 26 1 = some (1, 1, false) := by kernel_rfl
theorem fo26_2 : fOff Go.Proofs.Tryz.prog 26 2 = some (2, 1, false) := by kernel_rfl
theorem zc26 : zCells Go.Proofs.Tryz.prog 26 = some [.nilS, .nilS, .nilS] := by kernel_rfl
theorem bl26 : bLay Go.Proofs.Tryz.prog 26 = some ([.nilS, .nilS, .nilS], .list [(0, 1), (1, 1), (2, 1)]) := by kernel_rfl
theorem co27 : Program.cellsOf Go.Proofs.Tryz.prog 27 = 1 := by kernel_rfl
theorem zc27 : zCells Go.Proofs.Tryz.prog 27 = some [.dat (.int .u8 0)] := by kernel_rfl
theorem ta29 : tAgg Go.Proofs.Tryz.prog 29 = some (true, 5) := by kernel_rfl
theorem co29 : Program.cellsOf Go.Proofs.Tryz.prog 29 = 5 := by kernel_rfl
theorem zc29 : zCells Go.Proofs.Tryz.prog 29 = some [.dat (.int .u8 0), .dat (.int .i64 0), .dat (.int .i64 0), .dat (.int .i64 0), .dat (.int .i64 0)] := by kernel_rfl
theorem bl29 : bLay Go.Proofs.Tryz.prog 29 = some ([.dat (.int .u8 0), .dat (.int .i64 0), .dat (.int .i64 0), .dat (.int .i64 0), .dat (.int .i64 0)], .list [(0, 1), (1, 1), (2, 1), (3, 1), (4, 1)]) := by kernel_rfl
theorem sl37 : slE Go.Proofs.Tryz.prog 37 = some (27, 1, 1) := by kernel_rfl
theorem ta44 : tAgg Go.Proofs.Tryz.prog 44 = some (true, 2) := by kernel_rfl
theorem co44 : Program.cellsOf Go.Proofs.Tryz.prog 44 = 2 := by kernel_rfl
theorem fo44_0 : fOff Go.Proofs.Tryz.prog 44 0 = some (0, 1, false) := by kernel_rfl
theorem fo44_1 : fOff Go.Proofs.Tryz.prog 44 1 = some (1, 1, false) := by kernel_rfl
theorem zc44 : zCells Go.Proofs.Tryz.prog 44 = some [.dat (.int .i64 0), .nilS] := by kernel_rfl
theorem bl44 : bLay Go.Proofs.Tryz.prog 44 = some ([.dat (.int .i64 0), .nilS], .list [(0, 1), (1, 1)]) := by kernel_rfl
theorem un45 : Program.underlying Go.Proofs.Tryz.prog 45 = some (.slice 29) := Go.Proofs.Tryz.underlying45
theorem sl45 : slE Go.Proofs.Tryz.prog 45 = some (29, 5, 40) := by kernel_rfl
theorem ta50 : tAgg Go.Proofs.Tryz.prog 50 = some (false, 1) := by kernel_rfl
theorem zc50 : zCells Go.Proofs.Tryz.prog 50 = some [.raw (.pointer none)] := by kernel_rfl
theorem ta75 : tAgg Go.Proofs.Tryz.prog 75 = some (false, 1) := by kernel_rfl
theorem co75 : Program.cellsOf Go.Proofs.Tryz.prog 75 = 1 := by kernel_rfl
theorem un75 : Program.underlying Go.Proofs.Tryz.prog 75 = some (.map 3 4) := Go.Proofs.Tryz.underlying75
theorem zc75 : zCells Go.Proofs.Tryz.prog 75 = some [.raw (.map none)] := by kernel_rfl
theorem ta78 : tAgg Go.Proofs.Tryz.prog 78 = some (false, 1) := by kernel_rfl
theorem un78 : Program.underlying Go.Proofs.Tryz.prog 78 = some (.map 3 22) := Go.Proofs.Tryz.underlying78
theorem ta79 : tAgg Go.Proofs.Tryz.prog 79 = some (false, 1) := by kernel_rfl
theorem un79 : Program.underlying Go.Proofs.Tryz.prog 79 = some (.map 3 3) := Go.Proofs.Tryz.underlying79
theorem co81 : Program.cellsOf Go.Proofs.Tryz.prog 81 = 6 := by kernel_rfl
theorem fo81_1 : fOff Go.Proofs.Tryz.prog 81 1 = some (3, 1, false) := by kernel_rfl
theorem fo81_2 : fOff Go.Proofs.Tryz.prog 81 2 = some (4, 1, false) := by kernel_rfl
theorem fo81_3 : fOff Go.Proofs.Tryz.prog 81 3 = some (5, 1, false) := by kernel_rfl
theorem bl81 : bLay Go.Proofs.Tryz.prog 81 = some ([.nilS, .nilS, .nilS, .raw (.map none), .raw (.map none), .raw (.map none)], .list [(0, 3), (3, 1), (4, 1), (5, 1)]) := by kernel_rfl
theorem un91 : Program.underlying Go.Proofs.Tryz.prog 91 = some (.int .u64) := Go.Proofs.Tryz.underlying91
theorem un100 : Program.underlying Go.Proofs.Tryz.prog 100 = some (.slice 125) := Go.Proofs.Tryz.underlying100
theorem sl100 : slE Go.Proofs.Tryz.prog 100 = some (125, 3, 56) := by kernel_rfl
theorem un115 : Program.underlying Go.Proofs.Tryz.prog 115 = some (.int .u64) := Go.Proofs.Tryz.underlying115
theorem ta123 : tAgg Go.Proofs.Tryz.prog 123 = some (false, 1) := by kernel_rfl
theorem sl123 : slE Go.Proofs.Tryz.prog 123 = some (4, 1, 1) := by kernel_rfl
theorem ta125 : tAgg Go.Proofs.Tryz.prog 125 = some (true, 3) := by kernel_rfl
theorem co125 : Program.cellsOf Go.Proofs.Tryz.prog 125 = 3 := by kernel_rfl
theorem fo125_0 : fOff Go.Proofs.Tryz.prog 125 0 = some (0, 1, false) := by kernel_rfl
theorem fo125_1 : fOff Go.Proofs.Tryz.prog 125 1 = some (1, 1, false) := by kernel_rfl
theorem fo125_2 : fOff Go.Proofs.Tryz.prog 125 2 = some (2, 1, false) := by kernel_rfl
theorem zc125 : zCells Go.Proofs.Tryz.prog 125 = some [.dat (.int .i64 0), .nilS, .nilS] := by kernel_rfl
theorem bl125 : bLay Go.Proofs.Tryz.prog 125 = some ([.dat (.int .i64 0), .nilS, .nilS], .list [(0, 1), (1, 1), (2, 1)]) := by kernel_rfl
theorem eq29 (a0 : Int) (a1 : Int) (a2 : Int) (a3 : Int) (a4 : Int) (b0 : Int) (b1 : Int) (b2 : Int) (b3 : Int) (b4 : Int) : aeqS Go.Proofs.Tryz.prog 29 [dI .u8 a0, dI .i64 a1, dI .i64 a2, dI .i64 a3, dI .i64 a4] [dI .u8 b0, dI .i64 b1, dI .i64 b2, dI .i64 b3, dI .i64 b4] = some ((a0 == b0) && ((a1 == b1) && ((a2 == b2) && ((a3 == b3) && ((a4 == b4) && true))))) := by kernel_rfl
theorem tab_clean_Clean_0 : FnG Go.Proofs.Tryz.prog 0 [.int .u8 1, .int .u8 3, .int .u8 2, .int .u8 4, .int .u8 5] 17 [.agg [dL 1 (eI .i64) ((S_api_Dqbf.mk [(1 : Int)] ([(S_api_Dep.mk (2 : Int) [(1 : Int)]), (S_api_Dep.mk (3 : Int) ([] : List Int))]) ([[(3 : Int)], [(2 : Int), (-3 : Int)]])).Univ), dL 2 e_S_api_Dep ((S_api_Dqbf.mk [(1 : Int)] ([(S_api_Dep.mk (2 : Int) [(1 : Int)]), (S_api_Dep.mk (3 : Int) ([] : List Int))]) ([[(3 : Int)], [(2 : Int), (-3 : Int)]])).Exist), dL 1 (eL 1 (eI .i64)) ((S_api_Dqbf.mk [(1 : Int)] ([(S_api_Dep.mk (2 : Int) [(1 : Int)]), (S_api_Dep.mk (3 : Int) ([] : List Int))]) ([[(3 : Int)], [(2 : Int), (-3 : Int)]])).Clauses)], dL 1 (eI .u8) ([] : List Int)] (.tup [.agg [dL 1 (eI .i64) (((((S_api_Dqbf.mk [] [] []), [(S_api_Change.mk (1 : Int) (3 : Int) (0 : Int) (0 : Int) (0 : Int)), (S_api_Change.mk (1 : Int) (2 : Int) (0 : Int) (0 : Int) (0 : Int)), (S_api_Change.mk (2 : Int) (1 : Int) (0 : Int) (0 : Int) (0 : Int))], (0 : Int)) : (S_api_Dqbf × (List S_api_Change) × Int)).1).Univ), dL 2 e_S_api_Dep (((((S_api_Dqbf.mk [] [] []), [(S_api_Change.mk (1 : Int) (3 : Int) (0 : Int) (0 : Int) (0 : Int)), (S_api_Change.mk (1 : Int) (2 : Int) (0 : Int) (0 : Int) (0 : Int)), (S_api_Change.mk (2 : Int) (1 : Int) (0 : Int) (0 : Int) (0 : Int))], (0 : Int)) : (S_api_Dqbf × (List S_api_Change) × Int)).1).Exist), dL 1 (eL 1 (eI .i64)) (((((S_api_Dqbf.mk [] [] []), [(S_api_Change.mk (1 : Int) (3 : Int) (0 : Int) (0 : Int) (0 : Int)), (S_api_Change.mk (1 : Int) (2 : Int) (0 : Int) (0 : Int) (0 : Int)), (S_api_Change.mk (2 : Int) (1 : Int) (0 : Int) (0 : Int) (0 : Int))], (0 : Int)) : (S_api_Dqbf × (List S_api_Change) × Int)).1).Clauses)], dL 5 e_S_api_Change ((((S_api_Dqbf.mk [] [] []), [(S_api_Change.mk (1 : Int) (3 : Int) (0 : Int) (0 : Int) (0 : Int)), (S_api_Change.mk (1 : Int) (2 : Int) (0 : Int) (0 : Int) (0 : Int)), (S_api_Change.mk (2 : Int) (1 : Int) (0 : Int) (0 : Int) (0 : Int))], (0 : Int)) : (S_api_Dqbf × (List S_api_Change) × Int)).2.1), dI .i64 ((((S_api_Dqbf.mk [] [] []), [(S_api_Change.mk (1 : Int) (3 : Int) (0 : Int) (0 : Int) (0 : Int)), (S_api_Change.mk (1 : Int) (2 : Int) (0 : Int) (0 : Int) (0 : Int)), (S_api_Change.mk (2 : Int) (1 : Int) (0 : Int) (0 : Int) (0 : Int))], (0 : Int)) : (S_api_Dqbf × (List S_api_Change) × Int)).2.2)]) := fn_deep (n := 5000) (by kernel_rfl) (by kernel_rfl)
theorem tab_clean_Clean_1 : FnG Go.Proofs.Tryz.prog 0 [.int .u8 1, .int .u8 3, .int .u8 2, .int .u8 4, .int .u8 5] 17 [.agg [dL 1 (eI .i64) ((S_api_Dqbf.mk [(1 : Int)] ([(S_api_Dep.mk (2 : Int) [(1 : Int)]), (S_api_Dep.mk (3 : Int) ([] : List Int))]) ([[(1 : Int), (3 : Int)]])).Univ), dL 2 e_S_api_Dep ((S_api_Dqbf.mk [(1 : Int)] ([(S_api_Dep.mk (2 : Int) [(1 : Int)]), (S_api_Dep.mk (3 : Int) ([] : List Int))]) ([[(1 : Int), (3 : Int)]])).Exist), dL 1 (eL 1 (eI .i64)) ((S_api_Dqbf.mk [(1 : Int)] ([(S_api_Dep.mk (2 : Int) [(1 : Int)]), (S_api_Dep.mk (3 : Int) ([] : List Int))]) ([[(1 : Int), (3 : Int)]])).Clauses)], dL 1 (eI .u8) ([] : List Int)] (.tup [.agg [dL 1 (eI .i64) (((((S_api_Dqbf.mk [] [] []), [(S_api_Change.mk (3 : Int) (1 : Int) (0 : Int) (0 : Int) (0 : Int)), (S_api_Change.mk (1 : Int) (3 : Int) (0 : Int) (0 : Int) (0 : Int)), (S_api_Change.mk (2 : Int) (1 : Int) (0 : Int) (0 : Int) (0 : Int)), (S_api_Change.mk (2 : Int) (2 : Int) (0 : Int) (0 : Int) (0 : Int))], (0 : Int)) : (S_api_Dqbf × (List S_api_Change) × Int)).1).Univ), dL 2 e_S_api_Dep (((((S_api_Dqbf.mk [] [] []), [(S_api_Change.mk (3 : Int) (1 : Int) (0 : Int) (0 : Int) (0 : Int)), (S_api_Change.mk (1 : Int) (3 : Int) (0 : Int) (0 : Int) (0 : Int)), (S_api_Change.mk (2 : Int) (1 : Int) (0 : Int) (0 : Int) (0 : Int)), (S_api_Change.mk (2 : Int) (2 : Int) (0 : Int) (0 : Int) (0 : Int))], (0 : Int)) : (S_api_Dqbf × (List S_api_Change) × Int)).1).Exist), dL 1 (eL 1 (eI .i64)) (((((S_api_Dqbf.mk [] [] []), [(S_api_Change.mk (3 : Int) (1 : Int) (0 : Int) (0 : Int) (0 : Int)), (S_api_Change.mk (1 : Int) (3 : Int) (0 : Int) (0 : Int) (0 : Int)), (S_api_Change.mk (2 : Int) (1 : Int) (0 : Int) (0 : Int) (0 : Int)), (S_api_Change.mk (2 : Int) (2 : Int) (0 : Int) (0 : Int) (0 : Int))], (0 : Int)) : (S_api_Dqbf × (List S_api_Change) × Int)).1).Clauses)], dL 5 e_S_api_Change ((((S_api_Dqbf.mk [] [] []), [(S_api_Change.mk (3 : Int) (1 : Int) (0 : Int) (0 : Int) (0 : Int)), (S_api_Change.mk (1 : Int) (3 : Int) (0 : Int) (0 : Int) (0 : Int)), (S_api_Change.mk (2 : Int) (1 : Int) (0 : Int) (0 : Int) (0 : Int)), (S_api_Change.mk (2 : Int) (2 : Int) (0 : Int) (0 : Int) (0 : Int))], (0 : Int)) : (S_api_Dqbf × (List S_api_Change) × Int)).2.1), dI .i64 ((((S_api_Dqbf.mk [] [] []), [(S_api_Change.mk (3 : Int) (1 : Int) (0 : Int) (0 : Int) (0 : Int)), (S_api_Change.mk (1 : Int) (3 : Int) (0 : Int) (0 : Int) (0 : Int)), (S_api_Change.mk (2 : Int) (1 : Int) (0 : Int) (0 : Int) (0 : Int)), (S_api_Change.mk (2 : Int) (2 : Int) (0 : Int) (0 : Int) (0 : Int))], (0 : Int)) : (S_api_Dqbf × (List S_api_Change) × Int)).2.2)]) := fn_deep (n := 5000) (by kernel_rfl) (by kernel_rfl)
theorem tab_clean_Clean_2 : FnG Go.Proofs.Tryz.prog 0 [.int .u8 1, .int .u8 3, .int .u8 2, .int .u8 4, .int .u8 5] 17 [.agg [dL 1 (eI .i64) ((S_api_Dqbf.mk [(1 : Int)] ([(S_api_Dep.mk (2 : Int) [(1 : Int)]), (S_api_Dep.mk (3 : Int) ([] : List Int))]) ([[(1 : Int), (2 : Int)], [(-1 : Int), (-2 : Int)], [(1 : Int), (2 : Int), (3 : Int)]])).Univ), dL 2 e_S_api_Dep ((S_api_Dqbf.mk [(1 : Int)] ([(S_api_Dep.mk (2 : Int) [(1 : Int)]), (S_api_Dep.mk (3 : Int) ([] : List Int))]) ([[(1 : Int), (2 : Int)], [(-1 : Int), (-2 : Int)], [(1 : Int), (2 : Int), (3 : Int)]])).Exist), dL 1 (eL 1 (eI .i64)) ((S_api_Dqbf.mk [(1 : Int)] ([(S_api_Dep.mk (2 : Int) [(1 : Int)]), (S_api_Dep.mk (3 : Int) ([] : List Int))]) ([[(1 : Int), (2 : Int)], [(-1 : Int), (-2 : Int)], [(1 : Int), (2 : Int), (3 : Int)]])).Clauses)], dL 1 (eI .u8) ([] : List Int)] (.tup [.agg [dL 1 (eI .i64) (((((S_api_Dqbf.mk [(1 : Int)] [(S_api_Dep.mk (2 : Int) [(1 : Int)])] [[(1 : Int), (2 : Int)], [(-1 : Int), (-2 : Int)]]), [(S_api_Change.mk (2 : Int) (3 : Int) (0 : Int) (0 : Int) (0 : Int))], (0 : Int)) : (S_api_Dqbf × (List S_api_Change) × Int)).1).Univ), dL 2 e_S_api_Dep (((((S_api_Dqbf.mk [(1 : Int)] [(S_api_Dep.mk (2 : Int) [(1 : Int)])] [[(1 : Int), (2 : Int)], [(-1 : Int), (-2 : Int)]]), [(S_api_Change.mk (2 : Int) (3 : Int) (0 : Int) (0 : Int) (0 : Int))], (0 : Int)) : (S_api_Dqbf × (List S_api_Change) × Int)).1).Exist), dL 1 (eL 1 (eI .i64)) (((((S_api_Dqbf.mk [(1 : Int)] [(S_api_Dep.mk (2 : Int) [(1 : Int)])] [[(1 : Int), (2 : Int)], [(-1 : Int), (-2 : Int)]]), [(S_api_Change.mk (2 : Int) (3 : Int) (0 : Int) (0 : Int) (0 : Int))], (0 : Int)) : (S_api_Dqbf × (List S_api_Change) × Int)).1).Clauses)], dL 5 e_S_api_Change ((((S_api_Dqbf.mk [(1 : Int)] [(S_api_Dep.mk (2 : Int) [(1 : Int)])] [[(1 : Int), (2 : Int)], [(-1 : Int), (-2 : Int)]]), [(S_api_Change.mk (2 : Int) (3 : Int) (0 : Int) (0 : Int) (0 : Int))], (0 : Int)) : (S_api_Dqbf × (List S_api_Change) × Int)).2.1), dI .i64 ((((S_api_Dqbf.mk [(1 : Int)] [(S_api_Dep.mk (2 : Int) [(1 : Int)])] [[(1 : Int), (2 : Int)], [(-1 : Int), (-2 : Int)]]), [(S_api_Change.mk (2 : Int) (3 : Int) (0 : Int) (0 : Int) (0 : Int))], (0 : Int)) : (S_api_Dqbf × (List S_api_Change) × Int)).2.2)]) := fn_deep (n := 5000) (by kernel_rfl) (by kernel_rfl)
theorem tab_clean_Clean_3 : FnG Go.Proofs.Tryz.prog 0 [.int .u8 1, .int .u8 3, .int .u8 2, .int .u8 4, .int .u8 5] 17 [.agg [dL 1 (eI .i64) ((S_api_Dqbf.mk [(1 : Int)] ([(S_api_Dep.mk (2 : Int) [(1 : Int)]), (S_api_Dep.mk (3 : Int) ([] : List Int))]) ([[(2 : Int), (3 : Int)], [(2 : Int), (-3 : Int)], [(-2 : Int), (-3 : Int)], [(-2 : Int), (3 : Int)]])).Univ), dL 2 e_S_api_Dep ((S_api_Dqbf.mk [(1 : Int)] ([(S_api_Dep.mk (2 : Int) [(1 : Int)]), (S_api_Dep.mk (3 : Int) ([] : List Int))]) ([[(2 : Int), (3 : Int)], [(2 : Int), (-3 : Int)], [(-2 : Int), (-3 : Int)], [(-2 : Int), (3 : Int)]])).Exist), dL 1 (eL 1 (eI .i64)) ((S_api_Dqbf.mk [(1 : Int)] ([(S_api_Dep.mk (2 : Int) [(1 : Int)]), (S_api_Dep.mk (3 : Int) ([] : List Int))]) ([[(2 : Int), (3 : Int)], [(2 : Int), (-3 : Int)], [(-2 : Int), (-3 : Int)], [(-2 : Int), (3 : Int)]])).Clauses)], dL 1 (eI .u8) [(5 : Int), (1 : Int)]] (.tup [.agg [dL 1 (eI .i64) (((((S_api_Dqbf.mk [(1 : Int)] [] [[]]), [(S_api_Change.mk (5 : Int) (3 : Int) (0 : Int) (0 : Int) (1 : Int)), (S_api_Change.mk (1 : Int) (2 : Int) (0 : Int) (0 : Int) (0 : Int)), (S_api_Change.mk (1 : Int) (-3 : Int) (0 : Int) (0 : Int) (0 : Int))], (0 : Int)) : (S_api_Dqbf × (List S_api_Change) × Int)).1).Univ), dL 2 e_S_api_Dep (((((S_api_Dqbf.mk [(1 : Int)] [] [[]]), [(S_api_Change.mk (5 : Int) (3 : Int) (0 : Int) (0 : Int) (1 : Int)), (S_api_Change.mk (1 : Int) (2 : Int) (0 : Int) (0 : Int) (0 : Int)), (S_api_Change.mk (1 : Int) (-3 : Int) (0 : Int) (0 : Int) (0 : Int))], (0 : Int)) : (S_api_Dqbf × (List S_api_Change) × Int)).1).Exist), dL 1 (eL 1 (eI .i64)) (((((S_api_Dqbf.mk [(1 : Int)] [] [[]]), [(S_api_Change.mk (5 : Int) (3 : Int) (0 : Int) (0 : Int) (1 : Int)), (S_api_Change.mk (1 : Int) (2 : Int) (0 : Int) (0 : Int) (0 : Int)), (S_api_Change.mk (1 : Int) (-3 : Int) (0 : Int) (0 : Int) (0 : Int))], (0 : Int)) : (S_api_Dqbf × (List S_api_Change) × Int)).1).Clauses)], dL 5 e_S_api_Change ((((S_api_Dqbf.mk [(1 : Int)] [] [[]]), [(S_api_Change.mk (5 : Int) (3 : Int) (0 : Int) (0 : Int) (1 : Int)), (S_api_Change.mk (1 : Int) (2 : Int) (0 : Int) (0 : Int) (0 : Int)), (S_api_Change.mk (1 : Int) (-3 : Int) (0 : Int) (0 : Int) (0 : Int))], (0 : Int)) : (S_api_Dqbf × (List S_api_Change) × Int)).2.1), dI .i64 ((((S_api_Dqbf.mk [(1 : Int)] [] [[]]), [(S_api_Change.mk (5 : Int) (3 : Int) (0 : Int) (0 : Int) (1 : Int)), (S_api_Change.mk (1 : Int) (2 : Int) (0 : Int) (0 : Int) (0 : Int)), (S_api_Change.mk (1 : Int) (-3 : Int) (0 : Int) (0 : Int) (0 : Int))], (0 : Int)) : (S_api_Dqbf × (List S_api_Change) × Int)).2.2)]) := fn_deep (n := 5000) (by kernel_rfl) (by kernel_rfl)
theorem tab_clean_Make_0 : FnG Go.Proofs.Tryz.prog 0 [.int .u8 1, .int .u8 3, .int .u8 2, .int .u8 4, .int .u8 5] 8 [.agg [dL 1 (eI .i64) ((S_api_Dqbf.mk [(1 : Int)] ([(S_api_Dep.mk (2 : Int) [(1 : Int)]), (S_api_Dep.mk (3 : Int) ([] : List Int))]) ([[(3 : Int)]])).Univ), dL 2 e_S_api_Dep ((S_api_Dqbf.mk [(1 : Int)] ([(S_api_Dep.mk (2 : Int) [(1 : Int)]), (S_api_Dep.mk (3 : Int) ([] : List Int))]) ([[(3 : Int)]])).Exist), dL 1 (eL 1 (eI .i64)) ((S_api_Dqbf.mk [(1 : Int)] ([(S_api_Dep.mk (2 : Int) [(1 : Int)]), (S_api_Dep.mk (3 : Int) ([] : List Int))]) ([[(3 : Int)]])).Clauses)], .agg [dI .u8 ((S_api_Change.mk (1 : Int) (2 : Int) (0 : Int) (0 : Int) (0 : Int)).Kind), dI .i64 ((S_api_Change.mk (1 : Int) (2 : Int) (0 : Int) (0 : Int) (0 : Int)).Lit), dI .i64 ((S_api_Change.mk (1 : Int) (2 : Int) (0 : Int) (0 : Int) (0 : Int)).To), dI .i64 ((S_api_Change.mk (1 : Int) (2 : Int) (0 : Int) (0 : Int) (0 : Int)).At), dI .i64 ((S_api_Change.mk (1 : Int) (2 : Int) (0 : Int) (0 : Int) (0 : Int)).By)]] (.tup [.agg [dL 1 (eI .i64) (((((S_api_Dqbf.mk [] [] []), (5 : Int)) : (S_api_Dqbf × Int)).1).Univ), dL 2 e_S_api_Dep (((((S_api_Dqbf.mk [] [] []), (5 : Int)) : (S_api_Dqbf × Int)).1).Exist), dL 1 (eL 1 (eI .i64)) (((((S_api_Dqbf.mk [] [] []), (5 : Int)) : (S_api_Dqbf × Int)).1).Clauses)], dI .i64 ((((S_api_Dqbf.mk [] [] []), (5 : Int)) : (S_api_Dqbf × Int)).2)]) := fn_deep (n := 5000) (by kernel_rfl) (by kernel_rfl)

theorem ok_skolemlaw13_large {a0 : S_api_Dqbf} {r : Bool} (h : F_skolemlaw13_large a0 = some r) : Fn Tryz.prog 6 [.agg [dL 1 (eI .i64) a0.Univ, dL 2 e_S_api_Dep a0.Exist, dL 1 (eL 1 (eI .i64)) a0.Clauses]] (dB r) := by
  unfold F_skolemlaw13_large at h
  refine Fn.of_body (N := 45) (rs := [.tmp 2]) Tryz.func6 (c := _) rfl rfl rfl (by kernel_rfl) (Nat.le_of_ble_eq_true rfl) (fun _B => ?_)
  refine awp_rs ?_
  refine rn (r := 1001) rfl rfl (st_box rfl rfl rfl co26 rfl rfl) rfl ?_
  refine ro rfl rfl (st_as rfl) ?_
  refine rw_nilk ?_
  refine awp_rs ?_
  refine ro rfl rfl (st_faP fo26_0 rfl) ?_
  refine ro rfl rfl (st_ldP (v := dL 1 (eI .i64) a0.Univ) ta22 rfl rfl rfl rfl) ?_
  refine ro rfl rfl (st_lenD rfl un22) ?_
  refine ro rfl rfl (st_as rfl) ?_
  refine rw_nilk ?_
  refine awp_seq ?_
  refine awp_rs ?_
  refine ro rfl rfl (st_faP fo26_2 rfl) ?_
  refine ro rfl rfl (st_ldP (v := dL 1 (eL 1 (eI .i64)) a0.Clauses) ta24 rfl rfl rfl rfl) ?_
  refine ro rfl rfl (st_lenD rfl un24) ?_
  refine ro rfl rfl (st_mv rfl) ?_
  refine rw_nilk ?_
  refine awp_block ?_
  refine awp_len (t := 12) rfl (fun hl104 => ?_)
  rw [List.length_map] at hl104
  refine awp_range (fun (j104 : Nat) (s101 : Int) (g102 : Unit) => [(1, .ptr 1001 0 0 0), (3, dI .i64 s101), (12, dL 1 (eL 1 (eI .i64)) a0.Clauses), (13, dI .i64 ((a0.Clauses.length : Nat) : Int)), (14, dI .i64 ((j104 : Nat) : Int))]) (fun (s101 : Int) (g102 : Unit) => [(1001, .row 0 26 [[dL 1 (eI .i64) a0.Univ, dL 2 e_S_api_Dep a0.Exist, dL 1 (eL 1 (eI .i64)) a0.Clauses]])]) () (fun _ _ _ h => h) h (gh_frz rfl rfl ⟨⟨_, rfl, .keep rfl⟩, ⟨_, rfl, .keep rfl⟩, ⟨_, rfl, .keep rfl⟩, ⟨_, rfl, .keep rfl⟩, ⟨_, rfl, .keep rfl⟩, trivial⟩ ⟨⟨_, rfl, objOne ⟨⟨rfl, .keep rfl⟩, ⟨rfl, .keep rfl⟩, ⟨rfl, .keep rfl⟩, trivial⟩⟩, trivial⟩) ?_ ?_
  · clear h
    intro j104 x105 s101 g102 k103 hj104 hx104 h ih103
    refine awp_rs ?_
    refine ro rfl rfl (st_bin (v := dB (decide (((j104 : Nat) : Int) < ((a0.Clauses.length : Nat) : Int)))) rfl rfl rfl) ?_
    refine rw_nilk ?_
    refine awp_seq ?_
    refine awp_ifT rfl (dlt hj104) ?_
    refine awp_skip ?_
    refine nx_then ?_
    refine awp_seq ?_
    refine awp_block ?_
    refine awp_rs ?_
    refine ro rfl rfl (st_ixDn sl24 rfl rfl hx104) ?_
    refine ro rfl rfl (st_ldD (v := dL 1 (eI .i64) x105) ta22 rfl rfl) ?_
    refine ro rfl rfl (st_as rfl) ?_
    refine rw_nilk ?_
    refine awp_rw ?_
    refine ro rfl rfl (st_mv rfl) ?_
    refine ro rfl rfl (st_mv rfl) ?_
    refine ro rfl rfl (st_lenD rfl un22) ?_
    refine ro rfl rfl (st_bin (v := dI .i64 (IntKind.wrap .i64 (s101 + ((x105.length : Nat) : Int)))) rfl rfl rfl) ?_
    refine ro rfl rfl (st_as rfl) ?_
    refine rw_nil ?_
    refine nx_block ?_
    refine nx_then ?_
    refine awp_rw ?_
    refine ro rfl rfl (st_inc rfl rfl hj104 hl104) ?_
    refine ro rfl rfl (st_mv rfl) ?_
    refine rw_nil ?_
    refine nx_then ?_
    refine awp_gh ?_ (ih103 (IntKind.wrap .i64 (s101 + ((x105.length : Nat) : Int))) () h)
    exact (gh_frz rfl rfl ⟨⟨_, rfl, .keep rfl⟩, ⟨_, rfl, .keep rfl⟩, ⟨_, rfl, .keep rfl⟩, ⟨_, rfl, .keep rfl⟩, ⟨_, rfl, .keep rfl⟩, trivial⟩ ⟨⟨_, rfl, objOne ⟨⟨rfl, .keep rfl⟩, ⟨rfl, .keep rfl⟩, ⟨rfl, .keep rfl⟩, trivial⟩⟩, trivial⟩)
  · clear h
    intro s101 g102 h
    refine awp_rs ?_
    refine ro rfl rfl (st_bin (v := dB (decide (((a0.Clauses.length : Nat) : Int) < ((a0.Clauses.length : Nat) : Int)))) rfl rfl rfl) ?_
    refine rw_nilk ?_
    refine awp_seq ?_
    refine awp_ifF rfl dge ?_
    refine awp_exit ?_
    refine ex_out ?_
    refine ex_out ?_
    refine ex_in ?_
    refine nx_then ?_
    refine awp_seq ?_
    refine awp_rs ?_
    refine ro rfl rfl (st_faP fo26_1 rfl) ?_
    refine ro rfl rfl (st_ldP (v := dL 2 e_S_api_Dep a0.Exist) ta23 rfl rfl rfl rfl) ?_
    refine ro rfl rfl (st_lenD rfl un23) ?_
    refine ro rfl rfl (st_mv rfl) ?_
    refine rw_nilk ?_
    refine awp_block ?_
    refine awp_len (t := 24) rfl (fun hl109 => ?_)
    rw [List.length_map] at hl109
    refine awp_range (fun (j109 : Nat) (s106 : Int) (g107 : Unit) => [(1, .ptr 1001 0 0 0), (3, dI .i64 s106), (24, dL 2 e_S_api_Dep a0.Exist), (25, dI .i64 ((a0.Exist.length : Nat) : Int)), (26, dI .i64 ((j109 : Nat) : Int))]) (fun (s106 : Int) (g107 : Unit) => [(1001, .row 0 26 [[dL 1 (eI .i64) a0.Univ, dL 2 e_S_api_Dep a0.Exist, dL 1 (eL 1 (eI .i64)) a0.Clauses]])]) () (fun _ _ _ h => h) h (gh_frz rfl rfl ⟨⟨_, rfl, .keep rfl⟩, ⟨_, rfl, .keep rfl⟩, ⟨_, rfl, .keep rfl⟩, ⟨_, rfl, .keep rfl⟩, ⟨_, rfl, .keep rfl⟩, trivial⟩ ⟨⟨_, rfl, objOne ⟨⟨rfl, .keep rfl⟩, ⟨rfl, .keep rfl⟩, ⟨rfl, .keep rfl⟩, trivial⟩⟩, trivial⟩) ?_ ?_
    · clear h
      intro j109 x110 s106 g107 k108 hj109 hx109 h ih108
      refine awp_rs ?_
      refine ro rfl rfl (st_bin (v := dB (decide (((j109 : Nat) : Int) < ((a0.Exist.length : Nat) : Int)))) rfl rfl rfl) ?_
      refine rw_nilk ?_
      refine awp_seq ?_
      refine awp_ifT rfl (dlt hj109) ?_
      refine awp_skip ?_
      refine nx_then ?_
      refine awp_seq ?_
      refine awp_block ?_
      refine awp_rs ?_
      refine ro rfl rfl (st_ixDn sl23 rfl rfl hx109) ?_
      refine ro rfl rfl (st_ldD (v := .agg [dI .i64 x110.Var, dL 1 (eI .i64) x110.On]) ta44 rfl rfl) ?_
      refine rn (r := 1002) rfl rfl (st_alloc zc44 rfl rfl) rfl ?_
      refine rx (L' := [(1001, .row 0 26 [[dL 1 (eI .i64) a0.Univ, dL 2 e_S_api_Dep a0.Exist, dL 1 (eL 1 (eI .i64)) a0.Clauses]]), (1002, .row 0 44 [[dI .i64 x110.Var, dL 1 (eI .i64) x110.On]])]) rfl rfl (st_stP ta44 rfl rfl rfl rfl rfl rfl rfl rfl) rfl ?_
      refine rw_nilk ?_
      refine awp_rw ?_
      refine ro rfl rfl (st_mv rfl) ?_
      refine ro rfl rfl (st_faP fo44_1 rfl) ?_
      refine ro rfl rfl (st_ldP (v := dL 1 (eI .i64) x110.On) ta22 rfl rfl rfl rfl) ?_
      refine ro rfl rfl (st_lenD rfl un22) ?_
      refine ro rfl rfl (st_bin (v := dI .i64 (IntKind.wrap .i64 ((1 : Int) + ((x110.On.length : Nat) : Int)))) rfl rfl rfl) ?_
      refine ro rfl rfl (st_bin (v := dI .i64 (IntKind.wrap .i64 (s106 + (IntKind.wrap .i64 ((1 : Int) + ((x110.On.length : Nat) : Int)))))) rfl rfl rfl) ?_
      refine ro rfl rfl (st_as rfl) ?_
      refine rw_nil ?_
      refine nx_block ?_
      refine nx_then ?_
      refine awp_rw ?_
      refine ro rfl rfl (st_inc rfl rfl hj109 hl109) ?_
      refine ro rfl rfl (st_mv rfl) ?_
      refine rw_nil ?_
      refine nx_then ?_
      refine awp_gh ?_ (ih108 (IntKind.wrap .i64 (s106 + (IntKind.wrap .i64 ((1 : Int) + ((x110.On.length : Nat) : Int))))) () h)
      exact (gh_frz rfl rfl ⟨⟨_, rfl, .keep rfl⟩, ⟨_, rfl, .keep rfl⟩, ⟨_, rfl, .keep rfl⟩, ⟨_, rfl, .keep rfl⟩, ⟨_, rfl, .keep rfl⟩, trivial⟩ ⟨⟨_, rfl, objOne ⟨⟨rfl, .keep rfl⟩, ⟨rfl, .keep rfl⟩, ⟨rfl, .keep rfl⟩, trivial⟩⟩, trivial⟩)
    · clear h
      intro s106 g107 h
      refine awp_rs ?_
      refine ro rfl rfl (st_bin (v := dB (decide (((a0.Exist.length : Nat) : Int) < ((a0.Exist.length : Nat) : Int)))) rfl rfl rfl) ?_
      refine rw_nilk ?_
      refine awp_seq ?_
      refine awp_ifF rfl dge ?_
      refine awp_exit ?_
      refine ex_out ?_
      refine ex_out ?_
      refine ex_in ?_
      refine nx_then ?_
      refine awp_rs ?_
      refine ro rfl rfl (st_faP fo26_2 rfl) ?_
      refine ro rfl rfl (st_ldP (v := dL 1 (eL 1 (eI .i64)) a0.Clauses) ta24 rfl rfl rfl rfl) ?_
      refine ro rfl rfl (st_lenD rfl un24) ?_
      refine ro rfl rfl (st_bin (v := dB (decide (((a0.Clauses.length : Nat) : Int) > (40 : Int)))) rfl rfl rfl) ?_
      refine ro rfl rfl (st_mv rfl) ?_
      refine bool_split (decide (((a0.Clauses.length : Nat) : Int) > (40 : Int))) (fun p112 => ?_) (fun p112 => ?_)
      · replace h := ite_T p112 h
        rw [p112]
        refine rz rfl rfl ?_
        refine rz rfl rfl ?_
        refine ro rfl rfl (st_pickT rfl rfl) ?_
        refine ro rfl rfl (st_as rfl) ?_
        refine rw_nilk ?_
        refine awp_ret ?_
        injection h with h
        subst h
        exact ret_out (v := dB true) (resV_one (resVs_tmp rfl resVs_nil)) (.keep rfl)
      · replace h := ite_F p112 h
        rw [p112]
        refine ro rfl rfl (st_mv rfl) ?_
        refine ro rfl rfl (st_bin (v := dB (decide (s106 > (250 : Int)))) rfl rfl rfl) ?_
        refine ro rfl rfl (st_pickF rfl rfl) ?_
        refine ro rfl rfl (st_as rfl) ?_
        refine rw_nilk ?_
        refine awp_ret ?_
        injection h with h
        subst h
        exact ret_out (v := dB (decide (s106 > (250 : Int)))) (resV_one (resVs_tmp rfl resVs_nil)) (.keep rfl)

theorem ok_slices_Equal_api_Change_api_Change {a0 : (List S_api_Change)} {a1 : (List S_api_Change)} {r : Bool} (h : F_slices_Equal_api_Change_api_Change a0 a1 = some r) : Fn Tryz.prog 19 [dL 5 e_S_api_Change a0, dL 5 e_S_api_Change a1] (dB r) := by
  unfold F_slices_Equal_api_Change_api_Change at h
  refine Fn.of_body (N := 26) (rs := [.tmp 4]) Tryz.func19 (c := _) rfl rfl rfl (by kernel_rfl) (Nat.le_of_ble_eq_true rfl) (fun _B => ?_)
  refine awp_rs ?_
  refine ro rfl rfl (st_as rfl) ?_
  refine rw_nilk ?_
  refine awp_seq ?_
  refine awp_rs ?_
  refine ro rfl rfl (st_mv rfl) ?_
  refine ro rfl rfl (st_lenD rfl un45) ?_
  refine ro rfl rfl (st_mv rfl) ?_
  refine ro rfl rfl (st_lenD rfl un45) ?_
  refine ro rfl rfl (st_bin (v := dB (((a0.length : Nat) : Int) != ((a1.length : Nat) : Int))) rfl rfl rfl) ?_
  refine rw_nilk ?_
  refine awp_ite (b := (((a0.length : Nat) : Int) != ((a1.length : Nat) : Int))) rfl (fun p101 => ?_) (fun p101 => ?_)
  · replace h := ite_T p101 h
    refine awp_rs ?_
    refine ro rfl rfl (st_as rfl) ?_
    refine rw_nilk ?_
    refine awp_ret ?_
    refine rt_then ?_
    injection h with h
    subst h
    exact ret_out (v := dB false) (resV_one (resVs_tmp rfl resVs_nil)) (.keep rfl)
  · replace h := ite_F p101 h
    refine awp_skip ?_
    refine nx_then ?_
    refine awp_seq ?_
    refine awp_rs ?_
    refine ro rfl rfl (st_mv rfl) ?_
    refine ro rfl rfl (st_lenD rfl un45) ?_
    refine ro rfl rfl (st_mv rfl) ?_
    refine rw_nilk ?_
    refine awp_block ?_
    refine awp_len (t := 0) rfl (fun hl105 => ?_)
    rw [List.length_map] at hl105
    refine awp_range (fun (j105 : Nat) (s102 : Unit) (g103 : Unit) => [(0, dL 5 e_S_api_Change a0), (1, dL 5 e_S_api_Change a1), (12, dI .i64 ((a0.length : Nat) : Int)), (13, dI .i64 ((j105 : Nat) : Int))]) (fun (s102 : Unit) (g103 : Unit) => []) () (fun _ _ _ h => h) h (gh_frz rfl rfl ⟨⟨_, rfl, .keep rfl⟩, ⟨_, rfl, .keep rfl⟩, ⟨_, rfl, .keep rfl⟩, ⟨_, rfl, .keep rfl⟩, trivial⟩ trivial) ?_ ?_
    · clear h
      intro j105 x106 s102 g103 k104 hj105 hx105 h ih104
      refine awp_rs ?_
      refine ro rfl rfl (st_bin (v := dB (decide (((j105 : Nat) : Int) < ((a0.length : Nat) : Int)))) rfl rfl rfl) ?_
      refine rw_nilk ?_
      refine awp_seq ?_
      refine awp_ifT rfl (dlt hj105) ?_
      refine awp_skip ?_
      refine nx_then ?_
      refine awp_seq ?_
      refine awp_block ?_
      refine awp_rs ?_
      refine ro rfl rfl (st_mv rfl) ?_
      refine ro rfl rfl (st_as rfl) ?_
      refine rw_nilk ?_
      refine awp_rds hmix ?_
      refine do_ rfl rfl (st_mv rfl) rfl rfl rfl ?_
      refine do_ rfl rfl (st_mv rfl) rfl rfl rfl ?_
      refine do_ rfl rfl (st_ixDn sl45 rfl rfl hx105) rfl rfl rfl ?_
      refine do_ rfl rfl (st_ldD (v := .agg [dI .u8 x106.Kind, dI .i64 x106.Lit, dI .i64 x106.To, dI .i64 x106.At, dI .i64 x106.By]) ta29 rfl rfl) rfl rfl rfl ?_
      refine do_ rfl rfl (st_mv rfl) rfl rfl rfl ?_
      refine do_ rfl rfl (st_mv rfl) rfl rfl rfl ?_
      obtain ⟨x109, h0109, hx109, h⟩ := getI_some h
      refine do_ rfl rfl (st_ixD sl45 rfl rfl h0109 hx109) rfl rfl rfl ?_
      refine do_ rfl rfl (st_ldD (v := .agg [dI .u8 x109.Kind, dI .i64 x109.Lit, dI .i64 x109.To, dI .i64 x109.At, dI .i64 x109.By]) ta29 rfl rfl) rfl rfl rfl ?_
      refine do_ rfl rfl (st_binAn rfl rfl (eq29 x106.Kind x106.Lit x106.To x106.At x106.By x109.Kind x109.Lit x109.To x109.At x109.By)) rfl rfl rfl ?_
      refine rd_nil (by kernel_rfl) ?_
      refine awp_ite (b := (!((x106.Kind == x109.Kind) && ((x106.Lit == x109.Lit) && ((x106.To == x109.To) && ((x106.At == x109.At) && ((x106.By == x109.By) && true))))))) rfl (fun p110 => ?_) (fun p110 => ?_)
      · replace h := ite_T p110 h
        refine awp_rs ?_
        refine ro rfl rfl (st_as rfl) ?_
        refine rw_nilk ?_
        refine awp_ret ?_
        refine rt_block ?_
        refine rt_then ?_
        refine rt_then ?_
        refine rt_block ?_
        refine rt_then ?_
        injection h with h
        subst h
        exact ret_out (v := dB false) (resV_one (resVs_tmp rfl resVs_nil)) (.keep rfl)
      · replace h := ite_F p110 h
        refine awp_skip ?_
        refine nx_block ?_
        refine nx_then ?_
        refine awp_rw ?_
        refine ro rfl rfl (st_inc rfl rfl hj105 hl105) ?_
        refine ro rfl rfl (st_mv rfl) ?_
        refine rw_nil ?_
        refine nx_then ?_
        refine awp_gh ?_ (ih104 () () h)
        exact (gh_frz rfl rfl ⟨⟨_, rfl, .keep rfl⟩, ⟨_, rfl, .keep rfl⟩, ⟨_, rfl, .keep rfl⟩, ⟨_, rfl, .keep rfl⟩, trivial⟩ trivial)
    · clear h
      intro s102 g103 h
      refine awp_rs ?_
      refine ro rfl rfl (st_bin (v := dB (decide (((a0.length : Nat) : Int) < ((a0.length : Nat) : Int)))) rfl rfl rfl) ?_
      refine rw_nilk ?_
      refine awp_seq ?_
      refine awp_ifF rfl dge ?_
      refine awp_exit ?_
      refine ex_out ?_
      refine ex_out ?_
      refine ex_in ?_
      refine nx_then ?_
      refine awp_rs ?_
      refine ro rfl rfl (st_as rfl) ?_
      refine rw_nilk ?_
      refine awp_ret ?_
      injection h with h
      subst h
      exact ret_out (v := dB true) (resV_one (resVs_tmp rfl resVs_nil)) (.keep rfl)
end Go.Sk.X
