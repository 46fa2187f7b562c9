/- The Go functions that the law TruthHerbrand reaches, told as plain functions on numbers and lists. It has no conditions. -/
import Derived.Test.YtppmnjikhealeaaSk6
set_option linter.unusedVariables false
set_option linter.unusedSimpArgs false
namespace Go.Sk.X
open Go Go.Sk
structure S_api_Block where
  Exists : Bool
  Vars : (List Int)
structure S_api_Qbf where
  Prefix : (List S_api_Block)
  Clauses : (List (List Int))
structure S_prefix_place where
  block : Int
  f_exists : Bool
structure S_truth_turn where
  v : Int
  f_exists : Bool
structure S_truth_game where
  turns : (List S_truth_turn)
  clauses : (List (List Int))
structure S_api_Table where
  Var : Int
  On : (List Int)
  Bits : (List Bool)
structure S_api_Dep where
  Var : Int
  On : (List Int)
structure S_api_Dqbf where
  Univ : (List Int)
  Exist : (List S_api_Dep)
  Clauses : (List (List Int))
def W_S_api_Block (x : S_api_Block) : Prop := InB x.Exists ∧ (InL (InK .i64)) x.Vars
def W_S_api_Qbf (x : S_api_Qbf) : Prop := (InL W_S_api_Block) x.Prefix ∧ (InL (InL (InK .i64))) x.Clauses
def W_S_prefix_place (x : S_prefix_place) : Prop := (InK .i64) x.block ∧ InB x.f_exists
def W_S_truth_turn (x : S_truth_turn) : Prop := (InK .i64) x.v ∧ InB x.f_exists
def W_S_truth_game (x : S_truth_game) : Prop := (InL W_S_truth_turn) x.turns ∧ (InL (InL (InK .i64))) x.clauses
def W_S_api_Table (x : S_api_Table) : Prop := (InK .i64) x.Var ∧ (InL (InK .i64)) x.On ∧ (InL InB) x.Bits
def W_S_api_Dep (x : S_api_Dep) : Prop := (InK .i64) x.Var ∧ (InL (InK .i64)) x.On
def W_S_api_Dqbf (x : S_api_Dqbf) : Prop := (InL (InK .i64)) x.Univ ∧ (InL W_S_api_Dep) x.Exist ∧ (InL (InL (InK .i64))) x.Clauses
def Z_S_api_Block (x : S_api_Block) : Prop := InB x.Exists ∧ (InLz (InK .i64)) x.Vars
def Z_S_api_Qbf (x : S_api_Qbf) : Prop := (InLz Z_S_api_Block) x.Prefix ∧ (InLz (InLz (InK .i64))) x.Clauses
def Z_S_prefix_place (x : S_prefix_place) : Prop := (InK .i64) x.block ∧ InB x.f_exists
def Z_S_truth_turn (x : S_truth_turn) : Prop := (InK .i64) x.v ∧ InB x.f_exists
def Z_S_truth_game (x : S_truth_game) : Prop := (InLz Z_S_truth_turn) x.turns ∧ (InLz (InLz (InK .i64))) x.clauses
def Z_S_api_Table (x : S_api_Table) : Prop := (InK .i64) x.Var ∧ (InLz (InK .i64)) x.On ∧ (InLz InB) x.Bits
def Z_S_api_Dep (x : S_api_Dep) : Prop := (InK .i64) x.Var ∧ (InLz (InK .i64)) x.On
def Z_S_api_Dqbf (x : S_api_Dqbf) : Prop := (InLz (InK .i64)) x.Univ ∧ (InLz Z_S_api_Dep) x.Exist ∧ (InLz (InLz (InK .i64))) x.Clauses
abbrev tr_truth_Herbrand_0 : ((List S_api_Table) × Int) := ([(S_api_Table.mk (1 : Int) [(2 : Int)] [false, true])], (0 : Int))
abbrev tr_truth_Dqbf_0 : (Int × Int) := ((1 : Int), (0 : Int))
abbrev tr_truth_Herbrand_1 : ((List S_api_Table) × Int) := (([] : List S_api_Table), (6 : Int))
abbrev tr_truth_Skolem_0 : ((List S_api_Table) × Int) := ([(S_api_Table.mk (2 : Int) [(1 : Int)] [true, false])], (0 : Int))

def F_skolemlaw04_wide (a0 : (List (List Int))) (a1 : Int) : Option Bool :=
  (jn (fun (s108 : Bool) => (if s108 = true then (some true) else (rangeF (fun (j115 : Nat) (x116 : (List Int)) (s112 : Int) k114 => (k114 (IntKind.wrap .i64 (s112 + ((x116.length : Nat) : Int))))) 0 a0 (0 : Int) (fun (s112 : Int) => (some (decide (s112 > (300 : Int)))))))) (fun k110 => (if (decide (((a0.length : Nat) : Int) > (60 : Int))) = true then (k110 true) else (k110 (decide (a1 > (100 : Int)))))))

def F_skolemlaw04_great (a0 : S_api_Qbf) : Option Bool :=
  (if (decide (((a0.Prefix.length : Nat) : Int) > (60 : Int))) = true then (some true) else (rangeF (fun (j105 : Nat) (x106 : S_api_Block) (s102 : Int) k104 => (k104 (IntKind.wrap .i64 (s102 + ((x106.Vars.length : Nat) : Int))))) 0 a0.Prefix (0 : Int) (fun (s102 : Int) => ((F_skolemlaw04_wide a0.Clauses s102).bind (fun y110 => (if y110 = true then (some true) else (if (decide (s102 > (11 : Int))) = true then (some (decide (s102 ≤ (16 : Int)))) else (some false))))))))

def F_truth_of (a0 : S_api_Qbf) : Option S_truth_game :=
  (rangeF (fun (j104 : Nat) (x105 : S_api_Block) (s101 : (List S_truth_turn)) k103 => (rangeF (fun (j134 : Nat) (x135 : Int) (s131 : (List S_truth_turn)) k133 => (capN (s131.length + [(S_truth_turn.mk x135 x105.Exists)].length) (k133 (s131 ++ [(S_truth_turn.mk x135 x105.Exists)])))) 0 x105.Vars s101 (fun (s131 : (List S_truth_turn)) => (k103 s131)))) 0 a0.Prefix ([] : List S_truth_turn) (fun (s101 : (List S_truth_turn)) => (some (S_truth_game.mk s101 a0.Clauses))))

def F_prefix_count (a0 : (List S_api_Block)) : Option (Int × Bool) :=
  (rangeF (fun (j1278 : Nat) (x1279 : S_api_Block) (s1275 : (List (Int × Bool))) k1277 => (rangeF (fun (j2061 : Nat) (x2062 : Int) (s2058 : (List (Int × Bool))) k2060 => (jn (fun (s2441 : Bool) => (if s2441 = true then (some ((0 : Int), false)) else (k2060 (mset s2058 x2062 true)))) (fun k2443 => (if (decide (x2062 < (1 : Int))) = true then (k2443 true) else (if (decide (x2062 > (65536 : Int))) = true then (k2443 true) else (k2443 ((mget s2058 x2062).getD false))))))) 0 x1279.Vars s1275 (fun (s2058 : (List (Int × Bool))) => (k1277 s2058)))) 0 a0 ([] : List (Int × Bool)) (fun (s1275 : (List (Int × Bool))) => (some (((s1275.length : Nat) : Int), true))))

def F_prefix_May (a0 : (List S_api_Block)) : Option Bool :=
  (rangeF (fun (j104 : Nat) (x105 : S_api_Block) (s101 : Unit) k103 => (jn (fun (s139 : Bool) => (if s139 = true then (some false) else (k103 ()))) (fun k141 => (if (((x105.Vars.length : Nat) : Int) == (0 : Int)) = true then (k141 true) else (if (decide (((j104 : Nat) : Int) > (0 : Int))) = true then (getI a0 (IntKind.wrap .i64 (((j104 : Nat) : Int) - (1 : Int))) (fun x145 => (k141 (x145.Exists == x105.Exists)))) else (k141 false)))))) 0 a0 () (fun (s101 : Unit) => ((F_prefix_count a0).bind (fun y146 => (if y146.2 = true then (some (decide (y146.1 ≤ (1024 : Int)))) else (some false))))))

def F_prefix_abs (a0 : Int) : Option Int :=
  (some (imx a0 (IntKind.wrap .i64 (0 - a0))))

def F_prefix_MayQbf (a0 : S_api_Qbf) : Option Bool :=
  ((F_prefix_May a0.Prefix).bind (fun y2140 => (if y2140 = true then (Option.bind (rangeF (fun (j2750 : Nat) (x2751 : S_api_Block) (s2747 : (List (Int × S_prefix_place))) k2749 => (rangeF (fun (j2885 : Nat) (x2886 : Int) (s2882 : (List (Int × S_prefix_place))) k2884 => (jn (fun (s2943 : (List (Int × S_prefix_place))) => (k2884 s2943)) (fun k2945 => (if (!(mget s2882 x2886).isSome) = true then (k2945 (mset s2882 x2886 (S_prefix_place.mk ((j2750 : Nat) : Int) x2751.Exists))) else (k2945 s2882))))) 0 x2751.Vars s2747 (fun (s2882 : (List (Int × S_prefix_place))) => (k2749 s2882)))) 0 a0.Prefix ([] : List (Int × S_prefix_place)) (fun (s2747 : (List (Int × S_prefix_place))) => (some s2747))) (fun (y2544 : (List (Int × S_prefix_place))) => (Option.bind (some ()) (fun (y2947 : Unit) => (Option.bind (if (decide (((a0.Clauses.length : Nat) : Int) > (20000 : Int))) = true then (some false) else (rangeF (fun (j3568 : Nat) (x3569 : (List Int)) (s3565 : Int) k3567 => (rangeF (fun (j3979 : Nat) (x3980 : Int) (s3976 : Int) k3978 => (jn (fun (s4168 : Bool) => (if s4168 = true then (some false) else ((F_prefix_abs x3980).bind (fun y4172 => (k3978 y4172))))) (fun k4170 => (if (x3980 == (0 : Int)) = true then (k4170 true) else (if (decide (x3980 < (-65536 : Int))) = true then (k4170 true) else (if (decide (x3980 > (65536 : Int))) = true then (k4170 true) else ((F_prefix_abs x3980).bind (fun y4176 => (if (decide (y4176 ≤ s3976)) = true then (k4170 true) else ((F_prefix_abs x3980).bind (fun y4178 => (k4170 (!(mget y2544 y4178).isSome))))))))))))) 0 x3569 (0 : Int) (fun (s3976 : Int) => (k3567 (IntKind.wrap .i64 (s3565 + ((x3569.length : Nat) : Int))))))) 0 a0.Clauses (0 : Int) (fun (s3565 : Int) => (some (decide (s3565 ≤ (200000 : Int))))))) (fun (y3563 : Bool) => (some y3563))))))) else (some false))))

def F_truth_small (a0 : S_api_Qbf) : Option Int :=
  ((F_prefix_MayQbf a0).bind (fun y101 => (if (!y101) = true then (some (2 : Int)) else ((F_truth_of a0).bind (fun y103 => (if (decide (((y103.turns.length : Nat) : Int) > (16 : Int))) = true then (some (3 : Int)) else (some (0 : Int))))))))

def F_truth_value (a0 : Bool) : Option Int :=
  (if a0 = true then (some (1 : Int)) else (some (2 : Int)))

def F_truth_game_left_c1 : Nat → (List S_truth_turn) → (List (List Int)) → Int → (List (Int × Bool)) → Option (Bool × (List (Int × Bool)))
  | 0, _, _, _, _ => none
  | n + 1, p0, p1, b0, m0 =>
  (if (b0 == ((p0.length : Nat) : Int)) = true then (jn (fun (s513 : Bool) => (some (s513, m0))) (fun k515 => (rangeF (fun (j519 : Nat) (x520 : (List Int)) (s516 : Unit) k518 => (jn (fun (s874 : Int) => (if (!(decide (s874 ≥ (0 : Int)))) = true then (k515 false) else (k518 ()))) (fun k876 => (rangeF (fun (j881 : Nat) (x882 : Int) (s878 : Unit) k880 => (jn (fun (s922 : Bool) => (if s922 = true then (k876 ((j881 : Nat) : Int)) else (k880 ()))) (fun k924 => (if (decide (x882 < (0 : Int))) = true then (k924 (!((mget m0 (IntKind.wrap .i64 (0 - x882))).getD false))) else (k924 ((mget m0 x882).getD false)))))) 0 x520 () (fun (s878 : Unit) => (k876 (-1 : Int))))))) 0 p1 () (fun (s516 : Unit) => (k515 true))))) else (getI p0 b0 (fun x927 => ((F_truth_game_left_c1 n p0 p1 (IntKind.wrap .i64 (b0 + (1 : Int))) (mset m0 x927.v false)).bind (fun y932 => (if (y932.1 == x927.f_exists) = true then (some (x927.f_exists, y932.2)) else ((F_truth_game_left_c1 n p0 p1 (IntKind.wrap .i64 (b0 + (1 : Int))) (mset y932.2 x927.v true)).bind (fun y935 => (some (y935.1, y935.2))))))))))

def F_truth_Qbf (a0 : S_api_Qbf) : Option (Int × Int) :=
  ((F_truth_small a0).bind (fun y101 => (if (y101 != (0 : Int)) = true then (some ((0 : Int), y101)) else ((F_truth_of a0).bind (fun y103 => ((F_truth_game_left_c1 1000000 y103.turns y103.clauses (0 : Int) ([] : List (Int × Bool))).bind (fun y107 => ((F_truth_value y107.1).bind (fun y108 => (some (y108, (0 : Int))))))))))))

def F_skolemref03_Ints (a0 : (List Int)) (a1 : (List Int)) : Option Bool :=
  (if (((a0.length : Nat) : Int) != ((a1.length : Nat) : Int)) = true then (some false) else (rangeF (fun (j105 : Nat) (x106 : Int) (s102 : Unit) k104 => (getI a1 ((j105 : Nat) : Int) (fun x109 => (if (x106 != x109) = true then (some false) else (k104 ()))))) 0 a0 () (fun (s102 : Unit) => (some true))))

def F_skolemref04_SameTables (a0 : (List S_api_Table)) (a1 : (List S_api_Table)) : Option Bool :=
  (if (((a0.length : Nat) : Int) != ((a1.length : Nat) : Int)) = true then (some false) else (rangeF (fun (j105 : Nat) (x106 : S_api_Table) (s102 : Unit) k104 => (jn (fun (s272 : Unit) => (k104 ())) (fun k274 => (jn (fun (s297 : Bool) => (if s297 = true then (some false) else (whileF 1000000000000 (fun k303 (s301 : Int) => (if (decide (s301 < ((x106.Bits.length : Nat) : Int))) = true then (getI x106.Bits s301 (fun x319 => (getI a1 ((j105 : Nat) : Int) (fun x320 => (getI x320.Bits s301 (fun x321 => (if (!(x319 == x321)) = true then (some false) else (k303 (IntKind.wrap .i64 (s301 + (1 : Int))))))))))) else (k274 ()))) (0 : Int)))) (fun k299 => (getI a1 ((j105 : Nat) : Int) (fun x323 => (if (x106.Var != x323.Var) = true then (k299 true) else (getI a1 ((j105 : Nat) : Int) (fun x325 => ((F_skolemref03_Ints x106.On x325.On).bind (fun y326 => (if (!y326) = true then (k299 true) else (getI a1 ((j105 : Nat) : Int) (fun x328 => (k299 (((x106.Bits.length : Nat) : Int) != ((x328.Bits.length : Nat) : Int)))))))))))))))))) 0 a0 () (fun (s102 : Unit) => (some true))))

def F_skolemlaw04_head  : Option Bool :=
  ((F_truth_Qbf (S_api_Qbf.mk ([(S_api_Block.mk false [(1 : Int)]), (S_api_Block.mk true [(2 : Int)])]) ([[(1 : Int), (2 : Int)], [(-1 : Int), (-2 : Int)]]))).bind (fun y101 => ((F_truth_Qbf (S_api_Qbf.mk ([(S_api_Block.mk true [(2 : Int)]), (S_api_Block.mk false [(1 : Int)])]) ([[(1 : Int), (2 : Int)], [(-1 : Int), (-2 : Int)]]))).bind (fun y102 => ((F_truth_Qbf (S_api_Qbf.mk ([] : List S_api_Block) ([[(1 : Int)]]))).bind (fun y105 => (jn (fun (s114 : Bool) => (if s114 = true then (if (tr_truth_Dqbf_0.2 == (0 : Int)) = true then (if (tr_truth_Dqbf_0.1 == (1 : Int)) = true then (if (y105.2 == (2 : Int)) = true then (if (tr_truth_Herbrand_1.2 == (6 : Int)) = true then (if (tr_truth_Skolem_0.2 == (0 : Int)) = true then ((F_skolemref04_SameTables tr_truth_Skolem_0.1 ([(S_api_Table.mk (2 : Int) [(1 : Int)] [true, false])])).bind (fun y130 => (some y130))) else (some false)) else (some false)) else (some false)) else (some false)) else (some false)) else (some false))) (fun k116 => (if (y101.2 == (0 : Int)) = true then (if (y101.1 == (1 : Int)) = true then (if (y102.2 == (0 : Int)) = true then (if (y102.1 == (2 : Int)) = true then (if (tr_truth_Herbrand_0.2 == (0 : Int)) = true then ((F_skolemref04_SameTables tr_truth_Herbrand_0.1 ([(S_api_Table.mk (1 : Int) [(2 : Int)] [false, true])])).bind (fun y136 => (k116 y136))) else (k116 false)) else (k116 false)) else (k116 false)) else (k116 false)) else (k116 false))))))))))

def F_slices_Clone_int_int (a0 : (List Int)) : Option (List Int) :=
  (if a0.isEmpty = true then (some ([] : List Int)) else (capN (([] : List Int).length + a0.length) (some (([] : List Int) ++ a0))))

def F_truth_game_left_c1_3 : Nat → (List S_truth_turn) → (List (List Int)) → Int → (List (Int × Bool)) → Option (Bool × (List (Int × Bool)))
  | 0, _, _, _, _ => none
  | n + 1, p0, p1, b0, m0 =>
  (if (b0 == ((p0.length : Nat) : Int)) = true then (jn (fun (s513 : Bool) => (some (s513, m0))) (fun k515 => (rangeF (fun (j519 : Nat) (x520 : (List Int)) (s516 : Unit) k518 => (jn (fun (s874 : Int) => (if (!(decide (s874 ≥ (0 : Int)))) = true then (k515 false) else (k518 ()))) (fun k876 => (rangeF (fun (j881 : Nat) (x882 : Int) (s878 : Unit) k880 => (jn (fun (s922 : Bool) => (if s922 = true then (k876 ((j881 : Nat) : Int)) else (k880 ()))) (fun k924 => (if (decide (x882 < (0 : Int))) = true then (k924 (!((mget m0 (IntKind.wrap .i64 (0 - x882))).getD false))) else (k924 ((mget m0 x882).getD false)))))) 0 x520 () (fun (s878 : Unit) => (k876 (-1 : Int))))))) 0 p1 () (fun (s516 : Unit) => (k515 true))))) else (getI p0 b0 (fun x927 => ((F_truth_game_left_c1_3 n p0 p1 (IntKind.wrap .i64 (b0 + (1 : Int))) (mset m0 x927.v false)).bind (fun y932 => (if (y932.1 == x927.f_exists) = true then (some (x927.f_exists, y932.2)) else ((F_truth_game_left_c1_3 n p0 p1 (IntKind.wrap .i64 (b0 + (1 : Int))) (mset y932.2 x927.v true)).bind (fun y935 => (some (y935.1, y935.2))))))))))

def F_truth_game_left_c1_4 : Nat → (List S_truth_turn) → (List (List Int)) → Int → (List (Int × Bool)) → Option (Bool × (List (Int × Bool)))
  | 0, _, _, _, _ => none
  | n + 1, p0, p1, b0, m0 =>
  (if (b0 == ((p0.length : Nat) : Int)) = true then (jn (fun (s513 : Bool) => (some (s513, m0))) (fun k515 => (rangeF (fun (j519 : Nat) (x520 : (List Int)) (s516 : Unit) k518 => (jn (fun (s874 : Int) => (if (!(decide (s874 ≥ (0 : Int)))) = true then (k515 false) else (k518 ()))) (fun k876 => (rangeF (fun (j881 : Nat) (x882 : Int) (s878 : Unit) k880 => (jn (fun (s922 : Bool) => (if s922 = true then (k876 ((j881 : Nat) : Int)) else (k880 ()))) (fun k924 => (if (decide (x882 < (0 : Int))) = true then (k924 (!((mget m0 (IntKind.wrap .i64 (0 - x882))).getD false))) else (k924 ((mget m0 x882).getD false)))))) 0 x520 () (fun (s878 : Unit) => (k876 (-1 : Int))))))) 0 p1 () (fun (s516 : Unit) => (k515 true))))) else (getI p0 b0 (fun x927 => ((F_truth_game_left_c1_4 n p0 p1 (IntKind.wrap .i64 (b0 + (1 : Int))) (mset m0 x927.v false)).bind (fun y932 => (if (y932.1 == x927.f_exists) = true then (some (x927.f_exists, y932.2)) else ((F_truth_game_left_c1_4 n p0 p1 (IntKind.wrap .i64 (b0 + (1 : Int))) (mset y932.2 x927.v true)).bind (fun y935 => (some (y935.1, y935.2))))))))))

def F_truth_game_left_c1_5 : Nat → (List S_truth_turn) → (List (List Int)) → Int → (List (Int × Bool)) → Option (Bool × (List (Int × Bool)))
  | 0, _, _, _, _ => none
  | n + 1, p0, p1, b0, m0 =>
  (if (b0 == ((p0.length : Nat) : Int)) = true then (jn (fun (s513 : Bool) => (some (s513, m0))) (fun k515 => (rangeF (fun (j519 : Nat) (x520 : (List Int)) (s516 : Unit) k518 => (jn (fun (s874 : Int) => (if (!(decide (s874 ≥ (0 : Int)))) = true then (k515 false) else (k518 ()))) (fun k876 => (rangeF (fun (j881 : Nat) (x882 : Int) (s878 : Unit) k880 => (jn (fun (s922 : Bool) => (if s922 = true then (k876 ((j881 : Nat) : Int)) else (k880 ()))) (fun k924 => (if (decide (x882 < (0 : Int))) = true then (k924 (!((mget m0 (IntKind.wrap .i64 (0 - x882))).getD false))) else (k924 ((mget m0 x882).getD false)))))) 0 x520 () (fun (s878 : Unit) => (k876 (-1 : Int))))))) 0 p1 () (fun (s516 : Unit) => (k515 true))))) else (getI p0 b0 (fun x927 => ((F_truth_game_left_c1_5 n p0 p1 (IntKind.wrap .i64 (b0 + (1 : Int))) (mset m0 x927.v false)).bind (fun y932 => (if (y932.1 == x927.f_exists) = true then (some (x927.f_exists, y932.2)) else ((F_truth_game_left_c1_5 n p0 p1 (IntKind.wrap .i64 (b0 + (1 : Int))) (mset y932.2 x927.v true)).bind (fun y935 => (some (y935.1, y935.2))))))))))

def F_truth_Herbrand (a0 : S_api_Qbf) : Option ((List S_api_Table) × Int) :=
  ((F_truth_small a0).bind (fun y101 => (if (y101 != (0 : Int)) = true then (some (([] : List S_api_Table), y101)) else ((F_truth_of a0).bind (fun y169 => (rangeF (fun (j173 : Nat) (x174 : S_truth_turn) (s170 : (Int × (List Int) × (List S_api_Table))) k172 => (jn (fun (s226 : (Int × (List Int) × (List S_api_Table))) => (k172 (s226.1, s226.2.1, s226.2.2))) (fun k228 => (if x174.f_exists = true then (capN (s170.2.1.length + [x174.v].length) (k228 (s170.1, (s170.2.1 ++ [x174.v]), s170.2.2))) else ((F_slices_Clone_int_int s170.2.1).bind (fun y231 => (okI (y231.length ≤ 1099511627776) (capN (s170.2.2.length + ([(S_api_Table.mk x174.v (srt y231) ([] : List Bool))]).length) (okI (0 ≤ (imn (((srt y231).length : Nat) : Int) (13 : Int))) (k228 ((IntKind.wrap .i64 (s170.1 + (IntKind.wrap .i64 ((1 : Int) * 2 ^ (min (imn (((srt y231).length : Nat) : Int) (13 : Int)).toNat (IntKind.bits .i64)))))), s170.2.1, (s170.2.2 ++ ([(S_api_Table.mk x174.v (srt y231) ([] : List Bool))]))))))))))))) 0 y169.turns ((0 : Int), ([] : List Int), ([] : List S_api_Table)) (fun (s170 : (Int × (List Int) × (List S_api_Table))) => (if (decide (s170.1 > (4096 : Int))) = true then (some (([] : List S_api_Table), (3 : Int))) else ((F_truth_of a0).bind (fun y236 => ((F_truth_game_left_c1_3 1000000 y236.turns y236.clauses (0 : Int) ([] : List (Int × Bool))).bind (fun y240 => (if y240.1 = true then (some (([] : List S_api_Table), (6 : Int))) else (rangeF (fun (j245 : Nat) (x246 : S_api_Table) (s242 : (List S_api_Table)) k244 => (getI s242 ((j245 : Nat) : Int) (fun x29994 => (okI (x29994.Bits.length = 0) (jn (fun (s30005 : Int) => (okI (0 ≤ ((x29994.On.length : Nat) : Int)) (okI (-9223372036854775808 ≤ (0 : Int) ∧ (IntKind.wrap .i64 ((1 : Int) * 2 ^ (min ((x29994.On.length : Nat) : Int).toNat (IntKind.bits .i64)))) ≤ 9223372036854775807) (upF (fun (j30013 : Int) (s30010 : (List Bool)) k30012 => (rangeF (fun (j35198 : Nat) (x35199 : Int) (s35195 : (List (Int × Bool))) k35197 => (okI (0 ≤ ((j35198 : Nat) : Int)) (k35197 (mset s35195 x35199 ((IntKind.wrap .i64 ((BitVec.ofInt (IntKind.bits .i64) (Int.fdiv j30013 (2 ^ (min ((j35198 : Nat) : Int).toNat (IntKind.bits .i64)))) &&& BitVec.ofInt (IntKind.bits .i64) (1 : Int)).toNat : Int)) == (1 : Int)))))) 0 x29994.On ([] : List (Int × Bool)) (fun (s35195 : (List (Int × Bool))) => (okI (0 ≤ ((j245 : Nat) : Int) ∧ ((j245 : Nat) : Int).toNat ≤ s242.length) (okI (-9223372036854775808 ≤ (0 : Int) ∧ ((((j245 : Nat) : Int).toNat : Nat) : Int) ≤ 9223372036854775807) (upF (fun (j35756 : Int) (s35753 : (List (Int × Bool))) k35755 => (okI (j35756.toNat < ((j245 : Nat) : Int).toNat ∧ j35756.toNat ≠ j245) (getI s242 j35756 (fun x35872 => (Option.bind (rangeF (fun (j35905 : Nat) (x35906 : Int) (s35902 : Int) k35904 => (jn (fun (s35923 : Int) => (k35904 s35923)) (fun k35925 => (if ((mget s35753 x35906).getD false) = true then (okI (0 ≤ ((j35905 : Nat) : Int)) (k35925 (IntKind.wrap .i64 ((BitVec.ofInt (IntKind.bits .i64) s35902 ||| BitVec.ofInt (IntKind.bits .i64) (IntKind.wrap .i64 ((1 : Int) * 2 ^ (min ((j35905 : Nat) : Int).toNat (IntKind.bits .i64))))).toNat : Int)))) else (k35925 s35902))))) 0 x35872.On (0 : Int) (fun (s35902 : Int) => (getI x35872.Bits s35902 (fun x35928 => (some x35928))))) (fun (y35901 : Bool) => (k35755 (mset s35753 x35872.Var y35901)))))))) ((((((j245 : Nat) : Int).toNat : Nat) : Int) - (0 : Int)).toNat) (0 : Int) s35195 (fun (s35753 : (List (Int × Bool))) => (Option.bind ((F_truth_game_left_c1_5 1000000 y236.turns y236.clauses (IntKind.wrap .i64 (s30005 + (1 : Int))) (mset s35753 x29994.Var false)).bind (fun y35933 => (some (y35933.1, y35933.2)))) (fun (y35931 : (Bool × (List (Int × Bool)))) => (capN (s30010.length + [y35931.1].length) (k30012 (s30010 ++ [y35931.1])))))))))))) (((IntKind.wrap .i64 ((1 : Int) * 2 ^ (min ((x29994.On.length : Nat) : Int).toNat (IntKind.bits .i64)))) - (0 : Int)).toNat) (0 : Int) ([] : List Bool) (fun (s30010 : (List Bool)) => (okI (0 < s30010.length) (k244 (s242.set j245 (S_api_Table.mk x29994.Var x29994.On s30010))))))))) (fun k30007 => (rangeF (fun (j35939 : Nat) (x35940 : S_truth_turn) (s35936 : Unit) k35938 => (if (x35940.v == x29994.Var) = true then (k30007 ((j35939 : Nat) : Int)) else (k35938 ()))) 0 y236.turns () (fun (s35936 : Unit) => (k30007 (-1 : Int)))))))))) 0 s170.2.2 s170.2.2 (fun (s242 : (List S_api_Table)) => (some (s242, (0 : Int))))))))))))))))))

def F_skolemref03_Abs (a0 : Int) : Option Int :=
  (if (decide (a0 < (0 : Int))) = true then (some (IntKind.wrap .i64 (0 - a0))) else (some a0))

def F_skolemref03_Normal (a0 : (List Int)) : Option Bool :=
  (rangeF (fun (j104 : Nat) (x105 : Int) (s101 : Unit) k103 => (jn (fun (s167 : Bool) => (if s167 = true then (some false) else (k103 ()))) (fun k169 => (if (x105 == (0 : Int)) = true then (k169 true) else (if (decide (x105 < (-65536 : Int))) = true then (k169 true) else (if (decide (x105 > (65536 : Int))) = true then (k169 true) else (if (decide (((j104 : Nat) : Int) > (0 : Int))) = true then (getI a0 (IntKind.wrap .i64 (((j104 : Nat) : Int) - (1 : Int))) (fun x175 => ((F_skolemref03_Abs x175).bind (fun y176 => ((F_skolemref03_Abs x105).bind (fun y177 => (k169 (decide (y176 ≥ y177))))))))) else (k169 false)))))))) 0 a0 () (fun (s101 : Unit) => (some true)))

def F_skolemref03_Cnf (a0 : (List (List Int))) : Option Bool :=
  (rangeF (fun (j104 : Nat) (x105 : (List Int)) (s101 : Int) k103 => ((F_skolemref03_Normal x105).bind (fun y110 => (if (!y110) = true then (some false) else (k103 (IntKind.wrap .i64 (s101 + ((x105.length : Nat) : Int)))))))) 0 a0 (0 : Int) (fun (s101 : Int) => (if (decide (((a0.length : Nat) : Int) ≤ (20000 : Int))) = true then (some (decide (s101 ≤ (200000 : Int)))) else (some false))))

def F_skolemref03_Has (a0 : (List Int)) (a1 : Int) : Option Bool :=
  (rangeF (fun (j104 : Nat) (x105 : Int) (s101 : Unit) k103 => (if (x105 == a1) = true then (some true) else (k103 ()))) 0 a0 () (fun (s101 : Unit) => (some false)))

def F_skolemref03_within (a0 : (List (List Int))) (a1 : (List Int)) : Option Bool :=
  (rangeF (fun (j104 : Nat) (x105 : (List Int)) (s101 : Unit) k103 => (whileF 1000000000000 (fun k130 (s128 : Int) => (if (decide (s128 < ((x105.length : Nat) : Int))) = true then (getI x105 s128 (fun x146 => ((F_skolemref03_Abs x146).bind (fun y147 => ((F_skolemref03_Has a1 y147).bind (fun y148 => (if (!y148) = true then (some false) else (k130 (IntKind.wrap .i64 (s128 + (1 : Int))))))))))) else (k103 ()))) (0 : Int))) 0 a0 () (fun (s101 : Unit) => (some true)))

def F_skolemref03_single (a0 : (List Int)) : Option Bool :=
  (rangeF (fun (j104 : Nat) (x105 : Int) (s101 : Unit) k103 => (jn (fun (s146 : Bool) => (if s146 = true then (some false) else (k103 ()))) (fun k148 => (if (decide (x105 < (1 : Int))) = true then (k148 true) else (if (decide (x105 > (65536 : Int))) = true then (k148 true) else (okI (0 ≤ ((j104 : Nat) : Int) ∧ ((j104 : Nat) : Int).toNat ≤ a0.length) ((F_skolemref03_Has (a0.take ((j104 : Nat) : Int).toNat) x105).bind (fun y153 => (k148 y153))))))))) 0 a0 () (fun (s101 : Unit) => (some true)))

def F_skolemref03_Flat (a0 : (List S_api_Block)) : Option (List Int) :=
  (rangeF (fun (j104 : Nat) (x105 : S_api_Block) (s101 : (List Int)) k103 => (capN (s101.length + x105.Vars.length) (k103 (s101 ++ x105.Vars)))) 0 a0 ([] : List Int) (fun (s101 : (List Int)) => (some s101)))

def F_skolemref03_May (a0 : (List S_api_Block)) : Option Bool :=
  (rangeF (fun (j104 : Nat) (x105 : S_api_Block) (s101 : Unit) k103 => (jn (fun (s139 : Bool) => (if s139 = true then (some false) else (k103 ()))) (fun k141 => (if (((x105.Vars.length : Nat) : Int) == (0 : Int)) = true then (k141 true) else (if (decide (((j104 : Nat) : Int) > (0 : Int))) = true then (getI a0 (IntKind.wrap .i64 (((j104 : Nat) : Int) - (1 : Int))) (fun x145 => (k141 (x145.Exists == x105.Exists)))) else (k141 false)))))) 0 a0 () (fun (s101 : Unit) => ((F_skolemref03_Flat a0).bind (fun y146 => (if (decide (((y146.length : Nat) : Int) ≤ (1024 : Int))) = true then ((F_skolemref03_single y146).bind (fun y150 => (some y150))) else (some false))))))

def F_skolemref03_MayQbf (a0 : S_api_Qbf) : Option Bool :=
  ((F_skolemref03_May a0.Prefix).bind (fun y107 => (if y107 = true then ((F_skolemref03_Cnf a0.Clauses).bind (fun y109 => (if y109 = true then ((F_skolemref03_Flat a0.Prefix).bind (fun y111 => ((F_skolemref03_within a0.Clauses y111).bind (fun y112 => (some y112))))) else (some false)))) else (some false))))

def F_skolemref04_order (a0 : (List S_api_Block)) : Option ((List Int) × (List Bool)) :=
  (rangeF (fun (j104 : Nat) (x105 : S_api_Block) (s101 : ((List Int) × (List Bool))) k103 => (whileF 1000000000000 (fun k170 (s168 : (Int × (List Int) × (List Bool))) => (if (decide (s168.1 < ((x105.Vars.length : Nat) : Int))) = true then (getI x105.Vars s168.1 (fun x184 => (capN (s168.2.1.length + [x184].length) (capN (s168.2.2.length + [x105.Exists].length) (k170 ((IntKind.wrap .i64 (s168.1 + (1 : Int))), (s168.2.1 ++ [x184]), (s168.2.2 ++ [x105.Exists]))))))) else (k103 (s168.2.1, s168.2.2)))) ((0 : Int), s101.1, s101.2))) 0 a0 (([] : List Int), ([] : List Bool)) (fun (s101 : ((List Int) × (List Bool))) => (some (s101.1, s101.2))))

def F_skolemref04_Satisfied (a0 : (List (List Int))) (a1 : (List Int)) : Option Bool :=
  (rangeF (fun (j104 : Nat) (x105 : (List Int)) (s101 : Unit) k103 => (whileF 1000000000000 (fun k142 (s140 : (Bool × Int)) => (if (decide (s140.2 < ((x105.length : Nat) : Int))) = true then (jn (fun (s167 : Bool) => (k142 (s167, (IntKind.wrap .i64 (s140.2 + (1 : Int)))))) (fun k169 => (if s140.1 = true then (k169 true) else (getI x105 s140.2 (fun x171 => ((F_skolemref03_Has a1 x171).bind (fun y172 => (k169 y172)))))))) else (if (!s140.1) = true then (some false) else (k103 ())))) (false, (0 : Int)))) 0 a0 () (fun (s101 : Unit) => (some true)))

def F_skolemref04_Left : Nat → S_api_Qbf → (List Int) → Option Bool
  | 0, _, _ => none
  | n + 1, a0, a1 =>
  ((F_skolemref04_order a0.Prefix).bind (fun y101 => (if (((a1.length : Nat) : Int) == ((y101.1.length : Nat) : Int)) = true then ((F_skolemref04_Satisfied a0.Clauses a1).bind (fun y103 => (some y103))) else (capN (([] : List Int).length + a1.length) (getI y101.1 ((a1.length : Nat) : Int) (fun x105 => (capN ((([] : List Int) ++ a1).length + [(IntKind.wrap .i64 (0 - x105))].length) ((F_skolemref04_Left n a0 ((([] : List Int) ++ a1) ++ [(IntKind.wrap .i64 (0 - x105))])).bind (fun y107 => (getI y101.2 ((a1.length : Nat) : Int) (fun x108 => (if (y107 == x108) = true then (some y107) else (capN (([] : List Int).length + a1.length) (getI y101.1 ((a1.length : Nat) : Int) (fun x111 => (capN ((([] : List Int) ++ a1).length + [x111].length) ((F_skolemref04_Left n a0 ((([] : List Int) ++ a1) ++ [x111])).bind (fun y113 => (some y113)))))))))))))))))))

def F_skolemref04_Qbf (a0 : S_api_Qbf) : Option (Int × Int) :=
  ((F_skolemref03_MayQbf a0).bind (fun y101 => (if (!y101) = true then (some ((0 : Int), (2 : Int))) else ((F_skolemref04_order a0.Prefix).bind (fun y103 => (if (decide (((y103.1.length : Nat) : Int) > (16 : Int))) = true then (some ((0 : Int), (3 : Int))) else ((F_skolemref04_Left 1000000 a0 ([] : List Int)).bind (fun y105 => (if y105 = true then (some ((1 : Int), (0 : Int))) else (some ((2 : Int), (0 : Int))))))))))))

def F_skolemref03_Put (a0 : (List Int)) (a1 : Int) : Option (List Int) :=
  (rangeF (fun (j104 : Nat) (x105 : Int) (s101 : (Bool × (List Int))) k103 => (if (x105 == a1) = true then (some a0) else (jn (fun (s207 : (Bool × (List Int))) => (capN (s207.2.length + [x105].length) (k103 (s207.1, (s207.2 ++ [x105]))))) (fun k209 => (jn (fun (s212 : Bool) => (if s212 = true then (capN (s101.2.length + [a1].length) (k209 (true, (s101.2 ++ [a1])))) else (k209 (s101.1, s101.2)))) (fun k214 => (if (!s101.1) = true then (k214 (decide (x105 > a1))) else (k214 false)))))))) 0 a0 (false, ([] : List Int)) (fun (s101 : (Bool × (List Int))) => (if (!s101.1) = true then (capN (s101.2.length + [a1].length) (some (s101.2 ++ [a1]))) else (some s101.2))))

def F_skolemref04_Lit (a0 : Int) (a1 : Bool) : Option Int :=
  (if a1 = true then (some a0) else (some (IntKind.wrap .i64 (0 - a0))))

def F_skolemref04_At (a0 : S_api_Table) (a1 : (List Int)) : Option Bool :=
  (rangeF (fun (j104 : Nat) (x105 : Int) (s101 : Int) k103 => (jn (fun (s127 : Int) => (k103 s127)) (fun k129 => ((F_skolemref03_Has a1 x105).bind (fun y130 => (if y130 = true then (okI (0 ≤ (IntKind.wrap .u64 ((j104 : Nat) : Int))) (k129 (IntKind.wrap .i64 (s101 + (IntKind.wrap .i64 ((1 : Int) * 2 ^ (min (IntKind.wrap .u64 ((j104 : Nat) : Int)).toNat (IntKind.bits .i64)))))))) else (k129 s101))))))) 0 a0.On (0 : Int) (fun (s101 : Int) => (getI a0.Bits s101 (fun x133 => (some x133)))))

def F_skolemref04_played (a0 : S_api_Qbf) (a1 : (List S_api_Table)) (a2 : (List Int)) (a3 : Int) : Option (List Int) :=
  ((F_skolemref04_order a0.Prefix).bind (fun y101 => (whileF 1000000000000 (fun k104 (s102 : (Int × (List Int))) => (jn (fun (s500 : Bool) => (if s500 = true then (jn (fun (s554 : (List Int)) => (k104 ((IntKind.wrap .i64 (s102.1 + (1 : Int))), s554))) (fun k556 => (getI y101.2 s102.1 (fun x557 => (if x557 = true then (getI y101.1 s102.1 (fun x559 => ((F_skolemref03_Has a2 x559).bind (fun y560 => ((F_skolemref04_Lit x559 y560).bind (fun y561 => (capN (s102.2.length + [y561].length) (k556 (s102.2 ++ [y561]))))))))) else (rangeF (fun (j566 : Nat) (x567 : S_api_Table) (s563 : (List Int)) k565 => (jn (fun (s599 : (List Int)) => (k565 s599)) (fun k601 => (getI y101.1 s102.1 (fun x602 => (if (x567.Var == x602) = true then ((F_skolemref04_At x567 a2).bind (fun y604 => ((F_skolemref04_Lit x602 y604).bind (fun y605 => (capN (s563.length + [y605].length) (k601 (s563 ++ [y605]))))))) else (k601 s563))))))) 0 a1 s102.2 (fun (s563 : (List Int)) => (k556 s563)))))))) else (some s102.2))) (fun k502 => (if (decide (s102.1 < ((y101.1.length : Nat) : Int))) = true then (getI y101.1 s102.1 (fun x608 => (k502 (x608 != a3)))) else (k502 false))))) ((0 : Int), ([] : List Int)))))

def F_skolemref04_Point (a0 : (List Int)) (a1 : Int) : Option (List Int) :=
  (rangeF (fun (j104 : Nat) (x105 : Int) (s101 : (List Int)) k103 => (jn (fun (s164 : Int) => (capN (s101.length + [s164].length) (k103 (s101 ++ [s164])))) (fun k166 => (okI (0 ≤ (IntKind.wrap .u64 ((j104 : Nat) : Int))) (if ((IntKind.wrap .i64 ((BitVec.ofInt (IntKind.bits .i64) (Int.fdiv a1 (2 ^ (min (IntKind.wrap .u64 ((j104 : Nat) : Int)).toNat (IntKind.bits .i64)))) &&& BitVec.ofInt (IntKind.bits .i64) (1 : Int)).toNat : Int)) == (0 : Int)) = true then (k166 (IntKind.wrap .i64 (0 - x105))) else (k166 x105)))))) 0 a0 ([] : List Int) (fun (s101 : (List Int)) => (some s101)))

def F_skolemref04_Herbrand (a0 : S_api_Qbf) : Option ((List S_api_Table) × Int) :=
  ((F_skolemref04_Qbf a0).bind (fun y101 => (if (y101.2 != (0 : Int)) = true then (some (([] : List S_api_Table), y101.2)) else (jn (fun (s403 : Unit) => (some (([] : List S_api_Table), (3 : Int)))) (fun k405 => (rangeF (fun (j409 : Nat) (x410 : S_api_Block) (s406 : ((List Int) × Int × (List S_api_Table))) k408 => (rangeF (fun (j659 : Nat) (x660 : Int) (s656 : ((List Int) × Int × (List S_api_Table))) k658 => (jn (fun (s697 : ((List Int) × Int × (List S_api_Table))) => (k658 (s697.1, s697.2.1, s697.2.2))) (fun k699 => (if x410.Exists = true then ((F_skolemref03_Put s656.1 x660).bind (fun y701 => (k699 (y701, s656.2.1, s656.2.2)))) else (capN (s656.1.length) (okI (0 ≤ (IntKind.wrap .u64 (imn ((s656.1.length : Nat) : Int) (20 : Int)))) (if (decide ((IntKind.wrap .i64 (s656.2.1 + (IntKind.wrap .i64 ((1 : Int) * 2 ^ (min (IntKind.wrap .u64 (imn ((s656.1.length : Nat) : Int) (20 : Int))).toNat (IntKind.bits .i64)))))) > (4096 : Int))) = true then (k405 ()) else (capN (s656.2.2.length + ([(S_api_Table.mk x660 s656.1 ([] : List Bool))]).length) (k699 (s656.1, (IntKind.wrap .i64 (s656.2.1 + (IntKind.wrap .i64 ((1 : Int) * 2 ^ (min (IntKind.wrap .u64 (imn ((s656.1.length : Nat) : Int) (20 : Int))).toNat (IntKind.bits .i64)))))), (s656.2.2 ++ ([(S_api_Table.mk x660 s656.1 ([] : List Bool))])))))))))))) 0 x410.Vars (s406.1, s406.2.1, s406.2.2) (fun (s656 : ((List Int) × Int × (List S_api_Table))) => (k408 (s656.1, s656.2.1, s656.2.2))))) 0 a0.Prefix (([] : List Int), (0 : Int), ([] : List S_api_Table)) (fun (s406 : ((List Int) × Int × (List S_api_Table))) => (if (y101.1 == (1 : Int)) = true then (some (([] : List S_api_Table), (6 : Int))) else (whileF 1000000000000 (fun k709 (s707 : (Int × (List S_api_Table))) => (if (decide (s707.1 < ((s707.2.length : Nat) : Int))) = true then (getI s707.2 s707.1 (fun x966 => (okI (x966.Bits.length = 0) (okI (-9223372036854775808 ≤ (0 : Int) ∧ (IntKind.wrap .i64 ((1 : Int) * 2 ^ (min (IntKind.wrap .u64 ((x966.On.length : Nat) : Int)).toNat (IntKind.bits .i64)))) ≤ 9223372036854775807) (upF (fun (j971 : Int) (s968 : (List Bool)) k970 => (okI (0 ≤ (IntKind.wrap .u64 ((x966.On.length : Nat) : Int))) (okI (0 ≤ s707.1 ∧ s707.1.toNat ≤ s707.2.length) ((F_skolemref04_Point x966.On j971).bind (fun y1000 => ((F_skolemref04_played a0 (s707.2.take s707.1.toNat) y1000 x966.Var).bind (fun y1001 => (capN (y1001.length + [(IntKind.wrap .i64 (0 - x966.Var))].length) ((F_skolemref04_Left 1000000 a0 (y1001 ++ [(IntKind.wrap .i64 (0 - x966.Var))])).bind (fun y1003 => (capN (s968.length + [y1003].length) (k970 (s968 ++ [y1003]))))))))))))) (((IntKind.wrap .i64 ((1 : Int) * 2 ^ (min (IntKind.wrap .u64 ((x966.On.length : Nat) : Int)).toNat (IntKind.bits .i64)))) - (0 : Int)).toNat) (0 : Int) ([] : List Bool) (fun (s968 : (List Bool)) => (okI (0 ≤ (IntKind.wrap .u64 ((x966.On.length : Nat) : Int))) (okI (0 < s968.length) (k709 ((IntKind.wrap .i64 (s707.1 + (1 : Int))), (s707.2.set s707.1.toNat (S_api_Table.mk x966.Var x966.On s968)))))))))))) else (some (s707.2, (0 : Int))))) ((0 : Int), s406.2.2))))))))))

def F_skolemlaw04_TruthHerbrand (a0 : S_api_Qbf) : Option Bool :=
  ((F_skolemlaw04_great a0).bind (fun y101 => (if y101 = true then ((F_skolemlaw04_head).bind (fun y103 => (some y103))) else ((F_truth_Herbrand a0).bind (fun y104 => ((F_skolemref04_Herbrand a0).bind (fun y105 => ((F_skolemref04_SameTables y104.1 y105.1).bind (fun y110 => (if y110 = true then (if (y104.2 == y105.2) = true then ((F_skolemlaw04_head).bind (fun y113 => (some y113))) else (some false)) else (some false)))))))))))
end Go.Sk.X
