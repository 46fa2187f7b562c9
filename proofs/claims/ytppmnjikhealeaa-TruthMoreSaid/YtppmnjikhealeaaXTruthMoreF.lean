/- The Go functions that the law TruthMore reaches, told as plain functions on numbers and lists. It has no conditions. -/
import Derived.Test.YtppmnjikhealeaaSk6
set_option linter.unusedVariables false
set_option linter.unusedSimpArgs false
namespace Go.Sk.X
open Go Go.Sk
structure S_api_Dep where
  Var : Int
  On : (List Int)
structure S_api_Dqbf where
  Univ : (List Int)
  Exist : (List S_api_Dep)
  Clauses : (List (List Int))
structure S_api_Block where
  Exists : Bool
  Vars : (List Int)
structure S_api_Qbf where
  Prefix : (List S_api_Block)
  Clauses : (List (List Int))
structure S_prefix_place where
  block : Int
  f_exists : Bool
structure S_truth_turn where
  v : Int
  f_exists : Bool
structure S_truth_game where
  turns : (List S_truth_turn)
  clauses : (List (List Int))
structure S_api_Table where
  Var : Int
  On : (List Int)
  Bits : (List Bool)
structure S_truth_least where
  d : S_api_Dqbf
  l : (List S_api_Table)
def W_S_api_Dep (x : S_api_Dep) : Prop := (InK .i64) x.Var ∧ (InL (InK .i64)) x.On
def W_S_api_Dqbf (x : S_api_Dqbf) : Prop := (InL (InK .i64)) x.Univ ∧ (InL W_S_api_Dep) x.Exist ∧ (InL (InL (InK .i64))) x.Clauses
def W_S_api_Block (x : S_api_Block) : Prop := InB x.Exists ∧ (InL (InK .i64)) x.Vars
def W_S_api_Qbf (x : S_api_Qbf) : Prop := (InL W_S_api_Block) x.Prefix ∧ (InL (InL (InK .i64))) x.Clauses
def W_S_prefix_place (x : S_prefix_place) : Prop := (InK .i64) x.block ∧ InB x.f_exists
def W_S_truth_turn (x : S_truth_turn) : Prop := (InK .i64) x.v ∧ InB x.f_exists
def W_S_truth_game (x : S_truth_game) : Prop := (InL W_S_truth_turn) x.turns ∧ (InL (InL (InK .i64))) x.clauses
def W_S_api_Table (x : S_api_Table) : Prop := (InK .i64) x.Var ∧ (InL (InK .i64)) x.On ∧ (InL InB) x.Bits
def W_S_truth_least (x : S_truth_least) : Prop := W_S_api_Dqbf x.d ∧ (InL W_S_api_Table) x.l
def Z_S_api_Dep (x : S_api_Dep) : Prop := (InK .i64) x.Var ∧ (InLz (InK .i64)) x.On
def Z_S_api_Dqbf (x : S_api_Dqbf) : Prop := (InLz (InK .i64)) x.Univ ∧ (InLz Z_S_api_Dep) x.Exist ∧ (InLz (InLz (InK .i64))) x.Clauses
def Z_S_api_Block (x : S_api_Block) : Prop := InB x.Exists ∧ (InLz (InK .i64)) x.Vars
def Z_S_api_Qbf (x : S_api_Qbf) : Prop := (InLz Z_S_api_Block) x.Prefix ∧ (InLz (InLz (InK .i64))) x.Clauses
def Z_S_prefix_place (x : S_prefix_place) : Prop := (InK .i64) x.block ∧ InB x.f_exists
def Z_S_truth_turn (x : S_truth_turn) : Prop := (InK .i64) x.v ∧ InB x.f_exists
def Z_S_truth_game (x : S_truth_game) : Prop := (InLz Z_S_truth_turn) x.turns ∧ (InLz (InLz (InK .i64))) x.clauses
def Z_S_api_Table (x : S_api_Table) : Prop := (InK .i64) x.Var ∧ (InLz (InK .i64)) x.On ∧ (InLz InB) x.Bits
def Z_S_truth_least (x : S_truth_least) : Prop := Z_S_api_Dqbf x.d ∧ (InLz Z_S_api_Table) x.l
abbrev tr_truth_Herbrand_0 : ((List S_api_Table) × Int) := ([(S_api_Table.mk (1 : Int) [(2 : Int)] [false, true])], (0 : Int))
abbrev tr_truth_Dqbf_0 : (Int × Int) := ((1 : Int), (0 : Int))
abbrev tr_truth_Herbrand_1 : ((List S_api_Table) × Int) := (([] : List S_api_Table), (6 : Int))
abbrev tr_truth_Skolem_0 : ((List S_api_Table) × Int) := ([(S_api_Table.mk (2 : Int) [(1 : Int)] [true, false])], (0 : Int))

def F_truth_of (a0 : S_api_Qbf) : Option S_truth_game :=
  (rangeF (fun (j104 : Nat) (x105 : S_api_Block) (s101 : (List S_truth_turn)) k103 => (rangeF (fun (j134 : Nat) (x135 : Int) (s131 : (List S_truth_turn)) k133 => (capN (s131.length + [(S_truth_turn.mk x135 x105.Exists)].length) (k133 (s131 ++ [(S_truth_turn.mk x135 x105.Exists)])))) 0 x105.Vars s101 (fun (s131 : (List S_truth_turn)) => (k103 s131)))) 0 a0.Prefix ([] : List S_truth_turn) (fun (s101 : (List S_truth_turn)) => (some (S_truth_game.mk s101 a0.Clauses))))

def F_prefix_count (a0 : (List S_api_Block)) : Option (Int × Bool) :=
  (rangeF (fun (j1278 : Nat) (x1279 : S_api_Block) (s1275 : (List (Int × Bool))) k1277 => (rangeF (fun (j2061 : Nat) (x2062 : Int) (s2058 : (List (Int × Bool))) k2060 => (jn (fun (s2441 : Bool) => (if s2441 = true then (some ((0 : Int), false)) else (k2060 (mset s2058 x2062 true)))) (fun k2443 => (if (decide (x2062 < (1 : Int))) = true then (k2443 true) else (if (decide (x2062 > (65536 : Int))) = true then (k2443 true) else (k2443 ((mget s2058 x2062).getD false))))))) 0 x1279.Vars s1275 (fun (s2058 : (List (Int × Bool))) => (k1277 s2058)))) 0 a0 ([] : List (Int × Bool)) (fun (s1275 : (List (Int × Bool))) => (some (((s1275.length : Nat) : Int), true))))

def F_prefix_May (a0 : (List S_api_Block)) : Option Bool :=
  (rangeF (fun (j104 : Nat) (x105 : S_api_Block) (s101 : Unit) k103 => (jn (fun (s139 : Bool) => (if s139 = true then (some false) else (k103 ()))) (fun k141 => (if (((x105.Vars.length : Nat) : Int) == (0 : Int)) = true then (k141 true) else (if (decide (((j104 : Nat) : Int) > (0 : Int))) = true then (getI a0 (IntKind.wrap .i64 (((j104 : Nat) : Int) - (1 : Int))) (fun x145 => (k141 (x145.Exists == x105.Exists)))) else (k141 false)))))) 0 a0 () (fun (s101 : Unit) => ((F_prefix_count a0).bind (fun y146 => (if y146.2 = true then (some (decide (y146.1 ≤ (1024 : Int)))) else (some false))))))

def F_prefix_abs (a0 : Int) : Option Int :=
  (some (imx a0 (IntKind.wrap .i64 (0 - a0))))

def F_prefix_MayQbf (a0 : S_api_Qbf) : Option Bool :=
  ((F_prefix_May a0.Prefix).bind (fun y2140 => (if y2140 = true then (Option.bind (rangeF (fun (j2750 : Nat) (x2751 : S_api_Block) (s2747 : (List (Int × S_prefix_place))) k2749 => (rangeF (fun (j2885 : Nat) (x2886 : Int) (s2882 : (List (Int × S_prefix_place))) k2884 => (jn (fun (s2943 : (List (Int × S_prefix_place))) => (k2884 s2943)) (fun k2945 => (if (!(mget s2882 x2886).isSome) = true then (k2945 (mset s2882 x2886 (S_prefix_place.mk ((j2750 : Nat) : Int) x2751.Exists))) else (k2945 s2882))))) 0 x2751.Vars s2747 (fun (s2882 : (List (Int × S_prefix_place))) => (k2749 s2882)))) 0 a0.Prefix ([] : List (Int × S_prefix_place)) (fun (s2747 : (List (Int × S_prefix_place))) => (some s2747))) (fun (y2544 : (List (Int × S_prefix_place))) => (Option.bind (some ()) (fun (y2947 : Unit) => (Option.bind (if (decide (((a0.Clauses.length : Nat) : Int) > (20000 : Int))) = true then (some false) else (rangeF (fun (j3568 : Nat) (x3569 : (List Int)) (s3565 : Int) k3567 => (rangeF (fun (j3979 : Nat) (x3980 : Int) (s3976 : Int) k3978 => (jn (fun (s4168 : Bool) => (if s4168 = true then (some false) else ((F_prefix_abs x3980).bind (fun y4172 => (k3978 y4172))))) (fun k4170 => (if (x3980 == (0 : Int)) = true then (k4170 true) else (if (decide (x3980 < (-65536 : Int))) = true then (k4170 true) else (if (decide (x3980 > (65536 : Int))) = true then (k4170 true) else ((F_prefix_abs x3980).bind (fun y4176 => (if (decide (y4176 ≤ s3976)) = true then (k4170 true) else ((F_prefix_abs x3980).bind (fun y4178 => (k4170 (!(mget y2544 y4178).isSome))))))))))))) 0 x3569 (0 : Int) (fun (s3976 : Int) => (k3567 (IntKind.wrap .i64 (s3565 + ((x3569.length : Nat) : Int))))))) 0 a0.Clauses (0 : Int) (fun (s3565 : Int) => (some (decide (s3565 ≤ (200000 : Int))))))) (fun (y3563 : Bool) => (some y3563))))))) else (some false))))

def F_truth_small (a0 : S_api_Qbf) : Option Int :=
  ((F_prefix_MayQbf a0).bind (fun y101 => (if (!y101) = true then (some (2 : Int)) else ((F_truth_of a0).bind (fun y103 => (if (decide (((y103.turns.length : Nat) : Int) > (16 : Int))) = true then (some (3 : Int)) else (some (0 : Int))))))))

def F_truth_value (a0 : Bool) : Option Int :=
  (if a0 = true then (some (1 : Int)) else (some (2 : Int)))

def F_truth_game_left_c1 : Nat → (List S_truth_turn) → (List (List Int)) → Int → (List (Int × Bool)) → Option (Bool × (List (Int × Bool)))
  | 0, _, _, _, _ => none
  | n + 1, p0, p1, b0, m0 =>
  (if (b0 == ((p0.length : Nat) : Int)) = true then (jn (fun (s513 : Bool) => (some (s513, m0))) (fun k515 => (rangeF (fun (j519 : Nat) (x520 : (List Int)) (s516 : Unit) k518 => (jn (fun (s874 : Int) => (if (!(decide (s874 ≥ (0 : Int)))) = true then (k515 false) else (k518 ()))) (fun k876 => (rangeF (fun (j881 : Nat) (x882 : Int) (s878 : Unit) k880 => (jn (fun (s922 : Bool) => (if s922 = true then (k876 ((j881 : Nat) : Int)) else (k880 ()))) (fun k924 => (if (decide (x882 < (0 : Int))) = true then (k924 (!((mget m0 (IntKind.wrap .i64 (0 - x882))).getD false))) else (k924 ((mget m0 x882).getD false)))))) 0 x520 () (fun (s878 : Unit) => (k876 (-1 : Int))))))) 0 p1 () (fun (s516 : Unit) => (k515 true))))) else (getI p0 b0 (fun x927 => ((F_truth_game_left_c1 n p0 p1 (IntKind.wrap .i64 (b0 + (1 : Int))) (mset m0 x927.v false)).bind (fun y932 => (if (y932.1 == x927.f_exists) = true then (some (x927.f_exists, y932.2)) else ((F_truth_game_left_c1 n p0 p1 (IntKind.wrap .i64 (b0 + (1 : Int))) (mset y932.2 x927.v true)).bind (fun y935 => (some (y935.1, y935.2))))))))))

def F_truth_Qbf (a0 : S_api_Qbf) : Option (Int × Int) :=
  ((F_truth_small a0).bind (fun y101 => (if (y101 != (0 : Int)) = true then (some ((0 : Int), y101)) else ((F_truth_of a0).bind (fun y103 => ((F_truth_game_left_c1 1000000 y103.turns y103.clauses (0 : Int) ([] : List (Int × Bool))).bind (fun y107 => ((F_truth_value y107.1).bind (fun y108 => (some (y108, (0 : Int))))))))))))

def F_skolemref03_Ints (a0 : (List Int)) (a1 : (List Int)) : Option Bool :=
  (if (((a0.length : Nat) : Int) != ((a1.length : Nat) : Int)) = true then (some false) else (rangeF (fun (j105 : Nat) (x106 : Int) (s102 : Unit) k104 => (getI a1 ((j105 : Nat) : Int) (fun x109 => (if (x106 != x109) = true then (some false) else (k104 ()))))) 0 a0 () (fun (s102 : Unit) => (some true))))

def F_skolemref04_SameTables (a0 : (List S_api_Table)) (a1 : (List S_api_Table)) : Option Bool :=
  (if (((a0.length : Nat) : Int) != ((a1.length : Nat) : Int)) = true then (some false) else (rangeF (fun (j105 : Nat) (x106 : S_api_Table) (s102 : Unit) k104 => (jn (fun (s272 : Unit) => (k104 ())) (fun k274 => (jn (fun (s297 : Bool) => (if s297 = true then (some false) else (whileF 1000000000000 (fun k303 (s301 : Int) => (if (decide (s301 < ((x106.Bits.length : Nat) : Int))) = true then (getI x106.Bits s301 (fun x319 => (getI a1 ((j105 : Nat) : Int) (fun x320 => (getI x320.Bits s301 (fun x321 => (if (!(x319 == x321)) = true then (some false) else (k303 (IntKind.wrap .i64 (s301 + (1 : Int))))))))))) else (k274 ()))) (0 : Int)))) (fun k299 => (getI a1 ((j105 : Nat) : Int) (fun x323 => (if (x106.Var != x323.Var) = true then (k299 true) else (getI a1 ((j105 : Nat) : Int) (fun x325 => ((F_skolemref03_Ints x106.On x325.On).bind (fun y326 => (if (!y326) = true then (k299 true) else (getI a1 ((j105 : Nat) : Int) (fun x328 => (k299 (((x106.Bits.length : Nat) : Int) != ((x328.Bits.length : Nat) : Int)))))))))))))))))) 0 a0 () (fun (s102 : Unit) => (some true))))

def F_skolemlaw04_head  : Option Bool :=
  ((F_truth_Qbf (S_api_Qbf.mk ([(S_api_Block.mk false [(1 : Int)]), (S_api_Block.mk true [(2 : Int)])]) ([[(1 : Int), (2 : Int)], [(-1 : Int), (-2 : Int)]]))).bind (fun y101 => ((F_truth_Qbf (S_api_Qbf.mk ([(S_api_Block.mk true [(2 : Int)]), (S_api_Block.mk false [(1 : Int)])]) ([[(1 : Int), (2 : Int)], [(-1 : Int), (-2 : Int)]]))).bind (fun y102 => ((F_truth_Qbf (S_api_Qbf.mk ([] : List S_api_Block) ([[(1 : Int)]]))).bind (fun y105 => (jn (fun (s114 : Bool) => (if s114 = true then (if (tr_truth_Dqbf_0.2 == (0 : Int)) = true then (if (tr_truth_Dqbf_0.1 == (1 : Int)) = true then (if (y105.2 == (2 : Int)) = true then (if (tr_truth_Herbrand_1.2 == (6 : Int)) = true then (if (tr_truth_Skolem_0.2 == (0 : Int)) = true then ((F_skolemref04_SameTables tr_truth_Skolem_0.1 ([(S_api_Table.mk (2 : Int) [(1 : Int)] [true, false])])).bind (fun y130 => (some y130))) else (some false)) else (some false)) else (some false)) else (some false)) else (some false)) else (some false))) (fun k116 => (if (y101.2 == (0 : Int)) = true then (if (y101.1 == (1 : Int)) = true then (if (y102.2 == (0 : Int)) = true then (if (y102.1 == (2 : Int)) = true then (if (tr_truth_Herbrand_0.2 == (0 : Int)) = true then ((F_skolemref04_SameTables tr_truth_Herbrand_0.1 ([(S_api_Table.mk (1 : Int) [(2 : Int)] [false, true])])).bind (fun y136 => (k116 y136))) else (k116 false)) else (k116 false)) else (k116 false)) else (k116 false)) else (k116 false))))))))))

def F_skolemlaw04_wide (a0 : (List (List Int))) (a1 : Int) : Option Bool :=
  (jn (fun (s108 : Bool) => (if s108 = true then (some true) else (rangeF (fun (j115 : Nat) (x116 : (List Int)) (s112 : Int) k114 => (k114 (IntKind.wrap .i64 (s112 + ((x116.length : Nat) : Int))))) 0 a0 (0 : Int) (fun (s112 : Int) => (some (decide (s112 > (300 : Int)))))))) (fun k110 => (if (decide (((a0.length : Nat) : Int) > (60 : Int))) = true then (k110 true) else (k110 (decide (a1 > (100 : Int)))))))

def F_skolemlaw04_large (a0 : S_api_Dqbf) : Option Bool :=
  (jn (fun (s111 : Bool) => (if s111 = true then (some true) else (rangeF (fun (j118 : Nat) (x119 : S_api_Dep) (s115 : Int) k117 => (if (decide (((x119.On.length : Nat) : Int) > (100 : Int))) = true then (some true) else (okI (0 ≤ (IntKind.wrap .u64 (imn ((x119.On.length : Nat) : Int) (10 : Int)))) (k117 (IntKind.wrap .i64 (s115 + (IntKind.wrap .i64 ((1 : Int) * 2 ^ (min (IntKind.wrap .u64 (imn ((x119.On.length : Nat) : Int) (10 : Int))).toNat (IntKind.bits .i64)))))))))) 0 a0.Exist (0 : Int) (fun (s115 : Int) => (if (decide (s115 ≤ (16 : Int))) = true then (if (decide (s115 > (10 : Int))) = true then (some true) else (if (decide (s115 ≤ (10 : Int))) = true then (if (decide (((a0.Univ.length : Nat) : Int) > (5 : Int))) = true then (some (decide (((a0.Univ.length : Nat) : Int) ≤ (8 : Int)))) else (some false)) else (some false))) else (if (decide (s115 ≤ (10 : Int))) = true then (if (decide (((a0.Univ.length : Nat) : Int) > (5 : Int))) = true then (some (decide (((a0.Univ.length : Nat) : Int) ≤ (8 : Int)))) else (some false)) else (some false))))))) (fun k113 => (if (decide (((a0.Exist.length : Nat) : Int) > (60 : Int))) = true then (k113 true) else ((F_skolemlaw04_wide a0.Clauses ((a0.Univ.length : Nat) : Int)).bind (fun y139 => (k113 y139))))))

def F_prefix_rises (a0 : (List Int)) : Option Bool :=
  (rangeF (fun (j104 : Nat) (x105 : Int) (s101 : Unit) k103 => (jn (fun (s146 : Bool) => (if s146 = true then (some false) else (k103 ()))) (fun k148 => (if (decide (x105 < (1 : Int))) = true then (k148 true) else (if (decide (x105 > (65536 : Int))) = true then (k148 true) else (if (decide (((j104 : Nat) : Int) > (0 : Int))) = true then (getI a0 (IntKind.wrap .i64 (((j104 : Nat) : Int) - (1 : Int))) (fun x153 => (k148 (decide (x153 ≥ x105))))) else (k148 false))))))) 0 a0 () (fun (s101 : Unit) => (some true)))

def F_prefix_MayDqbf (a0 : S_api_Dqbf) : Option Bool :=
  (rangeF (fun (j104 : Nat) (x105 : Int) (s101 : ((List (Int × Bool)) × (List (Int × Bool)))) k103 => (k103 ((mset s101.1 x105 true), (mset s101.2 x105 true)))) 0 a0.Univ (([] : List (Int × Bool)), ([] : List (Int × Bool))) (fun (s101 : ((List (Int × Bool)) × (List (Int × Bool)))) => (rangeF (fun (j109 : Nat) (x110 : S_api_Dep) (s106 : (List Int)) k108 => (jn (fun (s1573 : Bool) => (if s1573 = true then (some false) else (capN (s106.length + [x110.Var].length) (k108 (s106 ++ [x110.Var]))))) (fun k1575 => (if ((mget s101.2 x110.Var).getD false) = true then (k1575 true) else ((F_prefix_rises x110.On).bind (fun y1579 => (if (!y1579) = true then (k1575 true) else (jn (fun (s1611 : Int) => (k1575 (decide (s1611 ≥ (0 : Int))))) (fun k1613 => (rangeF (fun (j1617 : Nat) (x1618 : Int) (s1614 : Unit) k1616 => (if (!((mget s101.1 x1618).getD false)) = true then (k1613 ((j1617 : Nat) : Int)) else (k1616 ()))) 0 x110.On () (fun (s1614 : Unit) => (k1613 (-1 : Int))))))))))))) 0 a0.Exist ([] : List Int) (fun (s106 : (List Int)) => (rangeF (fun (j1626 : Nat) (x1627 : Int) (s1623 : (List (Int × Bool))) k1625 => (k1625 (mset s1623 x1627 true))) 0 s106 s101.2 (fun (s1623 : (List (Int × Bool))) => ((F_prefix_rises a0.Univ).bind (fun y2865 => (if y2865 = true then ((F_prefix_rises s106).bind (fun y2867 => (if y2867 = true then (if (decide ((IntKind.wrap .i64 (((a0.Univ.length : Nat) : Int) + ((s106.length : Nat) : Int))) ≤ (1024 : Int))) = true then (Option.bind (some ()) (fun (y2870 : Unit) => (Option.bind (if (decide (((a0.Clauses.length : Nat) : Int) > (20000 : Int))) = true then (some false) else (rangeF (fun (j3491 : Nat) (x3492 : (List Int)) (s3488 : Int) k3490 => (rangeF (fun (j3902 : Nat) (x3903 : Int) (s3899 : Int) k3901 => (jn (fun (s4091 : Bool) => (if s4091 = true then (some false) else ((F_prefix_abs x3903).bind (fun y4095 => (k3901 y4095))))) (fun k4093 => (if (x3903 == (0 : Int)) = true then (k4093 true) else (if (decide (x3903 < (-65536 : Int))) = true then (k4093 true) else (if (decide (x3903 > (65536 : Int))) = true then (k4093 true) else ((F_prefix_abs x3903).bind (fun y4099 => (if (decide (y4099 ≤ s3899)) = true then (k4093 true) else ((F_prefix_abs x3903).bind (fun y4101 => (k4093 (!(mget s1623 y4101).isSome))))))))))))) 0 x3492 (0 : Int) (fun (s3899 : Int) => (k3490 (IntKind.wrap .i64 (s3488 + ((x3492.length : Nat) : Int))))))) 0 a0.Clauses (0 : Int) (fun (s3488 : Int) => (some (decide (s3488 ≤ (200000 : Int))))))) (fun (y3486 : Bool) => (some y3486))))) else (some false)) else (some false)))) else (some false))))))))))

def F_truth_few (a0 : S_api_Dqbf) : Option Int :=
  (rangeF (fun (j104 : Nat) (x105 : S_api_Dep) (s101 : Int) k103 => (if (decide (((x105.On.length : Nat) : Int) > (4 : Int))) = true then (some (3 : Int)) else (okI (0 ≤ ((x105.On.length : Nat) : Int)) (k103 (IntKind.wrap .i64 (s101 + (IntKind.wrap .i64 ((1 : Int) * 2 ^ (min ((x105.On.length : Nat) : Int).toNat (IntKind.bits .i64)))))))))) 0 a0.Exist (0 : Int) (fun (s101 : Int) => (jn (fun (s119 : Bool) => (if s119 = true then (some (3 : Int)) else (some (0 : Int)))) (fun k121 => (if (decide (((a0.Univ.length : Nat) : Int) > (8 : Int))) = true then (k121 true) else (k121 (decide (s101 > (16 : Int)))))))))

def F_slices_Clone_int_int (a0 : (List Int)) : Option (List Int) :=
  (if a0.isEmpty = true then (some ([] : List Int)) else (capN (([] : List Int).length + a0.length) (some (([] : List Int) ++ a0))))

def F_truth_least_broken (a0 : S_truth_least) (a1 : Int) : Option Bool :=
  (okI (0 ≤ ((a0.d.Univ.length : Nat) : Int)) (okI (-9223372036854775808 ≤ (0 : Int) ∧ (IntKind.wrap .i64 ((1 : Int) * 2 ^ (min ((a0.d.Univ.length : Nat) : Int).toNat (IntKind.bits .i64)))) ≤ 9223372036854775807) (upF (fun (j129965 : Int) (s129962 : Unit) k129964 => (rangeF (fun (j227359 : Nat) (x227360 : Int) (s227356 : (List (Int × Bool))) k227358 => (okI (0 ≤ ((j227359 : Nat) : Int)) (k227358 (mset s227356 x227360 ((IntKind.wrap .i64 ((BitVec.ofInt (IntKind.bits .i64) (Int.fdiv j129965 (2 ^ (min ((j227359 : Nat) : Int).toNat (IntKind.bits .i64)))) &&& BitVec.ofInt (IntKind.bits .i64) (1 : Int)).toNat : Int)) == (1 : Int)))))) 0 a0.d.Univ ([] : List (Int × Bool)) (fun (s227356 : (List (Int × Bool))) => (jn (fun (s243590 : Unit) => (some true)) (fun k243592 => (rangeF (fun (j251709 : Nat) (x251710 : S_api_Table) (s251706 : (Int × (List (Int × Bool)) × (List (Int × Bool)))) k251708 => (rangeF (fun (j251768 : Nat) (x251769 : Int) (s251765 : Int) k251767 => (jn (fun (s251786 : Int) => (k251767 s251786)) (fun k251788 => (if ((mget s251706.2.1 x251769).getD false) = true then (okI (0 ≤ ((j251768 : Nat) : Int)) (k251788 (IntKind.wrap .i64 ((BitVec.ofInt (IntKind.bits .i64) s251765 ||| BitVec.ofInt (IntKind.bits .i64) (IntKind.wrap .i64 ((1 : Int) * 2 ^ (min ((j251768 : Nat) : Int).toNat (IntKind.bits .i64))))).toNat : Int)))) else (k251788 s251765))))) 0 x251710.On (0 : Int) (fun (s251765 : Int) => (getI x251710.Bits s251765 (fun x251791 => (k251708 ((IntKind.wrap .i64 (s251706.1 + ((x251710.Bits.length : Nat) : Int))), (mset s251706.2.1 x251710.Var x251791), (mset s251706.2.2 x251710.Var (decide ((IntKind.wrap .i64 (s251706.1 + s251765)) < a1)))))))))) 0 a0.l ((0 : Int), s227356, ([] : List (Int × Bool))) (fun (s251706 : (Int × (List (Int × Bool)) × (List (Int × Bool)))) => (rangeF (fun (j251795 : Nat) (x251796 : (List Int)) (s251792 : Unit) k251794 => (jn (fun (s258814 : Int) => (if (!(decide (s258814 ≥ (0 : Int)))) = true then (k243592 ()) else (k251794 ()))) (fun k258816 => (rangeF (fun (j258821 : Nat) (x258822 : Int) (s258818 : Unit) k258820 => (jn (fun (s259801 : Bool) => (if (!s259801) = true then (k258816 ((j258821 : Nat) : Int)) else (k258820 ()))) (fun k259803 => (jn (fun (s259813 : Bool) => (if (!s259813) = true then (if ((mget s251706.2.2 (imx x258822 (IntKind.wrap .i64 (0 - x258822)))).getD false) = true then (k259803 true) else (k259803 (!(mget s251706.2.2 (imx x258822 (IntKind.wrap .i64 (0 - x258822)))).isSome))) else (k259803 false))) (fun k259815 => (if (decide (x258822 < (0 : Int))) = true then (k259815 (!((mget s251706.2.1 (IntKind.wrap .i64 (0 - x258822))).getD false))) else (k259815 ((mget s251706.2.1 x258822).getD false)))))))) 0 x251796 () (fun (s258818 : Unit) => (k258816 (-1 : Int))))))) 0 a0.d.Clauses () (fun (s251792 : Unit) => (k129964 ())))))))))) (((IntKind.wrap .i64 ((1 : Int) * 2 ^ (min ((a0.d.Univ.length : Nat) : Int).toNat (IntKind.bits .i64)))) - (0 : Int)).toNat) (0 : Int) () (fun (s129962 : Unit) => (some false)))))

def bitsN (ts : List S_api_Table) : Nat := (ts.map (·.Bits.length)).sum
def setB : List S_api_Table → Nat → Bool → List S_api_Table
  | [], _, _ => []
  | t :: ts, k, v => if k < t.Bits.length then S_api_Table.mk t.Var t.On (t.Bits.set k v) :: ts else t :: setB ts (k - t.Bits.length) v
def cntI (x : S_api_Dep) : Int := IntKind.wrap .i64 ((1 : Int) * 2 ^ (min ((x.On.length : Nat) : Int).toNat (IntKind.bits .i64)))
def newF (d : S_api_Dqbf) : Option (List S_api_Table) :=
  rangeF (fun (_ : Nat) (x : S_api_Dep) (s : List S_api_Table) k => (F_slices_Clone_int_int x.On).bind fun y => okI (0 ≤ ((x.On.length : Nat) : Int)) (okI (0 ≤ cntI x ∧ (cntI x).toNat ≤ 1099511627776) (okI (s.length ≤ 1000000) (k (s ++ [S_api_Table.mk x.Var y (List.replicate (cntI x).toNat false)])))))
    0 d.Exist [] (fun s => okI (s.length ≤ 1000001 ∧ bitsN s ≤ 1000000) (some s))
def findP (d : S_api_Dqbf) : Nat → List S_api_Table → Int → Option (Bool × List S_api_Table)
  | 0, _, _ => none
  | n + 1, ts, i => (F_truth_least_broken ⟨d, ts⟩ i).bind fun b => if b = true then some (false, ts) else (if (i == (bitsN ts : Int)) = true then some (true, ts) else
      okI (0 ≤ i ∧ i.toNat < bitsN ts) ((findP d n (setB ts i.toNat false) (IntKind.wrap .i64 (i + 1))).bind fun r => if r.1 = true then some (true, r.2) else
        okI (i.toNat < bitsN r.2) ((findP d n (setB r.2 i.toNat true) (IntKind.wrap .i64 (i + 1))).bind fun q => if q.1 = true then some (true, q.2) else
          okI (i.toNat < bitsN q.2) (some (false, setB q.2 i.toNat false)))))
def F_truth_Skolem (a0 : S_api_Dqbf) : Option (List S_api_Table × Int) :=
  (F_prefix_MayDqbf a0).bind fun m => if (!m) = true then some ([], 2) else (F_truth_few a0).bind fun e => if (e != 0) = true then some ([], e) else
    (newF a0).bind fun ts => (findP a0 1000000 ts 0).bind fun r => if (!r.1) = true then some ([], 6) else some (r.2, 0)

def F_truth_Dqbf (a0 : S_api_Dqbf) : Option (Int × Int) :=
  ((F_truth_Skolem a0).bind (fun y101 => (if (y101.2 == (0 : Int)) = true then (some ((1 : Int), (0 : Int))) else (if (y101.2 == (6 : Int)) = true then (some ((2 : Int), (0 : Int))) else (some ((0 : Int), y101.2))))))

def F_skolemref03_All (a0 : S_api_Dqbf) : Option (List Int) :=
  (capN (([] : List Int).length + a0.Univ.length) (rangeF (fun (j105 : Nat) (x106 : S_api_Dep) (s102 : (List Int)) k104 => (capN (s102.length + [x106.Var].length) (k104 (s102 ++ [x106.Var])))) 0 a0.Exist (([] : List Int) ++ a0.Univ) (fun (s102 : (List Int)) => (some s102))))

def F_skolemref03_Has (a0 : (List Int)) (a1 : Int) : Option Bool :=
  (rangeF (fun (j104 : Nat) (x105 : Int) (s101 : Unit) k103 => (if (x105 == a1) = true then (some true) else (k103 ()))) 0 a0 () (fun (s101 : Unit) => (some false)))

def F_skolemref03_single (a0 : (List Int)) : Option Bool :=
  (rangeF (fun (j104 : Nat) (x105 : Int) (s101 : Unit) k103 => (jn (fun (s146 : Bool) => (if s146 = true then (some false) else (k103 ()))) (fun k148 => (if (decide (x105 < (1 : Int))) = true then (k148 true) else (if (decide (x105 > (65536 : Int))) = true then (k148 true) else (okI (0 ≤ ((j104 : Nat) : Int) ∧ ((j104 : Nat) : Int).toNat ≤ a0.length) ((F_skolemref03_Has (a0.take ((j104 : Nat) : Int).toNat) x105).bind (fun y153 => (k148 y153))))))))) 0 a0 () (fun (s101 : Unit) => (some true)))

def F_skolemref03_Rises (a0 : (List Int)) : Option Bool :=
  (rangeF (fun (j104 : Nat) (x105 : Int) (s101 : Unit) k103 => (jn (fun (s146 : Bool) => (if s146 = true then (some false) else (k103 ()))) (fun k148 => (if (decide (x105 < (1 : Int))) = true then (k148 true) else (if (decide (x105 > (65536 : Int))) = true then (k148 true) else (if (decide (((j104 : Nat) : Int) > (0 : Int))) = true then (getI a0 (IntKind.wrap .i64 (((j104 : Nat) : Int) - (1 : Int))) (fun x153 => (k148 (decide (x153 ≥ x105))))) else (k148 false))))))) 0 a0 () (fun (s101 : Unit) => (some true)))

def F_skolemref03_Abs (a0 : Int) : Option Int :=
  (if (decide (a0 < (0 : Int))) = true then (some (IntKind.wrap .i64 (0 - a0))) else (some a0))

def F_skolemref03_Normal (a0 : (List Int)) : Option Bool :=
  (rangeF (fun (j104 : Nat) (x105 : Int) (s101 : Unit) k103 => (jn (fun (s167 : Bool) => (if s167 = true then (some false) else (k103 ()))) (fun k169 => (if (x105 == (0 : Int)) = true then (k169 true) else (if (decide (x105 < (-65536 : Int))) = true then (k169 true) else (if (decide (x105 > (65536 : Int))) = true then (k169 true) else (if (decide (((j104 : Nat) : Int) > (0 : Int))) = true then (getI a0 (IntKind.wrap .i64 (((j104 : Nat) : Int) - (1 : Int))) (fun x175 => ((F_skolemref03_Abs x175).bind (fun y176 => ((F_skolemref03_Abs x105).bind (fun y177 => (k169 (decide (y176 ≥ y177))))))))) else (k169 false)))))))) 0 a0 () (fun (s101 : Unit) => (some true)))

def F_skolemref03_Cnf (a0 : (List (List Int))) : Option Bool :=
  (rangeF (fun (j104 : Nat) (x105 : (List Int)) (s101 : Int) k103 => ((F_skolemref03_Normal x105).bind (fun y110 => (if (!y110) = true then (some false) else (k103 (IntKind.wrap .i64 (s101 + ((x105.length : Nat) : Int)))))))) 0 a0 (0 : Int) (fun (s101 : Int) => (if (decide (((a0.length : Nat) : Int) ≤ (20000 : Int))) = true then (some (decide (s101 ≤ (200000 : Int)))) else (some false))))

def F_skolemref03_within (a0 : (List (List Int))) (a1 : (List Int)) : Option Bool :=
  (rangeF (fun (j104 : Nat) (x105 : (List Int)) (s101 : Unit) k103 => (whileF 1000000000000 (fun k130 (s128 : Int) => (if (decide (s128 < ((x105.length : Nat) : Int))) = true then (getI x105 s128 (fun x146 => ((F_skolemref03_Abs x146).bind (fun y147 => ((F_skolemref03_Has a1 y147).bind (fun y148 => (if (!y148) = true then (some false) else (k130 (IntKind.wrap .i64 (s128 + (1 : Int))))))))))) else (k103 ()))) (0 : Int))) 0 a0 () (fun (s101 : Unit) => (some true)))

def F_skolemref03_Part (a0 : (List Int)) (a1 : (List Int)) : Option Bool :=
  (rangeF (fun (j104 : Nat) (x105 : Int) (s101 : Unit) k103 => ((F_skolemref03_Has a1 x105).bind (fun y108 => (if (!y108) = true then (some false) else (k103 ()))))) 0 a0 () (fun (s101 : Unit) => (some true)))

def F_skolemref03_MayDqbf (a0 : S_api_Dqbf) : Option Bool :=
  ((F_skolemref03_All a0).bind (fun y101 => (jn (fun (s139 : Bool) => (if s139 = true then (some false) else (rangeF (fun (j146 : Nat) (x147 : S_api_Dep) (s143 : Unit) k145 => (jn (fun (s181 : Bool) => (if s181 = true then (some false) else (k145 ()))) (fun k183 => ((F_skolemref03_Rises x147.On).bind (fun y185 => (if (!y185) = true then (k183 true) else ((F_skolemref03_Part x147.On a0.Univ).bind (fun y187 => (k183 (!y187)))))))))) 0 a0.Exist () (fun (s143 : Unit) => (some true))))) (fun k141 => (if (decide (((y101.length : Nat) : Int) > (1024 : Int))) = true then (k141 true) else ((F_skolemref03_single y101).bind (fun y189 => (if (!y189) = true then (k141 true) else ((F_skolemref03_Rises a0.Univ).bind (fun y191 => (if (!y191) = true then (k141 true) else (okI (0 ≤ ((a0.Univ.length : Nat) : Int) ∧ ((a0.Univ.length : Nat) : Int).toNat ≤ y101.length) ((F_skolemref03_Rises (y101.drop ((a0.Univ.length : Nat) : Int).toNat)).bind (fun y194 => (if (!y194) = true then (k141 true) else ((F_skolemref03_Cnf a0.Clauses).bind (fun y196 => (if (!y196) = true then (k141 true) else ((F_skolemref03_within a0.Clauses y101).bind (fun y198 => (k141 (!y198))))))))))))))))))))))

def F_skolemlaw04_TruthMore (a0 : S_api_Dqbf) (a1 : Int) (a2 : Int) (a3 : Int) : Option Bool :=
  (jn (fun (s115 : Bool) => (if s115 = true then ((F_skolemlaw04_head).bind (fun y119 => (some y119))) else ((F_truth_Dqbf a0).bind (fun y120 => (jn (fun (s138 : Bool) => (if s138 = true then (if (y120.2 == (0 : Int)) = true then ((F_skolemlaw04_head).bind (fun y148 => (some y148))) else (if (y120.2 == (3 : Int)) = true then (if (y120.1 == (0 : Int)) = true then ((F_skolemlaw04_head).bind (fun y151 => (some y151))) else (some false)) else (some false))) else (capN (a0.Exist.length) (jn (fun (s530 : (List S_api_Dep)) => (rangeF (fun (j536 : Nat) (x537 : (List Int)) (s533 : (List (List Int))) k535 => (jn (fun (s568 : (List (List Int))) => (k535 s568)) (fun k570 => (okI (((a0.Clauses.length : Nat) : Int) ≠ 0) (if (((j536 : Nat) : Int) != (Int.tmod (IntKind.wrap .i64 a3) ((a0.Clauses.length : Nat) : Int))) = true then (capN (s533.length + [x537].length) (k570 (s533 ++ [x537]))) else (k570 s533)))))) 0 a0.Clauses ([] : List (List Int)) (fun (s533 : (List (List Int))) => ((F_truth_Dqbf (S_api_Dqbf.mk a0.Univ a0.Exist s533)).bind (fun y574 => (jn (fun (s582 : Bool) => (if s582 = true then (some false) else ((F_truth_Dqbf (S_api_Dqbf.mk a0.Univ s530 a0.Clauses)).bind (fun y586 => (if (y586.2 == (0 : Int)) = true then (if (y586.1 == (1 : Int)) = true then ((F_skolemlaw04_head).bind (fun y596 => (some y596))) else (if (y586.2 == (3 : Int)) = true then ((F_skolemlaw04_head).bind (fun y598 => (some y598))) else (some false))) else (if (y586.2 == (3 : Int)) = true then ((F_skolemlaw04_head).bind (fun y600 => (some y600))) else (some false))))))) (fun k584 => (if (y574.2 != (0 : Int)) = true then (k584 true) else (k584 (y574.1 != (1 : Int))))))))))) (fun k532 => (jn (fun (s603 : Bool) => (if s603 = true then (okI (((a0.Exist.length : Nat) : Int) ≠ 0) (getI a0.Exist (Int.tmod (IntKind.wrap .i64 a1) ((a0.Exist.length : Nat) : Int)) (fun x608 => (capN (([] : List Int).length + x608.On.length) (okI (((a0.Univ.length : Nat) : Int) ≠ 0) (getI a0.Univ (Int.tmod (IntKind.wrap .i64 a2) ((a0.Univ.length : Nat) : Int)) (fun x611 => (Option.bind (rangeF (fun (j739 : Nat) (x740 : Int) (s736 : (Bool × (List Int))) k738 => (if (x740 == x611) = true then (some (Sum.inl ())) else (jn (fun (s842 : (Bool × (List Int))) => (capN (s842.2.length + [x740].length) (k738 (s842.1, (s842.2 ++ [x740]))))) (fun k844 => (jn (fun (s847 : Bool) => (if s847 = true then (capN (s736.2.length + [x611].length) (k844 (true, (s736.2 ++ [x611])))) else (k844 (s736.1, s736.2)))) (fun k849 => (if (!s736.1) = true then (k849 (decide (x740 > x611))) else (k849 false)))))))) 0 (([] : List Int) ++ x608.On) (false, ([] : List Int)) (fun (s736 : (Bool × (List Int))) => (if (!s736.1) = true then (capN (s736.2.length + [x611].length) (some (Sum.inr (s736.2 ++ [x611])))) else (some (Sum.inr s736.2))))) (fun (y733 : Sum Unit (List Int)) => Sum.elim (fun (y734 : Unit) => (k532 (a0.Exist.set ((Int.tmod (IntKind.wrap .i64 a1) ((a0.Exist.length : Nat) : Int)).toNat) (S_api_Dep.mk x608.Var (([] : List Int) ++ x608.On))))) (fun (y735 : (List Int)) => (k532 (a0.Exist.set ((Int.tmod (IntKind.wrap .i64 a1) ((a0.Exist.length : Nat) : Int)).toNat) (S_api_Dep.mk x608.Var y735)))) y733))))))))) else (k532 a0.Exist))) (fun k605 => (if (decide (((a0.Univ.length : Nat) : Int) > (0 : Int))) = true then (k605 (decide (((a0.Exist.length : Nat) : Int) > (0 : Int)))) else (k605 false))))))))) (fun k140 => (if (y120.2 != (0 : Int)) = true then (k140 true) else (k140 (y120.1 != (1 : Int)))))))))) (fun k117 => ((F_skolemlaw04_large a0).bind (fun y980 => (if y980 = true then (k117 true) else ((F_skolemref03_MayDqbf a0).bind (fun y982 => (k117 (!y982)))))))))
end Go.Sk.X
