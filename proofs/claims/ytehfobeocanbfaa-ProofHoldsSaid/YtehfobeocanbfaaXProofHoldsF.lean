/- The Go functions that the law ProofHolds reaches, told as plain functions on numbers and lists. It has no conditions. -/
import Derived.Test.YtehfobeocanbfaaSk6
set_option linter.unusedVariables false
set_option linter.unusedSimpArgs false
namespace Go.Sk.X
open Go Go.Sk
structure S_api_Line where
  Rule : Int
  A : Int
  B : Int
  Piv : Int
  Lits : (List Int)
structure S_api_Proof where
  Cubes : Bool
  Lines : (List S_api_Line)
def W_S_api_Line (x : S_api_Line) : Prop := (InK .u8) x.Rule ∧ (InK .i64) x.A ∧ (InK .i64) x.B ∧ (InK .i64) x.Piv ∧ (InL (InK .i64)) x.Lits
def W_S_api_Proof (x : S_api_Proof) : Prop := InB x.Cubes ∧ (InL W_S_api_Line) x.Lines

def F_skolemlaw10_large (a0 : (List (List Int))) (a1 : S_api_Proof) : Option Bool :=
  (rangeF (fun (j104 : Nat) (x105 : (List Int)) (s101 : Int) k103 => (k103 (IntKind.wrap .i64 (s101 + ((x105.length : Nat) : Int))))) 0 a0 (0 : Int) (fun (s101 : Int) => (rangeF (fun (j109 : Nat) (x110 : S_api_Line) (s106 : Int) k108 => (k108 (IntKind.wrap .i64 (s106 + ((x110.Lits.length : Nat) : Int))))) 0 a1.Lines (0 : Int) (fun (s106 : Int) => (if (decide (((a0.length : Nat) : Int) > (200 : Int))) = true then (some true) else (if (decide (s101 > (1000 : Int))) = true then (some true) else (if (decide (((a1.Lines.length : Nat) : Int) > (300 : Int))) = true then (some true) else (some (decide (s106 > (2000 : Int)))))))))))

def F_skolemlaw10_head : Option Bool :=
  some true

def F_proof_abs (a0 : Int) : Option Int :=
  (some (imx a0 (IntKind.wrap .i64 (0 - a0))))

def F_proof_normal (a0 : (List Int)) : Option Bool :=
  (rangeF (fun (j104 : Nat) (x105 : Int) (s101 : Int) k103 => (jn (fun (s224 : Bool) => (if s224 = true then (some false) else ((F_proof_abs x105).bind (fun y228 => (k103 y228))))) (fun k226 => (if (decide (x105 < (-65536 : Int))) = true then (k226 true) else (if (decide (x105 > (65536 : Int))) = true then (k226 true) else ((F_proof_abs x105).bind (fun y231 => (k226 (decide (y231 ≤ s101)))))))))) 0 a0 (0 : Int) (fun (s101 : Int) => (some true)))

def F_proof_cnf (a0 : (List (List Int))) : Option Bool :=
  (if (decide (((a0.length : Nat) : Int) > (20000 : Int))) = true then (some false) else (rangeF (fun (j105 : Nat) (x106 : (List Int)) (s102 : Int) k104 => (jn (fun (s149 : Bool) => (if s149 = true then (some false) else (k104 (IntKind.wrap .i64 (s102 + ((x106.length : Nat) : Int)))))) (fun k151 => (if (decide ((IntKind.wrap .i64 (s102 + ((x106.length : Nat) : Int))) > (200000 : Int))) = true then (k151 true) else ((F_proof_normal x106).bind (fun y154 => (k151 (!y154)))))))) 0 a0 (0 : Int) (fun (s102 : Int) => (some true))))

def F_proof_fits (a0 : S_api_Proof) : Option Bool :=
  (if (!a0.Cubes) = true then (if (decide (((a0.Lines.length : Nat) : Int) > (0 : Int))) = true then (some (decide (((a0.Lines.length : Nat) : Int) ≤ (1000000 : Int)))) else (some false)) else (some false))

def F_slices_Index_int_int (a0 : (List Int)) (a1 : Int) : Option Int :=
  (rangeF (fun (j104 : Nat) (x105 : Int) (s101 : Unit) k103 => (if (a1 == x105) = true then (some ((j104 : Nat) : Int)) else (k103 ()))) 0 a0 () (fun (s101 : Unit) => (some (-1 : Int))))

def F_slices_Contains_int_int (a0 : (List Int)) (a1 : Int) : Option Bool :=
  ((F_slices_Index_int_int a0 a1).bind (fun y101 => (some (decide (y101 ≥ (0 : Int))))))

def F_proof_resolvent (a0 : (List Int)) (a1 : (List Int)) (a2 : Int) : Option ((List Int) × Bool) :=
  (jn (fun (s117 : Bool) => (if s117 = true then (some (([] : List Int), false)) else (okI (0 ≤ (IntKind.wrap .i64 ((IntKind.wrap .i64 (((a0.length : Nat) : Int) + ((a1.length : Nat) : Int))) - (2 : Int))) ∧ (IntKind.wrap .i64 ((IntKind.wrap .i64 (((a0.length : Nat) : Int) + ((a1.length : Nat) : Int))) - (2 : Int))) ≤ 1099511627776) (whileF 1000000000000 (fun k124 (s122 : ((List Int) × (List Int) × (List Int))) => (if (decide ((IntKind.wrap .i64 (((s122.1.length : Nat) : Int) + ((s122.2.1.length : Nat) : Int))) > (0 : Int))) = true then (jn (fun (s226 : Bool) => (if s226 = true then (getI s122.1 (0 : Int) (fun x230 => (capN (s122.2.2.length + [x230].length) (okI (0 ≤ (1 : Int) ∧ (1 : Int).toNat ≤ s122.1.length) (k124 ((s122.1.drop (1 : Int).toNat), s122.2.1, (s122.2.2 ++ [x230]))))))) else (jn (fun (s238 : Bool) => (if s238 = true then (getI s122.2.1 (0 : Int) (fun x242 => (capN (s122.2.2.length + [x242].length) (okI (0 ≤ (1 : Int) ∧ (1 : Int).toNat ≤ s122.2.1.length) (k124 (s122.1, (s122.2.1.drop (1 : Int).toNat), (s122.2.2 ++ [x242]))))))) else (getI s122.1 (0 : Int) (fun x245 => (getI s122.2.1 (0 : Int) (fun x246 => (if (x245 == x246) = true then (capN (s122.2.2.length + [x245].length) (okI (0 ≤ (1 : Int) ∧ (1 : Int).toNat ≤ s122.1.length) (okI (0 ≤ (1 : Int) ∧ (1 : Int).toNat ≤ s122.2.1.length) (k124 ((s122.1.drop (1 : Int).toNat), (s122.2.1.drop (1 : Int).toNat), (s122.2.2 ++ [x245])))))) else (if (x245 == a2) = true then (okI (0 ≤ (1 : Int) ∧ (1 : Int).toNat ≤ s122.1.length) (okI (0 ≤ (1 : Int) ∧ (1 : Int).toNat ≤ s122.2.1.length) (k124 ((s122.1.drop (1 : Int).toNat), (s122.2.1.drop (1 : Int).toNat), s122.2.2)))) else (some (([] : List Int), false)))))))))) (fun k240 => (if (((s122.1.length : Nat) : Int) == (0 : Int)) = true then (k240 true) else (getI s122.2.1 (0 : Int) (fun x255 => ((F_proof_abs x255).bind (fun y256 => (getI s122.1 (0 : Int) (fun x257 => ((F_proof_abs x257).bind (fun y258 => (k240 (decide (y256 < y258)))))))))))))))) (fun k228 => (if (((s122.2.1.length : Nat) : Int) == (0 : Int)) = true then (k228 true) else (if (decide (((s122.1.length : Nat) : Int) > (0 : Int))) = true then (getI s122.1 (0 : Int) (fun x261 => ((F_proof_abs x261).bind (fun y262 => (getI s122.2.1 (0 : Int) (fun x263 => ((F_proof_abs x263).bind (fun y264 => (k228 (decide (y262 < y264))))))))))) else (k228 false))))) else (some (s122.2.2, true)))) (a0, a1, ([] : List Int)))))) (fun k119 => (if (decide (a2 < (1 : Int))) = true then (k119 true) else ((F_slices_Contains_int_int a0 a2).bind (fun y266 => (if (!y266) = true then (k119 true) else ((F_slices_Contains_int_int a1 (IntKind.wrap .i64 (0 - a2))).bind (fun y268 => (k119 (!y268))))))))))

def F_slices_Equal_int_int (a0 : (List Int)) (a1 : (List Int)) : Option Bool :=
  (if (((a0.length : Nat) : Int) != ((a1.length : Nat) : Int)) = true then (some false) else (rangeF (fun (j105 : Nat) (x106 : Int) (s102 : Unit) k104 => (getI a1 ((j105 : Nat) : Int) (fun x109 => (if (x106 != x109) = true then (some false) else (k104 ()))))) 0 a0 () (fun (s102 : Unit) => (some true))))

def F_proof_right (a0 : (List (List Int))) (a1 : (List S_api_Line)) (a2 : S_api_Line) : Option Bool :=
  (if (a2.Rule == (1 : Int)) = true then (if (decide (a2.A ≥ (0 : Int))) = true then (if (decide (a2.A < ((a0.length : Nat) : Int))) = true then (if (a2.B == (0 : Int)) = true then (if (a2.Piv == (0 : Int)) = true then (getI a0 a2.A (fun x112 => ((F_slices_Equal_int_int a2.Lits x112).bind (fun y113 => (some y113))))) else (some false)) else (some false)) else (some false)) else (some false)) else (if (a2.Rule == (2 : Int)) = true then (jn (fun (s122 : Bool) => (if s122 = true then (some false) else (getI a1 a2.A (fun x126 => (getI a1 a2.B (fun x127 => ((F_proof_resolvent x126.Lits x127.Lits a2.Piv).bind (fun y128 => (if y128.2 = true then ((F_slices_Equal_int_int y128.1 a2.Lits).bind (fun y132 => (some y132))) else (some false)))))))))) (fun k124 => (if (decide ((imn a2.A a2.B) < (0 : Int))) = true then (k124 true) else (k124 (decide ((imx a2.A a2.B) ≥ ((a1.length : Nat) : Int))))))) else (some false)))

def F_slices_Clone_int_int (a0 : (List Int)) : Option (List Int) :=
  (if a0.isEmpty = true then (some ([] : List Int)) else (capN (([] : List Int).length + a0.length) (some (([] : List Int) ++ a0))))

def F_proof_Check (a0 : (List (List Int))) (a1 : S_api_Proof) : Option ((List Int) × Int × Int) :=
  ((F_proof_cnf a0).bind (fun y101 => (if (!y101) = true then (some (([] : List Int), (0 : Int), (2 : Int))) else ((F_proof_fits a1).bind (fun y103 => (if (!y103) = true then (some (([] : List Int), (0 : Int), (100 : Int))) else (rangeF (fun (j108 : Nat) (x109 : S_api_Line) (s105 : Unit) k107 => (okI (0 ≤ ((j108 : Nat) : Int) ∧ ((j108 : Nat) : Int).toNat ≤ a1.Lines.length) ((F_proof_right a0 (a1.Lines.take ((j108 : Nat) : Int).toNat) x109).bind (fun y114 => (if (!y114) = true then (some (([] : List Int), ((j108 : Nat) : Int), (100 : Int))) else (k107 ())))))) 0 a1.Lines () (fun (s105 : Unit) => (getI a1.Lines (IntKind.wrap .i64 (((a1.Lines.length : Nat) : Int) - (1 : Int))) (fun x116 => ((F_slices_Clone_int_int x116.Lits).bind (fun y117 => (some (y117, (0 : Int), (0 : Int)))))))))))))))

def F_skolemref09_Abs (a0 : Int) : Option Int :=
  (if (decide (a0 < (0 : Int))) = true then (some (IntKind.wrap .i64 (0 - a0))) else (some a0))

def F_skolemlaw10_holds (a0 : (List Int)) (a1 : Int) : Option Bool :=
  (rangeF (fun (j104 : Nat) (x105 : Int) (s101 : Unit) k103 => ((F_skolemref09_Abs x105).bind (fun y109 => (okI (0 ≤ (Int.tmod y109 (64 : Int))) (if (((IntKind.wrap .u64 ((BitVec.ofInt (IntKind.bits .u64) (Int.fdiv a1 (2 ^ (min (Int.tmod y109 (64 : Int)).toNat (IntKind.bits .u64)))) &&& BitVec.ofInt (IntKind.bits .u64) (1 : Int)).toNat : Int)) == (1 : Int)) == (decide (x105 > (0 : Int)))) = true then (some true) else (k103 ())))))) 0 a0 () (fun (s101 : Unit) => (some false)))

def F_skolemlaw10_holdsAll (a0 : (List (List Int))) (a1 : Int) : Option Bool :=
  (rangeF (fun (j104 : Nat) (x105 : (List Int)) (s101 : Unit) k103 => ((F_skolemlaw10_holds x105 a1).bind (fun y108 => (if (!y108) = true then (some false) else (k103 ()))))) 0 a0 () (fun (s101 : Unit) => (some true)))

def F_skolemlaw10_ProofHolds (a0 : (List (List Int))) (a1 : S_api_Proof) (a2 : (List Int)) : Option Bool :=
  (jn (fun (s112 : Bool) => (if s112 = true then ((F_skolemlaw10_head).bind (fun y116 => (some y116))) else ((F_proof_Check a0 a1).bind (fun y117 => (if (y117.2.2 != (0 : Int)) = true then (if (((y117.1.length : Nat) : Int) == (0 : Int)) = true then ((F_skolemlaw10_head).bind (fun y122 => (some y122))) else (some false)) else (rangeF (fun (j126 : Nat) (x127 : Int) (s123 : Unit) k125 => (jn (fun (s161 : Bool) => (if s161 = true then (some false) else (k125 ()))) (fun k163 => ((F_skolemlaw10_holdsAll a0 x127).bind (fun y165 => (if y165 = true then ((F_skolemlaw10_holds y117.1 x127).bind (fun y167 => (k163 (!y167)))) else (k163 false))))))) 0 a2 () (fun (s123 : Unit) => ((F_skolemlaw10_head).bind (fun y168 => (some y168)))))))))) (fun k114 => ((F_skolemlaw10_large a0 a1).bind (fun y169 => (if y169 = true then (k114 true) else (k114 (decide (((a2.length : Nat) : Int) > (200 : Int)))))))))

def F_proof_Refutes (a0 : (List (List Int))) (a1 : S_api_Proof) : Option Bool :=
  ((F_proof_Check a0 a1).bind (fun y101 => (if (y101.2.2 == (0 : Int)) = true then (some (((y101.1.length : Nat) : Int) == (0 : Int))) else (some false))))

def F_skolemref09_Normal (a0 : (List Int)) : Option Bool :=
  (rangeF (fun (j104 : Nat) (x105 : Int) (s101 : Unit) k103 => (jn (fun (s167 : Bool) => (if s167 = true then (some false) else (k103 ()))) (fun k169 => (if (decide (x105 < (-65536 : Int))) = true then (k169 true) else (if (decide (x105 > (65536 : Int))) = true then (k169 true) else (if (x105 == (0 : Int)) = true then (k169 true) else (if (decide (((j104 : Nat) : Int) > (0 : Int))) = true then (getI a0 (IntKind.wrap .i64 (((j104 : Nat) : Int) - (1 : Int))) (fun x175 => ((F_skolemref09_Abs x175).bind (fun y176 => ((F_skolemref09_Abs x105).bind (fun y177 => (k169 (decide (y176 ≥ y177))))))))) else (k169 false)))))))) 0 a0 () (fun (s101 : Unit) => (some true)))

def F_skolemref09_Cnf (a0 : (List (List Int))) : Option Bool :=
  (if (decide (((a0.length : Nat) : Int) > (20000 : Int))) = true then (some false) else (rangeF (fun (j105 : Nat) (x106 : (List Int)) (s102 : Int) k104 => (jn (fun (s149 : Bool) => (if s149 = true then (some false) else (k104 (IntKind.wrap .i64 (s102 + ((x106.length : Nat) : Int)))))) (fun k151 => (if (decide ((IntKind.wrap .i64 (s102 + ((x106.length : Nat) : Int))) > (200000 : Int))) = true then (k151 true) else ((F_skolemref09_Normal x106).bind (fun y154 => (k151 (!y154)))))))) 0 a0 (0 : Int) (fun (s102 : Int) => (some true))))

def F_skolemref09_Same (a0 : (List Int)) (a1 : (List Int)) : Option Bool :=
  (if (((a0.length : Nat) : Int) != ((a1.length : Nat) : Int)) = true then (some false) else (rangeF (fun (j105 : Nat) (x106 : Int) (s102 : Unit) k104 => (getI a1 ((j105 : Nat) : Int) (fun x109 => (if (x106 != x109) = true then (some false) else (k104 ()))))) 0 a0 () (fun (s102 : Unit) => (some true))))

def F_skolemref09_Has (a0 : (List Int)) (a1 : Int) : Option Bool :=
  (rangeF (fun (j104 : Nat) (x105 : Int) (s101 : Unit) k103 => (if (x105 == a1) = true then (some true) else (k103 ()))) 0 a0 () (fun (s101 : Unit) => (some false)))

def F_skolemref09_Put (a0 : (List Int)) (a1 : Int) : Option (List Int) :=
  (rangeF (fun (j104 : Nat) (x105 : Int) (s101 : (Bool × (List Int))) k103 => ((F_skolemref09_Abs x105).bind (fun y269 => ((F_skolemref09_Abs a1).bind (fun y270 => (if (y269 == y270) = true then (some a0) else (jn (fun (s283 : (Bool × (List Int))) => (capN (s283.2.length + [x105].length) (k103 (s283.1, (s283.2 ++ [x105]))))) (fun k285 => (jn (fun (s290 : Bool) => (if s290 = true then (capN (s101.2.length + [a1].length) (k285 (true, (s101.2 ++ [a1])))) else (k285 (s101.1, s101.2)))) (fun k292 => (if (!s101.1) = true then ((F_skolemref09_Abs x105).bind (fun y296 => ((F_skolemref09_Abs a1).bind (fun y297 => (k292 (decide (y296 > y297))))))) else (k292 false)))))))))))) 0 a0 (false, ([] : List Int)) (fun (s101 : (Bool × (List Int))) => (if (!s101.1) = true then (capN (s101.2.length + [a1].length) (some (s101.2 ++ [a1]))) else (some s101.2))))

def F_skolemref09_Resolvent (a0 : (List Int)) (a1 : (List Int)) (a2 : Int) : Option ((List Int) × Bool) :=
  (jn (fun (s117 : Bool) => (if s117 = true then (some (([] : List Int), false)) else (rangeF (fun (j124 : Nat) (x125 : Int) (s121 : (List Int)) k123 => (jn (fun (s163 : (List Int)) => (k123 s163)) (fun k165 => (if (x125 != a2) = true then ((F_skolemref09_Has a1 (IntKind.wrap .i64 (0 - x125))).bind (fun y167 => (if y167 = true then (some (([] : List Int), false)) else ((F_skolemref09_Put s121 x125).bind (fun y169 => (k165 y169)))))) else (k165 s121))))) 0 a0 ([] : List Int) (fun (s121 : (List Int)) => (rangeF (fun (j173 : Nat) (x174 : Int) (s170 : (List Int)) k172 => (jn (fun (s191 : (List Int)) => (k172 s191)) (fun k193 => (if (x174 != (IntKind.wrap .i64 (0 - a2))) = true then ((F_skolemref09_Put s170 x174).bind (fun y195 => (k193 y195))) else (k193 s170))))) 0 a1 s121 (fun (s170 : (List Int)) => (some (s170, true)))))))) (fun k119 => (if (decide (a2 < (1 : Int))) = true then (k119 true) else ((F_skolemref09_Has a0 a2).bind (fun y197 => (if (!y197) = true then (k119 true) else ((F_skolemref09_Has a1 (IntKind.wrap .i64 (0 - a2))).bind (fun y199 => (k119 (!y199))))))))))

def F_skolemref10_right (a0 : (List (List Int))) (a1 : S_api_Proof) (a2 : Int) : Option Bool :=
  (getI a1.Lines a2 (fun x101 => (if (x101.Rule == (1 : Int)) = true then (if (decide (x101.A ≥ (0 : Int))) = true then (if (decide (x101.A < ((a0.length : Nat) : Int))) = true then (if (x101.B == (0 : Int)) = true then (if (x101.Piv == (0 : Int)) = true then (getI a0 x101.A (fun x113 => ((F_skolemref09_Same x101.Lits x113).bind (fun y114 => (some y114))))) else (some false)) else (some false)) else (some false)) else (some false)) else (jn (fun (s131 : Bool) => (if s131 = true then (some false) else (getI a1.Lines x101.A (fun x135 => (getI a1.Lines x101.B (fun x136 => ((F_skolemref09_Resolvent x135.Lits x136.Lits x101.Piv).bind (fun y137 => (if y137.2 = true then ((F_skolemref09_Same y137.1 x101.Lits).bind (fun y141 => (some y141))) else (some false)))))))))) (fun k133 => (if (x101.Rule != (2 : Int)) = true then (k133 true) else (if (decide (x101.A < (0 : Int))) = true then (k133 true) else (if (decide (x101.A ≥ a2)) = true then (k133 true) else (if (decide (x101.B < (0 : Int))) = true then (k133 true) else (k133 (decide (x101.B ≥ a2))))))))))))

def F_skolemref10_Check (a0 : (List (List Int))) (a1 : S_api_Proof) : Option ((List Int) × Int × Int) :=
  ((F_skolemref09_Cnf a0).bind (fun y101 => (if (!y101) = true then (some (([] : List Int), (0 : Int), (2 : Int))) else (jn (fun (s113 : (Bool × Bool)) => (if s113.1 = true then (some (([] : List Int), (0 : Int), (100 : Int))) else (rangeF (fun (j120 : Nat) (x121 : S_api_Line) (s117 : Unit) k119 => ((F_skolemref10_right a0 (S_api_Proof.mk s113.2 a1.Lines) ((j120 : Nat) : Int)).bind (fun y124 => (if (!y124) = true then (some (([] : List Int), ((j120 : Nat) : Int), (100 : Int))) else (k119 ()))))) 0 a1.Lines () (fun (s117 : Unit) => (getI a1.Lines (IntKind.wrap .i64 (((a1.Lines.length : Nat) : Int) - (1 : Int))) (fun x126 => (some (x126.Lits, (0 : Int), (0 : Int))))))))) (fun k115 => (if a1.Cubes = true then (k115 (true, true)) else (if (((a1.Lines.length : Nat) : Int) == (0 : Int)) = true then (k115 (true, false)) else (k115 ((decide (((a1.Lines.length : Nat) : Int) > (1000000 : Int))), false)))))))))

def F_skolemref10_Refutes (a0 : (List (List Int))) (a1 : S_api_Proof) : Option Bool :=
  ((F_skolemref10_Check a0 a1).bind (fun y101 => (if (y101.2.2 == (0 : Int)) = true then (some (((y101.1.length : Nat) : Int) == (0 : Int))) else (some false))))

def F_skolemlaw10_ProofChecks (a0 : (List (List Int))) (a1 : S_api_Proof) : Option Bool :=
  ((F_skolemlaw10_large a0 a1).bind (fun y101 => (if y101 = true then ((F_skolemlaw10_head).bind (fun y103 => (some y103))) else ((F_proof_Check a0 a1).bind (fun y104 => ((F_skolemref10_Check a0 a1).bind (fun y105 => ((F_skolemref09_Same y104.1 y105.1).bind (fun y114 => (if y114 = true then (if (y104.2.1 == y105.2.1) = true then (if (y104.2.2 == y105.2.2) = true then ((F_proof_Refutes a0 a1).bind (fun y118 => ((F_skolemref10_Refutes a0 a1).bind (fun y119 => (if (y118 == y119) = true then ((F_skolemlaw10_head).bind (fun y121 => (some y121))) else (some false)))))) else (some false)) else (some false)) else (some false)))))))))))
end Go.Sk.X
