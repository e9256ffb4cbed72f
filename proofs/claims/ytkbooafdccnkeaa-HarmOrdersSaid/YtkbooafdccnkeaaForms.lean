/- The functions' pure forms. By program. -/
import Derived.Test.YtkbooafdccnkeaaReps
namespace Go.Proofs.Ytkbooafdccnkeaa
open Go.RowKit
set_option linter.unusedVariables false

-- bourne/exact.Sub
def f_exact_Sub (N : Nat) (p0_a : Int) (p1_b : Int) : Option Int :=
 cond ((decide (p1_b < 0)) && (decide ((w64 (9223372036854775807 + p1_b)) < p0_a))) (
 some 9223372036854775807) (
 cond ((decide (0 < p1_b)) && (decide (p0_a < (w64 ((-9223372036854775808) + p1_b))))) (
 some (-9223372036854775808)) (
 some (w64 (p0_a - p1_b))))

-- bourne/harm.distance
def f_harm_distance (N : Nat) (p0_x : Int) (p1_y : Int) : Option Int :=
 Option.bind (f_exact_Sub N p0_x p1_y) fun y1 =>
 cond (decide (y1 = (-9223372036854775808))) (
 some 9223372036854775807) (
 some (max y1 (w64 (0 - y1))))

-- bourne/harm.moved
def f_harm_moved (N : Nat) (p0_p : GSpan) (p1_q : GSpan) : Option Int :=
 cond (((decide (p0_p.Lo < p1_q.Lo)) && (decide (p0_p.Hi < p1_q.Hi))) || ((decide (p1_q.Lo < p0_p.Lo)) && (decide (p1_q.Hi < p0_p.Hi)))) (
 Option.bind (f_harm_distance N p0_p.Lo p1_q.Lo) fun y49 =>
 Option.bind (f_harm_distance N p0_p.Hi p1_q.Hi) fun y58 =>
 some (min y49 y58)) (
 some 0)

-- bourne/exact.Add
def f_exact_Add (N : Nat) (p0_a : Int) (p1_b : Int) : Option Int :=
 cond ((decide (0 < p1_b)) && (decide ((w64 (9223372036854775807 - p1_b)) < p0_a))) (
 some 9223372036854775807) (
 cond ((decide (p1_b < 0)) && (decide (p0_a < (w64 ((-9223372036854775808) - p1_b))))) (
 some (-9223372036854775808)) (
 some (w64 (p0_a + p1_b))))

-- bourne/harm.flooded
def f_harm_flooded_j0 (N : Nat) (i16 : Int) : Option Int :=
 some i16
def f_harm_flooded_j2 (N : Nat) (i24 : Int) (kc1 : Int → Int → Option Int) (i31 : Int) (x33 : GTown) (i41 : Int) (b43 : Bool) (b44 : Bool) (b45 : Bool) (b46 : Bool) (b47 : Bool) : Option Int :=
 kc1 i31 (w64 (i24 + 1))
def f_harm_flooded_l1 (N : Nat) (p0_b : GBasin) (p1_n : Int) (p2_peak : (Int → Option Int)) (kj0 : Int → Option Int) : Nat → Int → Int → Option Int
 | 0, _, _ => none
 | n1 + 1, i22, i24 =>
 cond (decide (i24 < (↑p0_b.Towns.length : Int))) (
 Option.bind (ix p0_b.Towns i24) fun x49 =>
 Option.bind (cond ((decide (0 ≤ x49.Place)) && (decide (x49.Place < p1_n))) (Option.bind (p2_peak x49.Place) fun y73 =>
 some (decide (x49.Flood < y73))) (some false)) fun b72 =>
 cond b72 (
 f_harm_flooded_j2 N i24 (f_harm_flooded_l1 N p0_b p1_n p2_peak kj0 n1) (w64 (i22 + 1)) x49 x49.Place (decide (0 ≤ x49.Place)) (decide (0 ≤ x49.Place)) ((decide (0 ≤ x49.Place)) && (decide (x49.Place < p1_n))) ((decide (0 ≤ x49.Place)) && (decide (x49.Place < p1_n))) b72) (
 f_harm_flooded_j2 N i24 (f_harm_flooded_l1 N p0_b p1_n p2_peak kj0 n1) i22 x49 x49.Place (decide (0 ≤ x49.Place)) (decide (0 ≤ x49.Place)) ((decide (0 ≤ x49.Place)) && (decide (x49.Place < p1_n))) ((decide (0 ≤ x49.Place)) && (decide (x49.Place < p1_n))) b72)) (
 kj0 i22)
def f_harm_flooded (N : Nat) (p0_b : GBasin) (p1_n : Int) (p2_peak : (Int → Option Int)) : Option Int :=
 f_harm_flooded_l1 N p0_b p1_n p2_peak (f_harm_flooded_j0 N) N 0 0

-- bourne/harm.spilling
def f_harm_spilling_j0 (N : Nat) (i16 : Int) : Option Int :=
 some i16
def f_harm_spilling_j2 (N : Nat) (i24 : Int) (kc1 : Int → Int → Option Int) (i31 : Int) (i33 : Int) (i35 : Int) (l38 : List GPlace) (i40 : Int) (i42 : Int) (b44 : Bool) (b45 : Bool) (b46 : Bool) : Option Int :=
 kc1 i31 (w64 (i24 + 1))
def f_harm_spilling_l1 (N : Nat) (p0_b : GBasin) (p1_n : Int) (p2_spill : (Int → Option Int)) (kj0 : Int → Option Int) : Nat → Int → Int → Option Int
 | 0, _, _ => none
 | n1 + 1, i22, i24 =>
 cond (decide (i24 < (min p1_n (↑p0_b.Places.length : Int)))) (
 Option.bind (ix p0_b.Places i24) fun x52 =>
 Option.bind (cond (decide (x52.Kind = 1)) (Option.bind (p2_spill i24) fun y60 =>
 some (decide (0 < y60))) (some false)) fun b59 =>
 cond b59 (
 f_harm_spilling_j2 N i24 (f_harm_spilling_l1 N p0_b p1_n p2_spill kj0 n1) (w64 (i22 + 1)) i24 i24 p0_b.Places i24 x52.Kind (decide (x52.Kind = 1)) (decide (x52.Kind = 1)) b59) (
 f_harm_spilling_j2 N i24 (f_harm_spilling_l1 N p0_b p1_n p2_spill kj0 n1) i22 i24 i24 p0_b.Places i24 x52.Kind (decide (x52.Kind = 1)) (decide (x52.Kind = 1)) b59)) (
 kj0 i22)
def f_harm_spilling (N : Nat) (p0_b : GBasin) (p1_n : Int) (p2_spill : (Int → Option Int)) : Option Int :=
 f_harm_spilling_l1 N p0_b p1_n p2_spill (f_harm_spilling_j0 N) N 0 0

-- bourne/harm.missing
def f_harm_missing_j0 (N : Nat) (i16 : Int) : Option Int :=
 some i16
def f_harm_missing_j2 (N : Nat) (i24 : Int) (kc1 : Int → Int → Option Int) (i31 : Int) (i33 : Int) (i35 : Int) (i37 : Int) (l40 : List GPlace) (i42 : Int) (i44 : Int) (i46 : Int) (i48 : Int) (i50 : Int) (i52 : Int) (b54 : Bool) : Option Int :=
 kc1 i31 (w64 (i24 + 1))
def f_harm_missing_l1 (N : Nat) (p0_b : GBasin) (p1_n : Int) (p2_volume : (Int → Option Int)) (kj0 : Int → Option Int) : Nat → Int → Int → Option Int
 | 0, _, _ => none
 | n1 + 1, i22, i24 =>
 cond (decide (i24 < (min p1_n (↑p0_b.Places.length : Int)))) (
 Option.bind (ix p0_b.Places i24) fun x60 =>
 Option.bind (p2_volume i24) fun y66 =>
 Option.bind (f_exact_Sub N x60.Floor y66) fun y69 =>
 cond (decide (0 < y69)) (
 Option.bind (f_exact_Add N i22 y69) fun y76 =>
 f_harm_missing_j2 N i24 (f_harm_missing_l1 N p0_b p1_n p2_volume kj0 n1) y76 i24 y69 i24 p0_b.Places i24 x60.Floor i24 y66 y69 y69 (decide (0 < y69))) (
 f_harm_missing_j2 N i24 (f_harm_missing_l1 N p0_b p1_n p2_volume kj0 n1) i22 i24 y69 i24 p0_b.Places i24 x60.Floor i24 y66 y69 y69 (decide (0 < y69)))) (
 kj0 i22)
def f_harm_missing (N : Nat) (p0_b : GBasin) (p1_n : Int) (p2_volume : (Int → Option Int)) : Option Int :=
 f_harm_missing_l1 N p0_b p1_n p2_volume (f_harm_missing_j0 N) N 0 0

-- bourne/harm.Hour$1
def f_harm_Hour_1 (N : Nat) (c1_ : (List GSpan)) (p0_i : Int) : Option Int :=
 Option.bind (ix c1_ p0_i) fun x3 =>
 some x3.Hi

-- bourne/harm.Hour$2
def f_harm_Hour_2 (N : Nat) (c1_ : (List GSpan)) (p0_i : Int) : Option Int :=
 Option.bind (ix c1_ p0_i) fun x3 =>
 some x3.Hi

-- bourne/harm.Hour$3
def f_harm_Hour_3 (N : Nat) (c1_ : GHull) (p0_i : Int) : Option Int :=
 Option.bind (ix c1_.Vol p0_i) fun x5 =>
 some x5.Lo

-- bourne/harm.Hour
def f_harm_Hour_j0 (N : Nat) (p0_b : GBasin) (p2_h1 : GHull) (p3_peaks : (List GSpan)) (p4_spills : (List GSpan)) (i51 : Int) : Option GHarm :=
 Option.bind (f_harm_flooded N p0_b (↑p3_peaks.length : Int) (fun x => f_harm_Hour_1 N p3_peaks x)) fun y111 =>
 Option.bind (f_harm_spilling N p0_b (↑p4_spills.length : Int) (fun x => f_harm_Hour_2 N p4_spills x)) fun y121 =>
 Option.bind (f_harm_missing N p0_b (↑p2_h1.Vol.length : Int) (fun x => f_harm_Hour_3 N p2_h1 x)) fun y133 =>
 some (⟨y111, y121, y133, i51⟩ : GHarm)
def f_harm_Hour_l1 (N : Nat) (p1_h0 : GHull) (p2_h1 : GHull) (kj0 : Int → Option GHarm) : Nat → Int → Int → Option GHarm
 | 0, _, _ => none
 | n1 + 1, i57, i59 =>
 cond (decide (i59 < (min (↑p1_h0.Links.length : Int) (↑p2_h1.Links.length : Int)))) (
 Option.bind (ix p1_h0.Links i59) fun x71 =>
 Option.bind (ix p2_h1.Links i59) fun x83 =>
 Option.bind (f_harm_moved N x71.Pos x83.Pos) fun y90 =>
 Option.bind (f_exact_Add N i57 y90) fun y93 =>
 f_harm_Hour_l1 N p1_h0 p2_h1 kj0 n1 y93 (w64 (i59 + 1))) (
 kj0 i57)
def f_harm_Hour (N : Nat) (p0_b : GBasin) (p1_h0 : GHull) (p2_h1 : GHull) (p3_peaks : (List GSpan)) (p4_spills : (List GSpan)) : Option GHarm :=
 f_harm_Hour_l1 N p1_h0 p2_h1 (f_harm_Hour_j0 N p0_b p2_h1 p3_peaks p4_spills) N 0 0

-- cmp.isNaN[int]
def f_cmp_isNaN_int (N : Nat) (p0_x : Int) : Option Bool :=
 some (decide (p0_x ≠ p0_x))

-- cmp.Compare[int]
def f_cmp_Compare_int (N : Nat) (p0_x : Int) (p1_y : Int) : Option Int :=
 Option.bind (f_cmp_isNaN_int N p0_x) fun y1 =>
 Option.bind (f_cmp_isNaN_int N p1_y) fun y6 =>
 cond y1 (
 cond y6 (
 some 0) (
 some (-1))) (
 cond y6 (
 some 1) (
 cond (decide (p0_x < p1_y)) (
 some (-1)) (
 cond (decide (p1_y < p0_x)) (
 some 1) (
 some 0))))

-- cmp.Or[int]
def f_cmp_Or_int_j0 (N : Nat) : Option Int :=
 some 0
def f_cmp_Or_int_l1 (N : Nat) (p0_vals : (List Int)) (kj0 : Option Int) : Nat → Int → Option Int
 | 0, _ => none
 | n1 + 1, i4 =>
 cond (decide (i4 < (↑p0_vals.length : Int))) (
 Option.bind (ix p0_vals i4) fun x12 =>
 cond (decide (x12 ≠ 0)) (
 some x12) (
 f_cmp_Or_int_l1 N p0_vals kj0 n1 (w64 (i4 + 1)))) (
 kj0)
def f_cmp_Or_int (N : Nat) (p0_vals : (List Int)) : Option Int :=
 f_cmp_Or_int_l1 N p0_vals (f_cmp_Or_int_j0 N) N 0

-- bourne/harm.Less
def f_harm_Less (N : Nat) (p0_x : GHarm) (p1_y : GHarm) : Option Bool :=
 Option.bind (f_cmp_Compare_int N p0_x.Flood p1_y.Flood) fun y21 =>
 Option.bind (f_cmp_Compare_int N p0_x.Spill p1_y.Spill) fun y30 =>
 Option.bind (f_cmp_Compare_int N p0_x.Short p1_y.Short) fun y39 =>
 Option.bind (f_cmp_Compare_int N p0_x.Moves p1_y.Moves) fun y48 =>
 Option.bind (f_cmp_Or_int N ([y21, y30, y39, y48] : List Int)) fun y60 =>
 some (decide (y60 < 0))

-- bourne/harm.Worst
def f_harm_Worst_j0 (N : Nat) (i11 : Int) (i13 : Int) (i15 : Int) (i17 : Int) : Option GHarm :=
 some (⟨i11, i13, i15, i17⟩ : GHarm)
def f_harm_Worst_j2 (N : Nat) (i29 : Int) (kc1 : Int → Int → Int → Int → Int → Option GHarm) (i44 : Int) (i46 : Int) (x48 : GHarm) (i53 : Int) (b55 : Bool) (b56 : Bool) (b57 : Bool) (i58 : Int) (i60 : Int) (i62 : Int) (i64 : Int) : Option GHarm :=
 kc1 (w64 (i29 + 1)) i58 i60 i62 i64
def f_harm_Worst_l1 (N : Nat) (p0_l : (List GHarm)) (kj0 : Int → Int → Int → Int → Option GHarm) : Nat → Int → Int → Int → Int → Int → Option GHarm
 | 0, _, _, _, _, _ => none
 | n1 + 1, i29, i31, i33, i35, i37 =>
 cond (decide (i29 < (↑p0_l.length : Int))) (
 Option.bind (ix p0_l i29) fun x67 =>
 Option.bind (cond (decide (i29 = 0)) (some true) (Option.bind (f_harm_Less N (⟨i31, i33, i35, i37⟩ : GHarm) x67) fun y87 =>
 some y87)) fun b86 =>
 cond b86 (
 f_harm_Worst_j2 N i29 (f_harm_Worst_l1 N p0_l kj0 n1) i29 i29 x67 i29 (decide (i29 = 0)) (decide (i29 = 0)) b86 x67.Flood x67.Spill x67.Short x67.Moves) (
 f_harm_Worst_j2 N i29 (f_harm_Worst_l1 N p0_l kj0 n1) i29 i29 x67 i29 (decide (i29 = 0)) (decide (i29 = 0)) b86 i31 i33 i35 i37)) (
 kj0 i31 i33 i35 i37)
def f_harm_Worst (N : Nat) (p0_l : (List GHarm)) : Option GHarm :=
 f_harm_Worst_l1 N p0_l (f_harm_Worst_j0 N) N 0 0 0 0 0

-- bourne/bournelaw33.small
def f_bournelaw33_small (N : Nat) : Option Bool :=
 Option.bind (f_harm_Hour N (⟨ByteArray.empty, [], 0, ([(⟨ByteArray.empty, 1, 0, 0, ([(⟨0, 0⟩ : GPoint)] : List GPoint), [], 0, 0, 0, 0, 7, []⟩ : GPlace)] : List GPlace), [], ([(⟨ByteArray.empty, 0, 3, 0, 0, 0, 0⟩ : GTown)] : List GTown), [], [], [], [], 0⟩ : GBasin) (⟨0, [], [], []⟩ : GHull) (⟨0, ([(⟨5, 9⟩ : GSpan)] : List GSpan), [], []⟩ : GHull) ([(⟨0, 4⟩ : GSpan)] : List GSpan) ([(⟨0, 1⟩ : GSpan)] : List GSpan)) fun y81 =>
 Option.bind (f_harm_Less N (⟨0, 5, 9, 9⟩ : GHarm) (⟨1, 0, 0, 0⟩ : GHarm)) fun y100 =>
 Option.bind (cond y100 (Option.bind (f_harm_Less N (⟨1, 0, 0, 0⟩ : GHarm) (⟨0, 5, 9, 9⟩ : GHarm)) fun y102 =>
 some (!y102)) (some false)) fun b104 =>
 Option.bind (cond b104 (Option.bind (f_harm_Worst N ([(⟨0, 5, 9, 9⟩ : GHarm), (⟨1, 0, 0, 0⟩ : GHarm), (⟨0, 5, 9, 9⟩ : GHarm)] : List GHarm)) fun y114 =>
 some (eqC y114.v (⟨1, 0, 0, 0⟩ : GHarm).v)) (some false)) fun b120 =>
 Option.bind (cond b120 (Option.bind (f_harm_Worst N []) fun y121 =>
 some (eqC y121.v (⟨0, 0, 0, 0⟩ : GHarm).v)) (some false)) fun b127 =>
 some (b127 && (eqC y81.v (⟨1, 1, 2, 0⟩ : GHarm).v))

-- bourne/harm.Add
def f_harm_Add (N : Nat) (p0_x : GHarm) (p1_y : GHarm) : Option GHarm :=
 Option.bind (f_exact_Add N p0_x.Flood p1_y.Flood) fun y26 =>
 Option.bind (f_exact_Add N p0_x.Spill p1_y.Spill) fun y35 =>
 Option.bind (f_exact_Add N p0_x.Short p1_y.Short) fun y44 =>
 Option.bind (f_exact_Add N p0_x.Moves p1_y.Moves) fun y53 =>
 some (⟨y26, y35, y44, y53⟩ : GHarm)

-- bourne/bournelaw33.HarmOrders
def f_bournelaw33_HarmOrders_j0 (N : Nat) (p0_x : GHarm) (p1_y : GHarm) (p2_z : GHarm) (y21 : Bool) (y32 : Bool) (b136 : Bool) : Option Bool :=
 Option.bind (cond b136 (Option.bind (f_harm_Add N p0_x p2_z) fun y181 =>
 Option.bind (f_harm_Add N p1_y p2_z) fun y192 =>
 Option.bind (f_harm_Less N y181 y192) fun y198 =>
 some (!(y32 == y198))) (some false)) fun b174 =>
 cond b174 (
 some false) (
 Option.bind (cond ((((decide (0 ≤ p2_z.Flood)) && (decide (0 ≤ p2_z.Spill))) && (decide (0 ≤ p2_z.Short))) && (decide (0 ≤ p2_z.Moves))) (Option.bind (f_harm_Add N p0_x p2_z) fun y227 =>
 Option.bind (f_harm_Less N y227 p0_x) fun y235 =>
 some y235) (some false)) fun b221 =>
 cond b221 (
 some false) (
 Option.bind (cond y21 (Option.bind (f_harm_Add N p0_x p1_y) fun y249 =>
 Option.bind (f_harm_Add N p1_y p0_x) fun y259 =>
 some (eqC y249.v y259.v)) (some false)) fun b242 =>
 Option.bind (cond b242 (Option.bind (f_harm_Add N p0_x (⟨0, 0, 0, 0⟩ : GHarm)) fun y270 =>
 some (eqC y270.v p0_x.v)) (some false)) fun b266 =>
 some b266))
def f_bournelaw33_HarmOrders_l1 (N : Nat) (p0_x : GHarm) (p1_y : GHarm) (p2_z : GHarm) (kj0 : Bool → Option Bool) : Nat → Bool → Int → Option Bool
 | 0, _, _ => none
 | n1 + 1, b145, i146 =>
 cond (decide (i146 < (↑([p0_x.Flood, p0_x.Spill, p0_x.Short, p0_x.Moves, p1_y.Flood, p1_y.Spill, p1_y.Short, p1_y.Moves, p2_z.Flood, p2_z.Spill, p2_z.Short, p2_z.Moves] : List Int).length : Int))) (
 Option.bind (cond b145 (Option.bind (ix ([p0_x.Flood, p0_x.Spill, p0_x.Short, p0_x.Moves, p1_y.Flood, p1_y.Spill, p1_y.Short, p1_y.Moves, p2_z.Flood, p2_z.Spill, p2_z.Short, p2_z.Moves] : List Int) i146) fun x158 =>
 some (decide ((w64 (0 - 1152921504606846976)) ≤ x158))) (some false)) fun b156 =>
 Option.bind (cond b156 (Option.bind (ix ([p0_x.Flood, p0_x.Spill, p0_x.Short, p0_x.Moves, p1_y.Flood, p1_y.Spill, p1_y.Short, p1_y.Moves, p2_z.Flood, p2_z.Spill, p2_z.Short, p2_z.Moves] : List Int) i146) fun x165 =>
 some (decide (x165 ≤ 1152921504606846976))) (some false)) fun b163 =>
 f_bournelaw33_HarmOrders_l1 N p0_x p1_y p2_z kj0 n1 b163 (w64 (i146 + 1))) (
 kj0 b145)
def f_bournelaw33_HarmOrders (N : Nat) (p0_x : GHarm) (p1_y : GHarm) (p2_z : GHarm) : Option Bool :=
 Option.bind (f_bournelaw33_small N) fun y21 =>
 Option.bind (f_harm_Less N p0_x p1_y) fun y32 =>
 Option.bind (f_harm_Less N p1_y p0_x) fun y43 =>
 Option.bind (cond ((y32 && y43) || (!((eqC p0_x.v p1_y.v) == ((!y32) && (!y43))))) (some true) (Option.bind (cond y32 (Option.bind (f_harm_Less N p1_y p2_z) fun y77 =>
 some y77) (some false)) fun b70 =>
 Option.bind (cond b70 (Option.bind (f_harm_Less N p0_x p2_z) fun y87 =>
 some (!y87)) (some false)) fun b80 =>
 some b80)) fun b68 =>
 cond b68 (
 some false) (
 f_bournelaw33_HarmOrders_l1 N p0_x p1_y p2_z (f_bournelaw33_HarmOrders_j0 N p0_x p1_y p2_z y21 y32) N true 0)
end Go.Proofs.Ytkbooafdccnkeaa
