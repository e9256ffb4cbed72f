/- The functions' pure forms. By program. -/
import Derived.Test.YtibidnaedddfdaaReps
namespace Go.Proofs.Ytibidnaedddfdaa
open Go.RowKit
set_option linter.unusedVariables false

-- bourne/alarm.demand
def f_alarm_demand (N : Nat) (p0_t : GTown) (p1_s : GSight) : Option Int :=
 cond ((decide (0 ≤ p1_s.Crest)) && (decide (p1_s.Crest ≤ (w64 (p0_t.Lead + 1))))) (
 some 3) (
 cond ((decide (0 ≤ p1_s.Crest)) && (decide (p1_s.Crest ≤ (w64 ((w64 (2 * p0_t.Lead)) + 2))))) (
 some 2) (
 cond ((decide (0 ≤ p1_s.Crest)) || p1_s.Quorum) (
 some 1) (
 some 0)))

-- bourne/alarm.Next
def f_alarm_Next_j0 (N : Nat) (p1_a : GAlarm) (i65 : Int) : Option GAlarm :=
 cond (decide (2 ≤ p1_a.Calm)) (
 some (⟨i65, 0, 0⟩ : GAlarm)) (
 some (⟨p1_a.Level, (w64 (p1_a.Calm + 1)), i65⟩ : GAlarm))
def f_alarm_Next (N : Nat) (p0_t : GTown) (p1_a : GAlarm) (p2_s : GSight) : Option GAlarm :=
 Option.bind (f_alarm_demand N p0_t p2_s) fun y31 =>
 cond (decide (p1_a.Level ≤ y31)) (
 some (⟨y31, 0, 0⟩ : GAlarm)) (
 cond ((decide (3 ≤ p1_a.Level)) && (decide (0 ≤ p2_s.Crest))) (
 some (⟨p1_a.Level, 0, 0⟩ : GAlarm)) (
 cond (decide (p1_a.Calm ≠ 0)) (
 f_alarm_Next_j0 N p1_a (max y31 p1_a.Then)) (
 f_alarm_Next_j0 N p1_a y31)))

-- bourne/alarm.Run
def f_alarm_Run_j0 (N : Nat) (l24 : List GAlarm) : Option (List GAlarm) :=
 some l24
def f_alarm_Run_l1 (N : Nat) (p0_t : GTown) (p1_sights : (List GSight)) (kj0 : (List GAlarm) → Option (List GAlarm)) : Nat → (List GAlarm) → Int → Int → Int → Int → Option (List GAlarm)
 | 0, _, _, _, _, _ => none
 | n1 + 1, l36, i37, i39, i41, i43 =>
 cond (decide (i37 < (↑p1_sights.length : Int))) (
 Option.bind (ix p1_sights i37) fun x52 =>
 Option.bind (f_alarm_Next N p0_t (⟨i39, i41, i43⟩ : GAlarm) x52) fun y70 =>
 chk (room (l36.length + 1) 24) <|
 f_alarm_Run_l1 N p0_t p1_sights kj0 n1 (l36 ++ ([y70] : List GAlarm)) (w64 (i37 + 1)) y70.Level y70.Calm y70.Then) (
 kj0 l36)
def f_alarm_Run (N : Nat) (p0_t : GTown) (p1_sights : (List GSight)) : Option (List GAlarm) :=
 chk (mkok 0 (↑p1_sights.length : Int) 24) <|
 f_alarm_Run_l1 N p0_t p1_sights (f_alarm_Run_j0 N) N (List.replicate (0 : Int).toNat (⟨0, 0, 0⟩ : GAlarm)) 0 0 0 0

-- bourne/bournelaw43.small
def f_bournelaw43_small_j0 (N : Nat) (y17 : (List GAlarm)) : Option Bool :=
 some (decide ((↑y17.length : Int) = (↑([1, 2, 3, 3, 3, 3, 1] : List Int).length : Int)))
def f_bournelaw43_small_l1 (N : Nat) (y17 : (List GAlarm)) (kj0 : Option Bool) : Nat → Int → Option Bool
 | 0, _ => none
 | n1 + 1, i37 =>
 cond (decide (i37 < (↑([1, 2, 3, 3, 3, 3, 1] : List Int).length : Int))) (
 Option.bind (cond (decide ((↑y17.length : Int) ≤ i37)) (some true) (Option.bind (ix y17 i37) fun x52 =>
 Option.bind (ix y17 i37) fun x55 =>
 Option.bind (ix ([1, 2, 3, 3, 3, 3, 1] : List Int) i37) fun x59 =>
 some (decide (x55.Level ≠ x59)))) fun b49 =>
 cond b49 (
 some false) (
 f_bournelaw43_small_l1 N y17 kj0 n1 (w64 (i37 + 1)))) (
 kj0)
def f_bournelaw43_small (N : Nat) : Option Bool :=
 Option.bind (f_alarm_Run N (⟨ByteArray.empty, 0, 0, 3, 0, 0, 0⟩ : GTown) ([(⟨9, false⟩ : GSight), (⟨8, false⟩ : GSight), (⟨4, false⟩ : GSight), (⟨5, false⟩ : GSight), (⟨(-1), false⟩ : GSight), (⟨(-1), true⟩ : GSight), (⟨(-1), false⟩ : GSight)] : List GSight)) fun y17 =>
 f_bournelaw43_small_l1 N y17 (f_bournelaw43_small_j0 N y17) N 0

-- bourne/bournelaw43.few
def f_bournelaw43_few_j0 (N : Nat) : Option Bool :=
 some true
def f_bournelaw43_few_l1 (N : Nat) (p2_ins : (List GInput)) (kj0 : Option Bool) : Nat → Int → Option Bool
 | 0, _ => none
 | n1 + 1, i27 =>
 cond (decide (i27 < (↑p2_ins.length : Int))) (
 Option.bind (ix p2_ins i27) fun x37 =>
 Option.bind (cond (decide (6 < (↑x37.Faults.length : Int))) (some true) (Option.bind (ix p2_ins i27) fun x48 =>
 some (decide (6 < (↑x48.Cmds.length : Int))))) fun b46 =>
 Option.bind (cond b46 (some true) (Option.bind (ix p2_ins i27) fun x59 =>
 some (decide (6 < (↑x59.Takes.length : Int))))) fun b57 =>
 Option.bind (cond b57 (some true) (Option.bind (ix p2_ins i27) fun x70 =>
 some (decide (6 < (↑x70.Swaps.length : Int))))) fun b68 =>
 Option.bind (cond b68 (some true) (Option.bind (ix p2_ins i27) fun x81 =>
 some (decide (8 < (↑x81.Rain.length : Int))))) fun b79 =>
 cond b79 (
 some false) (
 f_bournelaw43_few_l1 N p2_ins kj0 n1 (w64 (i27 + 1)))) (
 kj0)
def f_bournelaw43_few (N : Nat) (p0_b : GBasin) (p1_casts : (List GCast)) (p2_ins : (List GInput)) : Option Bool :=
 cond ((((decide (6 < (↑p0_b.Places.length : Int))) || (decide (6 < (↑p0_b.Links.length : Int)))) || (decide (3 < (↑p1_casts.length : Int)))) || (decide (6 < (↑p2_ins.length : Int)))) (
 some false) (
 f_bournelaw43_few_l1 N p2_ins (f_bournelaw43_few_j0 N) N 0)

-- bourne/basin.in
def f_basin_in (N : Nat) (p0_n : Int) (p1_low : Int) (p2_high : Int) : Option Bool :=
 some ((decide (p1_low ≤ p0_n)) && (decide (p0_n ≤ p2_high)))

-- bourne/basin.volume
def f_basin_volume (N : Nat) (p0_n : Int) : Option Bool :=
 Option.bind (f_basin_in N p0_n 0 1125899906842624) fun y1 =>
 some y1

-- bourne/basin.rightHead
def f_basin_rightHead_l3 (N : Nat) (p0_b : GBasin) (kj2 : Option Bool) : Nat → Int → Option Bool
 | 0, _ => none
 | n3 + 1, i117 =>
 cond (decide (i117 < (↑p0_b.Room.length : Int))) (
 Option.bind (ix p0_b.Room i117) fun x125 =>
 Option.bind (f_basin_volume N x125) fun y129 =>
 cond (!y129) (
 some false) (
 f_basin_rightHead_l3 N p0_b kj2 n3 (w64 (i117 + 1)))) (
 kj2)
def f_basin_rightHead_j2 (N : Nat) : Option Bool :=
 some true
def f_basin_rightHead_j0 (N : Nat) (p0_b : GBasin) : Option Bool :=
 f_basin_rightHead_l3 N p0_b (f_basin_rightHead_j2 N) N 0
def f_basin_rightHead_l1 (N : Nat) (p0_b : GBasin) (kj0 : Option Bool) : Nat → Int → Option Bool
 | 0, _ => none
 | n1 + 1, i88 =>
 cond (decide (i88 < (↑p0_b.Name.size : Int))) (
 Option.bind (bix p0_b.Name i88) fun z99 =>
 cond ((((decide (z99 < 32)) || (decide (126 < z99))) || (decide (z99 = 34))) || (decide (z99 = 92))) (
 some false) (
 f_basin_rightHead_l1 N p0_b kj0 n1 (w64 (i88 + 1)))) (
 kj0)
def f_basin_rightHead (N : Nat) (p0_b : GBasin) : Option Bool :=
 Option.bind (cond (decide (500 < (↑p0_b.Name.size : Int))) (some true) (Option.bind (f_basin_in N (↑p0_b.Owners.length : Int) 1 16) fun y17 =>
 some (!y17))) fun b11 =>
 Option.bind (cond b11 (some true) (Option.bind (f_basin_in N p0_b.Cells 0 64) fun y24 =>
 some (!y24))) fun b20 =>
 Option.bind (cond b20 (some true) (Option.bind (f_basin_in N (↑p0_b.Places.length : Int) 1 64) fun y33 =>
 some (!y33))) fun b27 =>
 Option.bind (cond ((((((b27 || (decide (96 < (↑p0_b.Links.length : Int)))) || (decide (40 < (↑p0_b.Towns.length : Int)))) || (decide (128 < (↑p0_b.Gauges.length : Int)))) || (decide (128 < (↑p0_b.Roads.length : Int)))) || (decide (40 < (↑p0_b.Shelters.length : Int)))) || (decide ((↑p0_b.Room.length : Int) ≠ 3))) (some true) (Option.bind (f_basin_in N p0_b.Err 0 1099511627776) fun y76 =>
 some (!y76))) fun b72 =>
 cond b72 (
 some false) (
 f_basin_rightHead_l1 N p0_b (f_basin_rightHead_j0 N p0_b) N 0)

-- bourne/basin.isName
def f_basin_isName_j0 (N : Nat) : Option Bool :=
 some true
def f_basin_isName_l1 (N : Nat) (p0_s : ByteArray) (kj0 : Option Bool) : Nat → Int → Option Bool
 | 0, _ => none
 | n1 + 1, i14 =>
 cond (decide (i14 < (↑p0_s.size : Int))) (
 Option.bind (bix p0_s i14) fun z21 =>
 cond ((((decide (z21 < 97)) || (decide (122 < z21))) && ((decide (z21 < 48)) || (decide (57 < z21)))) && (decide (z21 ≠ 95))) (
 some false) (
 f_basin_isName_l1 N p0_s kj0 n1 (w64 (i14 + 1)))) (
 kj0)
def f_basin_isName (N : Nat) (p0_s : ByteArray) : Option Bool :=
 Option.bind (cond (((decide ((↑p0_s.size : Int) < 1)) || (decide (24 < (↑p0_s.size : Int)))) || (p0_s == (ByteArray.mk #[111, 117, 116]))) (some true) (Option.bind (bix p0_s 0) fun z5 =>
 some (decide (z5 < 97)))) fun b4 =>
 Option.bind (cond b4 (some true) (Option.bind (bix p0_s 0) fun z9 =>
 some (decide (122 < z9)))) fun b8 =>
 cond b8 (
 some false) (
 f_basin_isName_l1 N p0_s (f_basin_isName_j0 N) N 1)

-- bourne/basin.fresh
def f_basin_fresh_j0 (N : Nat) (p0_seen : (List (Gbasin_mark × Bool))) (p2_name : ByteArray) (s1 : ByteArray) : Option (Bool × (List (Gbasin_mark × Bool))) :=
 Option.bind (f_basin_isName N p2_name) fun y15 =>
 cond ((!y15) || ((mget (fun k : Gbasin_mark => Value.agg (Gbasin_mark.v k).toArray) p0_seen (⟨s1, p2_name⟩ : Gbasin_mark)).getD false)) (
 some (false, p0_seen)) (
 some (true, (mput (fun k : Gbasin_mark => Value.agg (Gbasin_mark.v k).toArray) p0_seen (⟨s1, p2_name⟩ : Gbasin_mark) true)))
def f_basin_fresh (N : Nat) (p0_seen : (List (Gbasin_mark × Bool))) (p1_sort : ByteArray) (p2_name : ByteArray) : Option (Bool × (List (Gbasin_mark × Bool))) :=
 cond (p1_sort == (ByteArray.mk #[115, 104, 101, 108, 116, 101, 114])) (
 f_basin_fresh_j0 N p0_seen p2_name (ByteArray.mk #[116, 111, 119, 110])) (
 f_basin_fresh_j0 N p0_seen p2_name p1_sort)

-- bourne/basin.rightNames$1
def f_basin_rightNames_1 (N : Nat) (c2_ : (List (Gbasin_mark × Bool))) (c3_ : Bool) (p0_sort : ByteArray) (p1_name : ByteArray) : Option ((List (Gbasin_mark × Bool)) × Bool) :=
 Option.bind (f_basin_fresh N c2_ p0_sort p1_name) fun y2 =>
 some (y2.2, (y2.1 && c3_))

-- bourne/basin.rightNames
def f_basin_rightNames_l3 (N : Nat) (p0_b : GBasin) (kj2 : Bool → ((List (Gbasin_mark × Bool))) → Option Bool) : Nat → Int → Bool → ((List (Gbasin_mark × Bool))) → Option Bool
 | 0, _, _, _ => none
 | n3 + 1, i78, b80, l81 =>
 cond (decide (i78 < (↑p0_b.Places.length : Int))) (
 Option.bind (ix p0_b.Places i78) fun x88 =>
 Option.bind (f_basin_rightNames_1 N l81 b80 (ByteArray.mk #[112, 108, 97, 99, 101]) x88.Name) fun y120 =>
 f_basin_rightNames_l3 N p0_b kj2 n3 (w64 (i78 + 1)) y120.2 y120.1) (
 kj2 b80 l81)
def f_basin_rightNames_l5 (N : Nat) (p0_b : GBasin) (kj4 : Bool → ((List (Gbasin_mark × Bool))) → Option Bool) : Nat → Int → Bool → ((List (Gbasin_mark × Bool))) → Option Bool
 | 0, _, _, _ => none
 | n5 + 1, i146, b148, l149 =>
 cond (decide (i146 < (↑p0_b.Links.length : Int))) (
 Option.bind (ix p0_b.Links i146) fun x156 =>
 Option.bind (f_basin_rightNames_1 N l149 b148 (ByteArray.mk #[108, 105, 110, 107]) x156.Name) fun y194 =>
 f_basin_rightNames_l5 N p0_b kj4 n5 (w64 (i146 + 1)) y194.2 y194.1) (
 kj4 b148 l149)
def f_basin_rightNames_l7 (N : Nat) (p0_b : GBasin) (kj6 : Bool → ((List (Gbasin_mark × Bool))) → Option Bool) : Nat → Int → Bool → ((List (Gbasin_mark × Bool))) → Option Bool
 | 0, _, _, _ => none
 | n7 + 1, i220, b222, l223 =>
 cond (decide (i220 < (↑p0_b.Towns.length : Int))) (
 Option.bind (ix p0_b.Towns i220) fun x230 =>
 Option.bind (f_basin_rightNames_1 N l223 b222 (ByteArray.mk #[116, 111, 119, 110]) x230.Name) fun y254 =>
 f_basin_rightNames_l7 N p0_b kj6 n7 (w64 (i220 + 1)) y254.2 y254.1) (
 kj6 b222 l223)
def f_basin_rightNames_l9 (N : Nat) (p0_b : GBasin) (kj8 : Bool → ((List (Gbasin_mark × Bool))) → Option Bool) : Nat → Int → Bool → ((List (Gbasin_mark × Bool))) → Option Bool
 | 0, _, _, _ => none
 | n9 + 1, i280, b282, l283 =>
 cond (decide (i280 < (↑p0_b.Shelters.length : Int))) (
 Option.bind (ix p0_b.Shelters i280) fun x290 =>
 Option.bind (f_basin_rightNames_1 N l283 b282 (ByteArray.mk #[115, 104, 101, 108, 116, 101, 114]) x290.Name) fun y309 =>
 f_basin_rightNames_l9 N p0_b kj8 n9 (w64 (i280 + 1)) y309.2 y309.1) (
 kj8 b282 l283)
def f_basin_rightNames_l11 (N : Nat) (p0_b : GBasin) (kj10 : Bool → ((List (Gbasin_mark × Bool))) → Option Bool) : Nat → Int → Bool → ((List (Gbasin_mark × Bool))) → Option Bool
 | 0, _, _, _ => none
 | n11 + 1, i335, b337, l338 =>
 cond (decide (i335 < (↑p0_b.Gauges.length : Int))) (
 Option.bind (ix p0_b.Gauges i335) fun x345 =>
 Option.bind (f_basin_rightNames_1 N l338 b337 (ByteArray.mk #[103, 97, 117, 103, 101]) x345.Name) fun y367 =>
 f_basin_rightNames_l11 N p0_b kj10 n11 (w64 (i335 + 1)) y367.2 y367.1) (
 kj10 b337 l338)
def f_basin_rightNames_l13 (N : Nat) (p0_b : GBasin) (kj12 : Bool → Option Bool) : Nat → Int → Bool → ((List (Gbasin_mark × Bool))) → Option Bool
 | 0, _, _, _ => none
 | n13 + 1, i392, b394, l395 =>
 cond (decide (i392 < (↑p0_b.Roads.length : Int))) (
 Option.bind (ix p0_b.Roads i392) fun x402 =>
 Option.bind (f_basin_rightNames_1 N l395 b394 (ByteArray.mk #[114, 111, 97, 100]) x402.Name) fun y426 =>
 f_basin_rightNames_l13 N p0_b kj12 n13 (w64 (i392 + 1)) y426.2 y426.1) (
 kj12 b394)
def f_basin_rightNames_j12 (N : Nat) (b387 : Bool) : Option Bool :=
 some b387
def f_basin_rightNames_j10 (N : Nat) (p0_b : GBasin) (b329 : Bool) (l330 : (List (Gbasin_mark × Bool))) : Option Bool :=
 f_basin_rightNames_l13 N p0_b (f_basin_rightNames_j12 N) N 0 b329 l330
def f_basin_rightNames_j8 (N : Nat) (p0_b : GBasin) (b274 : Bool) (l275 : (List (Gbasin_mark × Bool))) : Option Bool :=
 f_basin_rightNames_l11 N p0_b (f_basin_rightNames_j10 N p0_b) N 0 b274 l275
def f_basin_rightNames_j6 (N : Nat) (p0_b : GBasin) (b214 : Bool) (l215 : (List (Gbasin_mark × Bool))) : Option Bool :=
 f_basin_rightNames_l9 N p0_b (f_basin_rightNames_j8 N p0_b) N 0 b214 l215
def f_basin_rightNames_j4 (N : Nat) (p0_b : GBasin) (b140 : Bool) (l141 : (List (Gbasin_mark × Bool))) : Option Bool :=
 f_basin_rightNames_l7 N p0_b (f_basin_rightNames_j6 N p0_b) N 0 b140 l141
def f_basin_rightNames_j2 (N : Nat) (p0_b : GBasin) (b72 : Bool) (l73 : (List (Gbasin_mark × Bool))) : Option Bool :=
 f_basin_rightNames_l5 N p0_b (f_basin_rightNames_j4 N p0_b) N 0 b72 l73
def f_basin_rightNames_j0 (N : Nat) (p0_b : GBasin) (b31 : Bool) (l32 : (List (Gbasin_mark × Bool))) : Option Bool :=
 f_basin_rightNames_l3 N p0_b (f_basin_rightNames_j2 N p0_b) N 0 b31 l32
def f_basin_rightNames_l1 (N : Nat) (p0_b : GBasin) (kj0 : Bool → ((List (Gbasin_mark × Bool))) → Option Bool) : Nat → Int → Bool → ((List (Gbasin_mark × Bool))) → Option Bool
 | 0, _, _, _ => none
 | n1 + 1, i37, b39, l40 =>
 cond (decide (i37 < (↑p0_b.Owners.length : Int))) (
 Option.bind (ix p0_b.Owners i37) fun x47 =>
 Option.bind (f_basin_rightNames_1 N l40 b39 (ByteArray.mk #[111, 119, 110, 101, 114]) x47) fun y53 =>
 f_basin_rightNames_l1 N p0_b kj0 n1 (w64 (i37 + 1)) y53.2 y53.1) (
 kj0 b39 l40)
def f_basin_rightNames (N : Nat) (p0_b : GBasin) : Option Bool :=
 f_basin_rightNames_l1 N p0_b (f_basin_rightNames_j0 N p0_b) N 0 true ([] : (List (Gbasin_mark × Bool)))

-- bourne/curve.Right
def f_curve_Right_j0 (N : Nat) : Option Bool :=
 some true
def f_curve_Right_l1 (N : Nat) (p0_c : (List GPoint)) (kj0 : Option Bool) : Nat → Int → Option Bool
 | 0, _ => none
 | n1 + 1, i8 =>
 cond (decide (i8 < (↑p0_c.length : Int))) (
 Option.bind (ix p0_c i8) fun x16 =>
 cond ((((decide (x16.X < 0)) || (decide (1125899906842624 < x16.X))) || (decide (x16.Y < 0))) || (decide (1125899906842624 < x16.Y))) (
 some false) (
 Option.bind (cond (decide (0 < i8)) (Option.bind (ix p0_c (w64 (i8 - 1))) fun x40 =>
 Option.bind (cond (decide (x16.X ≤ x40.X)) (some true) (Option.bind (ix p0_c (w64 (i8 - 1))) fun x49 =>
 some (decide (x16.Y < x49.Y)))) fun b47 =>
 some b47) (some false)) fun b38 =>
 cond b38 (
 some false) (
 f_curve_Right_l1 N p0_c kj0 n1 (w64 (i8 + 1))))) (
 kj0)
def f_curve_Right (N : Nat) (p0_c : (List GPoint)) : Option Bool :=
 cond ((decide ((↑p0_c.length : Int) < 1)) || (decide (32 < (↑p0_c.length : Int)))) (
 some false) (
 f_curve_Right_l1 N p0_c (f_curve_Right_j0 N) N 0)

-- bourne/basin.fraction
def f_basin_fraction (N : Nat) (p0_num : Int) (p1_den : Int) : Option Bool :=
 Option.bind (f_basin_volume N p0_num) fun y1 =>
 Option.bind (cond y1 (Option.bind (f_basin_volume N p1_den) fun y5 =>
 some y5) (some false)) fun b4 =>
 some (b4 && ((decide (p1_den ≠ 0)) || (decide (p0_num = 0))))

-- bourne/basin.index
def f_basin_index (N : Nat) (p0_n : Int) (p1_length : Int) : Option Bool :=
 Option.bind (f_basin_in N p0_n 0 (w64 (p1_length - 1))) fun y1 =>
 some y1

-- bourne/basin.target
def f_basin_target (N : Nat) (p0_b : GBasin) (p1_from : Int) (p2_to : Int) : Option Bool :=
 Option.bind (cond (decide (p2_to = (-1))) (some true) (Option.bind (f_basin_index N p2_to (↑p0_b.Places.length : Int)) fun y14 =>
 some (y14 && (decide (p2_to ≠ p1_from))))) fun b8 =>
 some b8

-- bourne/basin.rightPlaces
def f_basin_rightPlaces_j0 (N : Nat) (i12 : Int) : Option Bool :=
 some (decide (i12 ≤ 1125899906842624))
def f_basin_rightPlaces_l4 (N : Nat) (x30 : GPlace) (kj3 : Int → Option Bool) : Nat → Int → Int → Option Bool
 | 0, _, _ => none
 | n4 + 1, i115, i117 =>
 cond (decide (i117 < (↑x30.Start.length : Int))) (
 Option.bind (ix x30.Start i117) fun x125 =>
 Option.bind (f_basin_volume N x125) fun y129 =>
 cond (!y129) (
 some false) (
 f_basin_rightPlaces_l4 N x30 kj3 n4 (w64 (i115 + x125)) (w64 (i117 + 1)))) (
 kj3 i115)
def f_basin_rightPlaces_l5 (N : Nat) (p0_b : GBasin) (x30 : GPlace) (i109 : Int) (kj2 : Int → Option Bool) : Nat → Int → Int → Option Bool
 | 0, _, _ => none
 | n5 + 1, i146, i148 =>
 cond (decide (i148 < (↑x30.Rain.length : Int))) (
 Option.bind (ix x30.Rain i148) fun x157 =>
 Option.bind (cond ((decide (x157.Index ≤ i146)) || (decide (p0_b.Cells ≤ x157.Index))) (some true) (Option.bind (f_basin_volume N x157.Area) fun y180 =>
 some (!y180))) fun b179 =>
 cond b179 (
 some false) (
 f_basin_rightPlaces_l5 N p0_b x30 i109 kj2 n5 x157.Index (w64 (i148 + 1)))) (
 kj2 i109)
def f_basin_rightPlaces_j3 (N : Nat) (p0_b : GBasin) (x30 : GPlace) (kj2 : Int → Option Bool) (i109 : Int) : Option Bool :=
 f_basin_rightPlaces_l5 N p0_b x30 i109 kj2 N (-1) 0
def f_basin_rightPlaces_j2 (N : Nat) (i20 : Int) (kc1 : Int → Int → Option Bool) (i27 : Int) : Option Bool :=
 kc1 i27 (w64 (i20 + 1))
def f_basin_rightPlaces_l1 (N : Nat) (p0_b : GBasin) (kj0 : Int → Option Bool) : Nat → Int → Int → Option Bool
 | 0, _, _ => none
 | n1 + 1, i18, i20 =>
 cond (decide (i20 < (↑p0_b.Places.length : Int))) (
 Option.bind (ix p0_b.Places i20) fun x30 =>
 Option.bind (f_basin_in N x30.Kind 0 3) fun y59 =>
 Option.bind (cond (!y59) (some true) (Option.bind (f_basin_in N x30.Office 0 2) fun y63 =>
 some (!y63))) fun b62 =>
 Option.bind (cond b62 (some true) (Option.bind (f_basin_in N x30.Delay 0 240) fun y67 =>
 some (!y67))) fun b66 =>
 Option.bind (cond b66 (some true) (Option.bind (f_basin_volume N x30.Cap) fun y71 =>
 some (!y71))) fun b70 =>
 Option.bind (cond b70 (some true) (Option.bind (f_basin_volume N x30.Floor) fun y75 =>
 some (!y75))) fun b74 =>
 Option.bind (cond b74 (some true) (Option.bind (f_curve_Right N x30.Level) fun y80 =>
 some (!y80))) fun b78 =>
 Option.bind (cond (b78 || (decide ((↑x30.Start.length : Int) ≠ (↑p0_b.Owners.length : Int)))) (some true) (Option.bind (f_basin_fraction N x30.Num x30.Den) fun y93 =>
 some (!y93))) fun b92 =>
 Option.bind (cond b92 (some true) (Option.bind (f_basin_target N p0_b i20 x30.Down) fun y100 =>
 some (!y100))) fun b96 =>
 cond b96 (
 some false) (
 f_basin_rightPlaces_l4 N x30 (f_basin_rightPlaces_j3 N p0_b x30 (f_basin_rightPlaces_j2 N i20 (f_basin_rightPlaces_l1 N p0_b kj0 n1))) N i18 0)) (
 kj0 i18)
def f_basin_rightPlaces (N : Nat) (p0_b : GBasin) : Option Bool :=
 f_basin_rightPlaces_l1 N p0_b (f_basin_rightPlaces_j0 N) N 0 0

-- sort.Search
def f_sort_Search_j0 (N : Nat) (i5 : Int) : Option Int :=
 some i5
def f_sort_Search_l1 (N : Nat) (p1_f : (Int → Option Bool)) (kj0 : Int → Option Int) : Nat → Int → Int → Option Int
 | 0, _, _ => none
 | n1 + 1, i11, i13 =>
 cond (decide (i11 < i13)) (
 Option.bind (p1_f (w64 (shrK .u64 (IntKind.wrap .u64 (w64 (i11 + i13))) 1))) fun y20 =>
 cond (!y20) (
 f_sort_Search_l1 N p1_f kj0 n1 (w64 ((w64 (shrK .u64 (IntKind.wrap .u64 (w64 (i11 + i13))) 1)) + 1)) i13) (
 f_sort_Search_l1 N p1_f kj0 n1 i11 (w64 (shrK .u64 (IntKind.wrap .u64 (w64 (i11 + i13))) 1)))) (
 kj0 i11)
def f_sort_Search (N : Nat) (p0_n : Int) (p1_f : (Int → Option Bool)) : Option Int :=
 f_sort_Search_l1 N p1_f (f_sort_Search_j0 N) N 0 p0_n

-- bourne/curve.value$1
def f_curve_value_1 (N : Nat) (c1_ : (List GPoint)) (c2_ : Int) (p0_i : Int) : Option Bool :=
 Option.bind (ix c1_ p0_i) fun x3 =>
 some (decide (c2_ < x3.X))

-- math/bits.Mul64
def f_math_bits_Mul64 (N : Nat) (p0_x : Int) (p1_y : Int) : Option (Int × Int) :=
 some ((IntKind.wrap .u64 ((IntKind.wrap .u64 ((IntKind.wrap .u64 ((shrK .u64 p0_x 32) * (shrK .u64 p1_y 32))) + (shrK .u64 (IntKind.wrap .u64 ((IntKind.wrap .u64 ((shrK .u64 p0_x 32) * (bitK .and .u64 p1_y 4294967295))) + (shrK .u64 (IntKind.wrap .u64 ((bitK .and .u64 p0_x 4294967295) * (bitK .and .u64 p1_y 4294967295))) 32))) 32))) + (shrK .u64 (IntKind.wrap .u64 ((bitK .and .u64 (IntKind.wrap .u64 ((IntKind.wrap .u64 ((shrK .u64 p0_x 32) * (bitK .and .u64 p1_y 4294967295))) + (shrK .u64 (IntKind.wrap .u64 ((bitK .and .u64 p0_x 4294967295) * (bitK .and .u64 p1_y 4294967295))) 32))) 4294967295) + (IntKind.wrap .u64 ((bitK .and .u64 p0_x 4294967295) * (shrK .u64 p1_y 32))))) 32))), (IntKind.wrap .u64 (p0_x * p1_y)))

-- math/bits.Len64
def f_math_bits_Len64_j2 (N : Nat) (i19 : Int) (i21 : Int) : Option Int :=
 Option.bind (bix sc_256_252118 (IntKind.wrap .u8 i19)) fun z28 =>
 some (w64 (i21 + (w64 z28)))
def f_math_bits_Len64_j1 (N : Nat) (i10 : Int) (i12 : Int) : Option Int :=
 cond (decide (256 ≤ i10)) (
 f_math_bits_Len64_j2 N (shrK .u64 i10 8) (w64 (i12 + 8))) (
 f_math_bits_Len64_j2 N i10 i12)
def f_math_bits_Len64_j0 (N : Nat) (i1 : Int) (i3 : Int) : Option Int :=
 cond (decide (65536 ≤ i1)) (
 f_math_bits_Len64_j1 N (shrK .u64 i1 16) (w64 (i3 + 16))) (
 f_math_bits_Len64_j1 N i1 i3)
def f_math_bits_Len64 (N : Nat) (p0_x : Int) : Option Int :=
 cond (decide (4294967296 ≤ p0_x)) (
 f_math_bits_Len64_j0 N (shrK .u64 p0_x 32) 32) (
 f_math_bits_Len64_j0 N p0_x 0)

-- math/bits.LeadingZeros64
def f_math_bits_LeadingZeros64 (N : Nat) (p0_x : Int) : Option Int :=
 Option.bind (f_math_bits_Len64 N p0_x) fun y1 =>
 some (w64 (64 - y1))

-- math/bits.Div64
def f_math_bits_Div64_l3 (N : Nat) (p1_lo : Int) (p2_y : Int) (j14 : Nat) (j17 : Nat) (kj2 : Int → Option (Int × Int)) : Nat → Int → Int → Option (Int × Int)
 | 0, _, _ => none
 | n3 + 1, i49, i51 =>
 cond ((decide (4294967296 ≤ i51)) || (decide ((IntKind.wrap .u64 ((IntKind.wrap .u64 (4294967296 * i49)) + (bitK .and .u64 (shlK .u64 p1_lo j17) 4294967295))) < (IntKind.wrap .u64 (i51 * (bitK .and .u64 (shlK .u64 p2_y j14) 4294967295)))))) (
 cond (decide (4294967296 ≤ (IntKind.wrap .u64 (i49 + (shrK .u64 (shlK .u64 p2_y j14) 32))))) (
 kj2 (IntKind.wrap .u64 (i51 - 1))) (
 f_math_bits_Div64_l3 N p1_lo p2_y j14 j17 kj2 n3 (IntKind.wrap .u64 (i49 + (shrK .u64 (shlK .u64 p2_y j14) 32))) (IntKind.wrap .u64 (i51 - 1)))) (
 kj2 i51)
def f_math_bits_Div64_j2 (N : Nat) (p0_hi : Int) (p1_lo : Int) (p2_y : Int) (y8 : Int) (j14 : Nat) (j15 : Nat) (j16 : Nat) (j17 : Nat) (i20 : Int) (i43 : Int) : Option (Int × Int) :=
 Option.bind (cntK (IntKind.wrap .u64 y8)) fun j64 =>
 some ((IntKind.wrap .u64 ((IntKind.wrap .u64 (i20 * 4294967296)) + i43)), (shrK .u64 (IntKind.wrap .u64 ((IntKind.wrap .u64 ((IntKind.wrap .u64 ((IntKind.wrap .u64 ((IntKind.wrap .u64 ((IntKind.wrap .u64 ((bitK .or .u64 (shlK .u64 p0_hi j15) (shrK .u64 p1_lo j16)) * 4294967296)) + (shrK .u64 (shlK .u64 p1_lo j17) 32))) - (IntKind.wrap .u64 (i20 * (shlK .u64 p2_y j14))))) * 4294967296)) + (bitK .and .u64 (shlK .u64 p1_lo j17) 4294967295))) - (IntKind.wrap .u64 (i43 * (shlK .u64 p2_y j14))))) j64))
def f_math_bits_Div64_j0 (N : Nat) (p0_hi : Int) (p1_lo : Int) (p2_y : Int) (y8 : Int) (j14 : Nat) (j15 : Nat) (j16 : Nat) (j17 : Nat) (i20 : Int) : Option (Int × Int) :=
 Option.bind (quoK .u64 (IntKind.wrap .u64 ((IntKind.wrap .u64 ((IntKind.wrap .u64 ((bitK .or .u64 (shlK .u64 p0_hi j15) (shrK .u64 p1_lo j16)) * 4294967296)) + (shrK .u64 (shlK .u64 p1_lo j17) 32))) - (IntKind.wrap .u64 (i20 * (shlK .u64 p2_y j14))))) (shrK .u64 (shlK .u64 p2_y j14) 32)) fun z41 =>
 f_math_bits_Div64_l3 N p1_lo p2_y j14 j17 (f_math_bits_Div64_j2 N p0_hi p1_lo p2_y y8 j14 j15 j16 j17 i20) N (IntKind.wrap .u64 ((IntKind.wrap .u64 ((IntKind.wrap .u64 ((IntKind.wrap .u64 ((bitK .or .u64 (shlK .u64 p0_hi j15) (shrK .u64 p1_lo j16)) * 4294967296)) + (shrK .u64 (shlK .u64 p1_lo j17) 32))) - (IntKind.wrap .u64 (i20 * (shlK .u64 p2_y j14))))) - (IntKind.wrap .u64 (z41 * (shrK .u64 (shlK .u64 p2_y j14) 32))))) z41
def f_math_bits_Div64_l1 (N : Nat) (p1_lo : Int) (p2_y : Int) (j14 : Nat) (j17 : Nat) (kj0 : Int → Option (Int × Int)) : Nat → Int → Int → Option (Int × Int)
 | 0, _, _ => none
 | n1 + 1, i26, i28 =>
 cond ((decide (4294967296 ≤ i26)) || (decide ((IntKind.wrap .u64 ((IntKind.wrap .u64 (4294967296 * i28)) + (shrK .u64 (shlK .u64 p1_lo j17) 32))) < (IntKind.wrap .u64 (i26 * (bitK .and .u64 (shlK .u64 p2_y j14) 4294967295)))))) (
 cond (decide (4294967296 ≤ (IntKind.wrap .u64 (i28 + (shrK .u64 (shlK .u64 p2_y j14) 32))))) (
 kj0 (IntKind.wrap .u64 (i26 - 1))) (
 f_math_bits_Div64_l1 N p1_lo p2_y j14 j17 kj0 n1 (IntKind.wrap .u64 (i26 - 1)) (IntKind.wrap .u64 (i28 + (shrK .u64 (shlK .u64 p2_y j14) 32))))) (
 kj0 i26)
def f_math_bits_Div64 (N : Nat) (p0_hi : Int) (p1_lo : Int) (p2_y : Int) : Option (Int × Int) :=
 cond (decide (p2_y = 0)) (
 none) (
 cond (decide (p2_y ≤ p0_hi)) (
 none) (
 cond (decide (p0_hi = 0)) (
 Option.bind (quoK .u64 p1_lo p2_y) fun z4 =>
 Option.bind (remK p1_lo p2_y) fun z6 =>
 some (z4, z6)) (
 Option.bind (f_math_bits_LeadingZeros64 N p2_y) fun y8 =>
 Option.bind (cntK (IntKind.wrap .u64 y8)) fun j14 =>
 Option.bind (cntK (IntKind.wrap .u64 y8)) fun j15 =>
 Option.bind (cntK (IntKind.wrap .u64 (64 - (IntKind.wrap .u64 y8)))) fun j16 =>
 Option.bind (cntK (IntKind.wrap .u64 y8)) fun j17 =>
 Option.bind (quoK .u64 (bitK .or .u64 (shlK .u64 p0_hi j15) (shrK .u64 p1_lo j16)) (shrK .u64 (shlK .u64 p2_y j14) 32)) fun z18 =>
 f_math_bits_Div64_l1 N p1_lo p2_y j14 j17 (f_math_bits_Div64_j0 N p0_hi p1_lo p2_y y8 j14 j15 j16 j17) N z18 (IntKind.wrap .u64 ((bitK .or .u64 (shlK .u64 p0_hi j15) (shrK .u64 p1_lo j16)) - (IntKind.wrap .u64 (z18 * (shrK .u64 (shlK .u64 p2_y j14) 32))))))))

-- bourne/exact.Scale
def f_exact_Scale (N : Nat) (p0_a : Int) (p1_num : Int) (p2_den : Int) : Option (Int × Int × Bool) :=
 cond ((((((decide (p0_a < 0)) || (decide (1125899906842624 < p0_a))) || (decide (p1_num < 0))) || (decide (1125899906842624 < p1_num))) || (decide (p2_den < 1))) || (decide (1125899906842624 < p2_den))) (
 some (0, 0, false)) (
 Option.bind (f_math_bits_Mul64 N (IntKind.wrap .u64 p0_a) (IntKind.wrap .u64 p1_num)) fun y7 =>
 cond (decide ((IntKind.wrap .u64 p2_den) ≤ y7.1)) (
 some (0, 0, false)) (
 Option.bind (f_math_bits_Div64 N y7.1 y7.2 (IntKind.wrap .u64 p2_den)) fun y15 =>
 cond (decide (1125899906842624 < y15.1)) (
 some (0, 0, false)) (
 some ((w64 y15.1), (w64 y15.2), true))))

-- bourne/curve.value
def f_curve_value (N : Nat) (p0_c : (List GPoint)) (p1_x : Int) : Option (Int × Bool) :=
 Option.bind (f_sort_Search N (↑p0_c.length : Int) (fun x => f_curve_value_1 N p0_c p1_x x)) fun y18 =>
 cond (decide (y18 = 0)) (
 Option.bind (ix p0_c 0) fun x28 =>
 some (x28.Y, false)) (
 Option.bind (ix p0_c (w64 (y18 - 1))) fun x37 =>
 cond (decide (y18 = (↑p0_c.length : Int))) (
 some (x37.Y, false)) (
 Option.bind (ix p0_c y18) fun x63 =>
 Option.bind (ix p0_c y18) fun x71 =>
 Option.bind (f_exact_Scale N (w64 (p1_x - x37.X)) (w64 (x63.Y - x37.Y)) (w64 (x71.X - x37.X))) fun y77 =>
 some ((w64 (x37.Y + y77.1)), (decide (0 < y77.2.1)))))

-- bourne/curve.Under
def f_curve_Under_l3 (N : Nat) (p0_a : (List GPoint)) (p1_b : (List GPoint)) (kj2 : Option Bool) : Nat → Int → Option Bool
 | 0, _ => none
 | n3 + 1, i57 =>
 cond (decide (i57 < (↑p1_b.length : Int))) (
 Option.bind (ix p1_b i57) fun x65 =>
 Option.bind (f_curve_value N p0_a x65.X) fun y82 =>
 cond ((decide (x65.Y < y82.1)) || ((decide (y82.1 = x65.Y)) && y82.2)) (
 some false) (
 f_curve_Under_l3 N p0_a p1_b kj2 n3 (w64 (i57 + 1)))) (
 kj2)
def f_curve_Under_j2 (N : Nat) : Option Bool :=
 some true
def f_curve_Under_j0 (N : Nat) (p0_a : (List GPoint)) (p1_b : (List GPoint)) : Option Bool :=
 f_curve_Under_l3 N p0_a p1_b (f_curve_Under_j2 N) N 0
def f_curve_Under_l1 (N : Nat) (p0_a : (List GPoint)) (p1_b : (List GPoint)) (kj0 : Option Bool) : Nat → Int → Option Bool
 | 0, _ => none
 | n1 + 1, i15 =>
 cond (decide (i15 < (↑p0_a.length : Int))) (
 Option.bind (ix p0_a i15) fun x23 =>
 Option.bind (f_curve_value N p1_b x23.X) fun y40 =>
 cond (decide (y40.1 < x23.Y)) (
 some false) (
 f_curve_Under_l1 N p0_a p1_b kj0 n1 (w64 (i15 + 1)))) (
 kj0)
def f_curve_Under (N : Nat) (p0_a : (List GPoint)) (p1_b : (List GPoint)) : Option Bool :=
 Option.bind (f_curve_Right N p0_a) fun y1 =>
 Option.bind (cond (!y1) (some true) (Option.bind (f_curve_Right N p1_b) fun y5 =>
 some (!y5))) fun b4 =>
 cond b4 (
 some false) (
 f_curve_Under_l1 N p0_a p1_b (f_curve_Under_j0 N p0_a p1_b) N 0)

-- bourne/basin.rightFields
def f_basin_rightFields_j0 (N : Nat) (p0_l : GLink) (b110 : Bool) : Option Bool :=
 cond b110 (
 Option.bind (f_basin_volume N p0_l.Crest) fun y121 =>
 Option.bind (cond y121 (Option.bind (f_basin_volume N p0_l.Num) fun y128 =>
 some y128) (some false)) fun b124 =>
 Option.bind (cond b124 (Option.bind (f_basin_in N p0_l.Den 1 1125899906842624) fun y135 =>
 some y135) (some false)) fun b131 =>
 some b131) (
 cond (decide (p0_l.Kind = 2)) (
 Option.bind (f_basin_volume N p0_l.Num) fun y145 =>
 Option.bind (cond y145 (Option.bind (f_basin_in N p0_l.Positions 1 64) fun y152 =>
 some y152) (some false)) fun b148 =>
 Option.bind (cond b148 (Option.bind (f_basin_in N p0_l.Speed 0 p0_l.Positions) fun y162 =>
 some y162) (some false)) fun b155 =>
 some b155) (
 cond (decide (p0_l.Kind = 3)) (
 Option.bind (f_basin_volume N p0_l.Num) fun y172 =>
 Option.bind (cond y172 (Option.bind (f_basin_in N p0_l.Den 1 1125899906842624) fun y179 =>
 some y179) (some false)) fun b175 =>
 Option.bind (cond b175 (Option.bind (f_basin_volume N p0_l.Prime) fun y186 =>
 some y186) (some false)) fun b182 =>
 Option.bind (cond b182 (Option.bind (f_basin_volume N p0_l.Break) fun y193 =>
 some y193) (some false)) fun b189 =>
 some (b189 && (decide (p0_l.Break < p0_l.Prime)))) (
 Option.bind (f_basin_volume N p0_l.Num) fun y209 =>
 Option.bind (cond y209 (Option.bind (f_basin_in N p0_l.Den 1 1125899906842624) fun y216 =>
 some y216) (some false)) fun b212 =>
 Option.bind (cond b212 (Option.bind (f_basin_fraction N p0_l.BackNum p0_l.BackDen) fun y226 =>
 some y226) (some false)) fun b219 =>
 some (b219 && (decide (p0_l.To ≠ (-1)))))))
def f_basin_rightFields (N : Nat) (p0_l : GLink) : Option Bool :=
 cond (decide (p0_l.Kind = 0)) (
 Option.bind (f_curve_Right N p0_l.Rate) fun y15 =>
 Option.bind (cond y15 (Option.bind (f_curve_Right N p0_l.Band.Lo) fun y25 =>
 some y25) (some false)) fun b18 =>
 Option.bind (cond b18 (Option.bind (f_curve_Right N p0_l.Band.Hi) fun y35 =>
 some y35) (some false)) fun b28 =>
 Option.bind (cond b28 (Option.bind (f_curve_Under N p0_l.Band.Lo p0_l.Rate) fun y49 =>
 some y49) (some false)) fun b38 =>
 Option.bind (cond b38 (Option.bind (f_curve_Under N p0_l.Rate p0_l.Band.Hi) fun y63 =>
 some y63) (some false)) fun b52 =>
 Option.bind (cond b52 (Option.bind (f_basin_in N p0_l.Positions 0 64) fun y70 =>
 some y70) (some false)) fun b66 =>
 Option.bind (cond b66 (Option.bind (f_basin_in N p0_l.Speed 0 p0_l.Positions) fun y80 =>
 some y80) (some false)) fun b73 =>
 Option.bind (cond b73 (Option.bind (f_basin_volume N p0_l.Leak) fun y87 =>
 some y87) (some false)) fun b83 =>
 Option.bind (cond b83 (Option.bind (f_basin_fraction N p0_l.BackNum p0_l.BackDen) fun y97 =>
 some y97) (some false)) fun b90 =>
 some (b90 && ((decide (p0_l.To ≠ (-1))) || (decide (p0_l.BackDen = 0))))) (
 cond (decide (p0_l.Kind = 1)) (
 f_basin_rightFields_j0 N p0_l (decide (p0_l.Kind = 1))) (
 f_basin_rightFields_j0 N p0_l (decide (p0_l.Kind = 5))))

-- bourne/basin.rightUnused
def f_basin_rightUnused (N : Nat) (p0_l : GLink) : Option Bool :=
 cond ((!(decide (p0_l.Kind = 0))) && ((((decide (0 < (↑p0_l.Rate.length : Int))) || (decide (0 < (↑p0_l.Band.Lo.length : Int)))) || (decide (0 < (↑p0_l.Band.Hi.length : Int)))) || (decide (p0_l.Leak ≠ 0)))) (
 some false) (
 cond (((!(decide (p0_l.Kind = 0))) && (decide (p0_l.Kind ≠ 2))) && ((decide (p0_l.Positions ≠ 0)) || (decide (p0_l.Speed ≠ 0)))) (
 some false) (
 cond (((decide (p0_l.Kind ≠ 1)) && (decide (p0_l.Kind ≠ 5))) && (decide (p0_l.Crest ≠ 0))) (
 some false) (
 cond (((decide (p0_l.Kind = 0)) && (decide (p0_l.Num ≠ 0))) || (((decide (p0_l.Kind = 0)) || (decide (p0_l.Kind = 2))) && (decide (p0_l.Den ≠ 0)))) (
 some false) (
 cond ((decide (p0_l.Kind ≠ 3)) && ((decide (p0_l.Prime ≠ 0)) || (decide (p0_l.Break ≠ 0)))) (
 some false) (
 some (((decide (p0_l.Kind = 0)) || (decide (p0_l.Kind = 4))) || ((decide (p0_l.BackNum = 0)) && (decide (p0_l.BackDen = 0)))))))))

-- bourne/basin.rightLinks
def f_basin_rightLinks_j0 (N : Nat) : Option Bool :=
 some true
def f_basin_rightLinks_l1 (N : Nat) (p0_b : GBasin) (kj0 : Option Bool) : Nat → Int → Option Bool
 | 0, _ => none
 | n1 + 1, i14 =>
 cond (decide (i14 < (↑p0_b.Links.length : Int))) (
 Option.bind (ix p0_b.Links i14) fun x22 =>
 Option.bind (f_basin_in N x22.Kind 0 5) fun y57 =>
 Option.bind (cond (!y57) (some true) (Option.bind (f_basin_index N x22.From (↑p0_b.Places.length : Int)) fun y67 =>
 some (!y67))) fun b60 =>
 Option.bind (cond b60 (some true) (Option.bind (f_basin_target N p0_b x22.From x22.To) fun y74 =>
 some (!y74))) fun b70 =>
 Option.bind (cond b70 (some true) (Option.bind (f_basin_in N x22.Delay 0 240) fun y78 =>
 some (!y78))) fun b77 =>
 Option.bind (cond b77 (some true) (Option.bind (f_basin_rightFields N x22) fun y85 =>
 some (!y85))) fun b81 =>
 Option.bind (cond b81 (some true) (Option.bind (f_basin_rightUnused N x22) fun y92 =>
 some (!y92))) fun b88 =>
 cond b88 (
 some false) (
 f_basin_rightLinks_l1 N p0_b kj0 n1 (w64 (i14 + 1)))) (
 kj0)
def f_basin_rightLinks (N : Nat) (p0_b : GBasin) : Option Bool :=
 f_basin_rightLinks_l1 N p0_b (f_basin_rightLinks_j0 N) N 0

-- bourne/basin.next
def f_basin_next (N : Nat) (p0_b : GBasin) (p1_office : Int) (p2_to : Int) : Option Bool :=
 cond (decide (p2_to = (-1))) (
 some (decide (p1_office = 2))) (
 Option.bind (ix p0_b.Places p2_to) fun x12 =>
 some ((decide (x12.Office = p1_office)) || (decide (x12.Office = (w64 (p1_office + 1))))))

-- bourne/basin.rightOffices
def f_basin_rightOffices_l3 (N : Nat) (p0_b : GBasin) (kj2 : Option Bool) : Nat → Int → Option Bool
 | 0, _ => none
 | n3 + 1, i74 =>
 cond (decide (i74 < (↑p0_b.Links.length : Int))) (
 Option.bind (ix p0_b.Links i74) fun x82 =>
 Option.bind (ix p0_b.Places x82.From) fun x122 =>
 Option.bind (f_basin_next N p0_b x122.Office x82.To) fun y130 =>
 Option.bind (cond (!y130) (some true) (Option.bind (cond (decide (x82.Kind = 4)) (Option.bind (ix p0_b.Places x82.To) fun x140 =>
 some (decide (x140.Office ≠ x122.Office))) (some false)) fun b135 =>
 some b135)) fun b133 =>
 cond b133 (
 some false) (
 f_basin_rightOffices_l3 N p0_b kj2 n3 (w64 (i74 + 1)))) (
 kj2)
def f_basin_rightOffices_j2 (N : Nat) : Option Bool :=
 some true
def f_basin_rightOffices_j0 (N : Nat) (p0_b : GBasin) : Option Bool :=
 f_basin_rightOffices_l3 N p0_b (f_basin_rightOffices_j2 N) N 0
def f_basin_rightOffices_l1 (N : Nat) (p0_b : GBasin) (kj0 : Option Bool) : Nat → Int → Option Bool
 | 0, _ => none
 | n1 + 1, i14 =>
 cond (decide (i14 < (↑p0_b.Places.length : Int))) (
 Option.bind (ix p0_b.Places i14) fun x22 =>
 Option.bind (f_basin_next N p0_b x22.Office x22.Down) fun y54 =>
 cond (!y54) (
 some false) (
 f_basin_rightOffices_l1 N p0_b kj0 n1 (w64 (i14 + 1)))) (
 kj0)
def f_basin_rightOffices (N : Nat) (p0_b : GBasin) : Option Bool :=
 f_basin_rightOffices_l1 N p0_b (f_basin_rightOffices_j0 N p0_b) N 0

-- bourne/basin.slope
def f_basin_slope_j0 (N : Nat) (i17 : Int) : Option Int :=
 some (w64 i17)
def f_basin_slope (N : Nat) (p0_num : Int) (p1_den : Int) : Option Int :=
 cond (decide (p1_den = 0)) (
 some 0) (
 cond (decide (p1_den < p0_num)) (
 some 1099511627777) (
 Option.bind (f_math_bits_Mul64 N (IntKind.wrap .u64 p0_num) 1099511627776) fun y3 =>
 Option.bind (f_math_bits_Div64 N y3.1 y3.2 (IntKind.wrap .u64 p1_den)) fun y10 =>
 cond (decide (y10.2 ≠ 0)) (
 f_basin_slope_j0 N (IntKind.wrap .u64 (y10.1 + 1))) (
 f_basin_slope_j0 N y10.1)))

-- bourne/basin.steepest
def f_basin_steepest_j0 (N : Nat) (i2 : Int) : Option Int :=
 some i2
def f_basin_steepest_l3 (N : Nat) (x20 : (List GPoint)) (kj2 : Int → Option Int) : Nat → Int → Int → Option Int
 | 0, _, _ => none
 | n3 + 1, i29, i31 =>
 cond (decide (i31 < (↑x20.length : Int))) (
 Option.bind (ix x20 i31) fun x41 =>
 Option.bind (ix x20 (w64 (i31 - 1))) fun x48 =>
 Option.bind (ix x20 i31) fun x55 =>
 Option.bind (ix x20 (w64 (i31 - 1))) fun x62 =>
 Option.bind (f_basin_slope N (w64 (x41.Y - x48.Y)) (w64 (x55.X - x62.X))) fun y68 =>
 f_basin_steepest_l3 N x20 kj2 n3 (max i29 y68) (w64 (i31 + 1))) (
 kj2 i29)
def f_basin_steepest_j2 (N : Nat) (i10 : Int) (kc1 : Int → Int → Option Int) (i17 : Int) : Option Int :=
 kc1 i17 (w64 (i10 + 1))
def f_basin_steepest_l1 (N : Nat) (p0_curves : (List (List GPoint))) (kj0 : Int → Option Int) : Nat → Int → Int → Option Int
 | 0, _, _ => none
 | n1 + 1, i8, i10 =>
 cond (decide (i10 < (↑p0_curves.length : Int))) (
 Option.bind (ix p0_curves i10) fun x20 =>
 f_basin_steepest_l3 N x20 (f_basin_steepest_j2 N i10 (f_basin_steepest_l1 N p0_curves kj0 n1)) N i8 1) (
 kj0 i8)
def f_basin_steepest (N : Nat) (p0_curves : (List (List GPoint))) : Option Int :=
 f_basin_steepest_l1 N p0_curves (f_basin_steepest_j0 N) N 0 0

-- bourne/basin.rightSlopes
def f_basin_rightSlopes_j4 (N : Nat) (i97 : Int) (kc3 : Int → (List Int) → Option Bool) (l105 : List Int) : Option Bool :=
 kc3 (w64 (i97 + 1)) l105
def f_basin_rightSlopes_j5 (N : Nat) (l99 : List Int) (x107 : GLink) (kj4 : (List Int) → Option Bool) (b293 : Bool) : Option Bool :=
 cond b293 (
 Option.bind (ix l99 x107.From) fun x308 =>
 Option.bind (ix l99 x107.From) fun x309 =>
 Option.bind (f_basin_slope N x107.Num x107.Den) fun y312 =>
 Option.bind (ix l99 x107.From) fun x317 =>
 Option.bind (ix l99 x107.From) fun x321 =>
 kj4 (upd l99 x107.From (w64 (x309 + y312)))) (
 cond (decide (x107.Kind = 4)) (
 Option.bind (ix l99 x107.From) fun x330 =>
 Option.bind (ix l99 x107.From) fun x331 =>
 Option.bind (f_basin_slope N x107.Num x107.Den) fun y334 =>
 Option.bind (ix l99 x107.From) fun x339 =>
 Option.bind (ix l99 x107.From) fun x343 =>
 Option.bind (ix (upd l99 x107.From (w64 (x331 + (w64 (2 * y334))))) x107.To) fun x349 =>
 Option.bind (ix (upd l99 x107.From (w64 (x331 + (w64 (2 * y334))))) x107.To) fun x350 =>
 Option.bind (f_basin_slope N x107.BackNum x107.BackDen) fun y353 =>
 Option.bind (ix (upd l99 x107.From (w64 (x331 + (w64 (2 * y334))))) x107.To) fun x358 =>
 Option.bind (ix (upd l99 x107.From (w64 (x331 + (w64 (2 * y334))))) x107.To) fun x362 =>
 kj4 (upd (upd l99 x107.From (w64 (x331 + (w64 (2 * y334))))) x107.To (w64 (x350 + (w64 (2 * y353)))))) (
 kj4 l99))
def f_basin_rightSlopes_j6 (N : Nat) (kj5 : Bool → Option Bool) (b295 : Bool) : Option Bool :=
 kj5 b295
def f_basin_rightSlopes_l3 (N : Nat) (p0_b : GBasin) (kj2 : (List Int) → Option Bool) : Nat → Int → (List Int) → Option Bool
 | 0, _, _ => none
 | n3 + 1, i97, l99 =>
 cond (decide (i97 < (↑p0_b.Links.length : Int))) (
 Option.bind (ix p0_b.Links i97) fun x107 =>
 cond (decide (x107.Kind = 0)) (
 Option.bind (ix l99 x107.From) fun x145 =>
 Option.bind (ix l99 x107.From) fun x146 =>
 Option.bind (f_basin_steepest N ([x107.Rate, x107.Band.Lo, x107.Band.Hi] : List (List GPoint))) fun y173 =>
 Option.bind (ix l99 x107.From) fun x178 =>
 Option.bind (ix l99 x107.From) fun x265 =>
 cond (decide (x107.To ≠ (-1))) (
 Option.bind (ix (upd l99 x107.From (w64 (x146 + y173))) x107.To) fun x272 =>
 Option.bind (ix (upd l99 x107.From (w64 (x146 + y173))) x107.To) fun x273 =>
 Option.bind (f_basin_slope N x107.BackNum x107.BackDen) fun y276 =>
 Option.bind (ix (upd l99 x107.From (w64 (x146 + y173))) x107.To) fun x281 =>
 Option.bind (ix (upd l99 x107.From (w64 (x146 + y173))) x107.To) fun x285 =>
 f_basin_rightSlopes_j4 N i97 (f_basin_rightSlopes_l3 N p0_b kj2 n3) (upd (upd l99 x107.From (w64 (x146 + y173))) x107.To (w64 (x273 + y276)))) (
 f_basin_rightSlopes_j4 N i97 (f_basin_rightSlopes_l3 N p0_b kj2 n3) (upd l99 x107.From (w64 (x146 + y173))))) (
 cond (decide (x107.Kind = 1)) (
 f_basin_rightSlopes_j5 N l99 x107 (f_basin_rightSlopes_j4 N i97 (f_basin_rightSlopes_l3 N p0_b kj2 n3)) (decide (x107.Kind = 1))) (
 cond (decide (x107.Kind = 5)) (
 f_basin_rightSlopes_j6 N (f_basin_rightSlopes_j5 N l99 x107 (f_basin_rightSlopes_j4 N i97 (f_basin_rightSlopes_l3 N p0_b kj2 n3))) (decide (x107.Kind = 5))) (
 f_basin_rightSlopes_j6 N (f_basin_rightSlopes_j5 N l99 x107 (f_basin_rightSlopes_j4 N i97 (f_basin_rightSlopes_l3 N p0_b kj2 n3))) (decide (x107.Kind = 3)))))) (
 kj2 l99)
def f_basin_rightSlopes_l8 (N : Nat) (l93 : List Int) (kj7 : Option Bool) : Nat → Int → Option Bool
 | 0, _ => none
 | n8 + 1, i381 =>
 cond (decide (i381 < (↑l93.length : Int))) (
 Option.bind (ix l93 i381) fun x390 =>
 Option.bind (ix l93 i381) fun x391 =>
 cond (decide (1099511627776 < x391)) (
 some false) (
 f_basin_rightSlopes_l8 N l93 kj7 n8 (w64 (i381 + 1)))) (
 kj7)
def f_basin_rightSlopes_j7 (N : Nat) : Option Bool :=
 some true
def f_basin_rightSlopes_j2 (N : Nat) (l93 : List Int) : Option Bool :=
 f_basin_rightSlopes_l8 N l93 (f_basin_rightSlopes_j7 N) N 0
def f_basin_rightSlopes_j0 (N : Nat) (p0_b : GBasin) (l23 : List Int) : Option Bool :=
 f_basin_rightSlopes_l3 N p0_b (f_basin_rightSlopes_j2 N) N 0 l23
def f_basin_rightSlopes_l1 (N : Nat) (p0_b : GBasin) (kj0 : (List Int) → Option Bool) : Nat → Int → (List Int) → Option Bool
 | 0, _, _ => none
 | n1 + 1, i27, l29 =>
 cond (decide (i27 < (↑p0_b.Places.length : Int))) (
 Option.bind (ix p0_b.Places i27) fun x36 =>
 Option.bind (f_basin_slope N x36.Num x36.Den) fun y65 =>
 Option.bind (ix l29 i27) fun x76 =>
 Option.bind (ix l29 i27) fun x77 =>
 f_basin_rightSlopes_l1 N p0_b kj0 n1 (w64 (i27 + 1)) (upd l29 i27 y65)) (
 kj0 l29)
def f_basin_rightSlopes (N : Nat) (p0_b : GBasin) : Option Bool :=
 chk (mkok (↑p0_b.Places.length : Int) (↑p0_b.Places.length : Int) 8) <|
 f_basin_rightSlopes_l1 N p0_b (f_basin_rightSlopes_j0 N p0_b) N 0 (List.replicate ((↑p0_b.Places.length : Int) : Int).toNat 0)

-- bourne/basin.rightTowns
def f_basin_rightTowns_l3 (N : Nat) (p0_b : GBasin) (kj2 : Option Bool) : Nat → Int → Option Bool
 | 0, _ => none
 | n3 + 1, i89 =>
 cond (decide (i89 < (↑p0_b.Shelters.length : Int))) (
 Option.bind (ix p0_b.Shelters i89) fun x97 =>
 Option.bind (f_basin_in N x97.Room 0 1073741824) fun y113 =>
 cond (!y113) (
 some false) (
 f_basin_rightTowns_l3 N p0_b kj2 n3 (w64 (i89 + 1)))) (
 kj2)
def f_basin_rightTowns_j2 (N : Nat) : Option Bool :=
 some true
def f_basin_rightTowns_j0 (N : Nat) (p0_b : GBasin) : Option Bool :=
 f_basin_rightTowns_l3 N p0_b (f_basin_rightTowns_j2 N) N 0
def f_basin_rightTowns_l1 (N : Nat) (p0_b : GBasin) (kj0 : Option Bool) : Nat → Int → Option Bool
 | 0, _ => none
 | n1 + 1, i14 =>
 cond (decide (i14 < (↑p0_b.Towns.length : Int))) (
 Option.bind (ix p0_b.Towns i14) fun x22 =>
 Option.bind (f_basin_index N x22.Place (↑p0_b.Places.length : Int)) fun y49 =>
 Option.bind (cond (!y49) (some true) (Option.bind (f_basin_volume N x22.Flood) fun y53 =>
 some (!y53))) fun b52 =>
 Option.bind (cond b52 (some true) (Option.bind (f_basin_in N x22.Lead 0 24) fun y57 =>
 some (!y57))) fun b56 =>
 Option.bind (cond b56 (some true) (Option.bind (f_basin_in N x22.People 0 1073741824) fun y61 =>
 some (!y61))) fun b60 =>
 Option.bind (cond b60 (some true) (Option.bind (f_basin_volume N x22.Watch) fun y65 =>
 some (!y65))) fun b64 =>
 Option.bind (cond b64 (some true) (Option.bind (f_basin_in N x22.Quorum 0 128) fun y69 =>
 some (!y69))) fun b68 =>
 cond b68 (
 some false) (
 f_basin_rightTowns_l1 N p0_b kj0 n1 (w64 (i14 + 1)))) (
 kj0)
def f_basin_rightTowns (N : Nat) (p0_b : GBasin) : Option Bool :=
 f_basin_rightTowns_l1 N p0_b (f_basin_rightTowns_j0 N p0_b) N 0

-- bourne/basin.rightGauges
def f_basin_rightGauges_j0 (N : Nat) : Option Bool :=
 some true
def f_basin_rightGauges_l1 (N : Nat) (p0_b : GBasin) (kj0 : Option Bool) : Nat → Int → Option Bool
 | 0, _ => none
 | n1 + 1, i14 =>
 cond (decide (i14 < (↑p0_b.Gauges.length : Int))) (
 Option.bind (ix p0_b.Gauges i14) fun x22 =>
 Option.bind (f_basin_in N x22.Kind 0 2) fun y41 =>
 Option.bind (cond (!y41) (some true) (Option.bind (f_basin_in N x22.Err 0 1099511627776) fun y45 =>
 some (!y45))) fun b44 =>
 Option.bind (cond b44 (some true) (Option.bind (f_basin_in N x22.Drift 0 1440) fun y49 =>
 some (!y49))) fun b48 =>
 cond b48 (
 some false) (
 Option.bind (ix ([(↑p0_b.Places.length : Int), p0_b.Cells, (↑p0_b.Links.length : Int)] : List Int) x22.Kind) fun z77 =>
 Option.bind (f_basin_index N x22.Target z77) fun y80 =>
 cond (!y80) (
 some false) (
 f_basin_rightGauges_l1 N p0_b kj0 n1 (w64 (i14 + 1))))) (
 kj0)
def f_basin_rightGauges (N : Nat) (p0_b : GBasin) : Option Bool :=
 f_basin_rightGauges_l1 N p0_b (f_basin_rightGauges_j0 N) N 0

-- bourne/basin.rightRoads
def f_basin_rightRoads_j0 (N : Nat) : Option Bool :=
 some true
def f_basin_rightRoads_l1 (N : Nat) (p0_b : GBasin) (kj0 : Option Bool) : Nat → Int → Option Bool
 | 0, _ => none
 | n1 + 1, i14 =>
 cond (decide (i14 < (↑p0_b.Roads.length : Int))) (
 Option.bind (ix p0_b.Roads i14) fun x22 =>
 Option.bind (f_basin_index N x22.From (↑p0_b.Towns.length : Int)) fun y49 =>
 Option.bind (cond (!y49) (some true) (Option.bind (f_basin_index N x22.To (w64 ((↑p0_b.Towns.length : Int) + (↑p0_b.Shelters.length : Int)))) fun y63 =>
 some (!y63))) fun b52 =>
 Option.bind (cond (b52 || (decide (x22.From = x22.To))) (some true) (Option.bind (f_basin_in N x22.Hours 1 24) fun y68 =>
 some (!y68))) fun b67 =>
 Option.bind (cond b67 (some true) (Option.bind (f_basin_in N x22.Flow 0 1073741824) fun y72 =>
 some (!y72))) fun b71 =>
 Option.bind (cond b71 (some true) (Option.bind (f_basin_volume N x22.Limit) fun y76 =>
 some (!y76))) fun b75 =>
 cond b75 (
 some false) (
 Option.bind (cond ((decide (x22.By = (-1))) && (decide (x22.Limit ≠ 0))) (some true) (Option.bind (cond (decide (x22.By ≠ (-1))) (Option.bind (f_basin_index N x22.By (↑p0_b.Places.length : Int)) fun y94 =>
 some (!y94)) (some false)) fun b87 =>
 some b87)) fun b85 =>
 cond b85 (
 some false) (
 f_basin_rightRoads_l1 N p0_b kj0 n1 (w64 (i14 + 1))))) (
 kj0)
def f_basin_rightRoads (N : Nat) (p0_b : GBasin) : Option Bool :=
 f_basin_rightRoads_l1 N p0_b (f_basin_rightRoads_j0 N) N 0

-- bourne/basin.Right
def f_basin_Right (N : Nat) (p0_b : GBasin) : Option Bool :=
 Option.bind (f_basin_rightHead N p0_b) fun y9 =>
 Option.bind (cond y9 (Option.bind (f_basin_rightNames N p0_b) fun y15 =>
 some y15) (some false)) fun b12 =>
 Option.bind (cond b12 (Option.bind (f_basin_rightPlaces N p0_b) fun y21 =>
 some y21) (some false)) fun b18 =>
 Option.bind (cond b18 (Option.bind (f_basin_rightLinks N p0_b) fun y27 =>
 some y27) (some false)) fun b24 =>
 Option.bind (cond b24 (Option.bind (f_basin_rightOffices N p0_b) fun y33 =>
 some y33) (some false)) fun b30 =>
 Option.bind (cond b30 (Option.bind (f_basin_rightSlopes N p0_b) fun y39 =>
 some y39) (some false)) fun b36 =>
 Option.bind (cond b36 (Option.bind (f_basin_rightTowns N p0_b) fun y45 =>
 some y45) (some false)) fun b42 =>
 Option.bind (cond b42 (Option.bind (f_basin_rightGauges N p0_b) fun y51 =>
 some y51) (some false)) fun b48 =>
 Option.bind (cond b48 (Option.bind (f_basin_rightRoads N p0_b) fun y57 =>
 some y57) (some false)) fun b54 =>
 some b54

-- bourne/fuse.gaugeOf
def f_fuse_gaugeOf (N : Nat) (p0_b : GBasin) (p1_r : GReading) : Option (GGauge × Bool) :=
 cond ((decide (p1_r.Gauge < 0)) || (decide ((↑p0_b.Gauges.length : Int) ≤ p1_r.Gauge))) (
 some ((⟨ByteArray.empty, 0, 0, 0, 0⟩ : GGauge), false)) (
 Option.bind (ix p0_b.Gauges p1_r.Gauge) fun x45 =>
 some (x45, true))

-- bourne/curve.Least$1
def f_curve_Least_1 (N : Nat) (c1_ : (List GPoint)) (c2_ : Int) (p0_i : Int) : Option Bool :=
 Option.bind (ix c1_ p0_i) fun x3 =>
 some (decide (c2_ ≤ x3.Y))

-- bourne/curve.Least
def f_curve_Least_j0 (N : Nat) (x52 : GPoint) (i94 : Int) : Option (Int × Bool) :=
 some ((w64 (x52.X + i94)), true)
def f_curve_Least (N : Nat) (p0_c : (List GPoint)) (p1_y : Int) : Option (Int × Bool) :=
 Option.bind (f_curve_Right N p0_c) fun y16 =>
 Option.bind (cond (!y16) (some true) (Option.bind (ix p0_c (w64 ((↑p0_c.length : Int) - 1))) fun x26 =>
 some (decide (x26.Y < p1_y)))) fun b19 =>
 cond b19 (
 some (0, false)) (
 Option.bind (f_sort_Search N (↑p0_c.length : Int) (fun x => f_curve_Least_1 N p0_c p1_y x)) fun y42 =>
 cond (decide (y42 = 0)) (
 some (0, true)) (
 Option.bind (ix p0_c (w64 (y42 - 1))) fun x52 =>
 Option.bind (ix p0_c y42) fun x73 =>
 Option.bind (ix p0_c y42) fun x81 =>
 Option.bind (f_exact_Scale N (w64 (p1_y - x52.Y)) (w64 (x73.X - x52.X)) (w64 (x81.Y - x52.Y))) fun y87 =>
 cond (decide (0 < y87.2.1)) (
 f_curve_Least_j0 N x52 (w64 (y87.1 + 1))) (
 f_curve_Least_j0 N x52 y87.1)))

-- bourne/exact.Add
def f_exact_Add (N : Nat) (p0_a : Int) (p1_b : Int) : Option Int :=
 cond ((decide (0 < p1_b)) && (decide ((w64 (9223372036854775807 - p1_b)) < p0_a))) (
 some 9223372036854775807) (
 cond ((decide (p1_b < 0)) && (decide (p0_a < (w64 ((-9223372036854775808) - p1_b))))) (
 some (-9223372036854775808)) (
 some (w64 (p0_a + p1_b))))

-- bourne/span.Right
def f_span_Right (N : Nat) (p0_s : GSpan) : Option Bool :=
 some (decide (p0_s.Lo ≤ p0_s.Hi))

-- bourne/span.Meet
def f_span_Meet (N : Nat) (p0_a : GSpan) (p1_b : GSpan) : Option (GSpan × Bool) :=
 Option.bind (f_span_Right N (⟨(max p0_a.Lo p1_b.Lo), (min p0_a.Hi p1_b.Hi)⟩ : GSpan)) fun y39 =>
 cond (!y39) (
 some ((⟨0, 0⟩ : GSpan), false)) (
 some ((⟨(max p0_a.Lo p1_b.Lo), (min p0_a.Hi p1_b.Hi)⟩ : GSpan), true))

-- bourne/fuse.Volume
def f_fuse_Volume_j0 (N : Nat) (y91 : Int × Bool) (i120 : Int) : Option (GSpan × Bool) :=
 Option.bind (f_span_Meet N (⟨y91.1, i120⟩ : GSpan) (⟨0, 1125899906842624⟩ : GSpan)) fun y131 =>
 some (y131.1, y131.2)
def f_fuse_Volume (N : Nat) (p0_b : GBasin) (p1_r : GReading) : Option (GSpan × Bool) :=
 Option.bind (f_fuse_gaugeOf N p0_b p1_r) fun y24 =>
 cond ((((!y24.2) || (decide (y24.1.Kind ≠ 0))) || (decide (y24.1.Target < 0))) || (decide ((↑p0_b.Places.length : Int) ≤ y24.1.Target))) (
 some ((⟨0, 0⟩ : GSpan), false)) (
 Option.bind (ix p0_b.Places y24.1.Target) fun x65 =>
 Option.bind (f_curve_Right N x65.Level) fun y72 =>
 cond (!y72) (
 some ((⟨0, 0⟩ : GSpan), false)) (
 Option.bind (f_curve_Least N x65.Level p1_r.Value.Lo) fun y91 =>
 cond (!y91.2) (
 some ((⟨0, 0⟩ : GSpan), false)) (
 Option.bind (f_exact_Add N p1_r.Value.Hi 1) fun y110 =>
 Option.bind (f_curve_Least N x65.Level y110) fun y114 =>
 cond y114.2 (
 f_fuse_Volume_j0 N y91 (w64 (y114.1 - 1))) (
 f_fuse_Volume_j0 N y91 1125899906842624))))

-- bourne/alarm.Quorum
def f_alarm_Quorum_j0 (N : Nat) (x30 : GTown) (i64 : Int) : Option Bool :=
 some (decide (x30.Quorum ≤ i64))
def f_alarm_Quorum_j2 (N : Nat) (i73 : Int) (kc1 : Int → Int → (List Bool) → Option Bool) (i81 : Int) (l83 : List Bool) : Option Bool :=
 kc1 i81 (w64 (i73 + 1)) l83
def f_alarm_Quorum_l1 (N : Nat) (p0_b : GBasin) (p2_readings : (List GReading)) (x30 : GTown) (kj0 : Int → Option Bool) : Nat → Int → Int → (List Bool) → Option Bool
 | 0, _, _, _ => none
 | n1 + 1, i71, i73, l75 =>
 cond (decide (i73 < (↑p2_readings.length : Int))) (
 Option.bind (ix p2_readings i73) fun x85 =>
 Option.bind (cond ((decide (x85.Gauge < 0)) || (decide ((↑p0_b.Gauges.length : Int) ≤ x85.Gauge))) (some true) (Option.bind (ix l75 x85.Gauge) fun x114 =>
 Option.bind (ix l75 x85.Gauge) fun x115 =>
 some x115)) fun b111 =>
 cond b111 (
 f_alarm_Quorum_j2 N i73 (f_alarm_Quorum_l1 N p0_b p2_readings x30 kj0 n1) i71 l75) (
 Option.bind (ix p0_b.Gauges x85.Gauge) fun x126 =>
 cond ((decide (x126.Kind ≠ 0)) || (decide (x126.Target ≠ x30.Place))) (
 f_alarm_Quorum_j2 N i73 (f_alarm_Quorum_l1 N p0_b p2_readings x30 kj0 n1) i71 l75) (
 Option.bind (f_fuse_Volume N p0_b x85) fun y154 =>
 cond (y154.2 && (decide (x30.Watch < y154.1.Lo))) (
 Option.bind (ix l75 x85.Gauge) fun x175 =>
 Option.bind (ix l75 x85.Gauge) fun x176 =>
 f_alarm_Quorum_j2 N i73 (f_alarm_Quorum_l1 N p0_b p2_readings x30 kj0 n1) (w64 (i71 + 1)) (upd l75 x85.Gauge true)) (
 f_alarm_Quorum_j2 N i73 (f_alarm_Quorum_l1 N p0_b p2_readings x30 kj0 n1) i71 l75)))) (
 kj0 i71)
def f_alarm_Quorum (N : Nat) (p0_b : GBasin) (p1_town : Int) (p2_readings : (List GReading)) : Option Bool :=
 Option.bind (cond ((decide (p1_town < 0)) || (decide ((↑p0_b.Towns.length : Int) ≤ p1_town))) (some true) (Option.bind (ix p0_b.Towns p1_town) fun x19 =>
 some (decide (x19.Quorum ≤ 0)))) fun b14 =>
 cond b14 (
 some false) (
 Option.bind (ix p0_b.Towns p1_town) fun x30 =>
 chk (mkok (↑p0_b.Gauges.length : Int) (↑p0_b.Gauges.length : Int) 1) <|
 f_alarm_Quorum_l1 N p0_b p2_readings x30 (f_alarm_Quorum_j0 N x30) N 0 0 (List.replicate ((↑p0_b.Gauges.length : Int) : Int).toNat false))

-- bourne/bournelaw43.AlarmGauges
def f_bournelaw43_AlarmGauges_j0 (N : Nat) (p0_b : GBasin) (p1_town : Int) (p2_readings : (List GReading)) (p3_more : GReading) (y14 : Bool) (x54 : GTown) (y79 : Bool) (i84 : Int) (l87 : List GReading) : Option Bool :=
 Option.bind (cond (y79 && (decide (i84 < x54.Quorum))) (some true) (Option.bind (f_alarm_Quorum N p0_b p1_town l87) fun y276 =>
 some (!(y276 == y79)))) fun b272 =>
 cond b272 (
 some false) (
 Option.bind (cond y14 (Option.bind (cond (!y79) (some true) (chk (room (([p3_more] : List GReading).length + p2_readings.length) 32) <|
 Option.bind (f_alarm_Quorum N p0_b p1_town (([p3_more] : List GReading) ++ p2_readings)) fun y313 =>
 some y313)) fun b315 =>
 some b315) (some false)) fun b316 =>
 some b316)
def f_bournelaw43_AlarmGauges_j2 (N : Nat) (i98 : Int) (kc1 : Int → (List GReading) → Int → Option Bool) (i108 : Int) (l111 : List GReading) : Option Bool :=
 kc1 i108 l111 (w64 (i98 + 1))
def f_bournelaw43_AlarmGauges_l1 (N : Nat) (p0_b : GBasin) (p2_readings : (List GReading)) (x54 : GTown) (kj0 : Int → (List GReading) → Option Bool) : Nat → Int → (List GReading) → Int → Option Bool
 | 0, _, _, _ => none
 | n1 + 1, i94, l97, i98 =>
 cond (decide (i98 < (↑p2_readings.length : Int))) (
 Option.bind (ix p2_readings i98) fun x113 =>
 Option.bind (cond ((decide (x113.Gauge < 0)) || (decide ((↑p0_b.Gauges.length : Int) ≤ x113.Gauge))) (some true) (Option.bind (ix p0_b.Gauges x113.Gauge) fun x133 =>
 some (decide (x133.Kind ≠ 0)))) fun b127 =>
 Option.bind (cond b127 (some true) (Option.bind (ix p0_b.Gauges x113.Gauge) fun x146 =>
 some (decide (x146.Target ≠ x54.Place)))) fun b140 =>
 cond b140 (
 f_bournelaw43_AlarmGauges_j2 N i98 (f_bournelaw43_AlarmGauges_l1 N p0_b p2_readings x54 kj0 n1) i94 l97) (
 Option.bind (ix p2_readings i98) fun x154 =>
 chk (room (l97.length + 1) 32) <|
 Option.bind (ix p2_readings i98) fun x178 =>
 Option.bind (f_fuse_Volume N p0_b x178) fun y183 =>
 Option.bind (cond y183.2 (Option.bind (f_span_Right N y183.1) fun y249 =>
 some y249) (some false)) fun b248 =>
 cond (b248 && (decide (x54.Watch < y183.1.Lo))) (
 f_bournelaw43_AlarmGauges_j2 N i98 (f_bournelaw43_AlarmGauges_l1 N p0_b p2_readings x54 kj0 n1) (w64 (i94 + 1)) (l97 ++ ([x154] : List GReading))) (
 f_bournelaw43_AlarmGauges_j2 N i98 (f_bournelaw43_AlarmGauges_l1 N p0_b p2_readings x54 kj0 n1) i94 (l97 ++ ([x154] : List GReading))))) (
 kj0 i94 l97)
def f_bournelaw43_AlarmGauges (N : Nat) (p0_b : GBasin) (p1_town : Int) (p2_readings : (List GReading)) (p3_more : GReading) : Option Bool :=
 Option.bind (f_bournelaw43_small N) fun y14 =>
 Option.bind (f_bournelaw43_few N p0_b [] []) fun y22 =>
 Option.bind (cond ((((!y22) || (decide (12 < (↑p2_readings.length : Int)))) || (decide (p1_town < 0))) || (decide ((↑p0_b.Towns.length : Int) ≤ p1_town))) (some true) (Option.bind (f_basin_Right N p0_b) fun y43 =>
 some (!y43))) fun b39 =>
 cond b39 (
 some y14) (
 Option.bind (ix p0_b.Towns p1_town) fun x54 =>
 Option.bind (f_alarm_Quorum N p0_b p1_town p2_readings) fun y79 =>
 f_bournelaw43_AlarmGauges_l1 N p0_b p2_readings x54 (f_bournelaw43_AlarmGauges_j0 N p0_b p1_town p2_readings p3_more y14 x54 y79) N 0 ([]) 0)
end Go.Proofs.Ytibidnaedddfdaa
