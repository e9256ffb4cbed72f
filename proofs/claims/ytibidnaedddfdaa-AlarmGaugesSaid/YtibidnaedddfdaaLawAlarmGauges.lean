/- The law AlarmGauges holds for every input. No conditions. -/
import Derived.Test.YtibidnaedddfdaaWalk8
import Derived.Test.YtibidnaedddfdaaPureGauges
import Derived.Test.YtibidnaedddfdaaCore9
namespace Go.Proofs.Ytibidnaedddfdaa
open Go.ChangeShapes Go.WideShapes Go.ChangeAt Go.RowKit
set_option linter.unusedVariables false
set_option linter.unusedSimpArgs false

namespace agauges
theorem agauges_ret {S : Nat → Prop} {L : List HP} {h : Heap} (hs : St S L h) {v0 : Value} {x0 : GBasin} (k0 : Rd S h RGBasin v0 x0) (x1 : Int) (k1 : inI64 x1) {v2 : Value} {x2 : (List GReading)} (k2 : Sl S h RGReading v2 x2) {v3 : Value} {x3 : GReading} (k3 : Rd S h RGReading v3 x3) : Ret Try.prog 3 #[v0, .int .i64 x1, v2, v3] S h (fun v S' h' => v = .bool true ∧ St S' L h') :=
  bournelaw43_AlarmGauges_ret hs k0 k1 k2 k3 (gauges_plain _ _ _ _)

theorem opens_9 : Opens Try.prog 9 Rep.str := opens_str (by kernel_rfl) Try.underlying9
theorem opens_22 : Opens Try.prog 22 (Rep.sl Rep.str) := opens_sl (by kernel_rfl) Try.underlying22 opens_9 rfl
theorem opens_3 : Opens Try.prog 3 Rep.int := opens_int (by kernel_rfl) Try.underlying3
theorem opens_98 : Opens Try.prog 98 RGPoint := by
  have hc : Try.prog.cellsOf 98 = 2 := by kernel_rfl
  refine ⟨hc, fun {H enc w base spare held fuel cs x} h => ?_⟩
  obtain ⟨hl, hf⟩ := open_fields Try.underlying98 h
  rw [hc] at hl
  match cs, hl with
  | [c0, c1], _ =>
    obtain ⟨y0, k0⟩ := hf 0 _ Rep.int rfl opens_3
    obtain ⟨e0, r0⟩ := k0
    obtain rfl : c0 = _ := (List.cons.inj (show [c0] = _ from e0)).1
    obtain ⟨y1, k1⟩ := hf 1 _ Rep.int rfl opens_3
    obtain ⟨e1, r1⟩ := k1
    obtain rfl : c1 = _ := (List.cons.inj (show [c1] = _ from e1)).1
    exact ⟨⟨y0, y1⟩, ⟨rfl, ⟨r0, r1⟩⟩⟩
theorem opens_67 : Opens Try.prog 67 (Rep.sl RGPoint) := opens_sl (by kernel_rfl) Try.underlying67 opens_98 rfl
theorem opens_29 : Opens Try.prog 29 (Rep.sl Rep.int) := opens_sl (by kernel_rfl) Try.underlying29 opens_3 rfl
theorem opens_93 : Opens Try.prog 93 RGCell := by
  have hc : Try.prog.cellsOf 93 = 2 := by kernel_rfl
  refine ⟨hc, fun {H enc w base spare held fuel cs x} h => ?_⟩
  obtain ⟨hl, hf⟩ := open_fields Try.underlying93 h
  rw [hc] at hl
  match cs, hl with
  | [c0, c1], _ =>
    obtain ⟨y0, k0⟩ := hf 0 _ Rep.int rfl opens_3
    obtain ⟨e0, r0⟩ := k0
    obtain rfl : c0 = _ := (List.cons.inj (show [c0] = _ from e0)).1
    obtain ⟨y1, k1⟩ := hf 1 _ Rep.int rfl opens_3
    obtain ⟨e1, r1⟩ := k1
    obtain rfl : c1 = _ := (List.cons.inj (show [c1] = _ from e1)).1
    exact ⟨⟨y0, y1⟩, ⟨rfl, ⟨r0, r1⟩⟩⟩
theorem opens_68 : Opens Try.prog 68 (Rep.sl RGCell) := opens_sl (by kernel_rfl) Try.underlying68 opens_93 rfl
theorem opens_70 : Opens Try.prog 70 RGPlace := by
  have hc : Try.prog.cellsOf 70 = 12 := by kernel_rfl
  refine ⟨hc, fun {H enc w base spare held fuel cs x} h => ?_⟩
  obtain ⟨hl, hf⟩ := open_fields Try.underlying70 h
  rw [hc] at hl
  match cs, hl with
  | [c0, c1, c2, c3, c4, c5, c6, c7, c8, c9, c10, c11], _ =>
    obtain ⟨y0, k0⟩ := hf 0 _ Rep.str rfl opens_9
    obtain ⟨e0, r0⟩ := k0
    obtain rfl : c0 = _ := (List.cons.inj (show [c0] = _ from e0)).1
    obtain ⟨y1, k1⟩ := hf 1 _ Rep.int rfl opens_3
    obtain ⟨e1, r1⟩ := k1
    obtain rfl : c1 = _ := (List.cons.inj (show [c1] = _ from e1)).1
    obtain ⟨y2, k2⟩ := hf 2 _ Rep.int rfl opens_3
    obtain ⟨e2, r2⟩ := k2
    obtain rfl : c2 = _ := (List.cons.inj (show [c2] = _ from e2)).1
    obtain ⟨y3, k3⟩ := hf 3 _ Rep.int rfl opens_3
    obtain ⟨e3, r3⟩ := k3
    obtain rfl : c3 = _ := (List.cons.inj (show [c3] = _ from e3)).1
    obtain ⟨y4, k4⟩ := hf 4 _ (Rep.sl RGPoint) rfl opens_67
    obtain ⟨w4, e4, r4⟩ := k4
    obtain rfl : c4 = _ := (List.cons.inj (show [c4] = _ from e4)).1
    obtain ⟨y5, k5⟩ := hf 5 _ (Rep.sl Rep.int) rfl opens_29
    obtain ⟨w5, e5, r5⟩ := k5
    obtain rfl : c5 = _ := (List.cons.inj (show [c5] = _ from e5)).1
    obtain ⟨y6, k6⟩ := hf 6 _ Rep.int rfl opens_3
    obtain ⟨e6, r6⟩ := k6
    obtain rfl : c6 = _ := (List.cons.inj (show [c6] = _ from e6)).1
    obtain ⟨y7, k7⟩ := hf 7 _ Rep.int rfl opens_3
    obtain ⟨e7, r7⟩ := k7
    obtain rfl : c7 = _ := (List.cons.inj (show [c7] = _ from e7)).1
    obtain ⟨y8, k8⟩ := hf 8 _ Rep.int rfl opens_3
    obtain ⟨e8, r8⟩ := k8
    obtain rfl : c8 = _ := (List.cons.inj (show [c8] = _ from e8)).1
    obtain ⟨y9, k9⟩ := hf 9 _ Rep.int rfl opens_3
    obtain ⟨e9, r9⟩ := k9
    obtain rfl : c9 = _ := (List.cons.inj (show [c9] = _ from e9)).1
    obtain ⟨y10, k10⟩ := hf 10 _ Rep.int rfl opens_3
    obtain ⟨e10, r10⟩ := k10
    obtain rfl : c10 = _ := (List.cons.inj (show [c10] = _ from e10)).1
    obtain ⟨y11, k11⟩ := hf 11 _ (Rep.sl RGCell) rfl opens_68
    obtain ⟨w11, e11, r11⟩ := k11
    obtain rfl : c11 = _ := (List.cons.inj (show [c11] = _ from e11)).1
    exact ⟨⟨y0, y1, y2, y3, y4, y5, y6, y7, y8, y9, y10, y11⟩, ⟨c4, c5, c11, rfl, r0, r1, r2, r3, r4, r5, r6, r7, r8, r9, r10, r11⟩⟩
theorem opens_23 : Opens Try.prog 23 (Rep.sl RGPlace) := opens_sl (by kernel_rfl) Try.underlying23 opens_70 rfl
theorem opens_83 : Opens Try.prog 83 RGBand := by
  have hc : Try.prog.cellsOf 83 = 2 := by kernel_rfl
  refine ⟨hc, fun {H enc w base spare held fuel cs x} h => ?_⟩
  obtain ⟨hl, hf⟩ := open_fields Try.underlying83 h
  rw [hc] at hl
  match cs, hl with
  | [c0, c1], _ =>
    obtain ⟨y0, k0⟩ := hf 0 _ (Rep.sl RGPoint) rfl opens_67
    obtain ⟨w0, e0, r0⟩ := k0
    obtain rfl : c0 = _ := (List.cons.inj (show [c0] = _ from e0)).1
    obtain ⟨y1, k1⟩ := hf 1 _ (Rep.sl RGPoint) rfl opens_67
    obtain ⟨w1, e1, r1⟩ := k1
    obtain rfl : c1 = _ := (List.cons.inj (show [c1] = _ from e1)).1
    exact ⟨⟨y0, y1⟩, ⟨c0, c1, rfl, r0, r1⟩⟩
theorem opens_85 : Opens Try.prog 85 RGLink := by
  have hc : Try.prog.cellsOf 85 = 18 := by kernel_rfl
  refine ⟨hc, fun {H enc w base spare held fuel cs x} h => ?_⟩
  obtain ⟨hl, hf⟩ := open_fields Try.underlying85 h
  rw [hc] at hl
  match cs, hl with
  | [c0, c1, c2, c3, c4, c5, c6, c7, c8, c9, c10, c11, c12, c13, c14, c15, c16, c17], _ =>
    obtain ⟨y0, k0⟩ := hf 0 _ Rep.str rfl opens_9
    obtain ⟨e0, r0⟩ := k0
    obtain rfl : c0 = _ := (List.cons.inj (show [c0] = _ from e0)).1
    obtain ⟨y1, k1⟩ := hf 1 _ Rep.int rfl opens_3
    obtain ⟨e1, r1⟩ := k1
    obtain rfl : c1 = _ := (List.cons.inj (show [c1] = _ from e1)).1
    obtain ⟨y2, k2⟩ := hf 2 _ Rep.int rfl opens_3
    obtain ⟨e2, r2⟩ := k2
    obtain rfl : c2 = _ := (List.cons.inj (show [c2] = _ from e2)).1
    obtain ⟨y3, k3⟩ := hf 3 _ Rep.int rfl opens_3
    obtain ⟨e3, r3⟩ := k3
    obtain rfl : c3 = _ := (List.cons.inj (show [c3] = _ from e3)).1
    obtain ⟨y4, k4⟩ := hf 4 _ (Rep.sl RGPoint) rfl opens_67
    obtain ⟨w4, e4, r4⟩ := k4
    obtain rfl : c4 = _ := (List.cons.inj (show [c4] = _ from e4)).1
    obtain ⟨y5, k5⟩ := hf 5 _ RGBand rfl opens_83
    obtain ⟨w5_0, w5_1, e5, r5_0, r5_1⟩ := k5
    obtain ⟨rfl, rfl⟩ : c5 = _ ∧ c6 = _ := by simpa using (show [c5, c6] = _ from e5)
    obtain ⟨y6, k6⟩ := hf 6 _ Rep.int rfl opens_3
    obtain ⟨e6, r6⟩ := k6
    obtain rfl : c7 = _ := (List.cons.inj (show [c7] = _ from e6)).1
    obtain ⟨y7, k7⟩ := hf 7 _ Rep.int rfl opens_3
    obtain ⟨e7, r7⟩ := k7
    obtain rfl : c8 = _ := (List.cons.inj (show [c8] = _ from e7)).1
    obtain ⟨y8, k8⟩ := hf 8 _ Rep.int rfl opens_3
    obtain ⟨e8, r8⟩ := k8
    obtain rfl : c9 = _ := (List.cons.inj (show [c9] = _ from e8)).1
    obtain ⟨y9, k9⟩ := hf 9 _ Rep.int rfl opens_3
    obtain ⟨e9, r9⟩ := k9
    obtain rfl : c10 = _ := (List.cons.inj (show [c10] = _ from e9)).1
    obtain ⟨y10, k10⟩ := hf 10 _ Rep.int rfl opens_3
    obtain ⟨e10, r10⟩ := k10
    obtain rfl : c11 = _ := (List.cons.inj (show [c11] = _ from e10)).1
    obtain ⟨y11, k11⟩ := hf 11 _ Rep.int rfl opens_3
    obtain ⟨e11, r11⟩ := k11
    obtain rfl : c12 = _ := (List.cons.inj (show [c12] = _ from e11)).1
    obtain ⟨y12, k12⟩ := hf 12 _ Rep.int rfl opens_3
    obtain ⟨e12, r12⟩ := k12
    obtain rfl : c13 = _ := (List.cons.inj (show [c13] = _ from e12)).1
    obtain ⟨y13, k13⟩ := hf 13 _ Rep.int rfl opens_3
    obtain ⟨e13, r13⟩ := k13
    obtain rfl : c14 = _ := (List.cons.inj (show [c14] = _ from e13)).1
    obtain ⟨y14, k14⟩ := hf 14 _ Rep.int rfl opens_3
    obtain ⟨e14, r14⟩ := k14
    obtain rfl : c15 = _ := (List.cons.inj (show [c15] = _ from e14)).1
    obtain ⟨y15, k15⟩ := hf 15 _ Rep.int rfl opens_3
    obtain ⟨e15, r15⟩ := k15
    obtain rfl : c16 = _ := (List.cons.inj (show [c16] = _ from e15)).1
    obtain ⟨y16, k16⟩ := hf 16 _ Rep.int rfl opens_3
    obtain ⟨e16, r16⟩ := k16
    obtain rfl : c17 = _ := (List.cons.inj (show [c17] = _ from e16)).1
    exact ⟨⟨y0, y1, y2, y3, y4, y5, y6, y7, y8, y9, y10, y11, y12, y13, y14, y15, y16⟩, ⟨c4, c5, c6, rfl, r0, r1, r2, r3, r4, r5_0, r5_1, r6, r7, r8, r9, r10, r11, r12, r13, r14, r15, r16⟩⟩
theorem opens_24 : Opens Try.prog 24 (Rep.sl RGLink) := opens_sl (by kernel_rfl) Try.underlying24 opens_85 rfl
theorem opens_41 : Opens Try.prog 41 RGTown := by
  have hc : Try.prog.cellsOf 41 = 7 := by kernel_rfl
  refine ⟨hc, fun {H enc w base spare held fuel cs x} h => ?_⟩
  obtain ⟨hl, hf⟩ := open_fields Try.underlying41 h
  rw [hc] at hl
  match cs, hl with
  | [c0, c1, c2, c3, c4, c5, c6], _ =>
    obtain ⟨y0, k0⟩ := hf 0 _ Rep.str rfl opens_9
    obtain ⟨e0, r0⟩ := k0
    obtain rfl : c0 = _ := (List.cons.inj (show [c0] = _ from e0)).1
    obtain ⟨y1, k1⟩ := hf 1 _ Rep.int rfl opens_3
    obtain ⟨e1, r1⟩ := k1
    obtain rfl : c1 = _ := (List.cons.inj (show [c1] = _ from e1)).1
    obtain ⟨y2, k2⟩ := hf 2 _ Rep.int rfl opens_3
    obtain ⟨e2, r2⟩ := k2
    obtain rfl : c2 = _ := (List.cons.inj (show [c2] = _ from e2)).1
    obtain ⟨y3, k3⟩ := hf 3 _ Rep.int rfl opens_3
    obtain ⟨e3, r3⟩ := k3
    obtain rfl : c3 = _ := (List.cons.inj (show [c3] = _ from e3)).1
    obtain ⟨y4, k4⟩ := hf 4 _ Rep.int rfl opens_3
    obtain ⟨e4, r4⟩ := k4
    obtain rfl : c4 = _ := (List.cons.inj (show [c4] = _ from e4)).1
    obtain ⟨y5, k5⟩ := hf 5 _ Rep.int rfl opens_3
    obtain ⟨e5, r5⟩ := k5
    obtain rfl : c5 = _ := (List.cons.inj (show [c5] = _ from e5)).1
    obtain ⟨y6, k6⟩ := hf 6 _ Rep.int rfl opens_3
    obtain ⟨e6, r6⟩ := k6
    obtain rfl : c6 = _ := (List.cons.inj (show [c6] = _ from e6)).1
    exact ⟨⟨y0, y1, y2, y3, y4, y5, y6⟩, ⟨rfl, ⟨r0, r1, r2, r3, r4, r5, r6⟩⟩⟩
theorem opens_25 : Opens Try.prog 25 (Rep.sl RGTown) := opens_sl (by kernel_rfl) Try.underlying25 opens_41 rfl
theorem opens_44 : Opens Try.prog 44 RGGauge := by
  have hc : Try.prog.cellsOf 44 = 5 := by kernel_rfl
  refine ⟨hc, fun {H enc w base spare held fuel cs x} h => ?_⟩
  obtain ⟨hl, hf⟩ := open_fields Try.underlying44 h
  rw [hc] at hl
  match cs, hl with
  | [c0, c1, c2, c3, c4], _ =>
    obtain ⟨y0, k0⟩ := hf 0 _ Rep.str rfl opens_9
    obtain ⟨e0, r0⟩ := k0
    obtain rfl : c0 = _ := (List.cons.inj (show [c0] = _ from e0)).1
    obtain ⟨y1, k1⟩ := hf 1 _ Rep.int rfl opens_3
    obtain ⟨e1, r1⟩ := k1
    obtain rfl : c1 = _ := (List.cons.inj (show [c1] = _ from e1)).1
    obtain ⟨y2, k2⟩ := hf 2 _ Rep.int rfl opens_3
    obtain ⟨e2, r2⟩ := k2
    obtain rfl : c2 = _ := (List.cons.inj (show [c2] = _ from e2)).1
    obtain ⟨y3, k3⟩ := hf 3 _ Rep.int rfl opens_3
    obtain ⟨e3, r3⟩ := k3
    obtain rfl : c3 = _ := (List.cons.inj (show [c3] = _ from e3)).1
    obtain ⟨y4, k4⟩ := hf 4 _ Rep.int rfl opens_3
    obtain ⟨e4, r4⟩ := k4
    obtain rfl : c4 = _ := (List.cons.inj (show [c4] = _ from e4)).1
    exact ⟨⟨y0, y1, y2, y3, y4⟩, ⟨rfl, ⟨r0, r1, r2, r3, r4⟩⟩⟩
theorem opens_26 : Opens Try.prog 26 (Rep.sl RGGauge) := opens_sl (by kernel_rfl) Try.underlying26 opens_44 rfl
theorem opens_89 : Opens Try.prog 89 RGRoad := by
  have hc : Try.prog.cellsOf 89 = 7 := by kernel_rfl
  refine ⟨hc, fun {H enc w base spare held fuel cs x} h => ?_⟩
  obtain ⟨hl, hf⟩ := open_fields Try.underlying89 h
  rw [hc] at hl
  match cs, hl with
  | [c0, c1, c2, c3, c4, c5, c6], _ =>
    obtain ⟨y0, k0⟩ := hf 0 _ Rep.str rfl opens_9
    obtain ⟨e0, r0⟩ := k0
    obtain rfl : c0 = _ := (List.cons.inj (show [c0] = _ from e0)).1
    obtain ⟨y1, k1⟩ := hf 1 _ Rep.int rfl opens_3
    obtain ⟨e1, r1⟩ := k1
    obtain rfl : c1 = _ := (List.cons.inj (show [c1] = _ from e1)).1
    obtain ⟨y2, k2⟩ := hf 2 _ Rep.int rfl opens_3
    obtain ⟨e2, r2⟩ := k2
    obtain rfl : c2 = _ := (List.cons.inj (show [c2] = _ from e2)).1
    obtain ⟨y3, k3⟩ := hf 3 _ Rep.int rfl opens_3
    obtain ⟨e3, r3⟩ := k3
    obtain rfl : c3 = _ := (List.cons.inj (show [c3] = _ from e3)).1
    obtain ⟨y4, k4⟩ := hf 4 _ Rep.int rfl opens_3
    obtain ⟨e4, r4⟩ := k4
    obtain rfl : c4 = _ := (List.cons.inj (show [c4] = _ from e4)).1
    obtain ⟨y5, k5⟩ := hf 5 _ Rep.int rfl opens_3
    obtain ⟨e5, r5⟩ := k5
    obtain rfl : c5 = _ := (List.cons.inj (show [c5] = _ from e5)).1
    obtain ⟨y6, k6⟩ := hf 6 _ Rep.int rfl opens_3
    obtain ⟨e6, r6⟩ := k6
    obtain rfl : c6 = _ := (List.cons.inj (show [c6] = _ from e6)).1
    exact ⟨⟨y0, y1, y2, y3, y4, y5, y6⟩, ⟨rfl, ⟨r0, r1, r2, r3, r4, r5, r6⟩⟩⟩
theorem opens_27 : Opens Try.prog 27 (Rep.sl RGRoad) := opens_sl (by kernel_rfl) Try.underlying27 opens_89 rfl
theorem opens_87 : Opens Try.prog 87 RGShelter := by
  have hc : Try.prog.cellsOf 87 = 2 := by kernel_rfl
  refine ⟨hc, fun {H enc w base spare held fuel cs x} h => ?_⟩
  obtain ⟨hl, hf⟩ := open_fields Try.underlying87 h
  rw [hc] at hl
  match cs, hl with
  | [c0, c1], _ =>
    obtain ⟨y0, k0⟩ := hf 0 _ Rep.str rfl opens_9
    obtain ⟨e0, r0⟩ := k0
    obtain rfl : c0 = _ := (List.cons.inj (show [c0] = _ from e0)).1
    obtain ⟨y1, k1⟩ := hf 1 _ Rep.int rfl opens_3
    obtain ⟨e1, r1⟩ := k1
    obtain rfl : c1 = _ := (List.cons.inj (show [c1] = _ from e1)).1
    exact ⟨⟨y0, y1⟩, ⟨rfl, ⟨r0, r1⟩⟩⟩
theorem opens_28 : Opens Try.prog 28 (Rep.sl RGShelter) := opens_sl (by kernel_rfl) Try.underlying28 opens_87 rfl
theorem opens_31 : Opens Try.prog 31 RGBasin := by
  have hc : Try.prog.cellsOf 31 = 11 := by kernel_rfl
  refine ⟨hc, fun {H enc w base spare held fuel cs x} h => ?_⟩
  obtain ⟨hl, hf⟩ := open_fields Try.underlying31 h
  rw [hc] at hl
  match cs, hl with
  | [c0, c1, c2, c3, c4, c5, c6, c7, c8, c9, c10], _ =>
    obtain ⟨y0, k0⟩ := hf 0 _ Rep.str rfl opens_9
    obtain ⟨e0, r0⟩ := k0
    obtain rfl : c0 = _ := (List.cons.inj (show [c0] = _ from e0)).1
    obtain ⟨y1, k1⟩ := hf 1 _ (Rep.sl Rep.str) rfl opens_22
    obtain ⟨w1, e1, r1⟩ := k1
    obtain rfl : c1 = _ := (List.cons.inj (show [c1] = _ from e1)).1
    obtain ⟨y2, k2⟩ := hf 2 _ Rep.int rfl opens_3
    obtain ⟨e2, r2⟩ := k2
    obtain rfl : c2 = _ := (List.cons.inj (show [c2] = _ from e2)).1
    obtain ⟨y3, k3⟩ := hf 3 _ (Rep.sl RGPlace) rfl opens_23
    obtain ⟨w3, e3, r3⟩ := k3
    obtain rfl : c3 = _ := (List.cons.inj (show [c3] = _ from e3)).1
    obtain ⟨y4, k4⟩ := hf 4 _ (Rep.sl RGLink) rfl opens_24
    obtain ⟨w4, e4, r4⟩ := k4
    obtain rfl : c4 = _ := (List.cons.inj (show [c4] = _ from e4)).1
    obtain ⟨y5, k5⟩ := hf 5 _ (Rep.sl RGTown) rfl opens_25
    obtain ⟨w5, e5, r5⟩ := k5
    obtain rfl : c5 = _ := (List.cons.inj (show [c5] = _ from e5)).1
    obtain ⟨y6, k6⟩ := hf 6 _ (Rep.sl RGGauge) rfl opens_26
    obtain ⟨w6, e6, r6⟩ := k6
    obtain rfl : c6 = _ := (List.cons.inj (show [c6] = _ from e6)).1
    obtain ⟨y7, k7⟩ := hf 7 _ (Rep.sl RGRoad) rfl opens_27
    obtain ⟨w7, e7, r7⟩ := k7
    obtain rfl : c7 = _ := (List.cons.inj (show [c7] = _ from e7)).1
    obtain ⟨y8, k8⟩ := hf 8 _ (Rep.sl RGShelter) rfl opens_28
    obtain ⟨w8, e8, r8⟩ := k8
    obtain rfl : c8 = _ := (List.cons.inj (show [c8] = _ from e8)).1
    obtain ⟨y9, k9⟩ := hf 9 _ (Rep.sl Rep.int) rfl opens_29
    obtain ⟨w9, e9, r9⟩ := k9
    obtain rfl : c9 = _ := (List.cons.inj (show [c9] = _ from e9)).1
    obtain ⟨y10, k10⟩ := hf 10 _ Rep.int rfl opens_3
    obtain ⟨e10, r10⟩ := k10
    obtain rfl : c10 = _ := (List.cons.inj (show [c10] = _ from e10)).1
    exact ⟨⟨y0, y1, y2, y3, y4, y5, y6, y7, y8, y9, y10⟩, ⟨c1, c3, c4, c5, c6, c7, c8, c9, rfl, r0, r1, r2, r3, r4, r5, r6, r7, r8, r9, r10⟩⟩
theorem opens_34 : Opens Try.prog 34 RGSpan := by
  have hc : Try.prog.cellsOf 34 = 2 := by kernel_rfl
  refine ⟨hc, fun {H enc w base spare held fuel cs x} h => ?_⟩
  obtain ⟨hl, hf⟩ := open_fields Try.underlying34 h
  rw [hc] at hl
  match cs, hl with
  | [c0, c1], _ =>
    obtain ⟨y0, k0⟩ := hf 0 _ Rep.int rfl opens_3
    obtain ⟨e0, r0⟩ := k0
    obtain rfl : c0 = _ := (List.cons.inj (show [c0] = _ from e0)).1
    obtain ⟨y1, k1⟩ := hf 1 _ Rep.int rfl opens_3
    obtain ⟨e1, r1⟩ := k1
    obtain rfl : c1 = _ := (List.cons.inj (show [c1] = _ from e1)).1
    exact ⟨⟨y0, y1⟩, ⟨rfl, ⟨r0, r1⟩⟩⟩
theorem opens_36 : Opens Try.prog 36 RGReading := by
  have hc : Try.prog.cellsOf 36 = 4 := by kernel_rfl
  refine ⟨hc, fun {H enc w base spare held fuel cs x} h => ?_⟩
  obtain ⟨hl, hf⟩ := open_fields Try.underlying36 h
  rw [hc] at hl
  match cs, hl with
  | [c0, c1, c2, c3], _ =>
    obtain ⟨y0, k0⟩ := hf 0 _ Rep.int rfl opens_3
    obtain ⟨e0, r0⟩ := k0
    obtain rfl : c0 = _ := (List.cons.inj (show [c0] = _ from e0)).1
    obtain ⟨y1, k1⟩ := hf 1 _ Rep.int rfl opens_3
    obtain ⟨e1, r1⟩ := k1
    obtain rfl : c1 = _ := (List.cons.inj (show [c1] = _ from e1)).1
    obtain ⟨y2, k2⟩ := hf 2 _ RGSpan rfl opens_34
    obtain ⟨e2, ⟨r2_0, r2_1⟩⟩ := k2
    obtain ⟨rfl, rfl⟩ : c2 = _ ∧ c3 = _ := by simpa using (show [c2, c3] = _ from e2)
    exact ⟨⟨y0, y1, y2⟩, ⟨rfl, ⟨r0, r1, r2_0, r2_1⟩⟩⟩
theorem opens_32 : Opens Try.prog 32 (Rep.sl RGReading) := opens_sl (by kernel_rfl) Try.underlying32 opens_36 rfl

set_option maxRecDepth 100000 in
theorem agauges_holds_lifted (os : Os) (started : os.Started) (H : Type) (enc : TypeId × Value → H) :
    ReturnsInHanded {} Try.checked os 3 .any (Rows.alarmGaugesSpec.pre6 enc Try.prog Try.f3 Rows.alarmGaugesRow.domain false) (Rows.alarmGaugesSpec.post enc Try.prog Try.f3 false true false false) := by
  refine returnsInHanded_of_change (C := Try.checked) (by kernel_rfl) started (by kernel_rfl) Try.func3
    (ChangeSpec.witness6 (enc := enc) (C := Try.checked) false ⟨#[], #[.agg #[.string ByteArray.empty, .slice none 0 0, .int .i64 0, .slice none 0 0, .slice none 0 0, .slice none 0 0, .slice none 0 0, .slice none 0 0, .slice none 0 0, .slice none 0 0, .int .i64 0], .int .i64 0, .slice none 0 0, .agg #[.int .i64 0, .int .i64 0, .int .i64 0, .int .i64 0]], []⟩ 8 (by kernel_rfl) (by kernel_rfl) (by kernel_rfl) (by kernel_rfl)) ?_
  intro W base args ds gs before hval0 hW hcnd _
  have hval : ∀ (j : Nat) t v, Try.f3.params[j]? = some t → args[j]? = some v → Value.okWide Try.prog W .any base t v := hval0
  have hW' := hW
  obtain ⟨p, q, hA0, hV, rfl, hfz, hnd⟩ := hW
  have hA : DataW.TrodAll enc Try.prog W 0 (fun _ => true) true Try.f3.params.toList args.toList ds p := hA0
  rw [Try.params3] at hA hval
  obtain ⟨v0, vs0, d0, ds0, p0, q0, ha0, rfl, rfl, h0, r0⟩ := trodAll_cons hA
  obtain ⟨v1, vs1, d1, ds1, p1, q1, rfl, rfl, rfl, h1, r1⟩ := trodAll_cons r0
  obtain ⟨v2, vs2, d2, ds2, p2, q2, rfl, rfl, rfl, h2, r2⟩ := trodAll_cons r1
  obtain ⟨v3, vs3, d3, ds3, p3, q3, rfl, rfl, rfl, h3, r3⟩ := trodAll_cons r2
  obtain ⟨rfl, rfl, rfl⟩ := trodAll_nil r3
  obtain rfl : args = #[v0, v1, v2, v3] := by cases args; simp_all
  obtain ⟨rfl, rfl⟩ := trodVars_none hV
  obtain ⟨x0, k0⟩ := arg_st opens_31 rfl Try.underlying31 (hval 0 31 v0 rfl rfl) h0
  obtain ⟨x1, k1⟩ := arg_one opens_3 rfl rfl (ne_int Try.underlying3 (hval 1 3 v1 rfl rfl)) h1
  obtain ⟨x2, k2⟩ := arg_one opens_32 rfl rfl (ne_slice Try.underlying32 (hval 2 32 v2 rfl rfl)) h2
  obtain ⟨x3, k3⟩ := arg_st opens_36 rfl Try.underlying36 (hval 3 36 v3 rfl rfl) h3
  obtain ⟨rfl, ki1⟩ := k1.int
  refine (law_calls (agauges_ret (St.all W.heap) k0 x1 ki1 k2.sl k3)).mono fun e W' ⟨he, hb⟩ => ⟨_, he, ?_⟩
  exact law_post (tb := 4) (by kernel_rfl) (by kernel_rfl) hW' (by kernel_rfl) Try.underlying4 rfl rfl rfl rfl hb

theorem agauges_holds : Rows.AlarmGaugesSaid :=
  OpenClaim.holds_of_wide 3 Try.f3 rfl rfl rfl rfl rfl rfl rfl ⟨rfl, rfl, rfl, rfl, rfl⟩ rfl rfl rfl rfl rfl (by kernel_rfl) Try.func3 (by kernel_rfl)
    (of_decide_eq_true (by kernel_rfl)) (by unfold Func.isWrapper; first | (rw [if_pos (by decide +kernel)]; kernel_rfl) | (rw [if_neg (by decide +kernel)]; exact ⟨rfl, rfl⟩))
    (fun os started H enc _ => agauges_holds_lifted os started H enc)
end agauges
end Go.Proofs.Ytibidnaedddfdaa
