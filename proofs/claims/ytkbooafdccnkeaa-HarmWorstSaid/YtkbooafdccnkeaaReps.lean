/- The program's structs as structures. By program. -/
import Derived.Test.YtkbooafdccnkeaaCore12
namespace Go.Proofs.Ytkbooafdccnkeaa
open Go.RowKit
set_option linter.unusedVariables false

structure GSpan where
  Lo : Int
  Hi : Int
instance : Inhabited GSpan := ⟨⟨default, default⟩⟩
@[reducible] def GSpan.v (x : GSpan) : List Value := [.int .i64 x.Lo, .int .i64 x.Hi]
def GSpan.ok (x : GSpan) : Prop := inI64 x.Lo ∧ inI64 x.Hi
def RGSpan : Rep GSpan where
  sz := 2
  ag := true
  rd := fun _ _ cs x => cs = x.v ∧ x.ok
  len := fun ⟨h, _⟩ => by rw [h]; rfl
  one := fun {_ _ _ x} ⟨h, _⟩ v hv => by
    rw [h] at hv
    simp only [GSpan.v, List.mem_cons, List.not_mem_nil, or_false] at hv
    rcases hv with rfl | rfl <;> rfl
  mono := fun h _ _ => h
theorem RGSpan.ex {S h v} {x : GSpan} (k : Rd S h RGSpan v x) : v = .agg #[.int .i64 x.Lo, .int .i64 x.Hi] ∧ x.ok := by obtain ⟨_, rfl, rfl, h⟩ := k; exact ⟨rfl, h⟩
theorem RGSpan.mk {S h} {x : GSpan} (k : x.ok) : Rd S h RGSpan (.agg #[.int .i64 x.Lo, .int .i64 x.Hi]) x := ⟨x.v, rfl, rfl, k⟩
theorem GSpan.f_Lo : Fld RGSpan 0 Rep.int (·.Lo) := by
  rintro S h cs x ⟨rfl, ⟨k0, k1⟩⟩
  exact ⟨rfl, k0⟩
theorem GSpan.f_Hi : Fld RGSpan 1 Rep.int (·.Hi) := by
  rintro S h cs x ⟨rfl, ⟨k0, k1⟩⟩
  exact ⟨rfl, k1⟩
theorem GSpan.u_Lo : Upd RGSpan 0 Rep.int (fun x y => { x with Lo := y }) := by
  refine ⟨by decide, ?_⟩
  rintro S h c x vs y ⟨rfl, ⟨k0, k1⟩⟩ ⟨rfl, j0⟩
  exact ⟨rfl, ⟨j0, k1⟩⟩
theorem GSpan.u_Hi : Upd RGSpan 1 Rep.int (fun x y => { x with Hi := y }) := by
  refine ⟨by decide, ?_⟩
  rintro S h c x vs y ⟨rfl, ⟨k0, k1⟩⟩ ⟨rfl, j1⟩
  exact ⟨rfl, ⟨k0, j1⟩⟩

structure GPoint where
  X : Int
  Y : Int
instance : Inhabited GPoint := ⟨⟨default, default⟩⟩
@[reducible] def GPoint.v (x : GPoint) : List Value := [.int .i64 x.X, .int .i64 x.Y]
def GPoint.ok (x : GPoint) : Prop := inI64 x.X ∧ inI64 x.Y
def RGPoint : Rep GPoint where
  sz := 2
  ag := true
  rd := fun _ _ cs x => cs = x.v ∧ x.ok
  len := fun ⟨h, _⟩ => by rw [h]; rfl
  one := fun {_ _ _ x} ⟨h, _⟩ v hv => by
    rw [h] at hv
    simp only [GPoint.v, List.mem_cons, List.not_mem_nil, or_false] at hv
    rcases hv with rfl | rfl <;> rfl
  mono := fun h _ _ => h
theorem RGPoint.ex {S h v} {x : GPoint} (k : Rd S h RGPoint v x) : v = .agg #[.int .i64 x.X, .int .i64 x.Y] ∧ x.ok := by obtain ⟨_, rfl, rfl, h⟩ := k; exact ⟨rfl, h⟩
theorem RGPoint.mk {S h} {x : GPoint} (k : x.ok) : Rd S h RGPoint (.agg #[.int .i64 x.X, .int .i64 x.Y]) x := ⟨x.v, rfl, rfl, k⟩
theorem GPoint.f_X : Fld RGPoint 0 Rep.int (·.X) := by
  rintro S h cs x ⟨rfl, ⟨k0, k1⟩⟩
  exact ⟨rfl, k0⟩
theorem GPoint.f_Y : Fld RGPoint 1 Rep.int (·.Y) := by
  rintro S h cs x ⟨rfl, ⟨k0, k1⟩⟩
  exact ⟨rfl, k1⟩
theorem GPoint.u_X : Upd RGPoint 0 Rep.int (fun x y => { x with X := y }) := by
  refine ⟨by decide, ?_⟩
  rintro S h c x vs y ⟨rfl, ⟨k0, k1⟩⟩ ⟨rfl, j0⟩
  exact ⟨rfl, ⟨j0, k1⟩⟩
theorem GPoint.u_Y : Upd RGPoint 1 Rep.int (fun x y => { x with Y := y }) := by
  refine ⟨by decide, ?_⟩
  rintro S h c x vs y ⟨rfl, ⟨k0, k1⟩⟩ ⟨rfl, j1⟩
  exact ⟨rfl, ⟨k0, j1⟩⟩

structure GCell where
  Index : Int
  Area : Int
instance : Inhabited GCell := ⟨⟨default, default⟩⟩
@[reducible] def GCell.v (x : GCell) : List Value := [.int .i64 x.Index, .int .i64 x.Area]
def GCell.ok (x : GCell) : Prop := inI64 x.Index ∧ inI64 x.Area
def RGCell : Rep GCell where
  sz := 2
  ag := true
  rd := fun _ _ cs x => cs = x.v ∧ x.ok
  len := fun ⟨h, _⟩ => by rw [h]; rfl
  one := fun {_ _ _ x} ⟨h, _⟩ v hv => by
    rw [h] at hv
    simp only [GCell.v, List.mem_cons, List.not_mem_nil, or_false] at hv
    rcases hv with rfl | rfl <;> rfl
  mono := fun h _ _ => h
theorem RGCell.ex {S h v} {x : GCell} (k : Rd S h RGCell v x) : v = .agg #[.int .i64 x.Index, .int .i64 x.Area] ∧ x.ok := by obtain ⟨_, rfl, rfl, h⟩ := k; exact ⟨rfl, h⟩
theorem RGCell.mk {S h} {x : GCell} (k : x.ok) : Rd S h RGCell (.agg #[.int .i64 x.Index, .int .i64 x.Area]) x := ⟨x.v, rfl, rfl, k⟩
theorem GCell.f_Index : Fld RGCell 0 Rep.int (·.Index) := by
  rintro S h cs x ⟨rfl, ⟨k0, k1⟩⟩
  exact ⟨rfl, k0⟩
theorem GCell.f_Area : Fld RGCell 1 Rep.int (·.Area) := by
  rintro S h cs x ⟨rfl, ⟨k0, k1⟩⟩
  exact ⟨rfl, k1⟩
theorem GCell.u_Index : Upd RGCell 0 Rep.int (fun x y => { x with Index := y }) := by
  refine ⟨by decide, ?_⟩
  rintro S h c x vs y ⟨rfl, ⟨k0, k1⟩⟩ ⟨rfl, j0⟩
  exact ⟨rfl, ⟨j0, k1⟩⟩
theorem GCell.u_Area : Upd RGCell 1 Rep.int (fun x y => { x with Area := y }) := by
  refine ⟨by decide, ?_⟩
  rintro S h c x vs y ⟨rfl, ⟨k0, k1⟩⟩ ⟨rfl, j1⟩
  exact ⟨rfl, ⟨k0, j1⟩⟩

structure GPlace where
  Name : ByteArray
  Kind : Int
  Office : Int
  Cap : Int
  Level : (List GPoint)
  Start : (List Int)
  Num : Int
  Den : Int
  Down : Int
  Delay : Int
  Floor : Int
  Rain : (List GCell)
instance : Inhabited GPlace := ⟨⟨default, default, default, default, default, default, default, default, default, default, default, default⟩⟩
def RGPlace : Rep GPlace where
  sz := 12
  ag := true
  rd := fun S h cs x => ∃ v4 v5 v11 : Value, cs = [.string x.Name, .int .i64 x.Kind, .int .i64 x.Office, .int .i64 x.Cap, v4, v5, .int .i64 x.Num, .int .i64 x.Den, .int .i64 x.Down, .int .i64 x.Delay, .int .i64 x.Floor, v11] ∧ x.Name.size ≤ maxLen ∧ inI64 x.Kind ∧ inI64 x.Office ∧ inI64 x.Cap ∧ Sl S h RGPoint v4 x.Level ∧ Sl S h Rep.int v5 x.Start ∧ inI64 x.Num ∧ inI64 x.Den ∧ inI64 x.Down ∧ inI64 x.Delay ∧ inI64 x.Floor ∧ Sl S h RGCell v11 x.Rain
  len := fun ⟨_, _, _, h, _⟩ => by rw [h]; rfl
  one := by
    rintro S h cs x ⟨v4, v5, v11, rfl, k0, k1, k2, k3, k4, k5, k6, k7, k8, k9, k10, k11⟩ v hv
    simp only [List.mem_cons, List.not_mem_nil, or_false] at hv
    rcases hv with rfl | rfl | rfl | rfl | rfl | rfl | rfl | rfl | rfl | rfl | rfl | rfl <;> first | rfl | exact Sl.one ‹_› | exact (‹_ ∧ _›).2 | (obtain ⟨_, _, rfl, _⟩ := Rd.fn ‹_›; rfl)
  mono := by
    rintro S S' h h' cs x ⟨v4, v5, v11, rfl, k0, k1, k2, k3, k4, k5, k6, k7, k8, k9, k10, k11⟩ s e
    exact ⟨v4, v5, v11, rfl, k0, k1, k2, k3, k4.mono s e, k5.mono s e, k6, k7, k8, k9, k10, k11.mono s e⟩
theorem RGPlace.ex {S h v} {x : GPlace} (k : Rd S h RGPlace v x) : ∃ v4 v5 v11 : Value, v = .agg #[.string x.Name, .int .i64 x.Kind, .int .i64 x.Office, .int .i64 x.Cap, v4, v5, .int .i64 x.Num, .int .i64 x.Den, .int .i64 x.Down, .int .i64 x.Delay, .int .i64 x.Floor, v11] ∧ x.Name.size ≤ maxLen ∧ inI64 x.Kind ∧ inI64 x.Office ∧ inI64 x.Cap ∧ Sl S h RGPoint v4 x.Level ∧ Sl S h Rep.int v5 x.Start ∧ inI64 x.Num ∧ inI64 x.Den ∧ inI64 x.Down ∧ inI64 x.Delay ∧ inI64 x.Floor ∧ Sl S h RGCell v11 x.Rain := by obtain ⟨_, rfl, v4, v5, v11, rfl, k⟩ := k; exact ⟨v4, v5, v11, rfl, k⟩
theorem RGPlace.mk {S h} {x : GPlace} {v4 v5 v11 : Value} (k0 : x.Name.size ≤ maxLen) (k1 : inI64 x.Kind) (k2 : inI64 x.Office) (k3 : inI64 x.Cap) (k4 : Sl S h RGPoint v4 x.Level) (k5 : Sl S h Rep.int v5 x.Start) (k6 : inI64 x.Num) (k7 : inI64 x.Den) (k8 : inI64 x.Down) (k9 : inI64 x.Delay) (k10 : inI64 x.Floor) (k11 : Sl S h RGCell v11 x.Rain) : Rd S h RGPlace (.agg #[.string x.Name, .int .i64 x.Kind, .int .i64 x.Office, .int .i64 x.Cap, v4, v5, .int .i64 x.Num, .int .i64 x.Den, .int .i64 x.Down, .int .i64 x.Delay, .int .i64 x.Floor, v11]) x := ⟨_, rfl, v4, v5, v11, rfl, k0, k1, k2, k3, k4, k5, k6, k7, k8, k9, k10, k11⟩
theorem GPlace.f_Name : Fld RGPlace 0 Rep.str (·.Name) := by
  rintro S h cs x ⟨v4, v5, v11, rfl, k0, k1, k2, k3, k4, k5, k6, k7, k8, k9, k10, k11⟩
  exact ⟨rfl, k0⟩
theorem GPlace.f_Kind : Fld RGPlace 1 Rep.int (·.Kind) := by
  rintro S h cs x ⟨v4, v5, v11, rfl, k0, k1, k2, k3, k4, k5, k6, k7, k8, k9, k10, k11⟩
  exact ⟨rfl, k1⟩
theorem GPlace.f_Office : Fld RGPlace 2 Rep.int (·.Office) := by
  rintro S h cs x ⟨v4, v5, v11, rfl, k0, k1, k2, k3, k4, k5, k6, k7, k8, k9, k10, k11⟩
  exact ⟨rfl, k2⟩
theorem GPlace.f_Cap : Fld RGPlace 3 Rep.int (·.Cap) := by
  rintro S h cs x ⟨v4, v5, v11, rfl, k0, k1, k2, k3, k4, k5, k6, k7, k8, k9, k10, k11⟩
  exact ⟨rfl, k3⟩
theorem GPlace.f_Level : Fld RGPlace 4 (Rep.sl RGPoint) (·.Level) := by
  rintro S h cs x ⟨v4, v5, v11, rfl, k0, k1, k2, k3, k4, k5, k6, k7, k8, k9, k10, k11⟩
  exact ⟨_, rfl, k4⟩
theorem GPlace.f_Start : Fld RGPlace 5 (Rep.sl Rep.int) (·.Start) := by
  rintro S h cs x ⟨v4, v5, v11, rfl, k0, k1, k2, k3, k4, k5, k6, k7, k8, k9, k10, k11⟩
  exact ⟨_, rfl, k5⟩
theorem GPlace.f_Num : Fld RGPlace 6 Rep.int (·.Num) := by
  rintro S h cs x ⟨v4, v5, v11, rfl, k0, k1, k2, k3, k4, k5, k6, k7, k8, k9, k10, k11⟩
  exact ⟨rfl, k6⟩
theorem GPlace.f_Den : Fld RGPlace 7 Rep.int (·.Den) := by
  rintro S h cs x ⟨v4, v5, v11, rfl, k0, k1, k2, k3, k4, k5, k6, k7, k8, k9, k10, k11⟩
  exact ⟨rfl, k7⟩
theorem GPlace.f_Down : Fld RGPlace 8 Rep.int (·.Down) := by
  rintro S h cs x ⟨v4, v5, v11, rfl, k0, k1, k2, k3, k4, k5, k6, k7, k8, k9, k10, k11⟩
  exact ⟨rfl, k8⟩
theorem GPlace.f_Delay : Fld RGPlace 9 Rep.int (·.Delay) := by
  rintro S h cs x ⟨v4, v5, v11, rfl, k0, k1, k2, k3, k4, k5, k6, k7, k8, k9, k10, k11⟩
  exact ⟨rfl, k9⟩
theorem GPlace.f_Floor : Fld RGPlace 10 Rep.int (·.Floor) := by
  rintro S h cs x ⟨v4, v5, v11, rfl, k0, k1, k2, k3, k4, k5, k6, k7, k8, k9, k10, k11⟩
  exact ⟨rfl, k10⟩
theorem GPlace.f_Rain : Fld RGPlace 11 (Rep.sl RGCell) (·.Rain) := by
  rintro S h cs x ⟨v4, v5, v11, rfl, k0, k1, k2, k3, k4, k5, k6, k7, k8, k9, k10, k11⟩
  exact ⟨_, rfl, k11⟩
theorem GPlace.u_Name : Upd RGPlace 0 Rep.str (fun x y => { x with Name := y }) := by
  refine ⟨by decide, ?_⟩
  rintro S h c x vs y ⟨w0, w1, w2, rfl, k0, k1, k2, k3, k4, k5, k6, k7, k8, k9, k10, k11⟩ ⟨rfl, j0⟩
  exact ⟨w0, w1, w2, rfl, j0, k1, k2, k3, k4, k5, k6, k7, k8, k9, k10, k11⟩
theorem GPlace.u_Kind : Upd RGPlace 1 Rep.int (fun x y => { x with Kind := y }) := by
  refine ⟨by decide, ?_⟩
  rintro S h c x vs y ⟨w0, w1, w2, rfl, k0, k1, k2, k3, k4, k5, k6, k7, k8, k9, k10, k11⟩ ⟨rfl, j1⟩
  exact ⟨w0, w1, w2, rfl, k0, j1, k2, k3, k4, k5, k6, k7, k8, k9, k10, k11⟩
theorem GPlace.u_Office : Upd RGPlace 2 Rep.int (fun x y => { x with Office := y }) := by
  refine ⟨by decide, ?_⟩
  rintro S h c x vs y ⟨w0, w1, w2, rfl, k0, k1, k2, k3, k4, k5, k6, k7, k8, k9, k10, k11⟩ ⟨rfl, j2⟩
  exact ⟨w0, w1, w2, rfl, k0, k1, j2, k3, k4, k5, k6, k7, k8, k9, k10, k11⟩
theorem GPlace.u_Cap : Upd RGPlace 3 Rep.int (fun x y => { x with Cap := y }) := by
  refine ⟨by decide, ?_⟩
  rintro S h c x vs y ⟨w0, w1, w2, rfl, k0, k1, k2, k3, k4, k5, k6, k7, k8, k9, k10, k11⟩ ⟨rfl, j3⟩
  exact ⟨w0, w1, w2, rfl, k0, k1, k2, j3, k4, k5, k6, k7, k8, k9, k10, k11⟩
theorem GPlace.u_Level : Upd RGPlace 4 (Rep.sl RGPoint) (fun x y => { x with Level := y }) := by
  refine ⟨by decide, ?_⟩
  rintro S h c x vs y ⟨w0, w1, w2, rfl, k0, k1, k2, k3, k4, k5, k6, k7, k8, k9, k10, k11⟩ ⟨u4, rfl, j4⟩
  exact ⟨u4, w1, w2, rfl, k0, k1, k2, k3, j4, k5, k6, k7, k8, k9, k10, k11⟩
theorem GPlace.u_Start : Upd RGPlace 5 (Rep.sl Rep.int) (fun x y => { x with Start := y }) := by
  refine ⟨by decide, ?_⟩
  rintro S h c x vs y ⟨w0, w1, w2, rfl, k0, k1, k2, k3, k4, k5, k6, k7, k8, k9, k10, k11⟩ ⟨u5, rfl, j5⟩
  exact ⟨w0, u5, w2, rfl, k0, k1, k2, k3, k4, j5, k6, k7, k8, k9, k10, k11⟩
theorem GPlace.u_Num : Upd RGPlace 6 Rep.int (fun x y => { x with Num := y }) := by
  refine ⟨by decide, ?_⟩
  rintro S h c x vs y ⟨w0, w1, w2, rfl, k0, k1, k2, k3, k4, k5, k6, k7, k8, k9, k10, k11⟩ ⟨rfl, j6⟩
  exact ⟨w0, w1, w2, rfl, k0, k1, k2, k3, k4, k5, j6, k7, k8, k9, k10, k11⟩
theorem GPlace.u_Den : Upd RGPlace 7 Rep.int (fun x y => { x with Den := y }) := by
  refine ⟨by decide, ?_⟩
  rintro S h c x vs y ⟨w0, w1, w2, rfl, k0, k1, k2, k3, k4, k5, k6, k7, k8, k9, k10, k11⟩ ⟨rfl, j7⟩
  exact ⟨w0, w1, w2, rfl, k0, k1, k2, k3, k4, k5, k6, j7, k8, k9, k10, k11⟩
theorem GPlace.u_Down : Upd RGPlace 8 Rep.int (fun x y => { x with Down := y }) := by
  refine ⟨by decide, ?_⟩
  rintro S h c x vs y ⟨w0, w1, w2, rfl, k0, k1, k2, k3, k4, k5, k6, k7, k8, k9, k10, k11⟩ ⟨rfl, j8⟩
  exact ⟨w0, w1, w2, rfl, k0, k1, k2, k3, k4, k5, k6, k7, j8, k9, k10, k11⟩
theorem GPlace.u_Delay : Upd RGPlace 9 Rep.int (fun x y => { x with Delay := y }) := by
  refine ⟨by decide, ?_⟩
  rintro S h c x vs y ⟨w0, w1, w2, rfl, k0, k1, k2, k3, k4, k5, k6, k7, k8, k9, k10, k11⟩ ⟨rfl, j9⟩
  exact ⟨w0, w1, w2, rfl, k0, k1, k2, k3, k4, k5, k6, k7, k8, j9, k10, k11⟩
theorem GPlace.u_Floor : Upd RGPlace 10 Rep.int (fun x y => { x with Floor := y }) := by
  refine ⟨by decide, ?_⟩
  rintro S h c x vs y ⟨w0, w1, w2, rfl, k0, k1, k2, k3, k4, k5, k6, k7, k8, k9, k10, k11⟩ ⟨rfl, j10⟩
  exact ⟨w0, w1, w2, rfl, k0, k1, k2, k3, k4, k5, k6, k7, k8, k9, j10, k11⟩
theorem GPlace.u_Rain : Upd RGPlace 11 (Rep.sl RGCell) (fun x y => { x with Rain := y }) := by
  refine ⟨by decide, ?_⟩
  rintro S h c x vs y ⟨w0, w1, w2, rfl, k0, k1, k2, k3, k4, k5, k6, k7, k8, k9, k10, k11⟩ ⟨u11, rfl, j11⟩
  exact ⟨w0, w1, u11, rfl, k0, k1, k2, k3, k4, k5, k6, k7, k8, k9, k10, j11⟩

structure GBand where
  Lo : (List GPoint)
  Hi : (List GPoint)
instance : Inhabited GBand := ⟨⟨default, default⟩⟩
def RGBand : Rep GBand where
  sz := 2
  ag := true
  rd := fun S h cs x => ∃ v0 v1 : Value, cs = [v0, v1] ∧ Sl S h RGPoint v0 x.Lo ∧ Sl S h RGPoint v1 x.Hi
  len := fun ⟨_, _, h, _⟩ => by rw [h]; rfl
  one := by
    rintro S h cs x ⟨v0, v1, rfl, k0, k1⟩ v hv
    simp only [List.mem_cons, List.not_mem_nil, or_false] at hv
    rcases hv with rfl | rfl <;> first | rfl | exact Sl.one ‹_› | exact (‹_ ∧ _›).2 | (obtain ⟨_, _, rfl, _⟩ := Rd.fn ‹_›; rfl)
  mono := by
    rintro S S' h h' cs x ⟨v0, v1, rfl, k0, k1⟩ s e
    exact ⟨v0, v1, rfl, k0.mono s e, k1.mono s e⟩
theorem RGBand.ex {S h v} {x : GBand} (k : Rd S h RGBand v x) : ∃ v0 v1 : Value, v = .agg #[v0, v1] ∧ Sl S h RGPoint v0 x.Lo ∧ Sl S h RGPoint v1 x.Hi := by obtain ⟨_, rfl, v0, v1, rfl, k⟩ := k; exact ⟨v0, v1, rfl, k⟩
theorem RGBand.mk {S h} {x : GBand} {v0 v1 : Value} (k0 : Sl S h RGPoint v0 x.Lo) (k1 : Sl S h RGPoint v1 x.Hi) : Rd S h RGBand (.agg #[v0, v1]) x := ⟨_, rfl, v0, v1, rfl, k0, k1⟩
theorem GBand.f_Lo : Fld RGBand 0 (Rep.sl RGPoint) (·.Lo) := by
  rintro S h cs x ⟨v0, v1, rfl, k0, k1⟩
  exact ⟨_, rfl, k0⟩
theorem GBand.f_Hi : Fld RGBand 1 (Rep.sl RGPoint) (·.Hi) := by
  rintro S h cs x ⟨v0, v1, rfl, k0, k1⟩
  exact ⟨_, rfl, k1⟩
theorem GBand.u_Lo : Upd RGBand 0 (Rep.sl RGPoint) (fun x y => { x with Lo := y }) := by
  refine ⟨by decide, ?_⟩
  rintro S h c x vs y ⟨w0, w1, rfl, k0, k1⟩ ⟨u0, rfl, j0⟩
  exact ⟨u0, w1, rfl, j0, k1⟩
theorem GBand.u_Hi : Upd RGBand 1 (Rep.sl RGPoint) (fun x y => { x with Hi := y }) := by
  refine ⟨by decide, ?_⟩
  rintro S h c x vs y ⟨w0, w1, rfl, k0, k1⟩ ⟨u1, rfl, j1⟩
  exact ⟨w0, u1, rfl, k0, j1⟩

structure GLink where
  Name : ByteArray
  Kind : Int
  From : Int
  To : Int
  Rate : (List GPoint)
  Band : GBand
  Positions : Int
  Speed : Int
  Leak : Int
  Crest : Int
  Num : Int
  Den : Int
  Prime : Int
  Break : Int
  BackNum : Int
  BackDen : Int
  Delay : Int
instance : Inhabited GLink := ⟨⟨default, default, default, default, default, default, default, default, default, default, default, default, default, default, default, default, default⟩⟩
def RGLink : Rep GLink where
  sz := 18
  ag := true
  rd := fun S h cs x => ∃ v4 v5 v6 : Value, cs = [.string x.Name, .int .i64 x.Kind, .int .i64 x.From, .int .i64 x.To, v4, v5, v6, .int .i64 x.Positions, .int .i64 x.Speed, .int .i64 x.Leak, .int .i64 x.Crest, .int .i64 x.Num, .int .i64 x.Den, .int .i64 x.Prime, .int .i64 x.Break, .int .i64 x.BackNum, .int .i64 x.BackDen, .int .i64 x.Delay] ∧ x.Name.size ≤ maxLen ∧ inI64 x.Kind ∧ inI64 x.From ∧ inI64 x.To ∧ Sl S h RGPoint v4 x.Rate ∧ Sl S h RGPoint v5 x.Band.Lo ∧ Sl S h RGPoint v6 x.Band.Hi ∧ inI64 x.Positions ∧ inI64 x.Speed ∧ inI64 x.Leak ∧ inI64 x.Crest ∧ inI64 x.Num ∧ inI64 x.Den ∧ inI64 x.Prime ∧ inI64 x.Break ∧ inI64 x.BackNum ∧ inI64 x.BackDen ∧ inI64 x.Delay
  len := fun ⟨_, _, _, h, _⟩ => by rw [h]; rfl
  one := by
    rintro S h cs x ⟨v4, v5, v6, rfl, k0, k1, k2, k3, k4, k5, k6, k7, k8, k9, k10, k11, k12, k13, k14, k15, k16, k17⟩ v hv
    simp only [List.mem_cons, List.not_mem_nil, or_false] at hv
    rcases hv with rfl | rfl | rfl | rfl | rfl | rfl | rfl | rfl | rfl | rfl | rfl | rfl | rfl | rfl | rfl | rfl | rfl | rfl <;> first | rfl | exact Sl.one ‹_› | exact (‹_ ∧ _›).2 | (obtain ⟨_, _, rfl, _⟩ := Rd.fn ‹_›; rfl)
  mono := by
    rintro S S' h h' cs x ⟨v4, v5, v6, rfl, k0, k1, k2, k3, k4, k5, k6, k7, k8, k9, k10, k11, k12, k13, k14, k15, k16, k17⟩ s e
    exact ⟨v4, v5, v6, rfl, k0, k1, k2, k3, k4.mono s e, k5.mono s e, k6.mono s e, k7, k8, k9, k10, k11, k12, k13, k14, k15, k16, k17⟩
theorem RGLink.ex {S h v} {x : GLink} (k : Rd S h RGLink v x) : ∃ v4 v5 v6 : Value, v = .agg #[.string x.Name, .int .i64 x.Kind, .int .i64 x.From, .int .i64 x.To, v4, v5, v6, .int .i64 x.Positions, .int .i64 x.Speed, .int .i64 x.Leak, .int .i64 x.Crest, .int .i64 x.Num, .int .i64 x.Den, .int .i64 x.Prime, .int .i64 x.Break, .int .i64 x.BackNum, .int .i64 x.BackDen, .int .i64 x.Delay] ∧ x.Name.size ≤ maxLen ∧ inI64 x.Kind ∧ inI64 x.From ∧ inI64 x.To ∧ Sl S h RGPoint v4 x.Rate ∧ Sl S h RGPoint v5 x.Band.Lo ∧ Sl S h RGPoint v6 x.Band.Hi ∧ inI64 x.Positions ∧ inI64 x.Speed ∧ inI64 x.Leak ∧ inI64 x.Crest ∧ inI64 x.Num ∧ inI64 x.Den ∧ inI64 x.Prime ∧ inI64 x.Break ∧ inI64 x.BackNum ∧ inI64 x.BackDen ∧ inI64 x.Delay := by obtain ⟨_, rfl, v4, v5, v6, rfl, k⟩ := k; exact ⟨v4, v5, v6, rfl, k⟩
theorem RGLink.mk {S h} {x : GLink} {v4 v5 v6 : Value} (k0 : x.Name.size ≤ maxLen) (k1 : inI64 x.Kind) (k2 : inI64 x.From) (k3 : inI64 x.To) (k4 : Sl S h RGPoint v4 x.Rate) (k5 : Sl S h RGPoint v5 x.Band.Lo) (k6 : Sl S h RGPoint v6 x.Band.Hi) (k7 : inI64 x.Positions) (k8 : inI64 x.Speed) (k9 : inI64 x.Leak) (k10 : inI64 x.Crest) (k11 : inI64 x.Num) (k12 : inI64 x.Den) (k13 : inI64 x.Prime) (k14 : inI64 x.Break) (k15 : inI64 x.BackNum) (k16 : inI64 x.BackDen) (k17 : inI64 x.Delay) : Rd S h RGLink (.agg #[.string x.Name, .int .i64 x.Kind, .int .i64 x.From, .int .i64 x.To, v4, v5, v6, .int .i64 x.Positions, .int .i64 x.Speed, .int .i64 x.Leak, .int .i64 x.Crest, .int .i64 x.Num, .int .i64 x.Den, .int .i64 x.Prime, .int .i64 x.Break, .int .i64 x.BackNum, .int .i64 x.BackDen, .int .i64 x.Delay]) x := ⟨_, rfl, v4, v5, v6, rfl, k0, k1, k2, k3, k4, k5, k6, k7, k8, k9, k10, k11, k12, k13, k14, k15, k16, k17⟩
theorem GLink.f_Name : Fld RGLink 0 Rep.str (·.Name) := by
  rintro S h cs x ⟨v4, v5, v6, rfl, k0, k1, k2, k3, k4, k5, k6, k7, k8, k9, k10, k11, k12, k13, k14, k15, k16, k17⟩
  exact ⟨rfl, k0⟩
theorem GLink.f_Kind : Fld RGLink 1 Rep.int (·.Kind) := by
  rintro S h cs x ⟨v4, v5, v6, rfl, k0, k1, k2, k3, k4, k5, k6, k7, k8, k9, k10, k11, k12, k13, k14, k15, k16, k17⟩
  exact ⟨rfl, k1⟩
theorem GLink.f_From : Fld RGLink 2 Rep.int (·.From) := by
  rintro S h cs x ⟨v4, v5, v6, rfl, k0, k1, k2, k3, k4, k5, k6, k7, k8, k9, k10, k11, k12, k13, k14, k15, k16, k17⟩
  exact ⟨rfl, k2⟩
theorem GLink.f_To : Fld RGLink 3 Rep.int (·.To) := by
  rintro S h cs x ⟨v4, v5, v6, rfl, k0, k1, k2, k3, k4, k5, k6, k7, k8, k9, k10, k11, k12, k13, k14, k15, k16, k17⟩
  exact ⟨rfl, k3⟩
theorem GLink.f_Rate : Fld RGLink 4 (Rep.sl RGPoint) (·.Rate) := by
  rintro S h cs x ⟨v4, v5, v6, rfl, k0, k1, k2, k3, k4, k5, k6, k7, k8, k9, k10, k11, k12, k13, k14, k15, k16, k17⟩
  exact ⟨_, rfl, k4⟩
theorem GLink.f_Band : Fld RGLink 5 RGBand (·.Band) := by
  rintro S h cs x ⟨v4, v5, v6, rfl, k0, k1, k2, k3, k4, k5, k6, k7, k8, k9, k10, k11, k12, k13, k14, k15, k16, k17⟩
  exact ⟨_, _, rfl, k5, k6⟩
theorem GLink.f_Positions : Fld RGLink 7 Rep.int (·.Positions) := by
  rintro S h cs x ⟨v4, v5, v6, rfl, k0, k1, k2, k3, k4, k5, k6, k7, k8, k9, k10, k11, k12, k13, k14, k15, k16, k17⟩
  exact ⟨rfl, k7⟩
theorem GLink.f_Speed : Fld RGLink 8 Rep.int (·.Speed) := by
  rintro S h cs x ⟨v4, v5, v6, rfl, k0, k1, k2, k3, k4, k5, k6, k7, k8, k9, k10, k11, k12, k13, k14, k15, k16, k17⟩
  exact ⟨rfl, k8⟩
theorem GLink.f_Leak : Fld RGLink 9 Rep.int (·.Leak) := by
  rintro S h cs x ⟨v4, v5, v6, rfl, k0, k1, k2, k3, k4, k5, k6, k7, k8, k9, k10, k11, k12, k13, k14, k15, k16, k17⟩
  exact ⟨rfl, k9⟩
theorem GLink.f_Crest : Fld RGLink 10 Rep.int (·.Crest) := by
  rintro S h cs x ⟨v4, v5, v6, rfl, k0, k1, k2, k3, k4, k5, k6, k7, k8, k9, k10, k11, k12, k13, k14, k15, k16, k17⟩
  exact ⟨rfl, k10⟩
theorem GLink.f_Num : Fld RGLink 11 Rep.int (·.Num) := by
  rintro S h cs x ⟨v4, v5, v6, rfl, k0, k1, k2, k3, k4, k5, k6, k7, k8, k9, k10, k11, k12, k13, k14, k15, k16, k17⟩
  exact ⟨rfl, k11⟩
theorem GLink.f_Den : Fld RGLink 12 Rep.int (·.Den) := by
  rintro S h cs x ⟨v4, v5, v6, rfl, k0, k1, k2, k3, k4, k5, k6, k7, k8, k9, k10, k11, k12, k13, k14, k15, k16, k17⟩
  exact ⟨rfl, k12⟩
theorem GLink.f_Prime : Fld RGLink 13 Rep.int (·.Prime) := by
  rintro S h cs x ⟨v4, v5, v6, rfl, k0, k1, k2, k3, k4, k5, k6, k7, k8, k9, k10, k11, k12, k13, k14, k15, k16, k17⟩
  exact ⟨rfl, k13⟩
theorem GLink.f_Break : Fld RGLink 14 Rep.int (·.Break) := by
  rintro S h cs x ⟨v4, v5, v6, rfl, k0, k1, k2, k3, k4, k5, k6, k7, k8, k9, k10, k11, k12, k13, k14, k15, k16, k17⟩
  exact ⟨rfl, k14⟩
theorem GLink.f_BackNum : Fld RGLink 15 Rep.int (·.BackNum) := by
  rintro S h cs x ⟨v4, v5, v6, rfl, k0, k1, k2, k3, k4, k5, k6, k7, k8, k9, k10, k11, k12, k13, k14, k15, k16, k17⟩
  exact ⟨rfl, k15⟩
theorem GLink.f_BackDen : Fld RGLink 16 Rep.int (·.BackDen) := by
  rintro S h cs x ⟨v4, v5, v6, rfl, k0, k1, k2, k3, k4, k5, k6, k7, k8, k9, k10, k11, k12, k13, k14, k15, k16, k17⟩
  exact ⟨rfl, k16⟩
theorem GLink.f_Delay : Fld RGLink 17 Rep.int (·.Delay) := by
  rintro S h cs x ⟨v4, v5, v6, rfl, k0, k1, k2, k3, k4, k5, k6, k7, k8, k9, k10, k11, k12, k13, k14, k15, k16, k17⟩
  exact ⟨rfl, k17⟩
theorem GLink.u_Name : Upd RGLink 0 Rep.str (fun x y => { x with Name := y }) := by
  refine ⟨by decide, ?_⟩
  rintro S h c x vs y ⟨w0, w1, w2, rfl, k0, k1, k2, k3, k4, k5, k6, k7, k8, k9, k10, k11, k12, k13, k14, k15, k16, k17⟩ ⟨rfl, j0⟩
  exact ⟨w0, w1, w2, rfl, j0, k1, k2, k3, k4, k5, k6, k7, k8, k9, k10, k11, k12, k13, k14, k15, k16, k17⟩
theorem GLink.u_Kind : Upd RGLink 1 Rep.int (fun x y => { x with Kind := y }) := by
  refine ⟨by decide, ?_⟩
  rintro S h c x vs y ⟨w0, w1, w2, rfl, k0, k1, k2, k3, k4, k5, k6, k7, k8, k9, k10, k11, k12, k13, k14, k15, k16, k17⟩ ⟨rfl, j1⟩
  exact ⟨w0, w1, w2, rfl, k0, j1, k2, k3, k4, k5, k6, k7, k8, k9, k10, k11, k12, k13, k14, k15, k16, k17⟩
theorem GLink.u_From : Upd RGLink 2 Rep.int (fun x y => { x with From := y }) := by
  refine ⟨by decide, ?_⟩
  rintro S h c x vs y ⟨w0, w1, w2, rfl, k0, k1, k2, k3, k4, k5, k6, k7, k8, k9, k10, k11, k12, k13, k14, k15, k16, k17⟩ ⟨rfl, j2⟩
  exact ⟨w0, w1, w2, rfl, k0, k1, j2, k3, k4, k5, k6, k7, k8, k9, k10, k11, k12, k13, k14, k15, k16, k17⟩
theorem GLink.u_To : Upd RGLink 3 Rep.int (fun x y => { x with To := y }) := by
  refine ⟨by decide, ?_⟩
  rintro S h c x vs y ⟨w0, w1, w2, rfl, k0, k1, k2, k3, k4, k5, k6, k7, k8, k9, k10, k11, k12, k13, k14, k15, k16, k17⟩ ⟨rfl, j3⟩
  exact ⟨w0, w1, w2, rfl, k0, k1, k2, j3, k4, k5, k6, k7, k8, k9, k10, k11, k12, k13, k14, k15, k16, k17⟩
theorem GLink.u_Rate : Upd RGLink 4 (Rep.sl RGPoint) (fun x y => { x with Rate := y }) := by
  refine ⟨by decide, ?_⟩
  rintro S h c x vs y ⟨w0, w1, w2, rfl, k0, k1, k2, k3, k4, k5, k6, k7, k8, k9, k10, k11, k12, k13, k14, k15, k16, k17⟩ ⟨u4, rfl, j4⟩
  exact ⟨u4, w1, w2, rfl, k0, k1, k2, k3, j4, k5, k6, k7, k8, k9, k10, k11, k12, k13, k14, k15, k16, k17⟩
theorem GLink.u_Band : Upd RGLink 5 RGBand (fun x y => { x with Band := y }) := by
  refine ⟨by decide, ?_⟩
  rintro S h c x vs y ⟨w0, w1, w2, rfl, k0, k1, k2, k3, k4, k5, k6, k7, k8, k9, k10, k11, k12, k13, k14, k15, k16, k17⟩ ⟨u5, u6, rfl, j5, j6⟩
  exact ⟨w0, u5, u6, rfl, k0, k1, k2, k3, k4, j5, j6, k7, k8, k9, k10, k11, k12, k13, k14, k15, k16, k17⟩
theorem GLink.u_Positions : Upd RGLink 7 Rep.int (fun x y => { x with Positions := y }) := by
  refine ⟨by decide, ?_⟩
  rintro S h c x vs y ⟨w0, w1, w2, rfl, k0, k1, k2, k3, k4, k5, k6, k7, k8, k9, k10, k11, k12, k13, k14, k15, k16, k17⟩ ⟨rfl, j7⟩
  exact ⟨w0, w1, w2, rfl, k0, k1, k2, k3, k4, k5, k6, j7, k8, k9, k10, k11, k12, k13, k14, k15, k16, k17⟩
theorem GLink.u_Speed : Upd RGLink 8 Rep.int (fun x y => { x with Speed := y }) := by
  refine ⟨by decide, ?_⟩
  rintro S h c x vs y ⟨w0, w1, w2, rfl, k0, k1, k2, k3, k4, k5, k6, k7, k8, k9, k10, k11, k12, k13, k14, k15, k16, k17⟩ ⟨rfl, j8⟩
  exact ⟨w0, w1, w2, rfl, k0, k1, k2, k3, k4, k5, k6, k7, j8, k9, k10, k11, k12, k13, k14, k15, k16, k17⟩
theorem GLink.u_Leak : Upd RGLink 9 Rep.int (fun x y => { x with Leak := y }) := by
  refine ⟨by decide, ?_⟩
  rintro S h c x vs y ⟨w0, w1, w2, rfl, k0, k1, k2, k3, k4, k5, k6, k7, k8, k9, k10, k11, k12, k13, k14, k15, k16, k17⟩ ⟨rfl, j9⟩
  exact ⟨w0, w1, w2, rfl, k0, k1, k2, k3, k4, k5, k6, k7, k8, j9, k10, k11, k12, k13, k14, k15, k16, k17⟩
theorem GLink.u_Crest : Upd RGLink 10 Rep.int (fun x y => { x with Crest := y }) := by
  refine ⟨by decide, ?_⟩
  rintro S h c x vs y ⟨w0, w1, w2, rfl, k0, k1, k2, k3, k4, k5, k6, k7, k8, k9, k10, k11, k12, k13, k14, k15, k16, k17⟩ ⟨rfl, j10⟩
  exact ⟨w0, w1, w2, rfl, k0, k1, k2, k3, k4, k5, k6, k7, k8, k9, j10, k11, k12, k13, k14, k15, k16, k17⟩
theorem GLink.u_Num : Upd RGLink 11 Rep.int (fun x y => { x with Num := y }) := by
  refine ⟨by decide, ?_⟩
  rintro S h c x vs y ⟨w0, w1, w2, rfl, k0, k1, k2, k3, k4, k5, k6, k7, k8, k9, k10, k11, k12, k13, k14, k15, k16, k17⟩ ⟨rfl, j11⟩
  exact ⟨w0, w1, w2, rfl, k0, k1, k2, k3, k4, k5, k6, k7, k8, k9, k10, j11, k12, k13, k14, k15, k16, k17⟩
theorem GLink.u_Den : Upd RGLink 12 Rep.int (fun x y => { x with Den := y }) := by
  refine ⟨by decide, ?_⟩
  rintro S h c x vs y ⟨w0, w1, w2, rfl, k0, k1, k2, k3, k4, k5, k6, k7, k8, k9, k10, k11, k12, k13, k14, k15, k16, k17⟩ ⟨rfl, j12⟩
  exact ⟨w0, w1, w2, rfl, k0, k1, k2, k3, k4, k5, k6, k7, k8, k9, k10, k11, j12, k13, k14, k15, k16, k17⟩
theorem GLink.u_Prime : Upd RGLink 13 Rep.int (fun x y => { x with Prime := y }) := by
  refine ⟨by decide, ?_⟩
  rintro S h c x vs y ⟨w0, w1, w2, rfl, k0, k1, k2, k3, k4, k5, k6, k7, k8, k9, k10, k11, k12, k13, k14, k15, k16, k17⟩ ⟨rfl, j13⟩
  exact ⟨w0, w1, w2, rfl, k0, k1, k2, k3, k4, k5, k6, k7, k8, k9, k10, k11, k12, j13, k14, k15, k16, k17⟩
theorem GLink.u_Break : Upd RGLink 14 Rep.int (fun x y => { x with Break := y }) := by
  refine ⟨by decide, ?_⟩
  rintro S h c x vs y ⟨w0, w1, w2, rfl, k0, k1, k2, k3, k4, k5, k6, k7, k8, k9, k10, k11, k12, k13, k14, k15, k16, k17⟩ ⟨rfl, j14⟩
  exact ⟨w0, w1, w2, rfl, k0, k1, k2, k3, k4, k5, k6, k7, k8, k9, k10, k11, k12, k13, j14, k15, k16, k17⟩
theorem GLink.u_BackNum : Upd RGLink 15 Rep.int (fun x y => { x with BackNum := y }) := by
  refine ⟨by decide, ?_⟩
  rintro S h c x vs y ⟨w0, w1, w2, rfl, k0, k1, k2, k3, k4, k5, k6, k7, k8, k9, k10, k11, k12, k13, k14, k15, k16, k17⟩ ⟨rfl, j15⟩
  exact ⟨w0, w1, w2, rfl, k0, k1, k2, k3, k4, k5, k6, k7, k8, k9, k10, k11, k12, k13, k14, j15, k16, k17⟩
theorem GLink.u_BackDen : Upd RGLink 16 Rep.int (fun x y => { x with BackDen := y }) := by
  refine ⟨by decide, ?_⟩
  rintro S h c x vs y ⟨w0, w1, w2, rfl, k0, k1, k2, k3, k4, k5, k6, k7, k8, k9, k10, k11, k12, k13, k14, k15, k16, k17⟩ ⟨rfl, j16⟩
  exact ⟨w0, w1, w2, rfl, k0, k1, k2, k3, k4, k5, k6, k7, k8, k9, k10, k11, k12, k13, k14, k15, j16, k17⟩
theorem GLink.u_Delay : Upd RGLink 17 Rep.int (fun x y => { x with Delay := y }) := by
  refine ⟨by decide, ?_⟩
  rintro S h c x vs y ⟨w0, w1, w2, rfl, k0, k1, k2, k3, k4, k5, k6, k7, k8, k9, k10, k11, k12, k13, k14, k15, k16, k17⟩ ⟨rfl, j17⟩
  exact ⟨w0, w1, w2, rfl, k0, k1, k2, k3, k4, k5, k6, k7, k8, k9, k10, k11, k12, k13, k14, k15, k16, j17⟩

structure GTown where
  Name : ByteArray
  Place : Int
  Flood : Int
  Lead : Int
  People : Int
  Watch : Int
  Quorum : Int
instance : Inhabited GTown := ⟨⟨default, default, default, default, default, default, default⟩⟩
@[reducible] def GTown.v (x : GTown) : List Value := [.string x.Name, .int .i64 x.Place, .int .i64 x.Flood, .int .i64 x.Lead, .int .i64 x.People, .int .i64 x.Watch, .int .i64 x.Quorum]
def GTown.ok (x : GTown) : Prop := x.Name.size ≤ maxLen ∧ inI64 x.Place ∧ inI64 x.Flood ∧ inI64 x.Lead ∧ inI64 x.People ∧ inI64 x.Watch ∧ inI64 x.Quorum
def RGTown : Rep GTown where
  sz := 7
  ag := true
  rd := fun _ _ cs x => cs = x.v ∧ x.ok
  len := fun ⟨h, _⟩ => by rw [h]; rfl
  one := fun {_ _ _ x} ⟨h, _⟩ v hv => by
    rw [h] at hv
    simp only [GTown.v, List.mem_cons, List.not_mem_nil, or_false] at hv
    rcases hv with rfl | rfl | rfl | rfl | rfl | rfl | rfl <;> rfl
  mono := fun h _ _ => h
theorem RGTown.ex {S h v} {x : GTown} (k : Rd S h RGTown v x) : v = .agg #[.string x.Name, .int .i64 x.Place, .int .i64 x.Flood, .int .i64 x.Lead, .int .i64 x.People, .int .i64 x.Watch, .int .i64 x.Quorum] ∧ x.ok := by obtain ⟨_, rfl, rfl, h⟩ := k; exact ⟨rfl, h⟩
theorem RGTown.mk {S h} {x : GTown} (k : x.ok) : Rd S h RGTown (.agg #[.string x.Name, .int .i64 x.Place, .int .i64 x.Flood, .int .i64 x.Lead, .int .i64 x.People, .int .i64 x.Watch, .int .i64 x.Quorum]) x := ⟨x.v, rfl, rfl, k⟩
theorem GTown.f_Name : Fld RGTown 0 Rep.str (·.Name) := by
  rintro S h cs x ⟨rfl, ⟨k0, k1, k2, k3, k4, k5, k6⟩⟩
  exact ⟨rfl, k0⟩
theorem GTown.f_Place : Fld RGTown 1 Rep.int (·.Place) := by
  rintro S h cs x ⟨rfl, ⟨k0, k1, k2, k3, k4, k5, k6⟩⟩
  exact ⟨rfl, k1⟩
theorem GTown.f_Flood : Fld RGTown 2 Rep.int (·.Flood) := by
  rintro S h cs x ⟨rfl, ⟨k0, k1, k2, k3, k4, k5, k6⟩⟩
  exact ⟨rfl, k2⟩
theorem GTown.f_Lead : Fld RGTown 3 Rep.int (·.Lead) := by
  rintro S h cs x ⟨rfl, ⟨k0, k1, k2, k3, k4, k5, k6⟩⟩
  exact ⟨rfl, k3⟩
theorem GTown.f_People : Fld RGTown 4 Rep.int (·.People) := by
  rintro S h cs x ⟨rfl, ⟨k0, k1, k2, k3, k4, k5, k6⟩⟩
  exact ⟨rfl, k4⟩
theorem GTown.f_Watch : Fld RGTown 5 Rep.int (·.Watch) := by
  rintro S h cs x ⟨rfl, ⟨k0, k1, k2, k3, k4, k5, k6⟩⟩
  exact ⟨rfl, k5⟩
theorem GTown.f_Quorum : Fld RGTown 6 Rep.int (·.Quorum) := by
  rintro S h cs x ⟨rfl, ⟨k0, k1, k2, k3, k4, k5, k6⟩⟩
  exact ⟨rfl, k6⟩
theorem GTown.u_Name : Upd RGTown 0 Rep.str (fun x y => { x with Name := y }) := by
  refine ⟨by decide, ?_⟩
  rintro S h c x vs y ⟨rfl, ⟨k0, k1, k2, k3, k4, k5, k6⟩⟩ ⟨rfl, j0⟩
  exact ⟨rfl, ⟨j0, k1, k2, k3, k4, k5, k6⟩⟩
theorem GTown.u_Place : Upd RGTown 1 Rep.int (fun x y => { x with Place := y }) := by
  refine ⟨by decide, ?_⟩
  rintro S h c x vs y ⟨rfl, ⟨k0, k1, k2, k3, k4, k5, k6⟩⟩ ⟨rfl, j1⟩
  exact ⟨rfl, ⟨k0, j1, k2, k3, k4, k5, k6⟩⟩
theorem GTown.u_Flood : Upd RGTown 2 Rep.int (fun x y => { x with Flood := y }) := by
  refine ⟨by decide, ?_⟩
  rintro S h c x vs y ⟨rfl, ⟨k0, k1, k2, k3, k4, k5, k6⟩⟩ ⟨rfl, j2⟩
  exact ⟨rfl, ⟨k0, k1, j2, k3, k4, k5, k6⟩⟩
theorem GTown.u_Lead : Upd RGTown 3 Rep.int (fun x y => { x with Lead := y }) := by
  refine ⟨by decide, ?_⟩
  rintro S h c x vs y ⟨rfl, ⟨k0, k1, k2, k3, k4, k5, k6⟩⟩ ⟨rfl, j3⟩
  exact ⟨rfl, ⟨k0, k1, k2, j3, k4, k5, k6⟩⟩
theorem GTown.u_People : Upd RGTown 4 Rep.int (fun x y => { x with People := y }) := by
  refine ⟨by decide, ?_⟩
  rintro S h c x vs y ⟨rfl, ⟨k0, k1, k2, k3, k4, k5, k6⟩⟩ ⟨rfl, j4⟩
  exact ⟨rfl, ⟨k0, k1, k2, k3, j4, k5, k6⟩⟩
theorem GTown.u_Watch : Upd RGTown 5 Rep.int (fun x y => { x with Watch := y }) := by
  refine ⟨by decide, ?_⟩
  rintro S h c x vs y ⟨rfl, ⟨k0, k1, k2, k3, k4, k5, k6⟩⟩ ⟨rfl, j5⟩
  exact ⟨rfl, ⟨k0, k1, k2, k3, k4, j5, k6⟩⟩
theorem GTown.u_Quorum : Upd RGTown 6 Rep.int (fun x y => { x with Quorum := y }) := by
  refine ⟨by decide, ?_⟩
  rintro S h c x vs y ⟨rfl, ⟨k0, k1, k2, k3, k4, k5, k6⟩⟩ ⟨rfl, j6⟩
  exact ⟨rfl, ⟨k0, k1, k2, k3, k4, k5, j6⟩⟩

structure GGauge where
  Name : ByteArray
  Kind : Int
  Target : Int
  Err : Int
  Drift : Int
instance : Inhabited GGauge := ⟨⟨default, default, default, default, default⟩⟩
@[reducible] def GGauge.v (x : GGauge) : List Value := [.string x.Name, .int .i64 x.Kind, .int .i64 x.Target, .int .i64 x.Err, .int .i64 x.Drift]
def GGauge.ok (x : GGauge) : Prop := x.Name.size ≤ maxLen ∧ inI64 x.Kind ∧ inI64 x.Target ∧ inI64 x.Err ∧ inI64 x.Drift
def RGGauge : Rep GGauge where
  sz := 5
  ag := true
  rd := fun _ _ cs x => cs = x.v ∧ x.ok
  len := fun ⟨h, _⟩ => by rw [h]; rfl
  one := fun {_ _ _ x} ⟨h, _⟩ v hv => by
    rw [h] at hv
    simp only [GGauge.v, List.mem_cons, List.not_mem_nil, or_false] at hv
    rcases hv with rfl | rfl | rfl | rfl | rfl <;> rfl
  mono := fun h _ _ => h
theorem RGGauge.ex {S h v} {x : GGauge} (k : Rd S h RGGauge v x) : v = .agg #[.string x.Name, .int .i64 x.Kind, .int .i64 x.Target, .int .i64 x.Err, .int .i64 x.Drift] ∧ x.ok := by obtain ⟨_, rfl, rfl, h⟩ := k; exact ⟨rfl, h⟩
theorem RGGauge.mk {S h} {x : GGauge} (k : x.ok) : Rd S h RGGauge (.agg #[.string x.Name, .int .i64 x.Kind, .int .i64 x.Target, .int .i64 x.Err, .int .i64 x.Drift]) x := ⟨x.v, rfl, rfl, k⟩
theorem GGauge.f_Name : Fld RGGauge 0 Rep.str (·.Name) := by
  rintro S h cs x ⟨rfl, ⟨k0, k1, k2, k3, k4⟩⟩
  exact ⟨rfl, k0⟩
theorem GGauge.f_Kind : Fld RGGauge 1 Rep.int (·.Kind) := by
  rintro S h cs x ⟨rfl, ⟨k0, k1, k2, k3, k4⟩⟩
  exact ⟨rfl, k1⟩
theorem GGauge.f_Target : Fld RGGauge 2 Rep.int (·.Target) := by
  rintro S h cs x ⟨rfl, ⟨k0, k1, k2, k3, k4⟩⟩
  exact ⟨rfl, k2⟩
theorem GGauge.f_Err : Fld RGGauge 3 Rep.int (·.Err) := by
  rintro S h cs x ⟨rfl, ⟨k0, k1, k2, k3, k4⟩⟩
  exact ⟨rfl, k3⟩
theorem GGauge.f_Drift : Fld RGGauge 4 Rep.int (·.Drift) := by
  rintro S h cs x ⟨rfl, ⟨k0, k1, k2, k3, k4⟩⟩
  exact ⟨rfl, k4⟩
theorem GGauge.u_Name : Upd RGGauge 0 Rep.str (fun x y => { x with Name := y }) := by
  refine ⟨by decide, ?_⟩
  rintro S h c x vs y ⟨rfl, ⟨k0, k1, k2, k3, k4⟩⟩ ⟨rfl, j0⟩
  exact ⟨rfl, ⟨j0, k1, k2, k3, k4⟩⟩
theorem GGauge.u_Kind : Upd RGGauge 1 Rep.int (fun x y => { x with Kind := y }) := by
  refine ⟨by decide, ?_⟩
  rintro S h c x vs y ⟨rfl, ⟨k0, k1, k2, k3, k4⟩⟩ ⟨rfl, j1⟩
  exact ⟨rfl, ⟨k0, j1, k2, k3, k4⟩⟩
theorem GGauge.u_Target : Upd RGGauge 2 Rep.int (fun x y => { x with Target := y }) := by
  refine ⟨by decide, ?_⟩
  rintro S h c x vs y ⟨rfl, ⟨k0, k1, k2, k3, k4⟩⟩ ⟨rfl, j2⟩
  exact ⟨rfl, ⟨k0, k1, j2, k3, k4⟩⟩
theorem GGauge.u_Err : Upd RGGauge 3 Rep.int (fun x y => { x with Err := y }) := by
  refine ⟨by decide, ?_⟩
  rintro S h c x vs y ⟨rfl, ⟨k0, k1, k2, k3, k4⟩⟩ ⟨rfl, j3⟩
  exact ⟨rfl, ⟨k0, k1, k2, j3, k4⟩⟩
theorem GGauge.u_Drift : Upd RGGauge 4 Rep.int (fun x y => { x with Drift := y }) := by
  refine ⟨by decide, ?_⟩
  rintro S h c x vs y ⟨rfl, ⟨k0, k1, k2, k3, k4⟩⟩ ⟨rfl, j4⟩
  exact ⟨rfl, ⟨k0, k1, k2, k3, j4⟩⟩

structure GRoad where
  Name : ByteArray
  From : Int
  To : Int
  Hours : Int
  Flow : Int
  By : Int
  Limit : Int
instance : Inhabited GRoad := ⟨⟨default, default, default, default, default, default, default⟩⟩
@[reducible] def GRoad.v (x : GRoad) : List Value := [.string x.Name, .int .i64 x.From, .int .i64 x.To, .int .i64 x.Hours, .int .i64 x.Flow, .int .i64 x.By, .int .i64 x.Limit]
def GRoad.ok (x : GRoad) : Prop := x.Name.size ≤ maxLen ∧ inI64 x.From ∧ inI64 x.To ∧ inI64 x.Hours ∧ inI64 x.Flow ∧ inI64 x.By ∧ inI64 x.Limit
def RGRoad : Rep GRoad where
  sz := 7
  ag := true
  rd := fun _ _ cs x => cs = x.v ∧ x.ok
  len := fun ⟨h, _⟩ => by rw [h]; rfl
  one := fun {_ _ _ x} ⟨h, _⟩ v hv => by
    rw [h] at hv
    simp only [GRoad.v, List.mem_cons, List.not_mem_nil, or_false] at hv
    rcases hv with rfl | rfl | rfl | rfl | rfl | rfl | rfl <;> rfl
  mono := fun h _ _ => h
theorem RGRoad.ex {S h v} {x : GRoad} (k : Rd S h RGRoad v x) : v = .agg #[.string x.Name, .int .i64 x.From, .int .i64 x.To, .int .i64 x.Hours, .int .i64 x.Flow, .int .i64 x.By, .int .i64 x.Limit] ∧ x.ok := by obtain ⟨_, rfl, rfl, h⟩ := k; exact ⟨rfl, h⟩
theorem RGRoad.mk {S h} {x : GRoad} (k : x.ok) : Rd S h RGRoad (.agg #[.string x.Name, .int .i64 x.From, .int .i64 x.To, .int .i64 x.Hours, .int .i64 x.Flow, .int .i64 x.By, .int .i64 x.Limit]) x := ⟨x.v, rfl, rfl, k⟩
theorem GRoad.f_Name : Fld RGRoad 0 Rep.str (·.Name) := by
  rintro S h cs x ⟨rfl, ⟨k0, k1, k2, k3, k4, k5, k6⟩⟩
  exact ⟨rfl, k0⟩
theorem GRoad.f_From : Fld RGRoad 1 Rep.int (·.From) := by
  rintro S h cs x ⟨rfl, ⟨k0, k1, k2, k3, k4, k5, k6⟩⟩
  exact ⟨rfl, k1⟩
theorem GRoad.f_To : Fld RGRoad 2 Rep.int (·.To) := by
  rintro S h cs x ⟨rfl, ⟨k0, k1, k2, k3, k4, k5, k6⟩⟩
  exact ⟨rfl, k2⟩
theorem GRoad.f_Hours : Fld RGRoad 3 Rep.int (·.Hours) := by
  rintro S h cs x ⟨rfl, ⟨k0, k1, k2, k3, k4, k5, k6⟩⟩
  exact ⟨rfl, k3⟩
theorem GRoad.f_Flow : Fld RGRoad 4 Rep.int (·.Flow) := by
  rintro S h cs x ⟨rfl, ⟨k0, k1, k2, k3, k4, k5, k6⟩⟩
  exact ⟨rfl, k4⟩
theorem GRoad.f_By : Fld RGRoad 5 Rep.int (·.By) := by
  rintro S h cs x ⟨rfl, ⟨k0, k1, k2, k3, k4, k5, k6⟩⟩
  exact ⟨rfl, k5⟩
theorem GRoad.f_Limit : Fld RGRoad 6 Rep.int (·.Limit) := by
  rintro S h cs x ⟨rfl, ⟨k0, k1, k2, k3, k4, k5, k6⟩⟩
  exact ⟨rfl, k6⟩
theorem GRoad.u_Name : Upd RGRoad 0 Rep.str (fun x y => { x with Name := y }) := by
  refine ⟨by decide, ?_⟩
  rintro S h c x vs y ⟨rfl, ⟨k0, k1, k2, k3, k4, k5, k6⟩⟩ ⟨rfl, j0⟩
  exact ⟨rfl, ⟨j0, k1, k2, k3, k4, k5, k6⟩⟩
theorem GRoad.u_From : Upd RGRoad 1 Rep.int (fun x y => { x with From := y }) := by
  refine ⟨by decide, ?_⟩
  rintro S h c x vs y ⟨rfl, ⟨k0, k1, k2, k3, k4, k5, k6⟩⟩ ⟨rfl, j1⟩
  exact ⟨rfl, ⟨k0, j1, k2, k3, k4, k5, k6⟩⟩
theorem GRoad.u_To : Upd RGRoad 2 Rep.int (fun x y => { x with To := y }) := by
  refine ⟨by decide, ?_⟩
  rintro S h c x vs y ⟨rfl, ⟨k0, k1, k2, k3, k4, k5, k6⟩⟩ ⟨rfl, j2⟩
  exact ⟨rfl, ⟨k0, k1, j2, k3, k4, k5, k6⟩⟩
theorem GRoad.u_Hours : Upd RGRoad 3 Rep.int (fun x y => { x with Hours := y }) := by
  refine ⟨by decide, ?_⟩
  rintro S h c x vs y ⟨rfl, ⟨k0, k1, k2, k3, k4, k5, k6⟩⟩ ⟨rfl, j3⟩
  exact ⟨rfl, ⟨k0, k1, k2, j3, k4, k5, k6⟩⟩
theorem GRoad.u_Flow : Upd RGRoad 4 Rep.int (fun x y => { x with Flow := y }) := by
  refine ⟨by decide, ?_⟩
  rintro S h c x vs y ⟨rfl, ⟨k0, k1, k2, k3, k4, k5, k6⟩⟩ ⟨rfl, j4⟩
  exact ⟨rfl, ⟨k0, k1, k2, k3, j4, k5, k6⟩⟩
theorem GRoad.u_By : Upd RGRoad 5 Rep.int (fun x y => { x with By := y }) := by
  refine ⟨by decide, ?_⟩
  rintro S h c x vs y ⟨rfl, ⟨k0, k1, k2, k3, k4, k5, k6⟩⟩ ⟨rfl, j5⟩
  exact ⟨rfl, ⟨k0, k1, k2, k3, k4, j5, k6⟩⟩
theorem GRoad.u_Limit : Upd RGRoad 6 Rep.int (fun x y => { x with Limit := y }) := by
  refine ⟨by decide, ?_⟩
  rintro S h c x vs y ⟨rfl, ⟨k0, k1, k2, k3, k4, k5, k6⟩⟩ ⟨rfl, j6⟩
  exact ⟨rfl, ⟨k0, k1, k2, k3, k4, k5, j6⟩⟩

structure GShelter where
  Name : ByteArray
  Room : Int
instance : Inhabited GShelter := ⟨⟨default, default⟩⟩
@[reducible] def GShelter.v (x : GShelter) : List Value := [.string x.Name, .int .i64 x.Room]
def GShelter.ok (x : GShelter) : Prop := x.Name.size ≤ maxLen ∧ inI64 x.Room
def RGShelter : Rep GShelter where
  sz := 2
  ag := true
  rd := fun _ _ cs x => cs = x.v ∧ x.ok
  len := fun ⟨h, _⟩ => by rw [h]; rfl
  one := fun {_ _ _ x} ⟨h, _⟩ v hv => by
    rw [h] at hv
    simp only [GShelter.v, List.mem_cons, List.not_mem_nil, or_false] at hv
    rcases hv with rfl | rfl <;> rfl
  mono := fun h _ _ => h
theorem RGShelter.ex {S h v} {x : GShelter} (k : Rd S h RGShelter v x) : v = .agg #[.string x.Name, .int .i64 x.Room] ∧ x.ok := by obtain ⟨_, rfl, rfl, h⟩ := k; exact ⟨rfl, h⟩
theorem RGShelter.mk {S h} {x : GShelter} (k : x.ok) : Rd S h RGShelter (.agg #[.string x.Name, .int .i64 x.Room]) x := ⟨x.v, rfl, rfl, k⟩
theorem GShelter.f_Name : Fld RGShelter 0 Rep.str (·.Name) := by
  rintro S h cs x ⟨rfl, ⟨k0, k1⟩⟩
  exact ⟨rfl, k0⟩
theorem GShelter.f_Room : Fld RGShelter 1 Rep.int (·.Room) := by
  rintro S h cs x ⟨rfl, ⟨k0, k1⟩⟩
  exact ⟨rfl, k1⟩
theorem GShelter.u_Name : Upd RGShelter 0 Rep.str (fun x y => { x with Name := y }) := by
  refine ⟨by decide, ?_⟩
  rintro S h c x vs y ⟨rfl, ⟨k0, k1⟩⟩ ⟨rfl, j0⟩
  exact ⟨rfl, ⟨j0, k1⟩⟩
theorem GShelter.u_Room : Upd RGShelter 1 Rep.int (fun x y => { x with Room := y }) := by
  refine ⟨by decide, ?_⟩
  rintro S h c x vs y ⟨rfl, ⟨k0, k1⟩⟩ ⟨rfl, j1⟩
  exact ⟨rfl, ⟨k0, j1⟩⟩

structure GBasin where
  Name : ByteArray
  Owners : (List ByteArray)
  Cells : Int
  Places : (List GPlace)
  Links : (List GLink)
  Towns : (List GTown)
  Gauges : (List GGauge)
  Roads : (List GRoad)
  Shelters : (List GShelter)
  Room : (List Int)
  Err : Int
instance : Inhabited GBasin := ⟨⟨default, default, default, default, default, default, default, default, default, default, default⟩⟩
def RGBasin : Rep GBasin where
  sz := 11
  ag := true
  rd := fun S h cs x => ∃ v1 v3 v4 v5 v6 v7 v8 v9 : Value, cs = [.string x.Name, v1, .int .i64 x.Cells, v3, v4, v5, v6, v7, v8, v9, .int .i64 x.Err] ∧ x.Name.size ≤ maxLen ∧ Sl S h Rep.str v1 x.Owners ∧ inI64 x.Cells ∧ Sl S h RGPlace v3 x.Places ∧ Sl S h RGLink v4 x.Links ∧ Sl S h RGTown v5 x.Towns ∧ Sl S h RGGauge v6 x.Gauges ∧ Sl S h RGRoad v7 x.Roads ∧ Sl S h RGShelter v8 x.Shelters ∧ Sl S h Rep.int v9 x.Room ∧ inI64 x.Err
  len := fun ⟨_, _, _, _, _, _, _, _, h, _⟩ => by rw [h]; rfl
  one := by
    rintro S h cs x ⟨v1, v3, v4, v5, v6, v7, v8, v9, rfl, k0, k1, k2, k3, k4, k5, k6, k7, k8, k9, k10⟩ v hv
    simp only [List.mem_cons, List.not_mem_nil, or_false] at hv
    rcases hv with rfl | rfl | rfl | rfl | rfl | rfl | rfl | rfl | rfl | rfl | rfl <;> first | rfl | exact Sl.one ‹_› | exact (‹_ ∧ _›).2 | (obtain ⟨_, _, rfl, _⟩ := Rd.fn ‹_›; rfl)
  mono := by
    rintro S S' h h' cs x ⟨v1, v3, v4, v5, v6, v7, v8, v9, rfl, k0, k1, k2, k3, k4, k5, k6, k7, k8, k9, k10⟩ s e
    exact ⟨v1, v3, v4, v5, v6, v7, v8, v9, rfl, k0, k1.mono s e, k2, k3.mono s e, k4.mono s e, k5.mono s e, k6.mono s e, k7.mono s e, k8.mono s e, k9.mono s e, k10⟩
theorem RGBasin.ex {S h v} {x : GBasin} (k : Rd S h RGBasin v x) : ∃ v1 v3 v4 v5 v6 v7 v8 v9 : Value, v = .agg #[.string x.Name, v1, .int .i64 x.Cells, v3, v4, v5, v6, v7, v8, v9, .int .i64 x.Err] ∧ x.Name.size ≤ maxLen ∧ Sl S h Rep.str v1 x.Owners ∧ inI64 x.Cells ∧ Sl S h RGPlace v3 x.Places ∧ Sl S h RGLink v4 x.Links ∧ Sl S h RGTown v5 x.Towns ∧ Sl S h RGGauge v6 x.Gauges ∧ Sl S h RGRoad v7 x.Roads ∧ Sl S h RGShelter v8 x.Shelters ∧ Sl S h Rep.int v9 x.Room ∧ inI64 x.Err := by obtain ⟨_, rfl, v1, v3, v4, v5, v6, v7, v8, v9, rfl, k⟩ := k; exact ⟨v1, v3, v4, v5, v6, v7, v8, v9, rfl, k⟩
theorem RGBasin.mk {S h} {x : GBasin} {v1 v3 v4 v5 v6 v7 v8 v9 : Value} (k0 : x.Name.size ≤ maxLen) (k1 : Sl S h Rep.str v1 x.Owners) (k2 : inI64 x.Cells) (k3 : Sl S h RGPlace v3 x.Places) (k4 : Sl S h RGLink v4 x.Links) (k5 : Sl S h RGTown v5 x.Towns) (k6 : Sl S h RGGauge v6 x.Gauges) (k7 : Sl S h RGRoad v7 x.Roads) (k8 : Sl S h RGShelter v8 x.Shelters) (k9 : Sl S h Rep.int v9 x.Room) (k10 : inI64 x.Err) : Rd S h RGBasin (.agg #[.string x.Name, v1, .int .i64 x.Cells, v3, v4, v5, v6, v7, v8, v9, .int .i64 x.Err]) x := ⟨_, rfl, v1, v3, v4, v5, v6, v7, v8, v9, rfl, k0, k1, k2, k3, k4, k5, k6, k7, k8, k9, k10⟩
theorem GBasin.f_Name : Fld RGBasin 0 Rep.str (·.Name) := by
  rintro S h cs x ⟨v1, v3, v4, v5, v6, v7, v8, v9, rfl, k0, k1, k2, k3, k4, k5, k6, k7, k8, k9, k10⟩
  exact ⟨rfl, k0⟩
theorem GBasin.f_Owners : Fld RGBasin 1 (Rep.sl Rep.str) (·.Owners) := by
  rintro S h cs x ⟨v1, v3, v4, v5, v6, v7, v8, v9, rfl, k0, k1, k2, k3, k4, k5, k6, k7, k8, k9, k10⟩
  exact ⟨_, rfl, k1⟩
theorem GBasin.f_Cells : Fld RGBasin 2 Rep.int (·.Cells) := by
  rintro S h cs x ⟨v1, v3, v4, v5, v6, v7, v8, v9, rfl, k0, k1, k2, k3, k4, k5, k6, k7, k8, k9, k10⟩
  exact ⟨rfl, k2⟩
theorem GBasin.f_Places : Fld RGBasin 3 (Rep.sl RGPlace) (·.Places) := by
  rintro S h cs x ⟨v1, v3, v4, v5, v6, v7, v8, v9, rfl, k0, k1, k2, k3, k4, k5, k6, k7, k8, k9, k10⟩
  exact ⟨_, rfl, k3⟩
theorem GBasin.f_Links : Fld RGBasin 4 (Rep.sl RGLink) (·.Links) := by
  rintro S h cs x ⟨v1, v3, v4, v5, v6, v7, v8, v9, rfl, k0, k1, k2, k3, k4, k5, k6, k7, k8, k9, k10⟩
  exact ⟨_, rfl, k4⟩
theorem GBasin.f_Towns : Fld RGBasin 5 (Rep.sl RGTown) (·.Towns) := by
  rintro S h cs x ⟨v1, v3, v4, v5, v6, v7, v8, v9, rfl, k0, k1, k2, k3, k4, k5, k6, k7, k8, k9, k10⟩
  exact ⟨_, rfl, k5⟩
theorem GBasin.f_Gauges : Fld RGBasin 6 (Rep.sl RGGauge) (·.Gauges) := by
  rintro S h cs x ⟨v1, v3, v4, v5, v6, v7, v8, v9, rfl, k0, k1, k2, k3, k4, k5, k6, k7, k8, k9, k10⟩
  exact ⟨_, rfl, k6⟩
theorem GBasin.f_Roads : Fld RGBasin 7 (Rep.sl RGRoad) (·.Roads) := by
  rintro S h cs x ⟨v1, v3, v4, v5, v6, v7, v8, v9, rfl, k0, k1, k2, k3, k4, k5, k6, k7, k8, k9, k10⟩
  exact ⟨_, rfl, k7⟩
theorem GBasin.f_Shelters : Fld RGBasin 8 (Rep.sl RGShelter) (·.Shelters) := by
  rintro S h cs x ⟨v1, v3, v4, v5, v6, v7, v8, v9, rfl, k0, k1, k2, k3, k4, k5, k6, k7, k8, k9, k10⟩
  exact ⟨_, rfl, k8⟩
theorem GBasin.f_Room : Fld RGBasin 9 (Rep.sl Rep.int) (·.Room) := by
  rintro S h cs x ⟨v1, v3, v4, v5, v6, v7, v8, v9, rfl, k0, k1, k2, k3, k4, k5, k6, k7, k8, k9, k10⟩
  exact ⟨_, rfl, k9⟩
theorem GBasin.f_Err : Fld RGBasin 10 Rep.int (·.Err) := by
  rintro S h cs x ⟨v1, v3, v4, v5, v6, v7, v8, v9, rfl, k0, k1, k2, k3, k4, k5, k6, k7, k8, k9, k10⟩
  exact ⟨rfl, k10⟩
theorem GBasin.u_Name : Upd RGBasin 0 Rep.str (fun x y => { x with Name := y }) := by
  refine ⟨by decide, ?_⟩
  rintro S h c x vs y ⟨w0, w1, w2, w3, w4, w5, w6, w7, rfl, k0, k1, k2, k3, k4, k5, k6, k7, k8, k9, k10⟩ ⟨rfl, j0⟩
  exact ⟨w0, w1, w2, w3, w4, w5, w6, w7, rfl, j0, k1, k2, k3, k4, k5, k6, k7, k8, k9, k10⟩
theorem GBasin.u_Owners : Upd RGBasin 1 (Rep.sl Rep.str) (fun x y => { x with Owners := y }) := by
  refine ⟨by decide, ?_⟩
  rintro S h c x vs y ⟨w0, w1, w2, w3, w4, w5, w6, w7, rfl, k0, k1, k2, k3, k4, k5, k6, k7, k8, k9, k10⟩ ⟨u1, rfl, j1⟩
  exact ⟨u1, w1, w2, w3, w4, w5, w6, w7, rfl, k0, j1, k2, k3, k4, k5, k6, k7, k8, k9, k10⟩
theorem GBasin.u_Cells : Upd RGBasin 2 Rep.int (fun x y => { x with Cells := y }) := by
  refine ⟨by decide, ?_⟩
  rintro S h c x vs y ⟨w0, w1, w2, w3, w4, w5, w6, w7, rfl, k0, k1, k2, k3, k4, k5, k6, k7, k8, k9, k10⟩ ⟨rfl, j2⟩
  exact ⟨w0, w1, w2, w3, w4, w5, w6, w7, rfl, k0, k1, j2, k3, k4, k5, k6, k7, k8, k9, k10⟩
theorem GBasin.u_Places : Upd RGBasin 3 (Rep.sl RGPlace) (fun x y => { x with Places := y }) := by
  refine ⟨by decide, ?_⟩
  rintro S h c x vs y ⟨w0, w1, w2, w3, w4, w5, w6, w7, rfl, k0, k1, k2, k3, k4, k5, k6, k7, k8, k9, k10⟩ ⟨u3, rfl, j3⟩
  exact ⟨w0, u3, w2, w3, w4, w5, w6, w7, rfl, k0, k1, k2, j3, k4, k5, k6, k7, k8, k9, k10⟩
theorem GBasin.u_Links : Upd RGBasin 4 (Rep.sl RGLink) (fun x y => { x with Links := y }) := by
  refine ⟨by decide, ?_⟩
  rintro S h c x vs y ⟨w0, w1, w2, w3, w4, w5, w6, w7, rfl, k0, k1, k2, k3, k4, k5, k6, k7, k8, k9, k10⟩ ⟨u4, rfl, j4⟩
  exact ⟨w0, w1, u4, w3, w4, w5, w6, w7, rfl, k0, k1, k2, k3, j4, k5, k6, k7, k8, k9, k10⟩
theorem GBasin.u_Towns : Upd RGBasin 5 (Rep.sl RGTown) (fun x y => { x with Towns := y }) := by
  refine ⟨by decide, ?_⟩
  rintro S h c x vs y ⟨w0, w1, w2, w3, w4, w5, w6, w7, rfl, k0, k1, k2, k3, k4, k5, k6, k7, k8, k9, k10⟩ ⟨u5, rfl, j5⟩
  exact ⟨w0, w1, w2, u5, w4, w5, w6, w7, rfl, k0, k1, k2, k3, k4, j5, k6, k7, k8, k9, k10⟩
theorem GBasin.u_Gauges : Upd RGBasin 6 (Rep.sl RGGauge) (fun x y => { x with Gauges := y }) := by
  refine ⟨by decide, ?_⟩
  rintro S h c x vs y ⟨w0, w1, w2, w3, w4, w5, w6, w7, rfl, k0, k1, k2, k3, k4, k5, k6, k7, k8, k9, k10⟩ ⟨u6, rfl, j6⟩
  exact ⟨w0, w1, w2, w3, u6, w5, w6, w7, rfl, k0, k1, k2, k3, k4, k5, j6, k7, k8, k9, k10⟩
theorem GBasin.u_Roads : Upd RGBasin 7 (Rep.sl RGRoad) (fun x y => { x with Roads := y }) := by
  refine ⟨by decide, ?_⟩
  rintro S h c x vs y ⟨w0, w1, w2, w3, w4, w5, w6, w7, rfl, k0, k1, k2, k3, k4, k5, k6, k7, k8, k9, k10⟩ ⟨u7, rfl, j7⟩
  exact ⟨w0, w1, w2, w3, w4, u7, w6, w7, rfl, k0, k1, k2, k3, k4, k5, k6, j7, k8, k9, k10⟩
theorem GBasin.u_Shelters : Upd RGBasin 8 (Rep.sl RGShelter) (fun x y => { x with Shelters := y }) := by
  refine ⟨by decide, ?_⟩
  rintro S h c x vs y ⟨w0, w1, w2, w3, w4, w5, w6, w7, rfl, k0, k1, k2, k3, k4, k5, k6, k7, k8, k9, k10⟩ ⟨u8, rfl, j8⟩
  exact ⟨w0, w1, w2, w3, w4, w5, u8, w7, rfl, k0, k1, k2, k3, k4, k5, k6, k7, j8, k9, k10⟩
theorem GBasin.u_Room : Upd RGBasin 9 (Rep.sl Rep.int) (fun x y => { x with Room := y }) := by
  refine ⟨by decide, ?_⟩
  rintro S h c x vs y ⟨w0, w1, w2, w3, w4, w5, w6, w7, rfl, k0, k1, k2, k3, k4, k5, k6, k7, k8, k9, k10⟩ ⟨u9, rfl, j9⟩
  exact ⟨w0, w1, w2, w3, w4, w5, w6, u9, rfl, k0, k1, k2, k3, k4, k5, k6, k7, k8, j9, k10⟩
theorem GBasin.u_Err : Upd RGBasin 10 Rep.int (fun x y => { x with Err := y }) := by
  refine ⟨by decide, ?_⟩
  rintro S h c x vs y ⟨w0, w1, w2, w3, w4, w5, w6, w7, rfl, k0, k1, k2, k3, k4, k5, k6, k7, k8, k9, k10⟩ ⟨rfl, j10⟩
  exact ⟨w0, w1, w2, w3, w4, w5, w6, w7, rfl, k0, k1, k2, k3, k4, k5, k6, k7, k8, k9, j10⟩

structure GSum where
  At : Int
  To : Int
  Vol : GSpan
instance : Inhabited GSum := ⟨⟨default, default, default⟩⟩
@[reducible] def GSum.v (x : GSum) : List Value := [.int .i64 x.At, .int .i64 x.To, .int .i64 x.Vol.Lo, .int .i64 x.Vol.Hi]
def GSum.ok (x : GSum) : Prop := inI64 x.At ∧ inI64 x.To ∧ inI64 x.Vol.Lo ∧ inI64 x.Vol.Hi
def RGSum : Rep GSum where
  sz := 4
  ag := true
  rd := fun _ _ cs x => cs = x.v ∧ x.ok
  len := fun ⟨h, _⟩ => by rw [h]; rfl
  one := fun {_ _ _ x} ⟨h, _⟩ v hv => by
    rw [h] at hv
    simp only [GSum.v, List.mem_cons, List.not_mem_nil, or_false] at hv
    rcases hv with rfl | rfl | rfl | rfl <;> rfl
  mono := fun h _ _ => h
theorem RGSum.ex {S h v} {x : GSum} (k : Rd S h RGSum v x) : v = .agg #[.int .i64 x.At, .int .i64 x.To, .int .i64 x.Vol.Lo, .int .i64 x.Vol.Hi] ∧ x.ok := by obtain ⟨_, rfl, rfl, h⟩ := k; exact ⟨rfl, h⟩
theorem RGSum.mk {S h} {x : GSum} (k : x.ok) : Rd S h RGSum (.agg #[.int .i64 x.At, .int .i64 x.To, .int .i64 x.Vol.Lo, .int .i64 x.Vol.Hi]) x := ⟨x.v, rfl, rfl, k⟩
theorem GSum.f_At : Fld RGSum 0 Rep.int (·.At) := by
  rintro S h cs x ⟨rfl, ⟨k0, k1, k2, k3⟩⟩
  exact ⟨rfl, k0⟩
theorem GSum.f_To : Fld RGSum 1 Rep.int (·.To) := by
  rintro S h cs x ⟨rfl, ⟨k0, k1, k2, k3⟩⟩
  exact ⟨rfl, k1⟩
theorem GSum.f_Vol : Fld RGSum 2 RGSpan (·.Vol) := by
  rintro S h cs x ⟨rfl, ⟨k0, k1, k2, k3⟩⟩
  exact ⟨rfl, ⟨k2, k3⟩⟩
theorem GSum.u_At : Upd RGSum 0 Rep.int (fun x y => { x with At := y }) := by
  refine ⟨by decide, ?_⟩
  rintro S h c x vs y ⟨rfl, ⟨k0, k1, k2, k3⟩⟩ ⟨rfl, j0⟩
  exact ⟨rfl, ⟨j0, k1, k2, k3⟩⟩
theorem GSum.u_To : Upd RGSum 1 Rep.int (fun x y => { x with To := y }) := by
  refine ⟨by decide, ?_⟩
  rintro S h c x vs y ⟨rfl, ⟨k0, k1, k2, k3⟩⟩ ⟨rfl, j1⟩
  exact ⟨rfl, ⟨k0, j1, k2, k3⟩⟩
theorem GSum.u_Vol : Upd RGSum 2 RGSpan (fun x y => { x with Vol := y }) := by
  refine ⟨by decide, ?_⟩
  rintro S h c x vs y ⟨rfl, ⟨k0, k1, k2, k3⟩⟩ ⟨rfl, ⟨j2, j3⟩⟩
  exact ⟨rfl, ⟨k0, k1, j2, j3⟩⟩

structure GKnown where
  Pos : GSpan
  Target : Int
  Open : GSpan
instance : Inhabited GKnown := ⟨⟨default, default, default⟩⟩
@[reducible] def GKnown.v (x : GKnown) : List Value := [.int .i64 x.Pos.Lo, .int .i64 x.Pos.Hi, .int .i64 x.Target, .int .i64 x.Open.Lo, .int .i64 x.Open.Hi]
def GKnown.ok (x : GKnown) : Prop := inI64 x.Pos.Lo ∧ inI64 x.Pos.Hi ∧ inI64 x.Target ∧ inI64 x.Open.Lo ∧ inI64 x.Open.Hi
def RGKnown : Rep GKnown where
  sz := 5
  ag := true
  rd := fun _ _ cs x => cs = x.v ∧ x.ok
  len := fun ⟨h, _⟩ => by rw [h]; rfl
  one := fun {_ _ _ x} ⟨h, _⟩ v hv => by
    rw [h] at hv
    simp only [GKnown.v, List.mem_cons, List.not_mem_nil, or_false] at hv
    rcases hv with rfl | rfl | rfl | rfl | rfl <;> rfl
  mono := fun h _ _ => h
theorem RGKnown.ex {S h v} {x : GKnown} (k : Rd S h RGKnown v x) : v = .agg #[.int .i64 x.Pos.Lo, .int .i64 x.Pos.Hi, .int .i64 x.Target, .int .i64 x.Open.Lo, .int .i64 x.Open.Hi] ∧ x.ok := by obtain ⟨_, rfl, rfl, h⟩ := k; exact ⟨rfl, h⟩
theorem RGKnown.mk {S h} {x : GKnown} (k : x.ok) : Rd S h RGKnown (.agg #[.int .i64 x.Pos.Lo, .int .i64 x.Pos.Hi, .int .i64 x.Target, .int .i64 x.Open.Lo, .int .i64 x.Open.Hi]) x := ⟨x.v, rfl, rfl, k⟩
theorem GKnown.f_Pos : Fld RGKnown 0 RGSpan (·.Pos) := by
  rintro S h cs x ⟨rfl, ⟨k0, k1, k2, k3, k4⟩⟩
  exact ⟨rfl, ⟨k0, k1⟩⟩
theorem GKnown.f_Target : Fld RGKnown 2 Rep.int (·.Target) := by
  rintro S h cs x ⟨rfl, ⟨k0, k1, k2, k3, k4⟩⟩
  exact ⟨rfl, k2⟩
theorem GKnown.f_Open : Fld RGKnown 3 RGSpan (·.Open) := by
  rintro S h cs x ⟨rfl, ⟨k0, k1, k2, k3, k4⟩⟩
  exact ⟨rfl, ⟨k3, k4⟩⟩
theorem GKnown.u_Pos : Upd RGKnown 0 RGSpan (fun x y => { x with Pos := y }) := by
  refine ⟨by decide, ?_⟩
  rintro S h c x vs y ⟨rfl, ⟨k0, k1, k2, k3, k4⟩⟩ ⟨rfl, ⟨j0, j1⟩⟩
  exact ⟨rfl, ⟨j0, j1, k2, k3, k4⟩⟩
theorem GKnown.u_Target : Upd RGKnown 2 Rep.int (fun x y => { x with Target := y }) := by
  refine ⟨by decide, ?_⟩
  rintro S h c x vs y ⟨rfl, ⟨k0, k1, k2, k3, k4⟩⟩ ⟨rfl, j2⟩
  exact ⟨rfl, ⟨k0, k1, j2, k3, k4⟩⟩
theorem GKnown.u_Open : Upd RGKnown 3 RGSpan (fun x y => { x with Open := y }) := by
  refine ⟨by decide, ?_⟩
  rintro S h c x vs y ⟨rfl, ⟨k0, k1, k2, k3, k4⟩⟩ ⟨rfl, ⟨j3, j4⟩⟩
  exact ⟨rfl, ⟨k0, k1, k2, j3, j4⟩⟩

structure GHull where
  Hour : Int
  Vol : (List GSpan)
  Queue : (List GSum)
  Links : (List GKnown)
instance : Inhabited GHull := ⟨⟨default, default, default, default⟩⟩
def RGHull : Rep GHull where
  sz := 4
  ag := true
  rd := fun S h cs x => ∃ v1 v2 v3 : Value, cs = [.int .i64 x.Hour, v1, v2, v3] ∧ inI64 x.Hour ∧ Sl S h RGSpan v1 x.Vol ∧ Sl S h RGSum v2 x.Queue ∧ Sl S h RGKnown v3 x.Links
  len := fun ⟨_, _, _, h, _⟩ => by rw [h]; rfl
  one := by
    rintro S h cs x ⟨v1, v2, v3, rfl, k0, k1, k2, k3⟩ v hv
    simp only [List.mem_cons, List.not_mem_nil, or_false] at hv
    rcases hv with rfl | rfl | rfl | rfl <;> first | rfl | exact Sl.one ‹_› | exact (‹_ ∧ _›).2 | (obtain ⟨_, _, rfl, _⟩ := Rd.fn ‹_›; rfl)
  mono := by
    rintro S S' h h' cs x ⟨v1, v2, v3, rfl, k0, k1, k2, k3⟩ s e
    exact ⟨v1, v2, v3, rfl, k0, k1.mono s e, k2.mono s e, k3.mono s e⟩
theorem RGHull.ex {S h v} {x : GHull} (k : Rd S h RGHull v x) : ∃ v1 v2 v3 : Value, v = .agg #[.int .i64 x.Hour, v1, v2, v3] ∧ inI64 x.Hour ∧ Sl S h RGSpan v1 x.Vol ∧ Sl S h RGSum v2 x.Queue ∧ Sl S h RGKnown v3 x.Links := by obtain ⟨_, rfl, v1, v2, v3, rfl, k⟩ := k; exact ⟨v1, v2, v3, rfl, k⟩
theorem RGHull.mk {S h} {x : GHull} {v1 v2 v3 : Value} (k0 : inI64 x.Hour) (k1 : Sl S h RGSpan v1 x.Vol) (k2 : Sl S h RGSum v2 x.Queue) (k3 : Sl S h RGKnown v3 x.Links) : Rd S h RGHull (.agg #[.int .i64 x.Hour, v1, v2, v3]) x := ⟨_, rfl, v1, v2, v3, rfl, k0, k1, k2, k3⟩
theorem GHull.f_Hour : Fld RGHull 0 Rep.int (·.Hour) := by
  rintro S h cs x ⟨v1, v2, v3, rfl, k0, k1, k2, k3⟩
  exact ⟨rfl, k0⟩
theorem GHull.f_Vol : Fld RGHull 1 (Rep.sl RGSpan) (·.Vol) := by
  rintro S h cs x ⟨v1, v2, v3, rfl, k0, k1, k2, k3⟩
  exact ⟨_, rfl, k1⟩
theorem GHull.f_Queue : Fld RGHull 2 (Rep.sl RGSum) (·.Queue) := by
  rintro S h cs x ⟨v1, v2, v3, rfl, k0, k1, k2, k3⟩
  exact ⟨_, rfl, k2⟩
theorem GHull.f_Links : Fld RGHull 3 (Rep.sl RGKnown) (·.Links) := by
  rintro S h cs x ⟨v1, v2, v3, rfl, k0, k1, k2, k3⟩
  exact ⟨_, rfl, k3⟩
theorem GHull.u_Hour : Upd RGHull 0 Rep.int (fun x y => { x with Hour := y }) := by
  refine ⟨by decide, ?_⟩
  rintro S h c x vs y ⟨w0, w1, w2, rfl, k0, k1, k2, k3⟩ ⟨rfl, j0⟩
  exact ⟨w0, w1, w2, rfl, j0, k1, k2, k3⟩
theorem GHull.u_Vol : Upd RGHull 1 (Rep.sl RGSpan) (fun x y => { x with Vol := y }) := by
  refine ⟨by decide, ?_⟩
  rintro S h c x vs y ⟨w0, w1, w2, rfl, k0, k1, k2, k3⟩ ⟨u1, rfl, j1⟩
  exact ⟨u1, w1, w2, rfl, k0, j1, k2, k3⟩
theorem GHull.u_Queue : Upd RGHull 2 (Rep.sl RGSum) (fun x y => { x with Queue := y }) := by
  refine ⟨by decide, ?_⟩
  rintro S h c x vs y ⟨w0, w1, w2, rfl, k0, k1, k2, k3⟩ ⟨u2, rfl, j2⟩
  exact ⟨w0, u2, w2, rfl, k0, k1, j2, k3⟩
theorem GHull.u_Links : Upd RGHull 3 (Rep.sl RGKnown) (fun x y => { x with Links := y }) := by
  refine ⟨by decide, ?_⟩
  rintro S h c x vs y ⟨w0, w1, w2, rfl, k0, k1, k2, k3⟩ ⟨u3, rfl, j3⟩
  exact ⟨w0, w1, u3, rfl, k0, k1, k2, j3⟩

structure GHarm where
  Flood : Int
  Spill : Int
  Short : Int
  Moves : Int
instance : Inhabited GHarm := ⟨⟨default, default, default, default⟩⟩
@[reducible] def GHarm.v (x : GHarm) : List Value := [.int .i64 x.Flood, .int .i64 x.Spill, .int .i64 x.Short, .int .i64 x.Moves]
def GHarm.ok (x : GHarm) : Prop := inI64 x.Flood ∧ inI64 x.Spill ∧ inI64 x.Short ∧ inI64 x.Moves
def RGHarm : Rep GHarm where
  sz := 4
  ag := true
  rd := fun _ _ cs x => cs = x.v ∧ x.ok
  len := fun ⟨h, _⟩ => by rw [h]; rfl
  one := fun {_ _ _ x} ⟨h, _⟩ v hv => by
    rw [h] at hv
    simp only [GHarm.v, List.mem_cons, List.not_mem_nil, or_false] at hv
    rcases hv with rfl | rfl | rfl | rfl <;> rfl
  mono := fun h _ _ => h
theorem RGHarm.ex {S h v} {x : GHarm} (k : Rd S h RGHarm v x) : v = .agg #[.int .i64 x.Flood, .int .i64 x.Spill, .int .i64 x.Short, .int .i64 x.Moves] ∧ x.ok := by obtain ⟨_, rfl, rfl, h⟩ := k; exact ⟨rfl, h⟩
theorem RGHarm.mk {S h} {x : GHarm} (k : x.ok) : Rd S h RGHarm (.agg #[.int .i64 x.Flood, .int .i64 x.Spill, .int .i64 x.Short, .int .i64 x.Moves]) x := ⟨x.v, rfl, rfl, k⟩
theorem GHarm.f_Flood : Fld RGHarm 0 Rep.int (·.Flood) := by
  rintro S h cs x ⟨rfl, ⟨k0, k1, k2, k3⟩⟩
  exact ⟨rfl, k0⟩
theorem GHarm.f_Spill : Fld RGHarm 1 Rep.int (·.Spill) := by
  rintro S h cs x ⟨rfl, ⟨k0, k1, k2, k3⟩⟩
  exact ⟨rfl, k1⟩
theorem GHarm.f_Short : Fld RGHarm 2 Rep.int (·.Short) := by
  rintro S h cs x ⟨rfl, ⟨k0, k1, k2, k3⟩⟩
  exact ⟨rfl, k2⟩
theorem GHarm.f_Moves : Fld RGHarm 3 Rep.int (·.Moves) := by
  rintro S h cs x ⟨rfl, ⟨k0, k1, k2, k3⟩⟩
  exact ⟨rfl, k3⟩
theorem GHarm.u_Flood : Upd RGHarm 0 Rep.int (fun x y => { x with Flood := y }) := by
  refine ⟨by decide, ?_⟩
  rintro S h c x vs y ⟨rfl, ⟨k0, k1, k2, k3⟩⟩ ⟨rfl, j0⟩
  exact ⟨rfl, ⟨j0, k1, k2, k3⟩⟩
theorem GHarm.u_Spill : Upd RGHarm 1 Rep.int (fun x y => { x with Spill := y }) := by
  refine ⟨by decide, ?_⟩
  rintro S h c x vs y ⟨rfl, ⟨k0, k1, k2, k3⟩⟩ ⟨rfl, j1⟩
  exact ⟨rfl, ⟨k0, j1, k2, k3⟩⟩
theorem GHarm.u_Short : Upd RGHarm 2 Rep.int (fun x y => { x with Short := y }) := by
  refine ⟨by decide, ?_⟩
  rintro S h c x vs y ⟨rfl, ⟨k0, k1, k2, k3⟩⟩ ⟨rfl, j2⟩
  exact ⟨rfl, ⟨k0, k1, j2, k3⟩⟩
theorem GHarm.u_Moves : Upd RGHarm 3 Rep.int (fun x y => { x with Moves := y }) := by
  refine ⟨by decide, ?_⟩
  rintro S h c x vs y ⟨rfl, ⟨k0, k1, k2, k3⟩⟩ ⟨rfl, j3⟩
  exact ⟨rfl, ⟨k0, k1, k2, j3⟩⟩
end Go.Proofs.Ytkbooafdccnkeaa
