/- The program's structs as structures. By program. -/
import Derived.Test.YtibidnaedddfdaaCore14
namespace Go.Proofs.Ytibidnaedddfdaa
open Go.RowKit
set_option linter.unusedVariables false

structure GTown where
  Name : ByteArray
  Place : Int
  Flood : Int
  Lead : Int
  People : Int
  Watch : Int
  Quorum : Int
instance : Inhabited GTown := ⟨⟨default, default, default, default, default, default, default⟩⟩
@[reducible] def GTown.v (x : GTown) : List Go.Value := [.string x.Name, .int .i64 x.Place, .int .i64 x.Flood, .int .i64 x.Lead, .int .i64 x.People, .int .i64 x.Watch, .int .i64 x.Quorum]
def GTown.ok (x : GTown) : Prop := x.Name.size ≤ maxLen ∧ inI64 x.Place ∧ inI64 x.Flood ∧ inI64 x.Lead ∧ inI64 x.People ∧ inI64 x.Watch ∧ inI64 x.Quorum
def RGTown : Rep GTown where
  sz := 7
  ag := true
  rd := fun _ _ cs x => cs = x.v ∧ x.ok
  len := fun ⟨h, _⟩ => by rw [h]; rfl
  one := fun {_ _ _ x} ⟨h, _⟩ v hv => by
    rw [h] at hv
    simp only [GTown.v, List.mem_cons, List.not_mem_nil, or_false] at hv
    rcases hv with rfl | rfl | rfl | rfl | rfl | rfl | rfl <;> rfl
  mono := fun h _ _ => h
theorem RGTown.ex {S h v} {x : GTown} (k : Rd S h RGTown v x) : v = .agg #[.string x.Name, .int .i64 x.Place, .int .i64 x.Flood, .int .i64 x.Lead, .int .i64 x.People, .int .i64 x.Watch, .int .i64 x.Quorum] ∧ x.ok := by obtain ⟨_, rfl, rfl, h⟩ := k; exact ⟨rfl, h⟩
theorem RGTown.mk {S h} {x : GTown} (k : x.ok) : Rd S h RGTown (.agg #[.string x.Name, .int .i64 x.Place, .int .i64 x.Flood, .int .i64 x.Lead, .int .i64 x.People, .int .i64 x.Watch, .int .i64 x.Quorum]) x := ⟨x.v, rfl, rfl, k⟩
theorem GTown.f_Name : Fld RGTown 0 Rep.str (·.Name) := by
  rintro S h cs x ⟨rfl, ⟨k0, k1, k2, k3, k4, k5, k6⟩⟩
  exact ⟨rfl, k0⟩
theorem GTown.f_Place : Fld RGTown 1 Rep.int (·.Place) := by
  rintro S h cs x ⟨rfl, ⟨k0, k1, k2, k3, k4, k5, k6⟩⟩
  exact ⟨rfl, k1⟩
theorem GTown.f_Flood : Fld RGTown 2 Rep.int (·.Flood) := by
  rintro S h cs x ⟨rfl, ⟨k0, k1, k2, k3, k4, k5, k6⟩⟩
  exact ⟨rfl, k2⟩
theorem GTown.f_Lead : Fld RGTown 3 Rep.int (·.Lead) := by
  rintro S h cs x ⟨rfl, ⟨k0, k1, k2, k3, k4, k5, k6⟩⟩
  exact ⟨rfl, k3⟩
theorem GTown.f_People : Fld RGTown 4 Rep.int (·.People) := by
  rintro S h cs x ⟨rfl, ⟨k0, k1, k2, k3, k4, k5, k6⟩⟩
  exact ⟨rfl, k4⟩
theorem GTown.f_Watch : Fld RGTown 5 Rep.int (·.Watch) := by
  rintro S h cs x ⟨rfl, ⟨k0, k1, k2, k3, k4, k5, k6⟩⟩
  exact ⟨rfl, k5⟩
theorem GTown.f_Quorum : Fld RGTown 6 Rep.int (·.Quorum) := by
  rintro S h cs x ⟨rfl, ⟨k0, k1, k2, k3, k4, k5, k6⟩⟩
  exact ⟨rfl, k6⟩
theorem GTown.u_Name : Upd RGTown 0 Rep.str (fun x y => { x with Name := y }) := by
  refine ⟨by decide, ?_⟩
  rintro S h c x vs y ⟨rfl, ⟨k0, k1, k2, k3, k4, k5, k6⟩⟩ ⟨rfl, j0⟩
  exact ⟨rfl, ⟨j0, k1, k2, k3, k4, k5, k6⟩⟩
theorem GTown.u_Place : Upd RGTown 1 Rep.int (fun x y => { x with Place := y }) := by
  refine ⟨by decide, ?_⟩
  rintro S h c x vs y ⟨rfl, ⟨k0, k1, k2, k3, k4, k5, k6⟩⟩ ⟨rfl, j1⟩
  exact ⟨rfl, ⟨k0, j1, k2, k3, k4, k5, k6⟩⟩
theorem GTown.u_Flood : Upd RGTown 2 Rep.int (fun x y => { x with Flood := y }) := by
  refine ⟨by decide, ?_⟩
  rintro S h c x vs y ⟨rfl, ⟨k0, k1, k2, k3, k4, k5, k6⟩⟩ ⟨rfl, j2⟩
  exact ⟨rfl, ⟨k0, k1, j2, k3, k4, k5, k6⟩⟩
theorem GTown.u_Lead : Upd RGTown 3 Rep.int (fun x y => { x with Lead := y }) := by
  refine ⟨by decide, ?_⟩
  rintro S h c x vs y ⟨rfl, ⟨k0, k1, k2, k3, k4, k5, k6⟩⟩ ⟨rfl, j3⟩
  exact ⟨rfl, ⟨k0, k1, k2, j3, k4, k5, k6⟩⟩
theorem GTown.u_People : Upd RGTown 4 Rep.int (fun x y => { x with People := y }) := by
  refine ⟨by decide, ?_⟩
  rintro S h c x vs y ⟨rfl, ⟨k0, k1, k2, k3, k4, k5, k6⟩⟩ ⟨rfl, j4⟩
  exact ⟨rfl, ⟨k0, k1, k2, k3, j4, k5, k6⟩⟩
theorem GTown.u_Watch : Upd RGTown 5 Rep.int (fun x y => { x with Watch := y }) := by
  refine ⟨by decide, ?_⟩
  rintro S h c x vs y ⟨rfl, ⟨k0, k1, k2, k3, k4, k5, k6⟩⟩ ⟨rfl, j5⟩
  exact ⟨rfl, ⟨k0, k1, k2, k3, k4, j5, k6⟩⟩
theorem GTown.u_Quorum : Upd RGTown 6 Rep.int (fun x y => { x with Quorum := y }) := by
  refine ⟨by decide, ?_⟩
  rintro S h c x vs y ⟨rfl, ⟨k0, k1, k2, k3, k4, k5, k6⟩⟩ ⟨rfl, j6⟩
  exact ⟨rfl, ⟨k0, k1, k2, k3, k4, k5, j6⟩⟩

structure GSight where
  Crest : Int
  Quorum : Bool
instance : Inhabited GSight := ⟨⟨default, default⟩⟩
@[reducible] def GSight.v (x : GSight) : List Go.Value := [.int .i64 x.Crest, .bool x.Quorum]
def GSight.ok (x : GSight) : Prop := inI64 x.Crest
def RGSight : Rep GSight where
  sz := 2
  ag := true
  rd := fun _ _ cs x => cs = x.v ∧ x.ok
  len := fun ⟨h, _⟩ => by rw [h]; rfl
  one := fun {_ _ _ x} ⟨h, _⟩ v hv => by
    rw [h] at hv
    simp only [GSight.v, List.mem_cons, List.not_mem_nil, or_false] at hv
    rcases hv with rfl | rfl <;> rfl
  mono := fun h _ _ => h
theorem RGSight.ex {S h v} {x : GSight} (k : Rd S h RGSight v x) : v = .agg #[.int .i64 x.Crest, .bool x.Quorum] ∧ x.ok := by obtain ⟨_, rfl, rfl, h⟩ := k; exact ⟨rfl, h⟩
theorem RGSight.mk {S h} {x : GSight} (k : x.ok) : Rd S h RGSight (.agg #[.int .i64 x.Crest, .bool x.Quorum]) x := ⟨x.v, rfl, rfl, k⟩
theorem GSight.f_Crest : Fld RGSight 0 Rep.int (·.Crest) := by
  rintro S h cs x ⟨rfl, k0⟩
  exact ⟨rfl, k0⟩
theorem GSight.f_Quorum : Fld RGSight 1 Rep.bool (·.Quorum) := by
  rintro S h cs x ⟨rfl, k0⟩
  exact rfl
theorem GSight.u_Crest : Upd RGSight 0 Rep.int (fun x y => { x with Crest := y }) := by
  refine ⟨by decide, ?_⟩
  rintro S h c x vs y ⟨rfl, k0⟩ ⟨rfl, j0⟩
  exact ⟨rfl, j0⟩
theorem GSight.u_Quorum : Upd RGSight 1 Rep.bool (fun x y => { x with Quorum := y }) := by
  refine ⟨by decide, ?_⟩
  rintro S h c x vs y ⟨rfl, k0⟩ rfl
  exact ⟨rfl, k0⟩

structure GAlarm where
  Level : Int
  Calm : Int
  Then : Int
instance : Inhabited GAlarm := ⟨⟨default, default, default⟩⟩
@[reducible] def GAlarm.v (x : GAlarm) : List Go.Value := [.int .i64 x.Level, .int .i64 x.Calm, .int .i64 x.Then]
def GAlarm.ok (x : GAlarm) : Prop := inI64 x.Level ∧ inI64 x.Calm ∧ inI64 x.Then
def RGAlarm : Rep GAlarm where
  sz := 3
  ag := true
  rd := fun _ _ cs x => cs = x.v ∧ x.ok
  len := fun ⟨h, _⟩ => by rw [h]; rfl
  one := fun {_ _ _ x} ⟨h, _⟩ v hv => by
    rw [h] at hv
    simp only [GAlarm.v, List.mem_cons, List.not_mem_nil, or_false] at hv
    rcases hv with rfl | rfl | rfl <;> rfl
  mono := fun h _ _ => h
theorem RGAlarm.ex {S h v} {x : GAlarm} (k : Rd S h RGAlarm v x) : v = .agg #[.int .i64 x.Level, .int .i64 x.Calm, .int .i64 x.Then] ∧ x.ok := by obtain ⟨_, rfl, rfl, h⟩ := k; exact ⟨rfl, h⟩
theorem RGAlarm.mk {S h} {x : GAlarm} (k : x.ok) : Rd S h RGAlarm (.agg #[.int .i64 x.Level, .int .i64 x.Calm, .int .i64 x.Then]) x := ⟨x.v, rfl, rfl, k⟩
theorem GAlarm.f_Level : Fld RGAlarm 0 Rep.int (·.Level) := by
  rintro S h cs x ⟨rfl, ⟨k0, k1, k2⟩⟩
  exact ⟨rfl, k0⟩
theorem GAlarm.f_Calm : Fld RGAlarm 1 Rep.int (·.Calm) := by
  rintro S h cs x ⟨rfl, ⟨k0, k1, k2⟩⟩
  exact ⟨rfl, k1⟩
theorem GAlarm.f_Then : Fld RGAlarm 2 Rep.int (·.Then) := by
  rintro S h cs x ⟨rfl, ⟨k0, k1, k2⟩⟩
  exact ⟨rfl, k2⟩
theorem GAlarm.u_Level : Upd RGAlarm 0 Rep.int (fun x y => { x with Level := y }) := by
  refine ⟨by decide, ?_⟩
  rintro S h c x vs y ⟨rfl, ⟨k0, k1, k2⟩⟩ ⟨rfl, j0⟩
  exact ⟨rfl, ⟨j0, k1, k2⟩⟩
theorem GAlarm.u_Calm : Upd RGAlarm 1 Rep.int (fun x y => { x with Calm := y }) := by
  refine ⟨by decide, ?_⟩
  rintro S h c x vs y ⟨rfl, ⟨k0, k1, k2⟩⟩ ⟨rfl, j1⟩
  exact ⟨rfl, ⟨k0, j1, k2⟩⟩
theorem GAlarm.u_Then : Upd RGAlarm 2 Rep.int (fun x y => { x with Then := y }) := by
  refine ⟨by decide, ?_⟩
  rintro S h c x vs y ⟨rfl, ⟨k0, k1, k2⟩⟩ ⟨rfl, j2⟩
  exact ⟨rfl, ⟨k0, k1, j2⟩⟩

structure GPoint where
  X : Int
  Y : Int
instance : Inhabited GPoint := ⟨⟨default, default⟩⟩
@[reducible] def GPoint.v (x : GPoint) : List Go.Value := [.int .i64 x.X, .int .i64 x.Y]
def GPoint.ok (x : GPoint) : Prop := inI64 x.X ∧ inI64 x.Y
def RGPoint : Rep GPoint where
  sz := 2
  ag := true
  rd := fun _ _ cs x => cs = x.v ∧ x.ok
  len := fun ⟨h, _⟩ => by rw [h]; rfl
  one := fun {_ _ _ x} ⟨h, _⟩ v hv => by
    rw [h] at hv
    simp only [GPoint.v, List.mem_cons, List.not_mem_nil, or_false] at hv
    rcases hv with rfl | rfl <;> rfl
  mono := fun h _ _ => h
theorem RGPoint.ex {S h v} {x : GPoint} (k : Rd S h RGPoint v x) : v = .agg #[.int .i64 x.X, .int .i64 x.Y] ∧ x.ok := by obtain ⟨_, rfl, rfl, h⟩ := k; exact ⟨rfl, h⟩
theorem RGPoint.mk {S h} {x : GPoint} (k : x.ok) : Rd S h RGPoint (.agg #[.int .i64 x.X, .int .i64 x.Y]) x := ⟨x.v, rfl, rfl, k⟩
theorem GPoint.f_X : Fld RGPoint 0 Rep.int (·.X) := by
  rintro S h cs x ⟨rfl, ⟨k0, k1⟩⟩
  exact ⟨rfl, k0⟩
theorem GPoint.f_Y : Fld RGPoint 1 Rep.int (·.Y) := by
  rintro S h cs x ⟨rfl, ⟨k0, k1⟩⟩
  exact ⟨rfl, k1⟩
theorem GPoint.u_X : Upd RGPoint 0 Rep.int (fun x y => { x with X := y }) := by
  refine ⟨by decide, ?_⟩
  rintro S h c x vs y ⟨rfl, ⟨k0, k1⟩⟩ ⟨rfl, j0⟩
  exact ⟨rfl, ⟨j0, k1⟩⟩
theorem GPoint.u_Y : Upd RGPoint 1 Rep.int (fun x y => { x with Y := y }) := by
  refine ⟨by decide, ?_⟩
  rintro S h c x vs y ⟨rfl, ⟨k0, k1⟩⟩ ⟨rfl, j1⟩
  exact ⟨rfl, ⟨k0, j1⟩⟩

structure GCell where
  Index : Int
  Area : Int
instance : Inhabited GCell := ⟨⟨default, default⟩⟩
@[reducible] def GCell.v (x : GCell) : List Go.Value := [.int .i64 x.Index, .int .i64 x.Area]
def GCell.ok (x : GCell) : Prop := inI64 x.Index ∧ inI64 x.Area
def RGCell : Rep GCell where
  sz := 2
  ag := true
  rd := fun _ _ cs x => cs = x.v ∧ x.ok
  len := fun ⟨h, _⟩ => by rw [h]; rfl
  one := fun {_ _ _ x} ⟨h, _⟩ v hv => by
    rw [h] at hv
    simp only [GCell.v, List.mem_cons, List.not_mem_nil, or_false] at hv
    rcases hv with rfl | rfl <;> rfl
  mono := fun h _ _ => h
theorem RGCell.ex {S h v} {x : GCell} (k : Rd S h RGCell v x) : v = .agg #[.int .i64 x.Index, .int .i64 x.Area] ∧ x.ok := by obtain ⟨_, rfl, rfl, h⟩ := k; exact ⟨rfl, h⟩
theorem RGCell.mk {S h} {x : GCell} (k : x.ok) : Rd S h RGCell (.agg #[.int .i64 x.Index, .int .i64 x.Area]) x := ⟨x.v, rfl, rfl, k⟩
theorem GCell.f_Index : Fld RGCell 0 Rep.int (·.Index) := by
  rintro S h cs x ⟨rfl, ⟨k0, k1⟩⟩
  exact ⟨rfl, k0⟩
theorem GCell.f_Area : Fld RGCell 1 Rep.int (·.Area) := by
  rintro S h cs x ⟨rfl, ⟨k0, k1⟩⟩
  exact ⟨rfl, k1⟩
theorem GCell.u_Index : Upd RGCell 0 Rep.int (fun x y => { x with Index := y }) := by
  refine ⟨by decide, ?_⟩
  rintro S h c x vs y ⟨rfl, ⟨k0, k1⟩⟩ ⟨rfl, j0⟩
  exact ⟨rfl, ⟨j0, k1⟩⟩
theorem GCell.u_Area : Upd RGCell 1 Rep.int (fun x y => { x with Area := y }) := by
  refine ⟨by decide, ?_⟩
  rintro S h c x vs y ⟨rfl, ⟨k0, k1⟩⟩ ⟨rfl, j1⟩
  exact ⟨rfl, ⟨k0, j1⟩⟩

structure GPlace where
  Name : ByteArray
  Kind : Int
  Office : Int
  Cap : Int
  Level : (List GPoint)
  Start : (List Int)
  Num : Int
  Den : Int
  Down : Int
  Delay : Int
  Floor : Int
  Rain : (List GCell)
instance : Inhabited GPlace := ⟨⟨default, default, default, default, default, default, default, default, default, default, default, default⟩⟩
def RGPlace : Rep GPlace where
  sz := 12
  ag := true
  rd := fun S h cs x => ∃ v4 v5 v11 : Value, cs = [.string x.Name, .int .i64 x.Kind, .int .i64 x.Office, .int .i64 x.Cap, v4, v5, .int .i64 x.Num, .int .i64 x.Den, .int .i64 x.Down, .int .i64 x.Delay, .int .i64 x.Floor, v11] ∧ x.Name.size ≤ maxLen ∧ inI64 x.Kind ∧ inI64 x.Office ∧ inI64 x.Cap ∧ Sl S h RGPoint v4 x.Level ∧ Sl S h Rep.int v5 x.Start ∧ inI64 x.Num ∧ inI64 x.Den ∧ inI64 x.Down ∧ inI64 x.Delay ∧ inI64 x.Floor ∧ Sl S h RGCell v11 x.Rain
  len := fun ⟨_, _, _, h, _⟩ => by rw [h]; rfl
  one := by
    rintro S h cs x ⟨v4, v5, v11, rfl, k0, k1, k2, k3, k4, k5, k6, k7, k8, k9, k10, k11⟩ v hv
    simp only [List.mem_cons, List.not_mem_nil, or_false] at hv
    rcases hv with rfl | rfl | rfl | rfl | rfl | rfl | rfl | rfl | rfl | rfl | rfl | rfl <;> first | rfl | exact Sl.one ‹_› | exact (‹_ ∧ _›).2 | (obtain ⟨_, _, rfl, _⟩ := Rd.fn ‹_›; rfl)
  mono := by
    rintro S S' h h' cs x ⟨v4, v5, v11, rfl, k0, k1, k2, k3, k4, k5, k6, k7, k8, k9, k10, k11⟩ s e
    exact ⟨v4, v5, v11, rfl, k0, k1, k2, k3, k4.mono s e, k5.mono s e, k6, k7, k8, k9, k10, k11.mono s e⟩
theorem RGPlace.ex {S h v} {x : GPlace} (k : Rd S h RGPlace v x) : ∃ v4 v5 v11 : Value, v = .agg #[.string x.Name, .int .i64 x.Kind, .int .i64 x.Office, .int .i64 x.Cap, v4, v5, .int .i64 x.Num, .int .i64 x.Den, .int .i64 x.Down, .int .i64 x.Delay, .int .i64 x.Floor, v11] ∧ x.Name.size ≤ maxLen ∧ inI64 x.Kind ∧ inI64 x.Office ∧ inI64 x.Cap ∧ Sl S h RGPoint v4 x.Level ∧ Sl S h Rep.int v5 x.Start ∧ inI64 x.Num ∧ inI64 x.Den ∧ inI64 x.Down ∧ inI64 x.Delay ∧ inI64 x.Floor ∧ Sl S h RGCell v11 x.Rain := by obtain ⟨_, rfl, v4, v5, v11, rfl, k⟩ := k; exact ⟨v4, v5, v11, rfl, k⟩
theorem RGPlace.mk {S h} {x : GPlace} {v4 v5 v11 : Value} (k0 : x.Name.size ≤ maxLen) (k1 : inI64 x.Kind) (k2 : inI64 x.Office) (k3 : inI64 x.Cap) (k4 : Sl S h RGPoint v4 x.Level) (k5 : Sl S h Rep.int v5 x.Start) (k6 : inI64 x.Num) (k7 : inI64 x.Den) (k8 : inI64 x.Down) (k9 : inI64 x.Delay) (k10 : inI64 x.Floor) (k11 : Sl S h RGCell v11 x.Rain) : Rd S h RGPlace (.agg #[.string x.Name, .int .i64 x.Kind, .int .i64 x.Office, .int .i64 x.Cap, v4, v5, .int .i64 x.Num, .int .i64 x.Den, .int .i64 x.Down, .int .i64 x.Delay, .int .i64 x.Floor, v11]) x := ⟨_, rfl, v4, v5, v11, rfl, k0, k1, k2, k3, k4, k5, k6, k7, k8, k9, k10, k11⟩
theorem GPlace.f_Name : Fld RGPlace 0 Rep.str (·.Name) := by
  rintro S h cs x ⟨v4, v5, v11, rfl, k0, k1, k2, k3, k4, k5, k6, k7, k8, k9, k10, k11⟩
  exact ⟨rfl, k0⟩
theorem GPlace.f_Kind : Fld RGPlace 1 Rep.int (·.Kind) := by
  rintro S h cs x ⟨v4, v5, v11, rfl, k0, k1, k2, k3, k4, k5, k6, k7, k8, k9, k10, k11⟩
  exact ⟨rfl, k1⟩
theorem GPlace.f_Office : Fld RGPlace 2 Rep.int (·.Office) := by
  rintro S h cs x ⟨v4, v5, v11, rfl, k0, k1, k2, k3, k4, k5, k6, k7, k8, k9, k10, k11⟩
  exact ⟨rfl, k2⟩
theorem GPlace.f_Cap : Fld RGPlace 3 Rep.int (·.Cap) := by
  rintro S h cs x ⟨v4, v5, v11, rfl, k0, k1, k2, k3, k4, k5, k6, k7, k8, k9, k10, k11⟩
  exact ⟨rfl, k3⟩
theorem GPlace.f_Level : Fld RGPlace 4 (Rep.sl RGPoint) (·.Level) := by
  rintro S h cs x ⟨v4, v5, v11, rfl, k0, k1, k2, k3, k4, k5, k6, k7, k8, k9, k10, k11⟩
  exact ⟨_, rfl, k4⟩
theorem GPlace.f_Start : Fld RGPlace 5 (Rep.sl Rep.int) (·.Start) := by
  rintro S h cs x ⟨v4, v5, v11, rfl, k0, k1, k2, k3, k4, k5, k6, k7, k8, k9, k10, k11⟩
  exact ⟨_, rfl, k5⟩
theorem GPlace.f_Num : Fld RGPlace 6 Rep.int (·.Num) := by
  rintro S h cs x ⟨v4, v5, v11, rfl, k0, k1, k2, k3, k4, k5, k6, k7, k8, k9, k10, k11⟩
  exact ⟨rfl, k6⟩
theorem GPlace.f_Den : Fld RGPlace 7 Rep.int (·.Den) := by
  rintro S h cs x ⟨v4, v5, v11, rfl, k0, k1, k2, k3, k4, k5, k6, k7, k8, k9, k10, k11⟩
  exact ⟨rfl, k7⟩
theorem GPlace.f_Down : Fld RGPlace 8 Rep.int (·.Down) := by
  rintro S h cs x ⟨v4, v5, v11, rfl, k0, k1, k2, k3, k4, k5, k6, k7, k8, k9, k10, k11⟩
  exact ⟨rfl, k8⟩
theorem GPlace.f_Delay : Fld RGPlace 9 Rep.int (·.Delay) := by
  rintro S h cs x ⟨v4, v5, v11, rfl, k0, k1, k2, k3, k4, k5, k6, k7, k8, k9, k10, k11⟩
  exact ⟨rfl, k9⟩
theorem GPlace.f_Floor : Fld RGPlace 10 Rep.int (·.Floor) := by
  rintro S h cs x ⟨v4, v5, v11, rfl, k0, k1, k2, k3, k4, k5, k6, k7, k8, k9, k10, k11⟩
  exact ⟨rfl, k10⟩
theorem GPlace.f_Rain : Fld RGPlace 11 (Rep.sl RGCell) (·.Rain) := by
  rintro S h cs x ⟨v4, v5, v11, rfl, k0, k1, k2, k3, k4, k5, k6, k7, k8, k9, k10, k11⟩
  exact ⟨_, rfl, k11⟩
theorem GPlace.u_Name : Upd RGPlace 0 Rep.str (fun x y => { x with Name := y }) := by
  refine ⟨by decide, ?_⟩
  rintro S h c x vs y ⟨w0, w1, w2, rfl, k0, k1, k2, k3, k4, k5, k6, k7, k8, k9, k10, k11⟩ ⟨rfl, j0⟩
  exact ⟨w0, w1, w2, rfl, j0, k1, k2, k3, k4, k5, k6, k7, k8, k9, k10, k11⟩
theorem GPlace.u_Kind : Upd RGPlace 1 Rep.int (fun x y => { x with Kind := y }) := by
  refine ⟨by decide, ?_⟩
  rintro S h c x vs y ⟨w0, w1, w2, rfl, k0, k1, k2, k3, k4, k5, k6, k7, k8, k9, k10, k11⟩ ⟨rfl, j1⟩
  exact ⟨w0, w1, w2, rfl, k0, j1, k2, k3, k4, k5, k6, k7, k8, k9, k10, k11⟩
theorem GPlace.u_Office : Upd RGPlace 2 Rep.int (fun x y => { x with Office := y }) := by
  refine ⟨by decide, ?_⟩
  rintro S h c x vs y ⟨w0, w1, w2, rfl, k0, k1, k2, k3, k4, k5, k6, k7, k8, k9, k10, k11⟩ ⟨rfl, j2⟩
  exact ⟨w0, w1, w2, rfl, k0, k1, j2, k3, k4, k5, k6, k7, k8, k9, k10, k11⟩
theorem GPlace.u_Cap : Upd RGPlace 3 Rep.int (fun x y => { x with Cap := y }) := by
  refine ⟨by decide, ?_⟩
  rintro S h c x vs y ⟨w0, w1, w2, rfl, k0, k1, k2, k3, k4, k5, k6, k7, k8, k9, k10, k11⟩ ⟨rfl, j3⟩
  exact ⟨w0, w1, w2, rfl, k0, k1, k2, j3, k4, k5, k6, k7, k8, k9, k10, k11⟩
theorem GPlace.u_Level : Upd RGPlace 4 (Rep.sl RGPoint) (fun x y => { x with Level := y }) := by
  refine ⟨by decide, ?_⟩
  rintro S h c x vs y ⟨w0, w1, w2, rfl, k0, k1, k2, k3, k4, k5, k6, k7, k8, k9, k10, k11⟩ ⟨u4, rfl, j4⟩
  exact ⟨u4, w1, w2, rfl, k0, k1, k2, k3, j4, k5, k6, k7, k8, k9, k10, k11⟩
theorem GPlace.u_Start : Upd RGPlace 5 (Rep.sl Rep.int) (fun x y => { x with Start := y }) := by
  refine ⟨by decide, ?_⟩
  rintro S h c x vs y ⟨w0, w1, w2, rfl, k0, k1, k2, k3, k4, k5, k6, k7, k8, k9, k10, k11⟩ ⟨u5, rfl, j5⟩
  exact ⟨w0, u5, w2, rfl, k0, k1, k2, k3, k4, j5, k6, k7, k8, k9, k10, k11⟩
theorem GPlace.u_Num : Upd RGPlace 6 Rep.int (fun x y => { x with Num := y }) := by
  refine ⟨by decide, ?_⟩
  rintro S h c x vs y ⟨w0, w1, w2, rfl, k0, k1, k2, k3, k4, k5, k6, k7, k8, k9, k10, k11⟩ ⟨rfl, j6⟩
  exact ⟨w0, w1, w2, rfl, k0, k1, k2, k3, k4, k5, j6, k7, k8, k9, k10, k11⟩
theorem GPlace.u_Den : Upd RGPlace 7 Rep.int (fun x y => { x with Den := y }) := by
  refine ⟨by decide, ?_⟩
  rintro S h c x vs y ⟨w0, w1, w2, rfl, k0, k1, k2, k3, k4, k5, k6, k7, k8, k9, k10, k11⟩ ⟨rfl, j7⟩
  exact ⟨w0, w1, w2, rfl, k0, k1, k2, k3, k4, k5, k6, j7, k8, k9, k10, k11⟩
theorem GPlace.u_Down : Upd RGPlace 8 Rep.int (fun x y => { x with Down := y }) := by
  refine ⟨by decide, ?_⟩
  rintro S h c x vs y ⟨w0, w1, w2, rfl, k0, k1, k2, k3, k4, k5, k6, k7, k8, k9, k10, k11⟩ ⟨rfl, j8⟩
  exact ⟨w0, w1, w2, rfl, k0, k1, k2, k3, k4, k5, k6, k7, j8, k9, k10, k11⟩
theorem GPlace.u_Delay : Upd RGPlace 9 Rep.int (fun x y => { x with Delay := y }) := by
  refine ⟨by decide, ?_⟩
  rintro S h c x vs y ⟨w0, w1, w2, rfl, k0, k1, k2, k3, k4, k5, k6, k7, k8, k9, k10, k11⟩ ⟨rfl, j9⟩
  exact ⟨w0, w1, w2, rfl, k0, k1, k2, k3, k4, k5, k6, k7, k8, j9, k10, k11⟩
theorem GPlace.u_Floor : Upd RGPlace 10 Rep.int (fun x y => { x with Floor := y }) := by
  refine ⟨by decide, ?_⟩
  rintro S h c x vs y ⟨w0, w1, w2, rfl, k0, k1, k2, k3, k4, k5, k6, k7, k8, k9, k10, k11⟩ ⟨rfl, j10⟩
  exact ⟨w0, w1, w2, rfl, k0, k1, k2, k3, k4, k5, k6, k7, k8, k9, j10, k11⟩
theorem GPlace.u_Rain : Upd RGPlace 11 (Rep.sl RGCell) (fun x y => { x with Rain := y }) := by
  refine ⟨by decide, ?_⟩
  rintro S h c x vs y ⟨w0, w1, w2, rfl, k0, k1, k2, k3, k4, k5, k6, k7, k8, k9, k10, k11⟩ ⟨u11, rfl, j11⟩
  exact ⟨w0, w1, u11, rfl, k0, k1, k2, k3, k4, k5, k6, k7, k8, k9, k10, j11⟩

structure GBand where
  Lo : (List GPoint)
  Hi : (List GPoint)
instance : Inhabited GBand := ⟨⟨default, default⟩⟩
def RGBand : Rep GBand where
  sz := 2
  ag := true
  rd := fun S h cs x => ∃ v0 v1 : Value, cs = [v0, v1] ∧ Sl S h RGPoint v0 x.Lo ∧ Sl S h RGPoint v1 x.Hi
  len := fun ⟨_, _, h, _⟩ => by rw [h]; rfl
  one := by
    rintro S h cs x ⟨v0, v1, rfl, k0, k1⟩ v hv
    simp only [List.mem_cons, List.not_mem_nil, or_false] at hv
    rcases hv with rfl | rfl <;> first | rfl | exact Sl.one ‹_› | exact (‹_ ∧ _›).2 | (obtain ⟨_, _, rfl, _⟩ := Rd.fn ‹_›; rfl)
  mono := by
    rintro S S' h h' cs x ⟨v0, v1, rfl, k0, k1⟩ s e
    exact ⟨v0, v1, rfl, k0.mono s e, k1.mono s e⟩
theorem RGBand.ex {S h v} {x : GBand} (k : Rd S h RGBand v x) : ∃ v0 v1 : Value, v = .agg #[v0, v1] ∧ Sl S h RGPoint v0 x.Lo ∧ Sl S h RGPoint v1 x.Hi := by obtain ⟨_, rfl, v0, v1, rfl, k⟩ := k; exact ⟨v0, v1, rfl, k⟩
theorem RGBand.mk {S h} {x : GBand} {v0 v1 : Value} (k0 : Sl S h RGPoint v0 x.Lo) (k1 : Sl S h RGPoint v1 x.Hi) : Rd S h RGBand (.agg #[v0, v1]) x := ⟨_, rfl, v0, v1, rfl, k0, k1⟩
theorem GBand.f_Lo : Fld RGBand 0 (Rep.sl RGPoint) (·.Lo) := by
  rintro S h cs x ⟨v0, v1, rfl, k0, k1⟩
  exact ⟨_, rfl, k0⟩
theorem GBand.f_Hi : Fld RGBand 1 (Rep.sl RGPoint) (·.Hi) := by
  rintro S h cs x ⟨v0, v1, rfl, k0, k1⟩
  exact ⟨_, rfl, k1⟩
theorem GBand.u_Lo : Upd RGBand 0 (Rep.sl RGPoint) (fun x y => { x with Lo := y }) := by
  refine ⟨by decide, ?_⟩
  rintro S h c x vs y ⟨w0, w1, rfl, k0, k1⟩ ⟨u0, rfl, j0⟩
  exact ⟨u0, w1, rfl, j0, k1⟩
theorem GBand.u_Hi : Upd RGBand 1 (Rep.sl RGPoint) (fun x y => { x with Hi := y }) := by
  refine ⟨by decide, ?_⟩
  rintro S h c x vs y ⟨w0, w1, rfl, k0, k1⟩ ⟨u1, rfl, j1⟩
  exact ⟨w0, u1, rfl, k0, j1⟩

structure GLink where
  Name : ByteArray
  Kind : Int
  From : Int
  To : Int
  Rate : (List GPoint)
  Band : GBand
  Positions : Int
  Speed : Int
  Leak : Int
  Crest : Int
  Num : Int
  Den : Int
  Prime : Int
  Break : Int
  BackNum : Int
  BackDen : Int
  Delay : Int
instance : Inhabited GLink := ⟨⟨default, default, default, default, default, default, default, default, default, default, default, default, default, default, default, default, default⟩⟩
def RGLink : Rep GLink where
  sz := 18
  ag := true
  rd := fun S h cs x => ∃ v4 v5 v6 : Value, cs = [.string x.Name, .int .i64 x.Kind, .int .i64 x.From, .int .i64 x.To, v4, v5, v6, .int .i64 x.Positions, .int .i64 x.Speed, .int .i64 x.Leak, .int .i64 x.Crest, .int .i64 x.Num, .int .i64 x.Den, .int .i64 x.Prime, .int .i64 x.Break, .int .i64 x.BackNum, .int .i64 x.BackDen, .int .i64 x.Delay] ∧ x.Name.size ≤ maxLen ∧ inI64 x.Kind ∧ inI64 x.From ∧ inI64 x.To ∧ Sl S h RGPoint v4 x.Rate ∧ Sl S h RGPoint v5 x.Band.Lo ∧ Sl S h RGPoint v6 x.Band.Hi ∧ inI64 x.Positions ∧ inI64 x.Speed ∧ inI64 x.Leak ∧ inI64 x.Crest ∧ inI64 x.Num ∧ inI64 x.Den ∧ inI64 x.Prime ∧ inI64 x.Break ∧ inI64 x.BackNum ∧ inI64 x.BackDen ∧ inI64 x.Delay
  len := fun ⟨_, _, _, h, _⟩ => by rw [h]; rfl
  one := by
    rintro S h cs x ⟨v4, v5, v6, rfl, k0, k1, k2, k3, k4, k5, k6, k7, k8, k9, k10, k11, k12, k13, k14, k15, k16, k17⟩ v hv
    simp only [List.mem_cons, List.not_mem_nil, or_false] at hv
    rcases hv with rfl | rfl | rfl | rfl | rfl | rfl | rfl | rfl | rfl | rfl | rfl | rfl | rfl | rfl | rfl | rfl | rfl | rfl <;> first | rfl | exact Sl.one ‹_› | exact (‹_ ∧ _›).2 | (obtain ⟨_, _, rfl, _⟩ := Rd.fn ‹_›; rfl)
  mono := by
    rintro S S' h h' cs x ⟨v4, v5, v6, rfl, k0, k1, k2, k3, k4, k5, k6, k7, k8, k9, k10, k11, k12, k13, k14, k15, k16, k17⟩ s e
    exact ⟨v4, v5, v6, rfl, k0, k1, k2, k3, k4.mono s e, k5.mono s e, k6.mono s e, k7, k8, k9, k10, k11, k12, k13, k14, k15, k16, k17⟩
theorem RGLink.ex {S h v} {x : GLink} (k : Rd S h RGLink v x) : ∃ v4 v5 v6 : Value, v = .agg #[.string x.Name, .int .i64 x.Kind, .int .i64 x.From, .int .i64 x.To, v4, v5, v6, .int .i64 x.Positions, .int .i64 x.Speed, .int .i64 x.Leak, .int .i64 x.Crest, .int .i64 x.Num, .int .i64 x.Den, .int .i64 x.Prime, .int .i64 x.Break, .int .i64 x.BackNum, .int .i64 x.BackDen, .int .i64 x.Delay] ∧ x.Name.size ≤ maxLen ∧ inI64 x.Kind ∧ inI64 x.From ∧ inI64 x.To ∧ Sl S h RGPoint v4 x.Rate ∧ Sl S h RGPoint v5 x.Band.Lo ∧ Sl S h RGPoint v6 x.Band.Hi ∧ inI64 x.Positions ∧ inI64 x.Speed ∧ inI64 x.Leak ∧ inI64 x.Crest ∧ inI64 x.Num ∧ inI64 x.Den ∧ inI64 x.Prime ∧ inI64 x.Break ∧ inI64 x.BackNum ∧ inI64 x.BackDen ∧ inI64 x.Delay := by obtain ⟨_, rfl, v4, v5, v6, rfl, k⟩ := k; exact ⟨v4, v5, v6, rfl, k⟩
theorem RGLink.mk {S h} {x : GLink} {v4 v5 v6 : Value} (k0 : x.Name.size ≤ maxLen) (k1 : inI64 x.Kind) (k2 : inI64 x.From) (k3 : inI64 x.To) (k4 : Sl S h RGPoint v4 x.Rate) (k5 : Sl S h RGPoint v5 x.Band.Lo) (k6 : Sl S h RGPoint v6 x.Band.Hi) (k7 : inI64 x.Positions) (k8 : inI64 x.Speed) (k9 : inI64 x.Leak) (k10 : inI64 x.Crest) (k11 : inI64 x.Num) (k12 : inI64 x.Den) (k13 : inI64 x.Prime) (k14 : inI64 x.Break) (k15 : inI64 x.BackNum) (k16 : inI64 x.BackDen) (k17 : inI64 x.Delay) : Rd S h RGLink (.agg #[.string x.Name, .int .i64 x.Kind, .int .i64 x.From, .int .i64 x.To, v4, v5, v6, .int .i64 x.Positions, .int .i64 x.Speed, .int .i64 x.Leak, .int .i64 x.Crest, .int .i64 x.Num, .int .i64 x.Den, .int .i64 x.Prime, .int .i64 x.Break, .int .i64 x.BackNum, .int .i64 x.BackDen, .int .i64 x.Delay]) x := ⟨_, rfl, v4, v5, v6, rfl, k0, k1, k2, k3, k4, k5, k6, k7, k8, k9, k10, k11, k12, k13, k14, k15, k16, k17⟩
theorem GLink.f_Name : Fld RGLink 0 Rep.str (·.Name) := by
  rintro S h cs x ⟨v4, v5, v6, rfl, k0, k1, k2, k3, k4, k5, k6, k7, k8, k9, k10, k11, k12, k13, k14, k15, k16, k17⟩
  exact ⟨rfl, k0⟩
theorem GLink.f_Kind : Fld RGLink 1 Rep.int (·.Kind) := by
  rintro S h cs x ⟨v4, v5, v6, rfl, k0, k1, k2, k3, k4, k5, k6, k7, k8, k9, k10, k11, k12, k13, k14, k15, k16, k17⟩
  exact ⟨rfl, k1⟩
theorem GLink.f_From : Fld RGLink 2 Rep.int (·.From) := by
  rintro S h cs x ⟨v4, v5, v6, rfl, k0, k1, k2, k3, k4, k5, k6, k7, k8, k9, k10, k11, k12, k13, k14, k15, k16, k17⟩
  exact ⟨rfl, k2⟩
theorem GLink.f_To : Fld RGLink 3 Rep.int (·.To) := by
  rintro S h cs x ⟨v4, v5, v6, rfl, k0, k1, k2, k3, k4, k5, k6, k7, k8, k9, k10, k11, k12, k13, k14, k15, k16, k17⟩
  exact ⟨rfl, k3⟩
theorem GLink.f_Rate : Fld RGLink 4 (Rep.sl RGPoint) (·.Rate) := by
  rintro S h cs x ⟨v4, v5, v6, rfl, k0, k1, k2, k3, k4, k5, k6, k7, k8, k9, k10, k11, k12, k13, k14, k15, k16, k17⟩
  exact ⟨_, rfl, k4⟩
theorem GLink.f_Band : Fld RGLink 5 RGBand (·.Band) := by
  rintro S h cs x ⟨v4, v5, v6, rfl, k0, k1, k2, k3, k4, k5, k6, k7, k8, k9, k10, k11, k12, k13, k14, k15, k16, k17⟩
  exact ⟨_, _, rfl, k5, k6⟩
theorem GLink.f_Positions : Fld RGLink 7 Rep.int (·.Positions) := by
  rintro S h cs x ⟨v4, v5, v6, rfl, k0, k1, k2, k3, k4, k5, k6, k7, k8, k9, k10, k11, k12, k13, k14, k15, k16, k17⟩
  exact ⟨rfl, k7⟩
theorem GLink.f_Speed : Fld RGLink 8 Rep.int (·.Speed) := by
  rintro S h cs x ⟨v4, v5, v6, rfl, k0, k1, k2, k3, k4, k5, k6, k7, k8, k9, k10, k11, k12, k13, k14, k15, k16, k17⟩
  exact ⟨rfl, k8⟩
theorem GLink.f_Leak : Fld RGLink 9 Rep.int (·.Leak) := by
  rintro S h cs x ⟨v4, v5, v6, rfl, k0, k1, k2, k3, k4, k5, k6, k7, k8, k9, k10, k11, k12, k13, k14, k15, k16, k17⟩
  exact ⟨rfl, k9⟩
theorem GLink.f_Crest : Fld RGLink 10 Rep.int (·.Crest) := by
  rintro S h cs x ⟨v4, v5, v6, rfl, k0, k1, k2, k3, k4, k5, k6, k7, k8, k9, k10, k11, k12, k13, k14, k15, k16, k17⟩
  exact ⟨rfl, k10⟩
theorem GLink.f_Num : Fld RGLink 11 Rep.int (·.Num) := by
  rintro S h cs x ⟨v4, v5, v6, rfl, k0, k1, k2, k3, k4, k5, k6, k7, k8, k9, k10, k11, k12, k13, k14, k15, k16, k17⟩
  exact ⟨rfl, k11⟩
theorem GLink.f_Den : Fld RGLink 12 Rep.int (·.Den) := by
  rintro S h cs x ⟨v4, v5, v6, rfl, k0, k1, k2, k3, k4, k5, k6, k7, k8, k9, k10, k11, k12, k13, k14, k15, k16, k17⟩
  exact ⟨rfl, k12⟩
theorem GLink.f_Prime : Fld RGLink 13 Rep.int (·.Prime) := by
  rintro S h cs x ⟨v4, v5, v6, rfl, k0, k1, k2, k3, k4, k5, k6, k7, k8, k9, k10, k11, k12, k13, k14, k15, k16, k17⟩
  exact ⟨rfl, k13⟩
theorem GLink.f_Break : Fld RGLink 14 Rep.int (·.Break) := by
  rintro S h cs x ⟨v4, v5, v6, rfl, k0, k1, k2, k3, k4, k5, k6, k7, k8, k9, k10, k11, k12, k13, k14, k15, k16, k17⟩
  exact ⟨rfl, k14⟩
theorem GLink.f_BackNum : Fld RGLink 15 Rep.int (·.BackNum) := by
  rintro S h cs x ⟨v4, v5, v6, rfl, k0, k1, k2, k3, k4, k5, k6, k7, k8, k9, k10, k11, k12, k13, k14, k15, k16, k17⟩
  exact ⟨rfl, k15⟩
theorem GLink.f_BackDen : Fld RGLink 16 Rep.int (·.BackDen) := by
  rintro S h cs x ⟨v4, v5, v6, rfl, k0, k1, k2, k3, k4, k5, k6, k7, k8, k9, k10, k11, k12, k13, k14, k15, k16, k17⟩
  exact ⟨rfl, k16⟩
theorem GLink.f_Delay : Fld RGLink 17 Rep.int (·.Delay) := by
  rintro S h cs x ⟨v4, v5, v6, rfl, k0, k1, k2, k3, k4, k5, k6, k7, k8, k9, k10, k11, k12, k13, k14, k15, k16, k17⟩
  exact ⟨rfl, k17⟩
theorem GLink.u_Name : Upd RGLink 0 Rep.str (fun x y => { x with Name := y }) := by
  refine ⟨by decide, ?_⟩
  rintro S h c x vs y ⟨w0, w1, w2, rfl, k0, k1, k2, k3, k4, k5, k6, k7, k8, k9, k10, k11, k12, k13, k14, k15, k16, k17⟩ ⟨rfl, j0⟩
  exact ⟨w0, w1, w2, rfl, j0, k1, k2, k3, k4, k5, k6, k7, k8, k9, k10, k11, k12, k13, k14, k15, k16, k17⟩
theorem GLink.u_Kind : Upd RGLink 1 Rep.int (fun x y => { x with Kind := y }) := by
  refine ⟨by decide, ?_⟩
  rintro S h c x vs y ⟨w0, w1, w2, rfl, k0, k1, k2, k3, k4, k5, k6, k7, k8, k9, k10, k11, k12, k13, k14, k15, k16, k17⟩ ⟨rfl, j1⟩
  exact ⟨w0, w1, w2, rfl, k0, j1, k2, k3, k4, k5, k6, k7, k8, k9, k10, k11, k12, k13, k14, k15, k16, k17⟩
theorem GLink.u_From : Upd RGLink 2 Rep.int (fun x y => { x with From := y }) := by
  refine ⟨by decide, ?_⟩
  rintro S h c x vs y ⟨w0, w1, w2, rfl, k0, k1, k2, k3, k4, k5, k6, k7, k8, k9, k10, k11, k12, k13, k14, k15, k16, k17⟩ ⟨rfl, j2⟩
  exact ⟨w0, w1, w2, rfl, k0, k1, j2, k3, k4, k5, k6, k7, k8, k9, k10, k11, k12, k13, k14, k15, k16, k17⟩
theorem GLink.u_To : Upd RGLink 3 Rep.int (fun x y => { x with To := y }) := by
  refine ⟨by decide, ?_⟩
  rintro S h c x vs y ⟨w0, w1, w2, rfl, k0, k1, k2, k3, k4, k5, k6, k7, k8, k9, k10, k11, k12, k13, k14, k15, k16, k17⟩ ⟨rfl, j3⟩
  exact ⟨w0, w1, w2, rfl, k0, k1, k2, j3, k4, k5, k6, k7, k8, k9, k10, k11, k12, k13, k14, k15, k16, k17⟩
theorem GLink.u_Rate : Upd RGLink 4 (Rep.sl RGPoint) (fun x y => { x with Rate := y }) := by
  refine ⟨by decide, ?_⟩
  rintro S h c x vs y ⟨w0, w1, w2, rfl, k0, k1, k2, k3, k4, k5, k6, k7, k8, k9, k10, k11, k12, k13, k14, k15, k16, k17⟩ ⟨u4, rfl, j4⟩
  exact ⟨u4, w1, w2, rfl, k0, k1, k2, k3, j4, k5, k6, k7, k8, k9, k10, k11, k12, k13, k14, k15, k16, k17⟩
theorem GLink.u_Band : Upd RGLink 5 RGBand (fun x y => { x with Band := y }) := by
  refine ⟨by decide, ?_⟩
  rintro S h c x vs y ⟨w0, w1, w2, rfl, k0, k1, k2, k3, k4, k5, k6, k7, k8, k9, k10, k11, k12, k13, k14, k15, k16, k17⟩ ⟨u5, u6, rfl, j5, j6⟩
  exact ⟨w0, u5, u6, rfl, k0, k1, k2, k3, k4, j5, j6, k7, k8, k9, k10, k11, k12, k13, k14, k15, k16, k17⟩
theorem GLink.u_Positions : Upd RGLink 7 Rep.int (fun x y => { x with Positions := y }) := by
  refine ⟨by decide, ?_⟩
  rintro S h c x vs y ⟨w0, w1, w2, rfl, k0, k1, k2, k3, k4, k5, k6, k7, k8, k9, k10, k11, k12, k13, k14, k15, k16, k17⟩ ⟨rfl, j7⟩
  exact ⟨w0, w1, w2, rfl, k0, k1, k2, k3, k4, k5, k6, j7, k8, k9, k10, k11, k12, k13, k14, k15, k16, k17⟩
theorem GLink.u_Speed : Upd RGLink 8 Rep.int (fun x y => { x with Speed := y }) := by
  refine ⟨by decide, ?_⟩
  rintro S h c x vs y ⟨w0, w1, w2, rfl, k0, k1, k2, k3, k4, k5, k6, k7, k8, k9, k10, k11, k12, k13, k14, k15, k16, k17⟩ ⟨rfl, j8⟩
  exact ⟨w0, w1, w2, rfl, k0, k1, k2, k3, k4, k5, k6, k7, j8, k9, k10, k11, k12, k13, k14, k15, k16, k17⟩
theorem GLink.u_Leak : Upd RGLink 9 Rep.int (fun x y => { x with Leak := y }) := by
  refine ⟨by decide, ?_⟩
  rintro S h c x vs y ⟨w0, w1, w2, rfl, k0, k1, k2, k3, k4, k5, k6, k7, k8, k9, k10, k11, k12, k13, k14, k15, k16, k17⟩ ⟨rfl, j9⟩
  exact ⟨w0, w1, w2, rfl, k0, k1, k2, k3, k4, k5, k6, k7, k8, j9, k10, k11, k12, k13, k14, k15, k16, k17⟩
theorem GLink.u_Crest : Upd RGLink 10 Rep.int (fun x y => { x with Crest := y }) := by
  refine ⟨by decide, ?_⟩
  rintro S h c x vs y ⟨w0, w1, w2, rfl, k0, k1, k2, k3, k4, k5, k6, k7, k8, k9, k10, k11, k12, k13, k14, k15, k16, k17⟩ ⟨rfl, j10⟩
  exact ⟨w0, w1, w2, rfl, k0, k1, k2, k3, k4, k5, k6, k7, k8, k9, j10, k11, k12, k13, k14, k15, k16, k17⟩
theorem GLink.u_Num : Upd RGLink 11 Rep.int (fun x y => { x with Num := y }) := by
  refine ⟨by decide, ?_⟩
  rintro S h c x vs y ⟨w0, w1, w2, rfl, k0, k1, k2, k3, k4, k5, k6, k7, k8, k9, k10, k11, k12, k13, k14, k15, k16, k17⟩ ⟨rfl, j11⟩
  exact ⟨w0, w1, w2, rfl, k0, k1, k2, k3, k4, k5, k6, k7, k8, k9, k10, j11, k12, k13, k14, k15, k16, k17⟩
theorem GLink.u_Den : Upd RGLink 12 Rep.int (fun x y => { x with Den := y }) := by
  refine ⟨by decide, ?_⟩
  rintro S h c x vs y ⟨w0, w1, w2, rfl, k0, k1, k2, k3, k4, k5, k6, k7, k8, k9, k10, k11, k12, k13, k14, k15, k16, k17⟩ ⟨rfl, j12⟩
  exact ⟨w0, w1, w2, rfl, k0, k1, k2, k3, k4, k5, k6, k7, k8, k9, k10, k11, j12, k13, k14, k15, k16, k17⟩
theorem GLink.u_Prime : Upd RGLink 13 Rep.int (fun x y => { x with Prime := y }) := by
  refine ⟨by decide, ?_⟩
  rintro S h c x vs y ⟨w0, w1, w2, rfl, k0, k1, k2, k3, k4, k5, k6, k7, k8, k9, k10, k11, k12, k13, k14, k15, k16, k17⟩ ⟨rfl, j13⟩
  exact ⟨w0, w1, w2, rfl, k0, k1, k2, k3, k4, k5, k6, k7, k8, k9, k10, k11, k12, j13, k14, k15, k16, k17⟩
theorem GLink.u_Break : Upd RGLink 14 Rep.int (fun x y => { x with Break := y }) := by
  refine ⟨by decide, ?_⟩
  rintro S h c x vs y ⟨w0, w1, w2, rfl, k0, k1, k2, k3, k4, k5, k6, k7, k8, k9, k10, k11, k12, k13, k14, k15, k16, k17⟩ ⟨rfl, j14⟩
  exact ⟨w0, w1, w2, rfl, k0, k1, k2, k3, k4, k5, k6, k7, k8, k9, k10, k11, k12, k13, j14, k15, k16, k17⟩
theorem GLink.u_BackNum : Upd RGLink 15 Rep.int (fun x y => { x with BackNum := y }) := by
  refine ⟨by decide, ?_⟩
  rintro S h c x vs y ⟨w0, w1, w2, rfl, k0, k1, k2, k3, k4, k5, k6, k7, k8, k9, k10, k11, k12, k13, k14, k15, k16, k17⟩ ⟨rfl, j15⟩
  exact ⟨w0, w1, w2, rfl, k0, k1, k2, k3, k4, k5, k6, k7, k8, k9, k10, k11, k12, k13, k14, j15, k16, k17⟩
theorem GLink.u_BackDen : Upd RGLink 16 Rep.int (fun x y => { x with BackDen := y }) := by
  refine ⟨by decide, ?_⟩
  rintro S h c x vs y ⟨w0, w1, w2, rfl, k0, k1, k2, k3, k4, k5, k6, k7, k8, k9, k10, k11, k12, k13, k14, k15, k16, k17⟩ ⟨rfl, j16⟩
  exact ⟨w0, w1, w2, rfl, k0, k1, k2, k3, k4, k5, k6, k7, k8, k9, k10, k11, k12, k13, k14, k15, j16, k17⟩
theorem GLink.u_Delay : Upd RGLink 17 Rep.int (fun x y => { x with Delay := y }) := by
  refine ⟨by decide, ?_⟩
  rintro S h c x vs y ⟨w0, w1, w2, rfl, k0, k1, k2, k3, k4, k5, k6, k7, k8, k9, k10, k11, k12, k13, k14, k15, k16, k17⟩ ⟨rfl, j17⟩
  exact ⟨w0, w1, w2, rfl, k0, k1, k2, k3, k4, k5, k6, k7, k8, k9, k10, k11, k12, k13, k14, k15, k16, j17⟩

structure GGauge where
  Name : ByteArray
  Kind : Int
  Target : Int
  Err : Int
  Drift : Int
instance : Inhabited GGauge := ⟨⟨default, default, default, default, default⟩⟩
@[reducible] def GGauge.v (x : GGauge) : List Go.Value := [.string x.Name, .int .i64 x.Kind, .int .i64 x.Target, .int .i64 x.Err, .int .i64 x.Drift]
def GGauge.ok (x : GGauge) : Prop := x.Name.size ≤ maxLen ∧ inI64 x.Kind ∧ inI64 x.Target ∧ inI64 x.Err ∧ inI64 x.Drift
def RGGauge : Rep GGauge where
  sz := 5
  ag := true
  rd := fun _ _ cs x => cs = x.v ∧ x.ok
  len := fun ⟨h, _⟩ => by rw [h]; rfl
  one := fun {_ _ _ x} ⟨h, _⟩ v hv => by
    rw [h] at hv
    simp only [GGauge.v, List.mem_cons, List.not_mem_nil, or_false] at hv
    rcases hv with rfl | rfl | rfl | rfl | rfl <;> rfl
  mono := fun h _ _ => h
theorem RGGauge.ex {S h v} {x : GGauge} (k : Rd S h RGGauge v x) : v = .agg #[.string x.Name, .int .i64 x.Kind, .int .i64 x.Target, .int .i64 x.Err, .int .i64 x.Drift] ∧ x.ok := by obtain ⟨_, rfl, rfl, h⟩ := k; exact ⟨rfl, h⟩
theorem RGGauge.mk {S h} {x : GGauge} (k : x.ok) : Rd S h RGGauge (.agg #[.string x.Name, .int .i64 x.Kind, .int .i64 x.Target, .int .i64 x.Err, .int .i64 x.Drift]) x := ⟨x.v, rfl, rfl, k⟩
theorem GGauge.f_Name : Fld RGGauge 0 Rep.str (·.Name) := by
  rintro S h cs x ⟨rfl, ⟨k0, k1, k2, k3, k4⟩⟩
  exact ⟨rfl, k0⟩
theorem GGauge.f_Kind : Fld RGGauge 1 Rep.int (·.Kind) := by
  rintro S h cs x ⟨rfl, ⟨k0, k1, k2, k3, k4⟩⟩
  exact ⟨rfl, k1⟩
theorem GGauge.f_Target : Fld RGGauge 2 Rep.int (·.Target) := by
  rintro S h cs x ⟨rfl, ⟨k0, k1, k2, k3, k4⟩⟩
  exact ⟨rfl, k2⟩
theorem GGauge.f_Err : Fld RGGauge 3 Rep.int (·.Err) := by
  rintro S h cs x ⟨rfl, ⟨k0, k1, k2, k3, k4⟩⟩
  exact ⟨rfl, k3⟩
theorem GGauge.f_Drift : Fld RGGauge 4 Rep.int (·.Drift) := by
  rintro S h cs x ⟨rfl, ⟨k0, k1, k2, k3, k4⟩⟩
  exact ⟨rfl, k4⟩
theorem GGauge.u_Name : Upd RGGauge 0 Rep.str (fun x y => { x with Name := y }) := by
  refine ⟨by decide, ?_⟩
  rintro S h c x vs y ⟨rfl, ⟨k0, k1, k2, k3, k4⟩⟩ ⟨rfl, j0⟩
  exact ⟨rfl, ⟨j0, k1, k2, k3, k4⟩⟩
theorem GGauge.u_Kind : Upd RGGauge 1 Rep.int (fun x y => { x with Kind := y }) := by
  refine ⟨by decide, ?_⟩
  rintro S h c x vs y ⟨rfl, ⟨k0, k1, k2, k3, k4⟩⟩ ⟨rfl, j1⟩
  exact ⟨rfl, ⟨k0, j1, k2, k3, k4⟩⟩
theorem GGauge.u_Target : Upd RGGauge 2 Rep.int (fun x y => { x with Target := y }) := by
  refine ⟨by decide, ?_⟩
  rintro S h c x vs y ⟨rfl, ⟨k0, k1, k2, k3, k4⟩⟩ ⟨rfl, j2⟩
  exact ⟨rfl, ⟨k0, k1, j2, k3, k4⟩⟩
theorem GGauge.u_Err : Upd RGGauge 3 Rep.int (fun x y => { x with Err := y }) := by
  refine ⟨by decide, ?_⟩
  rintro S h c x vs y ⟨rfl, ⟨k0, k1, k2, k3, k4⟩⟩ ⟨rfl, j3⟩
  exact ⟨rfl, ⟨k0, k1, k2, j3, k4⟩⟩
theorem GGauge.u_Drift : Upd RGGauge 4 Rep.int (fun x y => { x with Drift := y }) := by
  refine ⟨by decide, ?_⟩
  rintro S h c x vs y ⟨rfl, ⟨k0, k1, k2, k3, k4⟩⟩ ⟨rfl, j4⟩
  exact ⟨rfl, ⟨k0, k1, k2, k3, j4⟩⟩

structure GRoad where
  Name : ByteArray
  From : Int
  To : Int
  Hours : Int
  Flow : Int
  By : Int
  Limit : Int
instance : Inhabited GRoad := ⟨⟨default, default, default, default, default, default, default⟩⟩
@[reducible] def GRoad.v (x : GRoad) : List Go.Value := [.string x.Name, .int .i64 x.From, .int .i64 x.To, .int .i64 x.Hours, .int .i64 x.Flow, .int .i64 x.By, .int .i64 x.Limit]
def GRoad.ok (x : GRoad) : Prop := x.Name.size ≤ maxLen ∧ inI64 x.From ∧ inI64 x.To ∧ inI64 x.Hours ∧ inI64 x.Flow ∧ inI64 x.By ∧ inI64 x.Limit
def RGRoad : Rep GRoad where
  sz := 7
  ag := true
  rd := fun _ _ cs x => cs = x.v ∧ x.ok
  len := fun ⟨h, _⟩ => by rw [h]; rfl
  one := fun {_ _ _ x} ⟨h, _⟩ v hv => by
    rw [h] at hv
    simp only [GRoad.v, List.mem_cons, List.not_mem_nil, or_false] at hv
    rcases hv with rfl | rfl | rfl | rfl | rfl | rfl | rfl <;> rfl
  mono := fun h _ _ => h
theorem RGRoad.ex {S h v} {x : GRoad} (k : Rd S h RGRoad v x) : v = .agg #[.string x.Name, .int .i64 x.From, .int .i64 x.To, .int .i64 x.Hours, .int .i64 x.Flow, .int .i64 x.By, .int .i64 x.Limit] ∧ x.ok := by obtain ⟨_, rfl, rfl, h⟩ := k; exact ⟨rfl, h⟩
theorem RGRoad.mk {S h} {x : GRoad} (k : x.ok) : Rd S h RGRoad (.agg #[.string x.Name, .int .i64 x.From, .int .i64 x.To, .int .i64 x.Hours, .int .i64 x.Flow, .int .i64 x.By, .int .i64 x.Limit]) x := ⟨x.v, rfl, rfl, k⟩
theorem GRoad.f_Name : Fld RGRoad 0 Rep.str (·.Name) := by
  rintro S h cs x ⟨rfl, ⟨k0, k1, k2, k3, k4, k5, k6⟩⟩
  exact ⟨rfl, k0⟩
theorem GRoad.f_From : Fld RGRoad 1 Rep.int (·.From) := by
  rintro S h cs x ⟨rfl, ⟨k0, k1, k2, k3, k4, k5, k6⟩⟩
  exact ⟨rfl, k1⟩
theorem GRoad.f_To : Fld RGRoad 2 Rep.int (·.To) := by
  rintro S h cs x ⟨rfl, ⟨k0, k1, k2, k3, k4, k5, k6⟩⟩
  exact ⟨rfl, k2⟩
theorem GRoad.f_Hours : Fld RGRoad 3 Rep.int (·.Hours) := by
  rintro S h cs x ⟨rfl, ⟨k0, k1, k2, k3, k4, k5, k6⟩⟩
  exact ⟨rfl, k3⟩
theorem GRoad.f_Flow : Fld RGRoad 4 Rep.int (·.Flow) := by
  rintro S h cs x ⟨rfl, ⟨k0, k1, k2, k3, k4, k5, k6⟩⟩
  exact ⟨rfl, k4⟩
theorem GRoad.f_By : Fld RGRoad 5 Rep.int (·.By) := by
  rintro S h cs x ⟨rfl, ⟨k0, k1, k2, k3, k4, k5, k6⟩⟩
  exact ⟨rfl, k5⟩
theorem GRoad.f_Limit : Fld RGRoad 6 Rep.int (·.Limit) := by
  rintro S h cs x ⟨rfl, ⟨k0, k1, k2, k3, k4, k5, k6⟩⟩
  exact ⟨rfl, k6⟩
theorem GRoad.u_Name : Upd RGRoad 0 Rep.str (fun x y => { x with Name := y }) := by
  refine ⟨by decide, ?_⟩
  rintro S h c x vs y ⟨rfl, ⟨k0, k1, k2, k3, k4, k5, k6⟩⟩ ⟨rfl, j0⟩
  exact ⟨rfl, ⟨j0, k1, k2, k3, k4, k5, k6⟩⟩
theorem GRoad.u_From : Upd RGRoad 1 Rep.int (fun x y => { x with From := y }) := by
  refine ⟨by decide, ?_⟩
  rintro S h c x vs y ⟨rfl, ⟨k0, k1, k2, k3, k4, k5, k6⟩⟩ ⟨rfl, j1⟩
  exact ⟨rfl, ⟨k0, j1, k2, k3, k4, k5, k6⟩⟩
theorem GRoad.u_To : Upd RGRoad 2 Rep.int (fun x y => { x with To := y }) := by
  refine ⟨by decide, ?_⟩
  rintro S h c x vs y ⟨rfl, ⟨k0, k1, k2, k3, k4, k5, k6⟩⟩ ⟨rfl, j2⟩
  exact ⟨rfl, ⟨k0, k1, j2, k3, k4, k5, k6⟩⟩
theorem GRoad.u_Hours : Upd RGRoad 3 Rep.int (fun x y => { x with Hours := y }) := by
  refine ⟨by decide, ?_⟩
  rintro S h c x vs y ⟨rfl, ⟨k0, k1, k2, k3, k4, k5, k6⟩⟩ ⟨rfl, j3⟩
  exact ⟨rfl, ⟨k0, k1, k2, j3, k4, k5, k6⟩⟩
theorem GRoad.u_Flow : Upd RGRoad 4 Rep.int (fun x y => { x with Flow := y }) := by
  refine ⟨by decide, ?_⟩
  rintro S h c x vs y ⟨rfl, ⟨k0, k1, k2, k3, k4, k5, k6⟩⟩ ⟨rfl, j4⟩
  exact ⟨rfl, ⟨k0, k1, k2, k3, j4, k5, k6⟩⟩
theorem GRoad.u_By : Upd RGRoad 5 Rep.int (fun x y => { x with By := y }) := by
  refine ⟨by decide, ?_⟩
  rintro S h c x vs y ⟨rfl, ⟨k0, k1, k2, k3, k4, k5, k6⟩⟩ ⟨rfl, j5⟩
  exact ⟨rfl, ⟨k0, k1, k2, k3, k4, j5, k6⟩⟩
theorem GRoad.u_Limit : Upd RGRoad 6 Rep.int (fun x y => { x with Limit := y }) := by
  refine ⟨by decide, ?_⟩
  rintro S h c x vs y ⟨rfl, ⟨k0, k1, k2, k3, k4, k5, k6⟩⟩ ⟨rfl, j6⟩
  exact ⟨rfl, ⟨k0, k1, k2, k3, k4, k5, j6⟩⟩

structure GShelter where
  Name : ByteArray
  Room : Int
instance : Inhabited GShelter := ⟨⟨default, default⟩⟩
@[reducible] def GShelter.v (x : GShelter) : List Go.Value := [.string x.Name, .int .i64 x.Room]
def GShelter.ok (x : GShelter) : Prop := x.Name.size ≤ maxLen ∧ inI64 x.Room
def RGShelter : Rep GShelter where
  sz := 2
  ag := true
  rd := fun _ _ cs x => cs = x.v ∧ x.ok
  len := fun ⟨h, _⟩ => by rw [h]; rfl
  one := fun {_ _ _ x} ⟨h, _⟩ v hv => by
    rw [h] at hv
    simp only [GShelter.v, List.mem_cons, List.not_mem_nil, or_false] at hv
    rcases hv with rfl | rfl <;> rfl
  mono := fun h _ _ => h
theorem RGShelter.ex {S h v} {x : GShelter} (k : Rd S h RGShelter v x) : v = .agg #[.string x.Name, .int .i64 x.Room] ∧ x.ok := by obtain ⟨_, rfl, rfl, h⟩ := k; exact ⟨rfl, h⟩
theorem RGShelter.mk {S h} {x : GShelter} (k : x.ok) : Rd S h RGShelter (.agg #[.string x.Name, .int .i64 x.Room]) x := ⟨x.v, rfl, rfl, k⟩
theorem GShelter.f_Name : Fld RGShelter 0 Rep.str (·.Name) := by
  rintro S h cs x ⟨rfl, ⟨k0, k1⟩⟩
  exact ⟨rfl, k0⟩
theorem GShelter.f_Room : Fld RGShelter 1 Rep.int (·.Room) := by
  rintro S h cs x ⟨rfl, ⟨k0, k1⟩⟩
  exact ⟨rfl, k1⟩
theorem GShelter.u_Name : Upd RGShelter 0 Rep.str (fun x y => { x with Name := y }) := by
  refine ⟨by decide, ?_⟩
  rintro S h c x vs y ⟨rfl, ⟨k0, k1⟩⟩ ⟨rfl, j0⟩
  exact ⟨rfl, ⟨j0, k1⟩⟩
theorem GShelter.u_Room : Upd RGShelter 1 Rep.int (fun x y => { x with Room := y }) := by
  refine ⟨by decide, ?_⟩
  rintro S h c x vs y ⟨rfl, ⟨k0, k1⟩⟩ ⟨rfl, j1⟩
  exact ⟨rfl, ⟨k0, j1⟩⟩

structure GBasin where
  Name : ByteArray
  Owners : (List ByteArray)
  Cells : Int
  Places : (List GPlace)
  Links : (List GLink)
  Towns : (List GTown)
  Gauges : (List GGauge)
  Roads : (List GRoad)
  Shelters : (List GShelter)
  Room : (List Int)
  Err : Int
instance : Inhabited GBasin := ⟨⟨default, default, default, default, default, default, default, default, default, default, default⟩⟩
def RGBasin : Rep GBasin where
  sz := 11
  ag := true
  rd := fun S h cs x => ∃ v1 v3 v4 v5 v6 v7 v8 v9 : Value, cs = [.string x.Name, v1, .int .i64 x.Cells, v3, v4, v5, v6, v7, v8, v9, .int .i64 x.Err] ∧ x.Name.size ≤ maxLen ∧ Sl S h Rep.str v1 x.Owners ∧ inI64 x.Cells ∧ Sl S h RGPlace v3 x.Places ∧ Sl S h RGLink v4 x.Links ∧ Sl S h RGTown v5 x.Towns ∧ Sl S h RGGauge v6 x.Gauges ∧ Sl S h RGRoad v7 x.Roads ∧ Sl S h RGShelter v8 x.Shelters ∧ Sl S h Rep.int v9 x.Room ∧ inI64 x.Err
  len := fun ⟨_, _, _, _, _, _, _, _, h, _⟩ => by rw [h]; rfl
  one := by
    rintro S h cs x ⟨v1, v3, v4, v5, v6, v7, v8, v9, rfl, k0, k1, k2, k3, k4, k5, k6, k7, k8, k9, k10⟩ v hv
    simp only [List.mem_cons, List.not_mem_nil, or_false] at hv
    rcases hv with rfl | rfl | rfl | rfl | rfl | rfl | rfl | rfl | rfl | rfl | rfl <;> first | rfl | exact Sl.one ‹_› | exact (‹_ ∧ _›).2 | (obtain ⟨_, _, rfl, _⟩ := Rd.fn ‹_›; rfl)
  mono := by
    rintro S S' h h' cs x ⟨v1, v3, v4, v5, v6, v7, v8, v9, rfl, k0, k1, k2, k3, k4, k5, k6, k7, k8, k9, k10⟩ s e
    exact ⟨v1, v3, v4, v5, v6, v7, v8, v9, rfl, k0, k1.mono s e, k2, k3.mono s e, k4.mono s e, k5.mono s e, k6.mono s e, k7.mono s e, k8.mono s e, k9.mono s e, k10⟩
theorem RGBasin.ex {S h v} {x : GBasin} (k : Rd S h RGBasin v x) : ∃ v1 v3 v4 v5 v6 v7 v8 v9 : Value, v = .agg #[.string x.Name, v1, .int .i64 x.Cells, v3, v4, v5, v6, v7, v8, v9, .int .i64 x.Err] ∧ x.Name.size ≤ maxLen ∧ Sl S h Rep.str v1 x.Owners ∧ inI64 x.Cells ∧ Sl S h RGPlace v3 x.Places ∧ Sl S h RGLink v4 x.Links ∧ Sl S h RGTown v5 x.Towns ∧ Sl S h RGGauge v6 x.Gauges ∧ Sl S h RGRoad v7 x.Roads ∧ Sl S h RGShelter v8 x.Shelters ∧ Sl S h Rep.int v9 x.Room ∧ inI64 x.Err := by obtain ⟨_, rfl, v1, v3, v4, v5, v6, v7, v8, v9, rfl, k⟩ := k; exact ⟨v1, v3, v4, v5, v6, v7, v8, v9, rfl, k⟩
theorem RGBasin.mk {S h} {x : GBasin} {v1 v3 v4 v5 v6 v7 v8 v9 : Value} (k0 : x.Name.size ≤ maxLen) (k1 : Sl S h Rep.str v1 x.Owners) (k2 : inI64 x.Cells) (k3 : Sl S h RGPlace v3 x.Places) (k4 : Sl S h RGLink v4 x.Links) (k5 : Sl S h RGTown v5 x.Towns) (k6 : Sl S h RGGauge v6 x.Gauges) (k7 : Sl S h RGRoad v7 x.Roads) (k8 : Sl S h RGShelter v8 x.Shelters) (k9 : Sl S h Rep.int v9 x.Room) (k10 : inI64 x.Err) : Rd S h RGBasin (.agg #[.string x.Name, v1, .int .i64 x.Cells, v3, v4, v5, v6, v7, v8, v9, .int .i64 x.Err]) x := ⟨_, rfl, v1, v3, v4, v5, v6, v7, v8, v9, rfl, k0, k1, k2, k3, k4, k5, k6, k7, k8, k9, k10⟩
theorem GBasin.f_Name : Fld RGBasin 0 Rep.str (·.Name) := by
  rintro S h cs x ⟨v1, v3, v4, v5, v6, v7, v8, v9, rfl, k0, k1, k2, k3, k4, k5, k6, k7, k8, k9, k10⟩
  exact ⟨rfl, k0⟩
theorem GBasin.f_Owners : Fld RGBasin 1 (Rep.sl Rep.str) (·.Owners) := by
  rintro S h cs x ⟨v1, v3, v4, v5, v6, v7, v8, v9, rfl, k0, k1, k2, k3, k4, k5, k6, k7, k8, k9, k10⟩
  exact ⟨_, rfl, k1⟩
theorem GBasin.f_Cells : Fld RGBasin 2 Rep.int (·.Cells) := by
  rintro S h cs x ⟨v1, v3, v4, v5, v6, v7, v8, v9, rfl, k0, k1, k2, k3, k4, k5, k6, k7, k8, k9, k10⟩
  exact ⟨rfl, k2⟩
theorem GBasin.f_Places : Fld RGBasin 3 (Rep.sl RGPlace) (·.Places) := by
  rintro S h cs x ⟨v1, v3, v4, v5, v6, v7, v8, v9, rfl, k0, k1, k2, k3, k4, k5, k6, k7, k8, k9, k10⟩
  exact ⟨_, rfl, k3⟩
theorem GBasin.f_Links : Fld RGBasin 4 (Rep.sl RGLink) (·.Links) := by
  rintro S h cs x ⟨v1, v3, v4, v5, v6, v7, v8, v9, rfl, k0, k1, k2, k3, k4, k5, k6, k7, k8, k9, k10⟩
  exact ⟨_, rfl, k4⟩
theorem GBasin.f_Towns : Fld RGBasin 5 (Rep.sl RGTown) (·.Towns) := by
  rintro S h cs x ⟨v1, v3, v4, v5, v6, v7, v8, v9, rfl, k0, k1, k2, k3, k4, k5, k6, k7, k8, k9, k10⟩
  exact ⟨_, rfl, k5⟩
theorem GBasin.f_Gauges : Fld RGBasin 6 (Rep.sl RGGauge) (·.Gauges) := by
  rintro S h cs x ⟨v1, v3, v4, v5, v6, v7, v8, v9, rfl, k0, k1, k2, k3, k4, k5, k6, k7, k8, k9, k10⟩
  exact ⟨_, rfl, k6⟩
theorem GBasin.f_Roads : Fld RGBasin 7 (Rep.sl RGRoad) (·.Roads) := by
  rintro S h cs x ⟨v1, v3, v4, v5, v6, v7, v8, v9, rfl, k0, k1, k2, k3, k4, k5, k6, k7, k8, k9, k10⟩
  exact ⟨_, rfl, k7⟩
theorem GBasin.f_Shelters : Fld RGBasin 8 (Rep.sl RGShelter) (·.Shelters) := by
  rintro S h cs x ⟨v1, v3, v4, v5, v6, v7, v8, v9, rfl, k0, k1, k2, k3, k4, k5, k6, k7, k8, k9, k10⟩
  exact ⟨_, rfl, k8⟩
theorem GBasin.f_Room : Fld RGBasin 9 (Rep.sl Rep.int) (·.Room) := by
  rintro S h cs x ⟨v1, v3, v4, v5, v6, v7, v8, v9, rfl, k0, k1, k2, k3, k4, k5, k6, k7, k8, k9, k10⟩
  exact ⟨_, rfl, k9⟩
theorem GBasin.f_Err : Fld RGBasin 10 Rep.int (·.Err) := by
  rintro S h cs x ⟨v1, v3, v4, v5, v6, v7, v8, v9, rfl, k0, k1, k2, k3, k4, k5, k6, k7, k8, k9, k10⟩
  exact ⟨rfl, k10⟩
theorem GBasin.u_Name : Upd RGBasin 0 Rep.str (fun x y => { x with Name := y }) := by
  refine ⟨by decide, ?_⟩
  rintro S h c x vs y ⟨w0, w1, w2, w3, w4, w5, w6, w7, rfl, k0, k1, k2, k3, k4, k5, k6, k7, k8, k9, k10⟩ ⟨rfl, j0⟩
  exact ⟨w0, w1, w2, w3, w4, w5, w6, w7, rfl, j0, k1, k2, k3, k4, k5, k6, k7, k8, k9, k10⟩
theorem GBasin.u_Owners : Upd RGBasin 1 (Rep.sl Rep.str) (fun x y => { x with Owners := y }) := by
  refine ⟨by decide, ?_⟩
  rintro S h c x vs y ⟨w0, w1, w2, w3, w4, w5, w6, w7, rfl, k0, k1, k2, k3, k4, k5, k6, k7, k8, k9, k10⟩ ⟨u1, rfl, j1⟩
  exact ⟨u1, w1, w2, w3, w4, w5, w6, w7, rfl, k0, j1, k2, k3, k4, k5, k6, k7, k8, k9, k10⟩
theorem GBasin.u_Cells : Upd RGBasin 2 Rep.int (fun x y => { x with Cells := y }) := by
  refine ⟨by decide, ?_⟩
  rintro S h c x vs y ⟨w0, w1, w2, w3, w4, w5, w6, w7, rfl, k0, k1, k2, k3, k4, k5, k6, k7, k8, k9, k10⟩ ⟨rfl, j2⟩
  exact ⟨w0, w1, w2, w3, w4, w5, w6, w7, rfl, k0, k1, j2, k3, k4, k5, k6, k7, k8, k9, k10⟩
theorem GBasin.u_Places : Upd RGBasin 3 (Rep.sl RGPlace) (fun x y => { x with Places := y }) := by
  refine ⟨by decide, ?_⟩
  rintro S h c x vs y ⟨w0, w1, w2, w3, w4, w5, w6, w7, rfl, k0, k1, k2, k3, k4, k5, k6, k7, k8, k9, k10⟩ ⟨u3, rfl, j3⟩
  exact ⟨w0, u3, w2, w3, w4, w5, w6, w7, rfl, k0, k1, k2, j3, k4, k5, k6, k7, k8, k9, k10⟩
theorem GBasin.u_Links : Upd RGBasin 4 (Rep.sl RGLink) (fun x y => { x with Links := y }) := by
  refine ⟨by decide, ?_⟩
  rintro S h c x vs y ⟨w0, w1, w2, w3, w4, w5, w6, w7, rfl, k0, k1, k2, k3, k4, k5, k6, k7, k8, k9, k10⟩ ⟨u4, rfl, j4⟩
  exact ⟨w0, w1, u4, w3, w4, w5, w6, w7, rfl, k0, k1, k2, k3, j4, k5, k6, k7, k8, k9, k10⟩
theorem GBasin.u_Towns : Upd RGBasin 5 (Rep.sl RGTown) (fun x y => { x with Towns := y }) := by
  refine ⟨by decide, ?_⟩
  rintro S h c x vs y ⟨w0, w1, w2, w3, w4, w5, w6, w7, rfl, k0, k1, k2, k3, k4, k5, k6, k7, k8, k9, k10⟩ ⟨u5, rfl, j5⟩
  exact ⟨w0, w1, w2, u5, w4, w5, w6, w7, rfl, k0, k1, k2, k3, k4, j5, k6, k7, k8, k9, k10⟩
theorem GBasin.u_Gauges : Upd RGBasin 6 (Rep.sl RGGauge) (fun x y => { x with Gauges := y }) := by
  refine ⟨by decide, ?_⟩
  rintro S h c x vs y ⟨w0, w1, w2, w3, w4, w5, w6, w7, rfl, k0, k1, k2, k3, k4, k5, k6, k7, k8, k9, k10⟩ ⟨u6, rfl, j6⟩
  exact ⟨w0, w1, w2, w3, u6, w5, w6, w7, rfl, k0, k1, k2, k3, k4, k5, j6, k7, k8, k9, k10⟩
theorem GBasin.u_Roads : Upd RGBasin 7 (Rep.sl RGRoad) (fun x y => { x with Roads := y }) := by
  refine ⟨by decide, ?_⟩
  rintro S h c x vs y ⟨w0, w1, w2, w3, w4, w5, w6, w7, rfl, k0, k1, k2, k3, k4, k5, k6, k7, k8, k9, k10⟩ ⟨u7, rfl, j7⟩
  exact ⟨w0, w1, w2, w3, w4, u7, w6, w7, rfl, k0, k1, k2, k3, k4, k5, k6, j7, k8, k9, k10⟩
theorem GBasin.u_Shelters : Upd RGBasin 8 (Rep.sl RGShelter) (fun x y => { x with Shelters := y }) := by
  refine ⟨by decide, ?_⟩
  rintro S h c x vs y ⟨w0, w1, w2, w3, w4, w5, w6, w7, rfl, k0, k1, k2, k3, k4, k5, k6, k7, k8, k9, k10⟩ ⟨u8, rfl, j8⟩
  exact ⟨w0, w1, w2, w3, w4, w5, u8, w7, rfl, k0, k1, k2, k3, k4, k5, k6, k7, j8, k9, k10⟩
theorem GBasin.u_Room : Upd RGBasin 9 (Rep.sl Rep.int) (fun x y => { x with Room := y }) := by
  refine ⟨by decide, ?_⟩
  rintro S h c x vs y ⟨w0, w1, w2, w3, w4, w5, w6, w7, rfl, k0, k1, k2, k3, k4, k5, k6, k7, k8, k9, k10⟩ ⟨u9, rfl, j9⟩
  exact ⟨w0, w1, w2, w3, w4, w5, w6, u9, rfl, k0, k1, k2, k3, k4, k5, k6, k7, k8, j9, k10⟩
theorem GBasin.u_Err : Upd RGBasin 10 Rep.int (fun x y => { x with Err := y }) := by
  refine ⟨by decide, ?_⟩
  rintro S h c x vs y ⟨w0, w1, w2, w3, w4, w5, w6, w7, rfl, k0, k1, k2, k3, k4, k5, k6, k7, k8, k9, k10⟩ ⟨rfl, j10⟩
  exact ⟨w0, w1, w2, w3, w4, w5, w6, w7, rfl, k0, k1, k2, k3, k4, k5, k6, k7, k8, k9, j10⟩

structure GSpan where
  Lo : Int
  Hi : Int
instance : Inhabited GSpan := ⟨⟨default, default⟩⟩
@[reducible] def GSpan.v (x : GSpan) : List Go.Value := [.int .i64 x.Lo, .int .i64 x.Hi]
def GSpan.ok (x : GSpan) : Prop := inI64 x.Lo ∧ inI64 x.Hi
def RGSpan : Rep GSpan where
  sz := 2
  ag := true
  rd := fun _ _ cs x => cs = x.v ∧ x.ok
  len := fun ⟨h, _⟩ => by rw [h]; rfl
  one := fun {_ _ _ x} ⟨h, _⟩ v hv => by
    rw [h] at hv
    simp only [GSpan.v, List.mem_cons, List.not_mem_nil, or_false] at hv
    rcases hv with rfl | rfl <;> rfl
  mono := fun h _ _ => h
theorem RGSpan.ex {S h v} {x : GSpan} (k : Rd S h RGSpan v x) : v = .agg #[.int .i64 x.Lo, .int .i64 x.Hi] ∧ x.ok := by obtain ⟨_, rfl, rfl, h⟩ := k; exact ⟨rfl, h⟩
theorem RGSpan.mk {S h} {x : GSpan} (k : x.ok) : Rd S h RGSpan (.agg #[.int .i64 x.Lo, .int .i64 x.Hi]) x := ⟨x.v, rfl, rfl, k⟩
theorem GSpan.f_Lo : Fld RGSpan 0 Rep.int (·.Lo) := by
  rintro S h cs x ⟨rfl, ⟨k0, k1⟩⟩
  exact ⟨rfl, k0⟩
theorem GSpan.f_Hi : Fld RGSpan 1 Rep.int (·.Hi) := by
  rintro S h cs x ⟨rfl, ⟨k0, k1⟩⟩
  exact ⟨rfl, k1⟩
theorem GSpan.u_Lo : Upd RGSpan 0 Rep.int (fun x y => { x with Lo := y }) := by
  refine ⟨by decide, ?_⟩
  rintro S h c x vs y ⟨rfl, ⟨k0, k1⟩⟩ ⟨rfl, j0⟩
  exact ⟨rfl, ⟨j0, k1⟩⟩
theorem GSpan.u_Hi : Upd RGSpan 1 Rep.int (fun x y => { x with Hi := y }) := by
  refine ⟨by decide, ?_⟩
  rintro S h c x vs y ⟨rfl, ⟨k0, k1⟩⟩ ⟨rfl, j1⟩
  exact ⟨rfl, ⟨k0, j1⟩⟩

structure GCast where
  Id : Int
  From : Int
  Rain : (List (List GSpan))
instance : Inhabited GCast := ⟨⟨default, default, default⟩⟩
def RGCast : Rep GCast where
  sz := 3
  ag := true
  rd := fun S h cs x => ∃ v2 : Value, cs = [.int .i64 x.Id, .int .i64 x.From, v2] ∧ inI64 x.Id ∧ inI64 x.From ∧ Sl S h (Rep.sl RGSpan) v2 x.Rain
  len := fun ⟨_, h, _⟩ => by rw [h]; rfl
  one := by
    rintro S h cs x ⟨v2, rfl, k0, k1, k2⟩ v hv
    simp only [List.mem_cons, List.not_mem_nil, or_false] at hv
    rcases hv with rfl | rfl | rfl <;> first | rfl | exact Sl.one ‹_› | exact (‹_ ∧ _›).2 | (obtain ⟨_, _, rfl, _⟩ := Rd.fn ‹_›; rfl)
  mono := by
    rintro S S' h h' cs x ⟨v2, rfl, k0, k1, k2⟩ s e
    exact ⟨v2, rfl, k0, k1, k2.mono s e⟩
theorem RGCast.ex {S h v} {x : GCast} (k : Rd S h RGCast v x) : ∃ v2 : Value, v = .agg #[.int .i64 x.Id, .int .i64 x.From, v2] ∧ inI64 x.Id ∧ inI64 x.From ∧ Sl S h (Rep.sl RGSpan) v2 x.Rain := by obtain ⟨_, rfl, v2, rfl, k⟩ := k; exact ⟨v2, rfl, k⟩
theorem RGCast.mk {S h} {x : GCast} {v2 : Value} (k0 : inI64 x.Id) (k1 : inI64 x.From) (k2 : Sl S h (Rep.sl RGSpan) v2 x.Rain) : Rd S h RGCast (.agg #[.int .i64 x.Id, .int .i64 x.From, v2]) x := ⟨_, rfl, v2, rfl, k0, k1, k2⟩
theorem GCast.f_Id : Fld RGCast 0 Rep.int (·.Id) := by
  rintro S h cs x ⟨v2, rfl, k0, k1, k2⟩
  exact ⟨rfl, k0⟩
theorem GCast.f_From : Fld RGCast 1 Rep.int (·.From) := by
  rintro S h cs x ⟨v2, rfl, k0, k1, k2⟩
  exact ⟨rfl, k1⟩
theorem GCast.f_Rain : Fld RGCast 2 (Rep.sl (Rep.sl RGSpan)) (·.Rain) := by
  rintro S h cs x ⟨v2, rfl, k0, k1, k2⟩
  exact ⟨_, rfl, k2⟩
theorem GCast.u_Id : Upd RGCast 0 Rep.int (fun x y => { x with Id := y }) := by
  refine ⟨by decide, ?_⟩
  rintro S h c x vs y ⟨w0, rfl, k0, k1, k2⟩ ⟨rfl, j0⟩
  exact ⟨w0, rfl, j0, k1, k2⟩
theorem GCast.u_From : Upd RGCast 1 Rep.int (fun x y => { x with From := y }) := by
  refine ⟨by decide, ?_⟩
  rintro S h c x vs y ⟨w0, rfl, k0, k1, k2⟩ ⟨rfl, j1⟩
  exact ⟨w0, rfl, k0, j1, k2⟩
theorem GCast.u_Rain : Upd RGCast 2 (Rep.sl (Rep.sl RGSpan)) (fun x y => { x with Rain := y }) := by
  refine ⟨by decide, ?_⟩
  rintro S h c x vs y ⟨w0, rfl, k0, k1, k2⟩ ⟨u2, rfl, j2⟩
  exact ⟨u2, rfl, k0, k1, j2⟩

structure GFault where
  Kind : Int
  Link : Int
instance : Inhabited GFault := ⟨⟨default, default⟩⟩
@[reducible] def GFault.v (x : GFault) : List Go.Value := [.int .i64 x.Kind, .int .i64 x.Link]
def GFault.ok (x : GFault) : Prop := inI64 x.Kind ∧ inI64 x.Link
def RGFault : Rep GFault where
  sz := 2
  ag := true
  rd := fun _ _ cs x => cs = x.v ∧ x.ok
  len := fun ⟨h, _⟩ => by rw [h]; rfl
  one := fun {_ _ _ x} ⟨h, _⟩ v hv => by
    rw [h] at hv
    simp only [GFault.v, List.mem_cons, List.not_mem_nil, or_false] at hv
    rcases hv with rfl | rfl <;> rfl
  mono := fun h _ _ => h
theorem RGFault.ex {S h v} {x : GFault} (k : Rd S h RGFault v x) : v = .agg #[.int .i64 x.Kind, .int .i64 x.Link] ∧ x.ok := by obtain ⟨_, rfl, rfl, h⟩ := k; exact ⟨rfl, h⟩
theorem RGFault.mk {S h} {x : GFault} (k : x.ok) : Rd S h RGFault (.agg #[.int .i64 x.Kind, .int .i64 x.Link]) x := ⟨x.v, rfl, rfl, k⟩
theorem GFault.f_Kind : Fld RGFault 0 Rep.int (·.Kind) := by
  rintro S h cs x ⟨rfl, ⟨k0, k1⟩⟩
  exact ⟨rfl, k0⟩
theorem GFault.f_Link : Fld RGFault 1 Rep.int (·.Link) := by
  rintro S h cs x ⟨rfl, ⟨k0, k1⟩⟩
  exact ⟨rfl, k1⟩
theorem GFault.u_Kind : Upd RGFault 0 Rep.int (fun x y => { x with Kind := y }) := by
  refine ⟨by decide, ?_⟩
  rintro S h c x vs y ⟨rfl, ⟨k0, k1⟩⟩ ⟨rfl, j0⟩
  exact ⟨rfl, ⟨j0, k1⟩⟩
theorem GFault.u_Link : Upd RGFault 1 Rep.int (fun x y => { x with Link := y }) := by
  refine ⟨by decide, ?_⟩
  rintro S h c x vs y ⟨rfl, ⟨k0, k1⟩⟩ ⟨rfl, j1⟩
  exact ⟨rfl, ⟨k0, j1⟩⟩

structure GCmd where
  Link : Int
  Target : Int
instance : Inhabited GCmd := ⟨⟨default, default⟩⟩
@[reducible] def GCmd.v (x : GCmd) : List Go.Value := [.int .i64 x.Link, .int .i64 x.Target]
def GCmd.ok (x : GCmd) : Prop := inI64 x.Link ∧ inI64 x.Target
def RGCmd : Rep GCmd where
  sz := 2
  ag := true
  rd := fun _ _ cs x => cs = x.v ∧ x.ok
  len := fun ⟨h, _⟩ => by rw [h]; rfl
  one := fun {_ _ _ x} ⟨h, _⟩ v hv => by
    rw [h] at hv
    simp only [GCmd.v, List.mem_cons, List.not_mem_nil, or_false] at hv
    rcases hv with rfl | rfl <;> rfl
  mono := fun h _ _ => h
theorem RGCmd.ex {S h v} {x : GCmd} (k : Rd S h RGCmd v x) : v = .agg #[.int .i64 x.Link, .int .i64 x.Target] ∧ x.ok := by obtain ⟨_, rfl, rfl, h⟩ := k; exact ⟨rfl, h⟩
theorem RGCmd.mk {S h} {x : GCmd} (k : x.ok) : Rd S h RGCmd (.agg #[.int .i64 x.Link, .int .i64 x.Target]) x := ⟨x.v, rfl, rfl, k⟩
theorem GCmd.f_Link : Fld RGCmd 0 Rep.int (·.Link) := by
  rintro S h cs x ⟨rfl, ⟨k0, k1⟩⟩
  exact ⟨rfl, k0⟩
theorem GCmd.f_Target : Fld RGCmd 1 Rep.int (·.Target) := by
  rintro S h cs x ⟨rfl, ⟨k0, k1⟩⟩
  exact ⟨rfl, k1⟩
theorem GCmd.u_Link : Upd RGCmd 0 Rep.int (fun x y => { x with Link := y }) := by
  refine ⟨by decide, ?_⟩
  rintro S h c x vs y ⟨rfl, ⟨k0, k1⟩⟩ ⟨rfl, j0⟩
  exact ⟨rfl, ⟨j0, k1⟩⟩
theorem GCmd.u_Target : Upd RGCmd 1 Rep.int (fun x y => { x with Target := y }) := by
  refine ⟨by decide, ?_⟩
  rintro S h c x vs y ⟨rfl, ⟨k0, k1⟩⟩ ⟨rfl, j1⟩
  exact ⟨rfl, ⟨k0, j1⟩⟩

structure GTake where
  Place : Int
  Owner : Int
  Litres : Int
  To : Int
instance : Inhabited GTake := ⟨⟨default, default, default, default⟩⟩
@[reducible] def GTake.v (x : GTake) : List Go.Value := [.int .i64 x.Place, .int .i64 x.Owner, .int .i64 x.Litres, .int .i64 x.To]
def GTake.ok (x : GTake) : Prop := inI64 x.Place ∧ inI64 x.Owner ∧ inI64 x.Litres ∧ inI64 x.To
def RGTake : Rep GTake where
  sz := 4
  ag := true
  rd := fun _ _ cs x => cs = x.v ∧ x.ok
  len := fun ⟨h, _⟩ => by rw [h]; rfl
  one := fun {_ _ _ x} ⟨h, _⟩ v hv => by
    rw [h] at hv
    simp only [GTake.v, List.mem_cons, List.not_mem_nil, or_false] at hv
    rcases hv with rfl | rfl | rfl | rfl <;> rfl
  mono := fun h _ _ => h
theorem RGTake.ex {S h v} {x : GTake} (k : Rd S h RGTake v x) : v = .agg #[.int .i64 x.Place, .int .i64 x.Owner, .int .i64 x.Litres, .int .i64 x.To] ∧ x.ok := by obtain ⟨_, rfl, rfl, h⟩ := k; exact ⟨rfl, h⟩
theorem RGTake.mk {S h} {x : GTake} (k : x.ok) : Rd S h RGTake (.agg #[.int .i64 x.Place, .int .i64 x.Owner, .int .i64 x.Litres, .int .i64 x.To]) x := ⟨x.v, rfl, rfl, k⟩
theorem GTake.f_Place : Fld RGTake 0 Rep.int (·.Place) := by
  rintro S h cs x ⟨rfl, ⟨k0, k1, k2, k3⟩⟩
  exact ⟨rfl, k0⟩
theorem GTake.f_Owner : Fld RGTake 1 Rep.int (·.Owner) := by
  rintro S h cs x ⟨rfl, ⟨k0, k1, k2, k3⟩⟩
  exact ⟨rfl, k1⟩
theorem GTake.f_Litres : Fld RGTake 2 Rep.int (·.Litres) := by
  rintro S h cs x ⟨rfl, ⟨k0, k1, k2, k3⟩⟩
  exact ⟨rfl, k2⟩
theorem GTake.f_To : Fld RGTake 3 Rep.int (·.To) := by
  rintro S h cs x ⟨rfl, ⟨k0, k1, k2, k3⟩⟩
  exact ⟨rfl, k3⟩
theorem GTake.u_Place : Upd RGTake 0 Rep.int (fun x y => { x with Place := y }) := by
  refine ⟨by decide, ?_⟩
  rintro S h c x vs y ⟨rfl, ⟨k0, k1, k2, k3⟩⟩ ⟨rfl, j0⟩
  exact ⟨rfl, ⟨j0, k1, k2, k3⟩⟩
theorem GTake.u_Owner : Upd RGTake 1 Rep.int (fun x y => { x with Owner := y }) := by
  refine ⟨by decide, ?_⟩
  rintro S h c x vs y ⟨rfl, ⟨k0, k1, k2, k3⟩⟩ ⟨rfl, j1⟩
  exact ⟨rfl, ⟨k0, j1, k2, k3⟩⟩
theorem GTake.u_Litres : Upd RGTake 2 Rep.int (fun x y => { x with Litres := y }) := by
  refine ⟨by decide, ?_⟩
  rintro S h c x vs y ⟨rfl, ⟨k0, k1, k2, k3⟩⟩ ⟨rfl, j2⟩
  exact ⟨rfl, ⟨k0, k1, j2, k3⟩⟩
theorem GTake.u_To : Upd RGTake 3 Rep.int (fun x y => { x with To := y }) := by
  refine ⟨by decide, ?_⟩
  rintro S h c x vs y ⟨rfl, ⟨k0, k1, k2, k3⟩⟩ ⟨rfl, j3⟩
  exact ⟨rfl, ⟨k0, k1, k2, j3⟩⟩

structure GSwap where
  Place : Int
  From : Int
  To : Int
  Litres : Int
instance : Inhabited GSwap := ⟨⟨default, default, default, default⟩⟩
@[reducible] def GSwap.v (x : GSwap) : List Go.Value := [.int .i64 x.Place, .int .i64 x.From, .int .i64 x.To, .int .i64 x.Litres]
def GSwap.ok (x : GSwap) : Prop := inI64 x.Place ∧ inI64 x.From ∧ inI64 x.To ∧ inI64 x.Litres
def RGSwap : Rep GSwap where
  sz := 4
  ag := true
  rd := fun _ _ cs x => cs = x.v ∧ x.ok
  len := fun ⟨h, _⟩ => by rw [h]; rfl
  one := fun {_ _ _ x} ⟨h, _⟩ v hv => by
    rw [h] at hv
    simp only [GSwap.v, List.mem_cons, List.not_mem_nil, or_false] at hv
    rcases hv with rfl | rfl | rfl | rfl <;> rfl
  mono := fun h _ _ => h
theorem RGSwap.ex {S h v} {x : GSwap} (k : Rd S h RGSwap v x) : v = .agg #[.int .i64 x.Place, .int .i64 x.From, .int .i64 x.To, .int .i64 x.Litres] ∧ x.ok := by obtain ⟨_, rfl, rfl, h⟩ := k; exact ⟨rfl, h⟩
theorem RGSwap.mk {S h} {x : GSwap} (k : x.ok) : Rd S h RGSwap (.agg #[.int .i64 x.Place, .int .i64 x.From, .int .i64 x.To, .int .i64 x.Litres]) x := ⟨x.v, rfl, rfl, k⟩
theorem GSwap.f_Place : Fld RGSwap 0 Rep.int (·.Place) := by
  rintro S h cs x ⟨rfl, ⟨k0, k1, k2, k3⟩⟩
  exact ⟨rfl, k0⟩
theorem GSwap.f_From : Fld RGSwap 1 Rep.int (·.From) := by
  rintro S h cs x ⟨rfl, ⟨k0, k1, k2, k3⟩⟩
  exact ⟨rfl, k1⟩
theorem GSwap.f_To : Fld RGSwap 2 Rep.int (·.To) := by
  rintro S h cs x ⟨rfl, ⟨k0, k1, k2, k3⟩⟩
  exact ⟨rfl, k2⟩
theorem GSwap.f_Litres : Fld RGSwap 3 Rep.int (·.Litres) := by
  rintro S h cs x ⟨rfl, ⟨k0, k1, k2, k3⟩⟩
  exact ⟨rfl, k3⟩
theorem GSwap.u_Place : Upd RGSwap 0 Rep.int (fun x y => { x with Place := y }) := by
  refine ⟨by decide, ?_⟩
  rintro S h c x vs y ⟨rfl, ⟨k0, k1, k2, k3⟩⟩ ⟨rfl, j0⟩
  exact ⟨rfl, ⟨j0, k1, k2, k3⟩⟩
theorem GSwap.u_From : Upd RGSwap 1 Rep.int (fun x y => { x with From := y }) := by
  refine ⟨by decide, ?_⟩
  rintro S h c x vs y ⟨rfl, ⟨k0, k1, k2, k3⟩⟩ ⟨rfl, j1⟩
  exact ⟨rfl, ⟨k0, j1, k2, k3⟩⟩
theorem GSwap.u_To : Upd RGSwap 2 Rep.int (fun x y => { x with To := y }) := by
  refine ⟨by decide, ?_⟩
  rintro S h c x vs y ⟨rfl, ⟨k0, k1, k2, k3⟩⟩ ⟨rfl, j2⟩
  exact ⟨rfl, ⟨k0, k1, j2, k3⟩⟩
theorem GSwap.u_Litres : Upd RGSwap 3 Rep.int (fun x y => { x with Litres := y }) := by
  refine ⟨by decide, ?_⟩
  rintro S h c x vs y ⟨rfl, ⟨k0, k1, k2, k3⟩⟩ ⟨rfl, j3⟩
  exact ⟨rfl, ⟨k0, k1, k2, j3⟩⟩

structure GInput where
  Rain : (List Int)
  Faults : (List GFault)
  Cmds : (List GCmd)
  Takes : (List GTake)
  Swaps : (List GSwap)
instance : Inhabited GInput := ⟨⟨default, default, default, default, default⟩⟩
def RGInput : Rep GInput where
  sz := 5
  ag := true
  rd := fun S h cs x => ∃ v0 v1 v2 v3 v4 : Value, cs = [v0, v1, v2, v3, v4] ∧ Sl S h Rep.int v0 x.Rain ∧ Sl S h RGFault v1 x.Faults ∧ Sl S h RGCmd v2 x.Cmds ∧ Sl S h RGTake v3 x.Takes ∧ Sl S h RGSwap v4 x.Swaps
  len := fun ⟨_, _, _, _, _, h, _⟩ => by rw [h]; rfl
  one := by
    rintro S h cs x ⟨v0, v1, v2, v3, v4, rfl, k0, k1, k2, k3, k4⟩ v hv
    simp only [List.mem_cons, List.not_mem_nil, or_false] at hv
    rcases hv with rfl | rfl | rfl | rfl | rfl <;> first | rfl | exact Sl.one ‹_› | exact (‹_ ∧ _›).2 | (obtain ⟨_, _, rfl, _⟩ := Rd.fn ‹_›; rfl)
  mono := by
    rintro S S' h h' cs x ⟨v0, v1, v2, v3, v4, rfl, k0, k1, k2, k3, k4⟩ s e
    exact ⟨v0, v1, v2, v3, v4, rfl, k0.mono s e, k1.mono s e, k2.mono s e, k3.mono s e, k4.mono s e⟩
theorem RGInput.ex {S h v} {x : GInput} (k : Rd S h RGInput v x) : ∃ v0 v1 v2 v3 v4 : Value, v = .agg #[v0, v1, v2, v3, v4] ∧ Sl S h Rep.int v0 x.Rain ∧ Sl S h RGFault v1 x.Faults ∧ Sl S h RGCmd v2 x.Cmds ∧ Sl S h RGTake v3 x.Takes ∧ Sl S h RGSwap v4 x.Swaps := by obtain ⟨_, rfl, v0, v1, v2, v3, v4, rfl, k⟩ := k; exact ⟨v0, v1, v2, v3, v4, rfl, k⟩
theorem RGInput.mk {S h} {x : GInput} {v0 v1 v2 v3 v4 : Value} (k0 : Sl S h Rep.int v0 x.Rain) (k1 : Sl S h RGFault v1 x.Faults) (k2 : Sl S h RGCmd v2 x.Cmds) (k3 : Sl S h RGTake v3 x.Takes) (k4 : Sl S h RGSwap v4 x.Swaps) : Rd S h RGInput (.agg #[v0, v1, v2, v3, v4]) x := ⟨_, rfl, v0, v1, v2, v3, v4, rfl, k0, k1, k2, k3, k4⟩
theorem GInput.f_Rain : Fld RGInput 0 (Rep.sl Rep.int) (·.Rain) := by
  rintro S h cs x ⟨v0, v1, v2, v3, v4, rfl, k0, k1, k2, k3, k4⟩
  exact ⟨_, rfl, k0⟩
theorem GInput.f_Faults : Fld RGInput 1 (Rep.sl RGFault) (·.Faults) := by
  rintro S h cs x ⟨v0, v1, v2, v3, v4, rfl, k0, k1, k2, k3, k4⟩
  exact ⟨_, rfl, k1⟩
theorem GInput.f_Cmds : Fld RGInput 2 (Rep.sl RGCmd) (·.Cmds) := by
  rintro S h cs x ⟨v0, v1, v2, v3, v4, rfl, k0, k1, k2, k3, k4⟩
  exact ⟨_, rfl, k2⟩
theorem GInput.f_Takes : Fld RGInput 3 (Rep.sl RGTake) (·.Takes) := by
  rintro S h cs x ⟨v0, v1, v2, v3, v4, rfl, k0, k1, k2, k3, k4⟩
  exact ⟨_, rfl, k3⟩
theorem GInput.f_Swaps : Fld RGInput 4 (Rep.sl RGSwap) (·.Swaps) := by
  rintro S h cs x ⟨v0, v1, v2, v3, v4, rfl, k0, k1, k2, k3, k4⟩
  exact ⟨_, rfl, k4⟩
theorem GInput.u_Rain : Upd RGInput 0 (Rep.sl Rep.int) (fun x y => { x with Rain := y }) := by
  refine ⟨by decide, ?_⟩
  rintro S h c x vs y ⟨w0, w1, w2, w3, w4, rfl, k0, k1, k2, k3, k4⟩ ⟨u0, rfl, j0⟩
  exact ⟨u0, w1, w2, w3, w4, rfl, j0, k1, k2, k3, k4⟩
theorem GInput.u_Faults : Upd RGInput 1 (Rep.sl RGFault) (fun x y => { x with Faults := y }) := by
  refine ⟨by decide, ?_⟩
  rintro S h c x vs y ⟨w0, w1, w2, w3, w4, rfl, k0, k1, k2, k3, k4⟩ ⟨u1, rfl, j1⟩
  exact ⟨w0, u1, w2, w3, w4, rfl, k0, j1, k2, k3, k4⟩
theorem GInput.u_Cmds : Upd RGInput 2 (Rep.sl RGCmd) (fun x y => { x with Cmds := y }) := by
  refine ⟨by decide, ?_⟩
  rintro S h c x vs y ⟨w0, w1, w2, w3, w4, rfl, k0, k1, k2, k3, k4⟩ ⟨u2, rfl, j2⟩
  exact ⟨w0, w1, u2, w3, w4, rfl, k0, k1, j2, k3, k4⟩
theorem GInput.u_Takes : Upd RGInput 3 (Rep.sl RGTake) (fun x y => { x with Takes := y }) := by
  refine ⟨by decide, ?_⟩
  rintro S h c x vs y ⟨w0, w1, w2, w3, w4, rfl, k0, k1, k2, k3, k4⟩ ⟨u3, rfl, j3⟩
  exact ⟨w0, w1, w2, u3, w4, rfl, k0, k1, k2, j3, k4⟩
theorem GInput.u_Swaps : Upd RGInput 4 (Rep.sl RGSwap) (fun x y => { x with Swaps := y }) := by
  refine ⟨by decide, ?_⟩
  rintro S h c x vs y ⟨w0, w1, w2, w3, w4, rfl, k0, k1, k2, k3, k4⟩ ⟨u4, rfl, j4⟩
  exact ⟨w0, w1, w2, w3, u4, rfl, k0, k1, k2, k3, j4⟩

structure Gbasin_mark where
  group : ByteArray
  name : ByteArray
instance : Inhabited Gbasin_mark := ⟨⟨default, default⟩⟩
@[reducible] def Gbasin_mark.v (x : Gbasin_mark) : List Go.Value := [.string x.group, .string x.name]
def Gbasin_mark.ok (x : Gbasin_mark) : Prop := x.group.size ≤ maxLen ∧ x.name.size ≤ maxLen
def RGbasin_mark : Rep Gbasin_mark where
  sz := 2
  ag := true
  rd := fun _ _ cs x => cs = x.v ∧ x.ok
  len := fun ⟨h, _⟩ => by rw [h]; rfl
  one := fun {_ _ _ x} ⟨h, _⟩ v hv => by
    rw [h] at hv
    simp only [Gbasin_mark.v, List.mem_cons, List.not_mem_nil, or_false] at hv
    rcases hv with rfl | rfl <;> rfl
  mono := fun h _ _ => h
theorem RGbasin_mark.ex {S h v} {x : Gbasin_mark} (k : Rd S h RGbasin_mark v x) : v = .agg #[.string x.group, .string x.name] ∧ x.ok := by obtain ⟨_, rfl, rfl, h⟩ := k; exact ⟨rfl, h⟩
theorem RGbasin_mark.mk {S h} {x : Gbasin_mark} (k : x.ok) : Rd S h RGbasin_mark (.agg #[.string x.group, .string x.name]) x := ⟨x.v, rfl, rfl, k⟩
theorem Gbasin_mark.f_group : Fld RGbasin_mark 0 Rep.str (·.group) := by
  rintro S h cs x ⟨rfl, ⟨k0, k1⟩⟩
  exact ⟨rfl, k0⟩
theorem Gbasin_mark.f_name : Fld RGbasin_mark 1 Rep.str (·.name) := by
  rintro S h cs x ⟨rfl, ⟨k0, k1⟩⟩
  exact ⟨rfl, k1⟩
theorem Gbasin_mark.u_group : Upd RGbasin_mark 0 Rep.str (fun x y => { x with group := y }) := by
  refine ⟨by decide, ?_⟩
  rintro S h c x vs y ⟨rfl, ⟨k0, k1⟩⟩ ⟨rfl, j0⟩
  exact ⟨rfl, ⟨j0, k1⟩⟩
theorem Gbasin_mark.u_name : Upd RGbasin_mark 1 Rep.str (fun x y => { x with name := y }) := by
  refine ⟨by decide, ?_⟩
  rintro S h c x vs y ⟨rfl, ⟨k0, k1⟩⟩ ⟨rfl, j1⟩
  exact ⟨rfl, ⟨k0, j1⟩⟩

structure GReading where
  Gauge : Int
  Hour : Int
  Value : GSpan
instance : Inhabited GReading := ⟨⟨default, default, default⟩⟩
@[reducible] def GReading.v (x : GReading) : List Go.Value := [.int .i64 x.Gauge, .int .i64 x.Hour, .int .i64 x.Value.Lo, .int .i64 x.Value.Hi]
def GReading.ok (x : GReading) : Prop := inI64 x.Gauge ∧ inI64 x.Hour ∧ inI64 x.Value.Lo ∧ inI64 x.Value.Hi
def RGReading : Rep GReading where
  sz := 4
  ag := true
  rd := fun _ _ cs x => cs = x.v ∧ x.ok
  len := fun ⟨h, _⟩ => by rw [h]; rfl
  one := fun {_ _ _ x} ⟨h, _⟩ v hv => by
    rw [h] at hv
    simp only [GReading.v, List.mem_cons, List.not_mem_nil, or_false] at hv
    rcases hv with rfl | rfl | rfl | rfl <;> rfl
  mono := fun h _ _ => h
theorem RGReading.ex {S h v} {x : GReading} (k : Rd S h RGReading v x) : v = .agg #[.int .i64 x.Gauge, .int .i64 x.Hour, .int .i64 x.Value.Lo, .int .i64 x.Value.Hi] ∧ x.ok := by obtain ⟨_, rfl, rfl, h⟩ := k; exact ⟨rfl, h⟩
theorem RGReading.mk {S h} {x : GReading} (k : x.ok) : Rd S h RGReading (.agg #[.int .i64 x.Gauge, .int .i64 x.Hour, .int .i64 x.Value.Lo, .int .i64 x.Value.Hi]) x := ⟨x.v, rfl, rfl, k⟩
theorem GReading.f_Gauge : Fld RGReading 0 Rep.int (·.Gauge) := by
  rintro S h cs x ⟨rfl, ⟨k0, k1, k2, k3⟩⟩
  exact ⟨rfl, k0⟩
theorem GReading.f_Hour : Fld RGReading 1 Rep.int (·.Hour) := by
  rintro S h cs x ⟨rfl, ⟨k0, k1, k2, k3⟩⟩
  exact ⟨rfl, k1⟩
theorem GReading.f_Value : Fld RGReading 2 RGSpan (·.Value) := by
  rintro S h cs x ⟨rfl, ⟨k0, k1, k2, k3⟩⟩
  exact ⟨rfl, ⟨k2, k3⟩⟩
theorem GReading.u_Gauge : Upd RGReading 0 Rep.int (fun x y => { x with Gauge := y }) := by
  refine ⟨by decide, ?_⟩
  rintro S h c x vs y ⟨rfl, ⟨k0, k1, k2, k3⟩⟩ ⟨rfl, j0⟩
  exact ⟨rfl, ⟨j0, k1, k2, k3⟩⟩
theorem GReading.u_Hour : Upd RGReading 1 Rep.int (fun x y => { x with Hour := y }) := by
  refine ⟨by decide, ?_⟩
  rintro S h c x vs y ⟨rfl, ⟨k0, k1, k2, k3⟩⟩ ⟨rfl, j1⟩
  exact ⟨rfl, ⟨k0, j1, k2, k3⟩⟩
theorem GReading.u_Value : Upd RGReading 2 RGSpan (fun x y => { x with Value := y }) := by
  refine ⟨by decide, ?_⟩
  rintro S h c x vs y ⟨rfl, ⟨k0, k1, k2, k3⟩⟩ ⟨rfl, ⟨j2, j3⟩⟩
  exact ⟨rfl, ⟨k0, k1, j2, j3⟩⟩
def sc_256_252118 : ByteArray := ByteArray.mk #[0, 1, 2, 2, 3, 3, 3, 3, 4, 4, 4, 4, 4, 4, 4, 4, 5, 5, 5, 5, 5, 5, 5, 5, 5, 5, 5, 5, 5, 5, 5, 5, 6, 6, 6, 6, 6, 6, 6, 6, 6, 6, 6, 6, 6, 6, 6, 6, 6, 6, 6, 6, 6, 6, 6, 6, 6, 6, 6, 6, 6, 6, 6, 6, 7, 7, 7, 7, 7, 7, 7, 7, 7, 7, 7, 7, 7, 7, 7, 7, 7, 7, 7, 7, 7, 7, 7, 7, 7, 7, 7, 7, 7, 7, 7, 7, 7, 7, 7, 7, 7, 7, 7, 7, 7, 7, 7, 7, 7, 7, 7, 7, 7, 7, 7, 7, 7, 7, 7, 7, 7, 7, 7, 7, 7, 7, 7, 7, 8, 8, 8, 8, 8, 8, 8, 8, 8, 8, 8, 8, 8, 8, 8, 8, 8, 8, 8, 8, 8, 8, 8, 8, 8, 8, 8, 8, 8, 8, 8, 8, 8, 8, 8, 8, 8, 8, 8, 8, 8, 8, 8, 8, 8, 8, 8, 8, 8, 8, 8, 8, 8, 8, 8, 8, 8, 8, 8, 8, 8, 8, 8, 8, 8, 8, 8, 8, 8, 8, 8, 8, 8, 8, 8, 8, 8, 8, 8, 8, 8, 8, 8, 8, 8, 8, 8, 8, 8, 8, 8, 8, 8, 8, 8, 8, 8, 8, 8, 8, 8, 8, 8, 8, 8, 8, 8, 8, 8, 8, 8, 8, 8, 8, 8, 8, 8, 8, 8, 8, 8, 8, 8, 8, 8, 8, 8, 8]
end Go.Proofs.Ytibidnaedddfdaa
