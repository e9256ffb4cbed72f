/- The program's structs as structures. By program. -/
import Derived.Test.YtgnjppialaajcaaCore8
namespace Go.Proofs.Ytgnjppialaajcaa
open Go.RowKit

structure GTown where
  Name : ByteArray
  Place : Int
  Flood : Int
  Lead : Int
  People : Int
  Watch : Int
  Quorum : Int
instance : Inhabited GTown := ⟨⟨default, default, default, default, default, default, default⟩⟩
@[reducible] def GTown.v (x : GTown) : List Value := [.string x.Name, .int .i64 x.Place, .int .i64 x.Flood, .int .i64 x.Lead, .int .i64 x.People, .int .i64 x.Watch, .int .i64 x.Quorum]
def GTown.ok (x : GTown) : Prop := x.Name.size ≤ maxLen ∧ inI64 x.Place ∧ inI64 x.Flood ∧ inI64 x.Lead ∧ inI64 x.People ∧ inI64 x.Watch ∧ inI64 x.Quorum
def RGTown : Rep GTown where
  sz := 7
  ag := true
  rd := fun _ _ cs x => cs = x.v ∧ x.ok
  len := fun ⟨h, _⟩ => by rw [h]; rfl
  one := fun {_ _ _ x} ⟨h, _⟩ v hv => by
    rw [h] at hv
    simp only [GTown.v, List.mem_cons, List.not_mem_nil, or_false] at hv
    rcases hv with rfl | rfl | rfl | rfl | rfl | rfl | rfl <;> rfl
  mono := fun h _ _ => h
theorem RGTown.ex {S h v} {x : GTown} (k : Rd S h RGTown v x) : v = .agg #[.string x.Name, .int .i64 x.Place, .int .i64 x.Flood, .int .i64 x.Lead, .int .i64 x.People, .int .i64 x.Watch, .int .i64 x.Quorum] ∧ x.ok := by obtain ⟨_, rfl, rfl, h⟩ := k; exact ⟨rfl, h⟩
theorem RGTown.mk {S h} {x : GTown} (k : x.ok) : Rd S h RGTown (.agg #[.string x.Name, .int .i64 x.Place, .int .i64 x.Flood, .int .i64 x.Lead, .int .i64 x.People, .int .i64 x.Watch, .int .i64 x.Quorum]) x := ⟨x.v, rfl, rfl, k⟩
theorem GTown.f_Name : Fld RGTown 0 Rep.str (·.Name) := by
  rintro S h cs x ⟨rfl, ⟨k0, k1, k2, k3, k4, k5, k6⟩⟩
  exact ⟨rfl, k0⟩
theorem GTown.f_Place : Fld RGTown 1 Rep.int (·.Place) := by
  rintro S h cs x ⟨rfl, ⟨k0, k1, k2, k3, k4, k5, k6⟩⟩
  exact ⟨rfl, k1⟩
theorem GTown.f_Flood : Fld RGTown 2 Rep.int (·.Flood) := by
  rintro S h cs x ⟨rfl, ⟨k0, k1, k2, k3, k4, k5, k6⟩⟩
  exact ⟨rfl, k2⟩
theorem GTown.f_Lead : Fld RGTown 3 Rep.int (·.Lead) := by
  rintro S h cs x ⟨rfl, ⟨k0, k1, k2, k3, k4, k5, k6⟩⟩
  exact ⟨rfl, k3⟩
theorem GTown.f_People : Fld RGTown 4 Rep.int (·.People) := by
  rintro S h cs x ⟨rfl, ⟨k0, k1, k2, k3, k4, k5, k6⟩⟩
  exact ⟨rfl, k4⟩
theorem GTown.f_Watch : Fld RGTown 5 Rep.int (·.Watch) := by
  rintro S h cs x ⟨rfl, ⟨k0, k1, k2, k3, k4, k5, k6⟩⟩
  exact ⟨rfl, k5⟩
theorem GTown.f_Quorum : Fld RGTown 6 Rep.int (·.Quorum) := by
  rintro S h cs x ⟨rfl, ⟨k0, k1, k2, k3, k4, k5, k6⟩⟩
  exact ⟨rfl, k6⟩

structure GAlarm where
  Level : Int
  Calm : Int
  Then : Int
instance : Inhabited GAlarm := ⟨⟨default, default, default⟩⟩
@[reducible] def GAlarm.v (x : GAlarm) : List Value := [.int .i64 x.Level, .int .i64 x.Calm, .int .i64 x.Then]
def GAlarm.ok (x : GAlarm) : Prop := inI64 x.Level ∧ inI64 x.Calm ∧ inI64 x.Then
def RGAlarm : Rep GAlarm where
  sz := 3
  ag := true
  rd := fun _ _ cs x => cs = x.v ∧ x.ok
  len := fun ⟨h, _⟩ => by rw [h]; rfl
  one := fun {_ _ _ x} ⟨h, _⟩ v hv => by
    rw [h] at hv
    simp only [GAlarm.v, List.mem_cons, List.not_mem_nil, or_false] at hv
    rcases hv with rfl | rfl | rfl <;> rfl
  mono := fun h _ _ => h
theorem RGAlarm.ex {S h v} {x : GAlarm} (k : Rd S h RGAlarm v x) : v = .agg #[.int .i64 x.Level, .int .i64 x.Calm, .int .i64 x.Then] ∧ x.ok := by obtain ⟨_, rfl, rfl, h⟩ := k; exact ⟨rfl, h⟩
theorem RGAlarm.mk {S h} {x : GAlarm} (k : x.ok) : Rd S h RGAlarm (.agg #[.int .i64 x.Level, .int .i64 x.Calm, .int .i64 x.Then]) x := ⟨x.v, rfl, rfl, k⟩
theorem GAlarm.f_Level : Fld RGAlarm 0 Rep.int (·.Level) := by
  rintro S h cs x ⟨rfl, ⟨k0, k1, k2⟩⟩
  exact ⟨rfl, k0⟩
theorem GAlarm.f_Calm : Fld RGAlarm 1 Rep.int (·.Calm) := by
  rintro S h cs x ⟨rfl, ⟨k0, k1, k2⟩⟩
  exact ⟨rfl, k1⟩
theorem GAlarm.f_Then : Fld RGAlarm 2 Rep.int (·.Then) := by
  rintro S h cs x ⟨rfl, ⟨k0, k1, k2⟩⟩
  exact ⟨rfl, k2⟩

structure GSight where
  Crest : Int
  Quorum : Bool
instance : Inhabited GSight := ⟨⟨default, default⟩⟩
@[reducible] def GSight.v (x : GSight) : List Value := [.int .i64 x.Crest, .bool x.Quorum]
def GSight.ok (x : GSight) : Prop := inI64 x.Crest
def RGSight : Rep GSight where
  sz := 2
  ag := true
  rd := fun _ _ cs x => cs = x.v ∧ x.ok
  len := fun ⟨h, _⟩ => by rw [h]; rfl
  one := fun {_ _ _ x} ⟨h, _⟩ v hv => by
    rw [h] at hv
    simp only [GSight.v, List.mem_cons, List.not_mem_nil, or_false] at hv
    rcases hv with rfl | rfl <;> rfl
  mono := fun h _ _ => h
theorem RGSight.ex {S h v} {x : GSight} (k : Rd S h RGSight v x) : v = .agg #[.int .i64 x.Crest, .bool x.Quorum] ∧ x.ok := by obtain ⟨_, rfl, rfl, h⟩ := k; exact ⟨rfl, h⟩
theorem RGSight.mk {S h} {x : GSight} (k : x.ok) : Rd S h RGSight (.agg #[.int .i64 x.Crest, .bool x.Quorum]) x := ⟨x.v, rfl, rfl, k⟩
theorem GSight.f_Crest : Fld RGSight 0 Rep.int (·.Crest) := by
  rintro S h cs x ⟨rfl, k0⟩
  exact ⟨rfl, k0⟩
theorem GSight.f_Quorum : Fld RGSight 1 Rep.bool (·.Quorum) := by
  rintro S h cs x ⟨rfl, k0⟩
  exact rfl
end Go.Proofs.Ytgnjppialaajcaa
