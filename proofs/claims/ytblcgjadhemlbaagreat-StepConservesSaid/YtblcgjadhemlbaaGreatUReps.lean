import Derived.Test.YtblcgjadhemlbaaGreatUSortD
import Derived.Test.YtblcgjadhemlbaaGreatRows
namespace Go.Proofs.YtblcgjadhemlbaaGreat
open Go.RowKit
set_option linter.unusedVariables false
structure BO where
 X:Int
 Y:Int
instance:Inhabited BO:=⟨⟨default,default⟩⟩
@[reducible] def BO.v (x:BO):List Go.Value:=[.int .i64 x.X,.int .i64 x.Y]
def BO.ok (x:BO):Prop:=AG x.X∧AG x.Y
def Bq:AM BO where
 sz:=2
 ag:=true
 rd:=λ_ _ cs x=>cs=x.v∧x.ok
 len:=λ⟨h,_⟩=>by rw[h];rfl
 one:=λ{_ _ _ x} ⟨h,_⟩ v hv=>by
  rw[h] at hv
  simp only[BO.v,List.mem_cons,List.not_mem_nil,or_false] at hv
  rcases hv with rfl|rfl<;>rfl
 mono:=λh _ _=>h
theorem Bq.ex {S h v}{x:BO}(k:Rd S h Bq v x):v= .agg #[.int .i64 x.X,.int .i64 x.Y]∧x.ok:=by obtain⟨_,rfl,rfl,h⟩:=k;exact⟨rfl,h⟩
theorem Bq.mk {S h}{x:BO}(k:x.ok):Rd S h Bq (.agg #[.int .i64 x.X,.int .i64 x.Y]) x:=⟨x.v,rfl,rfl,k⟩
theorem Kq:FM Bq 0 AM.int (·.X):=by
 rintro S h cs x ⟨rfl,⟨k0,k1⟩⟩
 exact⟨rfl,k0⟩
theorem Kp:FM Bq 1 AM.int (·.Y):=by
 rintro S h cs x ⟨rfl,⟨k0,k1⟩⟩
 exact⟨rfl,k1⟩
structure NE where
 Index:Int
 Area:Int
instance:Inhabited NE:=⟨⟨default,default⟩⟩
@[reducible] def NE.v (x:NE):List Go.Value:=[.int .i64 x.Index,.int .i64 x.Area]
def NE.ok (x:NE):Prop:=AG x.Index∧AG x.Area
def KC:AM NE where
 sz:=2
 ag:=true
 rd:=λ_ _ cs x=>cs=x.v∧x.ok
 len:=λ⟨h,_⟩=>by rw[h];rfl
 one:=λ{_ _ _ x} ⟨h,_⟩ v hv=>by
  rw[h] at hv
  simp only[NE.v,List.mem_cons,List.not_mem_nil,or_false] at hv
  rcases hv with rfl|rfl<;>rfl
 mono:=λh _ _=>h
theorem KC.ex {S h v}{x:NE}(k:Rd S h KC v x):v= .agg #[.int .i64 x.Index,.int .i64 x.Area]∧x.ok:=by obtain⟨_,rfl,rfl,h⟩:=k;exact⟨rfl,h⟩
theorem KC.mk {S h}{x:NE}(k:x.ok):Rd S h KC (.agg #[.int .i64 x.Index,.int .i64 x.Area]) x:=⟨x.v,rfl,rfl,k⟩
structure Dx where
 Name:ByteArray
 Kind:Int
 Office:Int
 Cap:Int
 Level:(List BO)
 Start:(List Int)
 Num:Int
 Den:Int
 Down:Int
 Delay:Int
 Floor:Int
 Rain:(List NE)
instance:Inhabited Dx:=⟨⟨default,default,default,default,default,default,default,default,default,default,default,default⟩⟩
def Bw:AM Dx where
 sz:=12
 ag:=true
 rd:=λS h cs x=>∃v4 v5 v11:Value,cs=[.string x.Name,.int .i64 x.Kind,.int .i64 x.Office,.int .i64 x.Cap,v4,v5,.int .i64 x.Num,.int .i64 x.Den,.int .i64 x.Down,.int .i64 x.Delay,.int .i64 x.Floor,v11]∧x.Name.size≤maxLen∧AG x.Kind∧AG x.Office∧AG x.Cap∧Sl S h Bq v4 x.Level∧Sl S h AM.int v5 x.Start∧AG x.Num∧AG x.Den∧AG x.Down∧AG x.Delay∧AG x.Floor∧Sl S h KC v11 x.Rain
 len:=λ⟨_,_,_,h,_⟩=>by rw[h];rfl
 one:=by
  rintro S h cs x ⟨v4,v5,v11,rfl,k0,k1,k2,k3,k4,k5,k6,k7,k8,k9,k10,k11⟩ v hv
  simp only[List.mem_cons,List.not_mem_nil,or_false] at hv
  rcases hv with rfl|rfl|rfl|rfl|rfl|rfl|rfl|rfl|rfl|rfl|rfl|rfl<;>first|rfl|exact Sl.one ‹_› |exact(‹_∧_›).2|(obtain ⟨_,_,rfl,_⟩:=Rd.fn ‹_›;rfl)|(obtain ⟨_,_,rfl,_⟩:=Rd.fnr ‹_›;rfl)
 mono:=by
  rintro S S' h h' cs x ⟨v4,v5,v11,rfl,k0,k1,k2,k3,k4,k5,k6,k7,k8,k9,k10,k11⟩ s e
  exact⟨v4,v5,v11,rfl,k0,k1,k2,k3,k4.mono s e,k5.mono s e,k6,k7,k8,k9,k10,k11.mono s e⟩
theorem Bw.ex {S h v}{x:Dx}(k:Rd S h Bw v x):∃v4 v5 v11:Value,v= .agg #[.string x.Name,.int .i64 x.Kind,.int .i64 x.Office,.int .i64 x.Cap,v4,v5,.int .i64 x.Num,.int .i64 x.Den,.int .i64 x.Down,.int .i64 x.Delay,.int .i64 x.Floor,v11]∧x.Name.size≤maxLen∧AG x.Kind∧AG x.Office∧AG x.Cap∧Sl S h Bq v4 x.Level∧Sl S h AM.int v5 x.Start∧AG x.Num∧AG x.Den∧AG x.Down∧AG x.Delay∧AG x.Floor∧Sl S h KC v11 x.Rain:=by obtain⟨_,rfl,v4,v5,v11,rfl,k⟩:=k;exact⟨v4,v5,v11,rfl,k⟩
theorem Bw.mk {S h}{x:Dx}{v4 v5 v11:Value}(k0:x.Name.size≤maxLen) (k1:AG x.Kind) (k2:AG x.Office) (k3:AG x.Cap) (k4:Sl S h Bq v4 x.Level) (k5:Sl S h AM.int v5 x.Start) (k6:AG x.Num) (k7:AG x.Den) (k8:AG x.Down) (k9:AG x.Delay) (k10:AG x.Floor) (k11:Sl S h KC v11 x.Rain):Rd S h Bw (.agg #[.string x.Name,.int .i64 x.Kind,.int .i64 x.Office,.int .i64 x.Cap,v4,v5,.int .i64 x.Num,.int .i64 x.Den,.int .i64 x.Down,.int .i64 x.Delay,.int .i64 x.Floor,v11]) x:=⟨_,rfl,v4,v5,v11,rfl,k0,k1,k2,k3,k4,k5,k6,k7,k8,k9,k10,k11⟩
theorem Dx.f_Name:FM Bw 0 AM.str (·.Name):=by
 rintro S h cs x ⟨v4,v5,v11,rfl,k0,k1,k2,k3,k4,k5,k6,k7,k8,k9,k10,k11⟩
 exact⟨rfl,k0⟩
theorem Dx.f_Kind:FM Bw 1 AM.int (·.Kind):=by
 rintro S h cs x ⟨v4,v5,v11,rfl,k0,k1,k2,k3,k4,k5,k6,k7,k8,k9,k10,k11⟩
 exact⟨rfl,k1⟩
theorem IA:FM Bw 2 AM.int (·.Office):=by
 rintro S h cs x ⟨v4,v5,v11,rfl,k0,k1,k2,k3,k4,k5,k6,k7,k8,k9,k10,k11⟩
 exact⟨rfl,k2⟩
theorem Dx.f_Num:FM Bw 6 AM.int (·.Num):=by
 rintro S h cs x ⟨v4,v5,v11,rfl,k0,k1,k2,k3,k4,k5,k6,k7,k8,k9,k10,k11⟩
 exact⟨rfl,k6⟩
theorem Dx.f_Den:FM Bw 7 AM.int (·.Den):=by
 rintro S h cs x ⟨v4,v5,v11,rfl,k0,k1,k2,k3,k4,k5,k6,k7,k8,k9,k10,k11⟩
 exact⟨rfl,k7⟩
theorem Dx.f_Rain:FM Bw 11 (AM.sl KC) (·.Rain):=by
 rintro S h cs x ⟨v4,v5,v11,rfl,k0,k1,k2,k3,k4,k5,k6,k7,k8,k9,k10,k11⟩
 exact⟨_,rfl,k11⟩
structure LX where
 Lo:(List BO)
 Hi:(List BO)
instance:Inhabited LX:=⟨⟨default,default⟩⟩
def Lr:AM LX where
 sz:=2
 ag:=true
 rd:=λS h cs x=>∃v0 v1:Value,cs=[v0,v1]∧Sl S h Bq v0 x.Lo∧Sl S h Bq v1 x.Hi
 len:=λ⟨_,_,h,_⟩=>by rw[h];rfl
 one:=by
  rintro S h cs x ⟨v0,v1,rfl,k0,k1⟩ v hv
  simp only[List.mem_cons,List.not_mem_nil,or_false] at hv
  rcases hv with rfl|rfl<;>first|rfl|exact Sl.one ‹_› |exact(‹_∧_›).2|(obtain ⟨_,_,rfl,_⟩:=Rd.fn ‹_›;rfl)|(obtain ⟨_,_,rfl,_⟩:=Rd.fnr ‹_›;rfl)
 mono:=by
  rintro S S' h h' cs x ⟨v0,v1,rfl,k0,k1⟩ s e
  exact⟨v0,v1,rfl,k0.mono s e,k1.mono s e⟩
theorem Lr.ex {S h v}{x:LX}(k:Rd S h Lr v x):∃v0 v1:Value,v= .agg #[v0,v1]∧Sl S h Bq v0 x.Lo∧Sl S h Bq v1 x.Hi:=by obtain⟨_,rfl,v0,v1,rfl,k⟩:=k;exact⟨v0,v1,rfl,k⟩
theorem Lr.mk {S h}{x:LX}{v0 v1:Value}(k0:Sl S h Bq v0 x.Lo) (k1:Sl S h Bq v1 x.Hi):Rd S h Lr (.agg #[v0,v1]) x:=⟨_,rfl,v0,v1,rfl,k0,k1⟩
theorem NS:FM Lr 0 (AM.sl Bq) (·.Lo):=by
 rintro S h cs x ⟨v0,v1,rfl,k0,k1⟩
 exact⟨_,rfl,k0⟩
theorem NT:FM Lr 1 (AM.sl Bq) (·.Hi):=by
 rintro S h cs x ⟨v0,v1,rfl,k0,k1⟩
 exact⟨_,rfl,k1⟩
structure Ay where
 Name:ByteArray
 Kind:Int
 From:Int
 To:Int
 Rate:(List BO)
 Band:LX
 Positions:Int
 Speed:Int
 Leak:Int
 Crest:Int
 Num:Int
 Den:Int
 Prime:Int
 Break:Int
 BackNum:Int
 BackDen:Int
 Delay:Int
instance:Inhabited Ay:=⟨⟨default,default,default,default,default,default,default,default,default,default,default,default,default,default,default,default,default⟩⟩
def Bu:AM Ay where
 sz:=18
 ag:=true
 rd:=λS h cs x=>∃v4 v5 v6:Value,cs=[.string x.Name,.int .i64 x.Kind,.int .i64 x.From,.int .i64 x.To,v4,v5,v6,.int .i64 x.Positions,.int .i64 x.Speed,.int .i64 x.Leak,.int .i64 x.Crest,.int .i64 x.Num,.int .i64 x.Den,.int .i64 x.Prime,.int .i64 x.Break,.int .i64 x.BackNum,.int .i64 x.BackDen,.int .i64 x.Delay]∧x.Name.size≤maxLen∧AG x.Kind∧AG x.From∧AG x.To∧Sl S h Bq v4 x.Rate∧Sl S h Bq v5 x.Band.Lo∧Sl S h Bq v6 x.Band.Hi∧AG x.Positions∧AG x.Speed∧AG x.Leak∧AG x.Crest∧AG x.Num∧AG x.Den∧AG x.Prime∧AG x.Break∧AG x.BackNum∧AG x.BackDen∧AG x.Delay
 len:=λ⟨_,_,_,h,_⟩=>by rw[h];rfl
 one:=by
  rintro S h cs x ⟨v4,v5,v6,rfl,k0,k1,k2,k3,k4,k5,k6,k7,k8,k9,k10,k11,k12,k13,k14,k15,k16,k17⟩ v hv
  simp only[List.mem_cons,List.not_mem_nil,or_false] at hv
  rcases hv with rfl|rfl|rfl|rfl|rfl|rfl|rfl|rfl|rfl|rfl|rfl|rfl|rfl|rfl|rfl|rfl|rfl|rfl<;>first|rfl|exact Sl.one ‹_› |exact(‹_∧_›).2|(obtain ⟨_,_,rfl,_⟩:=Rd.fn ‹_›;rfl)|(obtain ⟨_,_,rfl,_⟩:=Rd.fnr ‹_›;rfl)
 mono:=by
  rintro S S' h h' cs x ⟨v4,v5,v6,rfl,k0,k1,k2,k3,k4,k5,k6,k7,k8,k9,k10,k11,k12,k13,k14,k15,k16,k17⟩ s e
  exact⟨v4,v5,v6,rfl,k0,k1,k2,k3,k4.mono s e,k5.mono s e,k6.mono s e,k7,k8,k9,k10,k11,k12,k13,k14,k15,k16,k17⟩
theorem Bu.ex {S h v}{x:Ay}(k:Rd S h Bu v x):∃v4 v5 v6:Value,v= .agg #[.string x.Name,.int .i64 x.Kind,.int .i64 x.From,.int .i64 x.To,v4,v5,v6,.int .i64 x.Positions,.int .i64 x.Speed,.int .i64 x.Leak,.int .i64 x.Crest,.int .i64 x.Num,.int .i64 x.Den,.int .i64 x.Prime,.int .i64 x.Break,.int .i64 x.BackNum,.int .i64 x.BackDen,.int .i64 x.Delay]∧x.Name.size≤maxLen∧AG x.Kind∧AG x.From∧AG x.To∧Sl S h Bq v4 x.Rate∧Sl S h Bq v5 x.Band.Lo∧Sl S h Bq v6 x.Band.Hi∧AG x.Positions∧AG x.Speed∧AG x.Leak∧AG x.Crest∧AG x.Num∧AG x.Den∧AG x.Prime∧AG x.Break∧AG x.BackNum∧AG x.BackDen∧AG x.Delay:=by obtain⟨_,rfl,v4,v5,v6,rfl,k⟩:=k;exact⟨v4,v5,v6,rfl,k⟩
theorem Bu.mk {S h}{x:Ay}{v4 v5 v6:Value}(k0:x.Name.size≤maxLen) (k1:AG x.Kind) (k2:AG x.From) (k3:AG x.To) (k4:Sl S h Bq v4 x.Rate) (k5:Sl S h Bq v5 x.Band.Lo) (k6:Sl S h Bq v6 x.Band.Hi) (k7:AG x.Positions) (k8:AG x.Speed) (k9:AG x.Leak) (k10:AG x.Crest) (k11:AG x.Num) (k12:AG x.Den) (k13:AG x.Prime) (k14:AG x.Break) (k15:AG x.BackNum) (k16:AG x.BackDen) (k17:AG x.Delay):Rd S h Bu (.agg #[.string x.Name,.int .i64 x.Kind,.int .i64 x.From,.int .i64 x.To,v4,v5,v6,.int .i64 x.Positions,.int .i64 x.Speed,.int .i64 x.Leak,.int .i64 x.Crest,.int .i64 x.Num,.int .i64 x.Den,.int .i64 x.Prime,.int .i64 x.Break,.int .i64 x.BackNum,.int .i64 x.BackDen,.int .i64 x.Delay]) x:=⟨_,rfl,v4,v5,v6,rfl,k0,k1,k2,k3,k4,k5,k6,k7,k8,k9,k10,k11,k12,k13,k14,k15,k16,k17⟩
theorem Ay.f_Name:FM Bu 0 AM.str (·.Name):=by
 rintro S h cs x ⟨v4,v5,v6,rfl,k0,k1,k2,k3,k4,k5,k6,k7,k8,k9,k10,k11,k12,k13,k14,k15,k16,k17⟩
 exact⟨rfl,k0⟩
theorem Ay.f_Kind:FM Bu 1 AM.int (·.Kind):=by
 rintro S h cs x ⟨v4,v5,v6,rfl,k0,k1,k2,k3,k4,k5,k6,k7,k8,k9,k10,k11,k12,k13,k14,k15,k16,k17⟩
 exact⟨rfl,k1⟩
theorem Ay.f_To:FM Bu 3 AM.int (·.To):=by
 rintro S h cs x ⟨v4,v5,v6,rfl,k0,k1,k2,k3,k4,k5,k6,k7,k8,k9,k10,k11,k12,k13,k14,k15,k16,k17⟩
 exact⟨rfl,k3⟩
theorem JU:FM Bu 4 (AM.sl Bq) (·.Rate):=by
 rintro S h cs x ⟨v4,v5,v6,rfl,k0,k1,k2,k3,k4,k5,k6,k7,k8,k9,k10,k11,k12,k13,k14,k15,k16,k17⟩
 exact⟨_,rfl,k4⟩
theorem Ij:FM Bu 5 Lr (·.Band):=by
 rintro S h cs x ⟨v4,v5,v6,rfl,k0,k1,k2,k3,k4,k5,k6,k7,k8,k9,k10,k11,k12,k13,k14,k15,k16,k17⟩
 exact⟨_,_,rfl,k5,k6⟩
theorem D1:FM Bu 7 AM.int (·.Positions):=by
 rintro S h cs x ⟨v4,v5,v6,rfl,k0,k1,k2,k3,k4,k5,k6,k7,k8,k9,k10,k11,k12,k13,k14,k15,k16,k17⟩
 exact⟨rfl,k7⟩
theorem Ix:FM Bu 8 AM.int (·.Speed):=by
 rintro S h cs x ⟨v4,v5,v6,rfl,k0,k1,k2,k3,k4,k5,k6,k7,k8,k9,k10,k11,k12,k13,k14,k15,k16,k17⟩
 exact⟨rfl,k8⟩
theorem Lt:FM Bu 9 AM.int (·.Leak):=by
 rintro S h cs x ⟨v4,v5,v6,rfl,k0,k1,k2,k3,k4,k5,k6,k7,k8,k9,k10,k11,k12,k13,k14,k15,k16,k17⟩
 exact⟨rfl,k9⟩
theorem LD:FM Bu 10 AM.int (·.Crest):=by
 rintro S h cs x ⟨v4,v5,v6,rfl,k0,k1,k2,k3,k4,k5,k6,k7,k8,k9,k10,k11,k12,k13,k14,k15,k16,k17⟩
 exact⟨rfl,k10⟩
theorem Ay.f_Num:FM Bu 11 AM.int (·.Num):=by
 rintro S h cs x ⟨v4,v5,v6,rfl,k0,k1,k2,k3,k4,k5,k6,k7,k8,k9,k10,k11,k12,k13,k14,k15,k16,k17⟩
 exact⟨rfl,k11⟩
theorem Ay.f_Den:FM Bu 12 AM.int (·.Den):=by
 rintro S h cs x ⟨v4,v5,v6,rfl,k0,k1,k2,k3,k4,k5,k6,k7,k8,k9,k10,k11,k12,k13,k14,k15,k16,k17⟩
 exact⟨rfl,k12⟩
theorem Jq:FM Bu 13 AM.int (·.Prime):=by
 rintro S h cs x ⟨v4,v5,v6,rfl,k0,k1,k2,k3,k4,k5,k6,k7,k8,k9,k10,k11,k12,k13,k14,k15,k16,k17⟩
 exact⟨rfl,k13⟩
theorem Jr:FM Bu 14 AM.int (·.Break):=by
 rintro S h cs x ⟨v4,v5,v6,rfl,k0,k1,k2,k3,k4,k5,k6,k7,k8,k9,k10,k11,k12,k13,k14,k15,k16,k17⟩
 exact⟨rfl,k14⟩
theorem IB:FM Bu 15 AM.int (·.BackNum):=by
 rintro S h cs x ⟨v4,v5,v6,rfl,k0,k1,k2,k3,k4,k5,k6,k7,k8,k9,k10,k11,k12,k13,k14,k15,k16,k17⟩
 exact⟨rfl,k15⟩
theorem G7:FM Bu 16 AM.int (·.BackDen):=by
 rintro S h cs x ⟨v4,v5,v6,rfl,k0,k1,k2,k3,k4,k5,k6,k7,k8,k9,k10,k11,k12,k13,k14,k15,k16,k17⟩
 exact⟨rfl,k16⟩
structure Lx where
 Name:ByteArray
 Place:Int
 Flood:Int
 Lead:Int
 People:Int
 Watch:Int
 Quorum:Int
instance:Inhabited Lx:=⟨⟨default,default,default,default,default,default,default⟩⟩
@[reducible] def Lx.v (x:Lx):List Go.Value:=[.string x.Name,.int .i64 x.Place,.int .i64 x.Flood,.int .i64 x.Lead,.int .i64 x.People,.int .i64 x.Watch,.int .i64 x.Quorum]
def Lx.ok (x:Lx):Prop:=x.Name.size≤maxLen∧AG x.Place∧AG x.Flood∧AG x.Lead∧AG x.People∧AG x.Watch∧AG x.Quorum
def GL:AM Lx where
 sz:=7
 ag:=true
 rd:=λ_ _ cs x=>cs=x.v∧x.ok
 len:=λ⟨h,_⟩=>by rw[h];rfl
 one:=λ{_ _ _ x} ⟨h,_⟩ v hv=>by
  rw[h] at hv
  simp only[Lx.v,List.mem_cons,List.not_mem_nil,or_false] at hv
  rcases hv with rfl|rfl|rfl|rfl|rfl|rfl|rfl<;>rfl
 mono:=λh _ _=>h
theorem GL.ex {S h v}{x:Lx}(k:Rd S h GL v x):v= .agg #[.string x.Name,.int .i64 x.Place,.int .i64 x.Flood,.int .i64 x.Lead,.int .i64 x.People,.int .i64 x.Watch,.int .i64 x.Quorum]∧x.ok:=by obtain⟨_,rfl,rfl,h⟩:=k;exact⟨rfl,h⟩
theorem GL.mk {S h}{x:Lx}(k:x.ok):Rd S h GL (.agg #[.string x.Name,.int .i64 x.Place,.int .i64 x.Flood,.int .i64 x.Lead,.int .i64 x.People,.int .i64 x.Watch,.int .i64 x.Quorum]) x:=⟨x.v,rfl,rfl,k⟩
theorem Lx.f_Name:FM GL 0 AM.str (·.Name):=by
 rintro S h cs x ⟨rfl,⟨k0,k1,k2,k3,k4,k5,k6⟩⟩
 exact⟨rfl,k0⟩
structure Jg where
 Name:ByteArray
 Kind:Int
 Target:Int
 Err:Int
 Drift:Int
instance:Inhabited Jg:=⟨⟨default,default,default,default,default⟩⟩
@[reducible] def Jg.v (x:Jg):List Go.Value:=[.string x.Name,.int .i64 x.Kind,.int .i64 x.Target,.int .i64 x.Err,.int .i64 x.Drift]
def Jg.ok (x:Jg):Prop:=x.Name.size≤maxLen∧AG x.Kind∧AG x.Target∧AG x.Err∧AG x.Drift
def EN:AM Jg where
 sz:=5
 ag:=true
 rd:=λ_ _ cs x=>cs=x.v∧x.ok
 len:=λ⟨h,_⟩=>by rw[h];rfl
 one:=λ{_ _ _ x} ⟨h,_⟩ v hv=>by
  rw[h] at hv
  simp only[Jg.v,List.mem_cons,List.not_mem_nil,or_false] at hv
  rcases hv with rfl|rfl|rfl|rfl|rfl<;>rfl
 mono:=λh _ _=>h
theorem EN.ex {S h v}{x:Jg}(k:Rd S h EN v x):v= .agg #[.string x.Name,.int .i64 x.Kind,.int .i64 x.Target,.int .i64 x.Err,.int .i64 x.Drift]∧x.ok:=by obtain⟨_,rfl,rfl,h⟩:=k;exact⟨rfl,h⟩
theorem EN.mk {S h}{x:Jg}(k:x.ok):Rd S h EN (.agg #[.string x.Name,.int .i64 x.Kind,.int .i64 x.Target,.int .i64 x.Err,.int .i64 x.Drift]) x:=⟨x.v,rfl,rfl,k⟩
theorem Jg.f_Name:FM EN 0 AM.str (·.Name):=by
 rintro S h cs x ⟨rfl,⟨k0,k1,k2,k3,k4⟩⟩
 exact⟨rfl,k0⟩
theorem Jg.f_Kind:FM EN 1 AM.int (·.Kind):=by
 rintro S h cs x ⟨rfl,⟨k0,k1,k2,k3,k4⟩⟩
 exact⟨rfl,k1⟩
theorem Jg.f_Err:FM EN 3 AM.int (·.Err):=by
 rintro S h cs x ⟨rfl,⟨k0,k1,k2,k3,k4⟩⟩
 exact⟨rfl,k3⟩
structure Lz where
 Name:ByteArray
 From:Int
 To:Int
 Hours:Int
 Flow:Int
 By:Int
 Limit:Int
instance:Inhabited Lz:=⟨⟨default,default,default,default,default,default,default⟩⟩
@[reducible] def Lz.v (x:Lz):List Go.Value:=[.string x.Name,.int .i64 x.From,.int .i64 x.To,.int .i64 x.Hours,.int .i64 x.Flow,.int .i64 x.By,.int .i64 x.Limit]
def Lz.ok (x:Lz):Prop:=x.Name.size≤maxLen∧AG x.From∧AG x.To∧AG x.Hours∧AG x.Flow∧AG x.By∧AG x.Limit
def F8:AM Lz where
 sz:=7
 ag:=true
 rd:=λ_ _ cs x=>cs=x.v∧x.ok
 len:=λ⟨h,_⟩=>by rw[h];rfl
 one:=λ{_ _ _ x} ⟨h,_⟩ v hv=>by
  rw[h] at hv
  simp only[Lz.v,List.mem_cons,List.not_mem_nil,or_false] at hv
  rcases hv with rfl|rfl|rfl|rfl|rfl|rfl|rfl<;>rfl
 mono:=λh _ _=>h
theorem F8.ex {S h v}{x:Lz}(k:Rd S h F8 v x):v= .agg #[.string x.Name,.int .i64 x.From,.int .i64 x.To,.int .i64 x.Hours,.int .i64 x.Flow,.int .i64 x.By,.int .i64 x.Limit]∧x.ok:=by obtain⟨_,rfl,rfl,h⟩:=k;exact⟨rfl,h⟩
theorem F8.mk {S h}{x:Lz}(k:x.ok):Rd S h F8 (.agg #[.string x.Name,.int .i64 x.From,.int .i64 x.To,.int .i64 x.Hours,.int .i64 x.Flow,.int .i64 x.By,.int .i64 x.Limit]) x:=⟨x.v,rfl,rfl,k⟩
theorem Lz.f_Name:FM F8 0 AM.str (·.Name):=by
 rintro S h cs x ⟨rfl,⟨k0,k1,k2,k3,k4,k5,k6⟩⟩
 exact⟨rfl,k0⟩
theorem Lz.f_To:FM F8 2 AM.int (·.To):=by
 rintro S h cs x ⟨rfl,⟨k0,k1,k2,k3,k4,k5,k6⟩⟩
 exact⟨rfl,k2⟩
structure H9 where
 Name:ByteArray
 Room:Int
instance:Inhabited H9:=⟨⟨default,default⟩⟩
@[reducible] def H9.v (x:H9):List Go.Value:=[.string x.Name,.int .i64 x.Room]
def H9.ok (x:H9):Prop:=x.Name.size≤maxLen∧AG x.Room
def Cr:AM H9 where
 sz:=2
 ag:=true
 rd:=λ_ _ cs x=>cs=x.v∧x.ok
 len:=λ⟨h,_⟩=>by rw[h];rfl
 one:=λ{_ _ _ x} ⟨h,_⟩ v hv=>by
  rw[h] at hv
  simp only[H9.v,List.mem_cons,List.not_mem_nil,or_false] at hv
  rcases hv with rfl|rfl<;>rfl
 mono:=λh _ _=>h
theorem Cr.ex {S h v}{x:H9}(k:Rd S h Cr v x):v= .agg #[.string x.Name,.int .i64 x.Room]∧x.ok:=by obtain⟨_,rfl,rfl,h⟩:=k;exact⟨rfl,h⟩
theorem Cr.mk {S h}{x:H9}(k:x.ok):Rd S h Cr (.agg #[.string x.Name,.int .i64 x.Room]) x:=⟨x.v,rfl,rfl,k⟩
theorem H9.f_Name:FM Cr 0 AM.str (·.Name):=by
 rintro S h cs x ⟨rfl,⟨k0,k1⟩⟩
 exact⟨rfl,k0⟩
theorem H9.f_Room:FM Cr 1 AM.int (·.Room):=by
 rintro S h cs x ⟨rfl,⟨k0,k1⟩⟩
 exact⟨rfl,k1⟩
structure AW where
 Name:ByteArray
 Owners:(List ByteArray)
 Cells:Int
 Places:(List Dx)
 Links:(List Ay)
 Towns:(List Lx)
 Gauges:(List Jg)
 Roads:(List Lz)
 Shelters:(List H9)
 Room:(List Int)
 Err:Int
instance:Inhabited AW:=⟨⟨default,default,default,default,default,default,default,default,default,default,default⟩⟩
def B3:AM AW where
 sz:=11
 ag:=true
 rd:=λS h cs x=>∃v1 v3 v4 v5 v6 v7 v8 v9:Value,cs=[.string x.Name,v1,.int .i64 x.Cells,v3,v4,v5,v6,v7,v8,v9,.int .i64 x.Err]∧x.Name.size≤maxLen∧Sl S h AM.str v1 x.Owners∧AG x.Cells∧Sl S h Bw v3 x.Places∧Sl S h Bu v4 x.Links∧Sl S h GL v5 x.Towns∧Sl S h EN v6 x.Gauges∧Sl S h F8 v7 x.Roads∧Sl S h Cr v8 x.Shelters∧Sl S h AM.int v9 x.Room∧AG x.Err
 len:=λ⟨_,_,_,_,_,_,_,_,h,_⟩=>by rw[h];rfl
 one:=by
  rintro S h cs x ⟨v1,v3,v4,v5,v6,v7,v8,v9,rfl,k0,k1,k2,k3,k4,k5,k6,k7,k8,k9,k10⟩ v hv
  simp only[List.mem_cons,List.not_mem_nil,or_false] at hv
  rcases hv with rfl|rfl|rfl|rfl|rfl|rfl|rfl|rfl|rfl|rfl|rfl<;>first|rfl|exact Sl.one ‹_› |exact(‹_∧_›).2|(obtain ⟨_,_,rfl,_⟩:=Rd.fn ‹_›;rfl)|(obtain ⟨_,_,rfl,_⟩:=Rd.fnr ‹_›;rfl)
 mono:=by
  rintro S S' h h' cs x ⟨v1,v3,v4,v5,v6,v7,v8,v9,rfl,k0,k1,k2,k3,k4,k5,k6,k7,k8,k9,k10⟩ s e
  exact⟨v1,v3,v4,v5,v6,v7,v8,v9,rfl,k0,k1.mono s e,k2,k3.mono s e,k4.mono s e,k5.mono s e,k6.mono s e,k7.mono s e,k8.mono s e,k9.mono s e,k10⟩
theorem B3.ex {S h v}{x:AW}(k:Rd S h B3 v x):∃v1 v3 v4 v5 v6 v7 v8 v9:Value,v= .agg #[.string x.Name,v1,.int .i64 x.Cells,v3,v4,v5,v6,v7,v8,v9,.int .i64 x.Err]∧x.Name.size≤maxLen∧Sl S h AM.str v1 x.Owners∧AG x.Cells∧Sl S h Bw v3 x.Places∧Sl S h Bu v4 x.Links∧Sl S h GL v5 x.Towns∧Sl S h EN v6 x.Gauges∧Sl S h F8 v7 x.Roads∧Sl S h Cr v8 x.Shelters∧Sl S h AM.int v9 x.Room∧AG x.Err:=by obtain⟨_,rfl,v1,v3,v4,v5,v6,v7,v8,v9,rfl,k⟩:=k;exact⟨v1,v3,v4,v5,v6,v7,v8,v9,rfl,k⟩
theorem B3.mk {S h}{x:AW}{v1 v3 v4 v5 v6 v7 v8 v9:Value}(k0:x.Name.size≤maxLen) (k1:Sl S h AM.str v1 x.Owners) (k2:AG x.Cells) (k3:Sl S h Bw v3 x.Places) (k4:Sl S h Bu v4 x.Links) (k5:Sl S h GL v5 x.Towns) (k6:Sl S h EN v6 x.Gauges) (k7:Sl S h F8 v7 x.Roads) (k8:Sl S h Cr v8 x.Shelters) (k9:Sl S h AM.int v9 x.Room) (k10:AG x.Err):Rd S h B3 (.agg #[.string x.Name,v1,.int .i64 x.Cells,v3,v4,v5,v6,v7,v8,v9,.int .i64 x.Err]) x:=⟨_,rfl,v1,v3,v4,v5,v6,v7,v8,v9,rfl,k0,k1,k2,k3,k4,k5,k6,k7,k8,k9,k10⟩
theorem AW.f_Name:FM B3 0 AM.str (·.Name):=by
 rintro S h cs x ⟨v1,v3,v4,v5,v6,v7,v8,v9,rfl,k0,k1,k2,k3,k4,k5,k6,k7,k8,k9,k10⟩
 exact⟨rfl,k0⟩
theorem Dl:FM B3 1 (AM.sl AM.str) (·.Owners):=by
 rintro S h cs x ⟨v1,v3,v4,v5,v6,v7,v8,v9,rfl,k0,k1,k2,k3,k4,k5,k6,k7,k8,k9,k10⟩
 exact⟨_,rfl,k1⟩
theorem Ks:FM B3 2 AM.int (·.Cells):=by
 rintro S h cs x ⟨v1,v3,v4,v5,v6,v7,v8,v9,rfl,k0,k1,k2,k3,k4,k5,k6,k7,k8,k9,k10⟩
 exact⟨rfl,k2⟩
theorem BU:FM B3 3 (AM.sl Bw) (·.Places):=by
 rintro S h cs x ⟨v1,v3,v4,v5,v6,v7,v8,v9,rfl,k0,k1,k2,k3,k4,k5,k6,k7,k8,k9,k10⟩
 exact⟨_,rfl,k3⟩
theorem Eo:FM B3 4 (AM.sl Bu) (·.Links):=by
 rintro S h cs x ⟨v1,v3,v4,v5,v6,v7,v8,v9,rfl,k0,k1,k2,k3,k4,k5,k6,k7,k8,k9,k10⟩
 exact⟨_,rfl,k4⟩
theorem Ia:FM B3 5 (AM.sl GL) (·.Towns):=by
 rintro S h cs x ⟨v1,v3,v4,v5,v6,v7,v8,v9,rfl,k0,k1,k2,k3,k4,k5,k6,k7,k8,k9,k10⟩
 exact⟨_,rfl,k5⟩
theorem KD:FM B3 6 (AM.sl EN) (·.Gauges):=by
 rintro S h cs x ⟨v1,v3,v4,v5,v6,v7,v8,v9,rfl,k0,k1,k2,k3,k4,k5,k6,k7,k8,k9,k10⟩
 exact⟨_,rfl,k6⟩
theorem Kr:FM B3 7 (AM.sl F8) (·.Roads):=by
 rintro S h cs x ⟨v1,v3,v4,v5,v6,v7,v8,v9,rfl,k0,k1,k2,k3,k4,k5,k6,k7,k8,k9,k10⟩
 exact⟨_,rfl,k7⟩
theorem IK:FM B3 8 (AM.sl Cr) (·.Shelters):=by
 rintro S h cs x ⟨v1,v3,v4,v5,v6,v7,v8,v9,rfl,k0,k1,k2,k3,k4,k5,k6,k7,k8,k9,k10⟩
 exact⟨_,rfl,k8⟩
theorem AW.f_Room:FM B3 9 (AM.sl AM.int) (·.Room):=by
 rintro S h cs x ⟨v1,v3,v4,v5,v6,v7,v8,v9,rfl,k0,k1,k2,k3,k4,k5,k6,k7,k8,k9,k10⟩
 exact⟨_,rfl,k9⟩
theorem AW.f_Err:FM B3 10 AM.int (·.Err):=by
 rintro S h cs x ⟨v1,v3,v4,v5,v6,v7,v8,v9,rfl,k0,k1,k2,k3,k4,k5,k6,k7,k8,k9,k10⟩
 exact⟨rfl,k10⟩
structure Ao where
 At:Int
 To:Int
 Part:(List Int)
instance:Inhabited Ao:=⟨⟨default,default,default⟩⟩
def Ap:AM Ao where
 sz:=3
 ag:=true
 rd:=λS h cs x=>∃v2:Value,cs=[.int .i64 x.At,.int .i64 x.To,v2]∧AG x.At∧AG x.To∧Sl S h AM.int v2 x.Part
 len:=λ⟨_,h,_⟩=>by rw[h];rfl
 one:=by
  rintro S h cs x ⟨v2,rfl,k0,k1,k2⟩ v hv
  simp only[List.mem_cons,List.not_mem_nil,or_false] at hv
  rcases hv with rfl|rfl|rfl<;>first|rfl|exact Sl.one ‹_› |exact(‹_∧_›).2|(obtain ⟨_,_,rfl,_⟩:=Rd.fn ‹_›;rfl)|(obtain ⟨_,_,rfl,_⟩:=Rd.fnr ‹_›;rfl)
 mono:=by
  rintro S S' h h' cs x ⟨v2,rfl,k0,k1,k2⟩ s e
  exact⟨v2,rfl,k0,k1,k2.mono s e⟩
theorem Ap.ex {S h v}{x:Ao}(k:Rd S h Ap v x):∃v2:Value,v= .agg #[.int .i64 x.At,.int .i64 x.To,v2]∧AG x.At∧AG x.To∧Sl S h AM.int v2 x.Part:=by obtain⟨_,rfl,v2,rfl,k⟩:=k;exact⟨v2,rfl,k⟩
theorem Ap.mk {S h}{x:Ao}{v2:Value}(k0:AG x.At) (k1:AG x.To) (k2:Sl S h AM.int v2 x.Part):Rd S h Ap (.agg #[.int .i64 x.At,.int .i64 x.To,v2]) x:=⟨_,rfl,v2,rfl,k0,k1,k2⟩
theorem P8:FM Ap 0 AM.int (·.At):=by
 rintro S h cs x ⟨v2,rfl,k0,k1,k2⟩
 exact⟨rfl,k0⟩
theorem Ao.f_To:FM Ap 1 AM.int (·.To):=by
 rintro S h cs x ⟨v2,rfl,k0,k1,k2⟩
 exact⟨rfl,k1⟩
theorem Ao.f_Part:FM Ap 2 (AM.sl AM.int) (·.Part):=by
 rintro S h cs x ⟨v2,rfl,k0,k1,k2⟩
 exact⟨_,rfl,k2⟩
structure Au where
 Pos:Int
 Target:Int
 Stuck:Bool
 Open:Bool
instance:Inhabited Au:=⟨⟨default,default,default,default⟩⟩
@[reducible] def Au.v (x:Au):List Go.Value:=[.int .i64 x.Pos,.int .i64 x.Target,.bool x.Stuck,.bool x.Open]
def Au.ok (x:Au):Prop:=AG x.Pos∧AG x.Target
def A8:AM Au where
 sz:=4
 ag:=true
 rd:=λ_ _ cs x=>cs=x.v∧x.ok
 len:=λ⟨h,_⟩=>by rw[h];rfl
 one:=λ{_ _ _ x} ⟨h,_⟩ v hv=>by
  rw[h] at hv
  simp only[Au.v,List.mem_cons,List.not_mem_nil,or_false] at hv
  rcases hv with rfl|rfl|rfl|rfl<;>rfl
 mono:=λh _ _=>h
theorem A8.ex {S h v}{x:Au}(k:Rd S h A8 v x):v= .agg #[.int .i64 x.Pos,.int .i64 x.Target,.bool x.Stuck,.bool x.Open]∧x.ok:=by obtain⟨_,rfl,rfl,h⟩:=k;exact⟨rfl,h⟩
theorem A8.mk {S h}{x:Au}(k:x.ok):Rd S h A8 (.agg #[.int .i64 x.Pos,.int .i64 x.Target,.bool x.Stuck,.bool x.Open]) x:=⟨x.v,rfl,rfl,k⟩
theorem TL:FM A8 0 AM.int (·.Pos):=by
 rintro S h cs x ⟨rfl,⟨k0,k1⟩⟩
 exact⟨rfl,k0⟩
theorem R7:FM A8 3 AM.bool (·.Open):=by
 rintro S h cs x ⟨rfl,⟨k0,k1⟩⟩
 exact rfl
structure Ak where
 Hour:Int
 Own:(List (List Int))
 Rem:(List Int)
 Queue:(List Ao)
 Gates:(List Au)
 In:(List Int)
 Out:(List Int)
instance:Inhabited Ak:=⟨⟨default,default,default,default,default,default,default⟩⟩
def CJ:AM Ak where
 sz:=7
 ag:=true
 rd:=λS h cs x=>∃v1 v2 v3 v4 v5 v6:Value,cs=[.int .i64 x.Hour,v1,v2,v3,v4,v5,v6]∧AG x.Hour∧Sl S h (AM.sl AM.int) v1 x.Own∧Sl S h AM.int v2 x.Rem∧Sl S h Ap v3 x.Queue∧Sl S h A8 v4 x.Gates∧Sl S h AM.int v5 x.In∧Sl S h AM.int v6 x.Out
 len:=λ⟨_,_,_,_,_,_,h,_⟩=>by rw[h];rfl
 one:=by
  rintro S h cs x ⟨v1,v2,v3,v4,v5,v6,rfl,k0,k1,k2,k3,k4,k5,k6⟩ v hv
  simp only[List.mem_cons,List.not_mem_nil,or_false] at hv
  rcases hv with rfl|rfl|rfl|rfl|rfl|rfl|rfl<;>first|rfl|exact Sl.one ‹_› |exact(‹_∧_›).2|(obtain ⟨_,_,rfl,_⟩:=Rd.fn ‹_›;rfl)|(obtain ⟨_,_,rfl,_⟩:=Rd.fnr ‹_›;rfl)
 mono:=by
  rintro S S' h h' cs x ⟨v1,v2,v3,v4,v5,v6,rfl,k0,k1,k2,k3,k4,k5,k6⟩ s e
  exact⟨v1,v2,v3,v4,v5,v6,rfl,k0,k1.mono s e,k2.mono s e,k3.mono s e,k4.mono s e,k5.mono s e,k6.mono s e⟩
theorem CJ.ex {S h v}{x:Ak}(k:Rd S h CJ v x):∃v1 v2 v3 v4 v5 v6:Value,v= .agg #[.int .i64 x.Hour,v1,v2,v3,v4,v5,v6]∧AG x.Hour∧Sl S h (AM.sl AM.int) v1 x.Own∧Sl S h AM.int v2 x.Rem∧Sl S h Ap v3 x.Queue∧Sl S h A8 v4 x.Gates∧Sl S h AM.int v5 x.In∧Sl S h AM.int v6 x.Out:=by obtain⟨_,rfl,v1,v2,v3,v4,v5,v6,rfl,k⟩:=k;exact⟨v1,v2,v3,v4,v5,v6,rfl,k⟩
theorem CJ.mk {S h}{x:Ak}{v1 v2 v3 v4 v5 v6:Value}(k0:AG x.Hour) (k1:Sl S h (AM.sl AM.int) v1 x.Own) (k2:Sl S h AM.int v2 x.Rem) (k3:Sl S h Ap v3 x.Queue) (k4:Sl S h A8 v4 x.Gates) (k5:Sl S h AM.int v5 x.In) (k6:Sl S h AM.int v6 x.Out):Rd S h CJ (.agg #[.int .i64 x.Hour,v1,v2,v3,v4,v5,v6]) x:=⟨_,rfl,v1,v2,v3,v4,v5,v6,rfl,k0,k1,k2,k3,k4,k5,k6⟩
theorem Ak.f_Hour:FM CJ 0 AM.int (·.Hour):=by
 rintro S h cs x ⟨v1,v2,v3,v4,v5,v6,rfl,k0,k1,k2,k3,k4,k5,k6⟩
 exact⟨rfl,k0⟩
theorem JS:FM CJ 1 (AM.sl (AM.sl AM.int)) (·.Own):=by
 rintro S h cs x ⟨v1,v2,v3,v4,v5,v6,rfl,k0,k1,k2,k3,k4,k5,k6⟩
 exact⟨_,rfl,k1⟩
theorem JR:FM CJ 2 (AM.sl AM.int) (·.Rem):=by
 rintro S h cs x ⟨v1,v2,v3,v4,v5,v6,rfl,k0,k1,k2,k3,k4,k5,k6⟩
 exact⟨_,rfl,k2⟩
theorem IZ:FM CJ 3 (AM.sl Ap) (·.Queue):=by
 rintro S h cs x ⟨v1,v2,v3,v4,v5,v6,rfl,k0,k1,k2,k3,k4,k5,k6⟩
 exact⟨_,rfl,k3⟩
theorem JT:FM CJ 4 (AM.sl A8) (·.Gates):=by
 rintro S h cs x ⟨v1,v2,v3,v4,v5,v6,rfl,k0,k1,k2,k3,k4,k5,k6⟩
 exact⟨_,rfl,k4⟩
theorem JB:FM CJ 5 (AM.sl AM.int) (·.In):=by
 rintro S h cs x ⟨v1,v2,v3,v4,v5,v6,rfl,k0,k1,k2,k3,k4,k5,k6⟩
 exact⟨_,rfl,k5⟩
theorem Ii:FM CJ 6 (AM.sl AM.int) (·.Out):=by
 rintro S h cs x ⟨v1,v2,v3,v4,v5,v6,rfl,k0,k1,k2,k3,k4,k5,k6⟩
 exact⟨_,rfl,k6⟩
structure AQ where
 group:ByteArray
 name:ByteArray
instance:Inhabited AQ:=⟨⟨default,default⟩⟩
@[reducible] def AQ.v (x:AQ):List Go.Value:=[.string x.group,.string x.name]
def AQ.ok (x:AQ):Prop:=x.group.size≤maxLen∧x.name.size≤maxLen
def KR:AM AQ where
 sz:=2
 ag:=true
 rd:=λ_ _ cs x=>cs=x.v∧x.ok
 len:=λ⟨h,_⟩=>by rw[h];rfl
 one:=λ{_ _ _ x} ⟨h,_⟩ v hv=>by
  rw[h] at hv
  simp only[AQ.v,List.mem_cons,List.not_mem_nil,or_false] at hv
  rcases hv with rfl|rfl<;>rfl
 mono:=λh _ _=>h
theorem KR.ex {S h v}{x:AQ}(k:Rd S h KR v x):v= .agg #[.string x.group,.string x.name]∧x.ok:=by obtain⟨_,rfl,rfl,h⟩:=k;exact⟨rfl,h⟩
theorem KR.mk {S h}{x:AQ}(k:x.ok):Rd S h KR (.agg #[.string x.group,.string x.name]) x:=⟨x.v,rfl,rfl,k⟩
structure Jh where
 Kind:Int
 Link:Int
instance:Inhabited Jh:=⟨⟨default,default⟩⟩
@[reducible] def Jh.v (x:Jh):List Go.Value:=[.int .i64 x.Kind,.int .i64 x.Link]
def Jh.ok (x:Jh):Prop:=AG x.Kind∧AG x.Link
def FL:AM Jh where
 sz:=2
 ag:=true
 rd:=λ_ _ cs x=>cs=x.v∧x.ok
 len:=λ⟨h,_⟩=>by rw[h];rfl
 one:=λ{_ _ _ x} ⟨h,_⟩ v hv=>by
  rw[h] at hv
  simp only[Jh.v,List.mem_cons,List.not_mem_nil,or_false] at hv
  rcases hv with rfl|rfl<;>rfl
 mono:=λh _ _=>h
theorem FL.ex {S h v}{x:Jh}(k:Rd S h FL v x):v= .agg #[.int .i64 x.Kind,.int .i64 x.Link]∧x.ok:=by obtain⟨_,rfl,rfl,h⟩:=k;exact⟨rfl,h⟩
theorem FL.mk {S h}{x:Jh}(k:x.ok):Rd S h FL (.agg #[.int .i64 x.Kind,.int .i64 x.Link]) x:=⟨x.v,rfl,rfl,k⟩
theorem Jh.f_Kind:FM FL 0 AM.int (·.Kind):=by
 rintro S h cs x ⟨rfl,⟨k0,k1⟩⟩
 exact⟨rfl,k0⟩
structure O4 where
 Link:Int
 Target:Int
instance:Inhabited O4:=⟨⟨default,default⟩⟩
@[reducible] def O4.v (x:O4):List Go.Value:=[.int .i64 x.Link,.int .i64 x.Target]
def O4.ok (x:O4):Prop:=AG x.Link∧AG x.Target
def IX:AM O4 where
 sz:=2
 ag:=true
 rd:=λ_ _ cs x=>cs=x.v∧x.ok
 len:=λ⟨h,_⟩=>by rw[h];rfl
 one:=λ{_ _ _ x} ⟨h,_⟩ v hv=>by
  rw[h] at hv
  simp only[O4.v,List.mem_cons,List.not_mem_nil,or_false] at hv
  rcases hv with rfl|rfl<;>rfl
 mono:=λh _ _=>h
theorem IX.ex {S h v}{x:O4}(k:Rd S h IX v x):v= .agg #[.int .i64 x.Link,.int .i64 x.Target]∧x.ok:=by obtain⟨_,rfl,rfl,h⟩:=k;exact⟨rfl,h⟩
theorem IX.mk {S h}{x:O4}(k:x.ok):Rd S h IX (.agg #[.int .i64 x.Link,.int .i64 x.Target]) x:=⟨x.v,rfl,rfl,k⟩
structure Fj where
 Place:Int
 Owner:Int
 Litres:Int
 To:Int
instance:Inhabited Fj:=⟨⟨default,default,default,default⟩⟩
@[reducible] def Fj.v (x:Fj):List Go.Value:=[.int .i64 x.Place,.int .i64 x.Owner,.int .i64 x.Litres,.int .i64 x.To]
def Fj.ok (x:Fj):Prop:=AG x.Place∧AG x.Owner∧AG x.Litres∧AG x.To
def FX:AM Fj where
 sz:=4
 ag:=true
 rd:=λ_ _ cs x=>cs=x.v∧x.ok
 len:=λ⟨h,_⟩=>by rw[h];rfl
 one:=λ{_ _ _ x} ⟨h,_⟩ v hv=>by
  rw[h] at hv
  simp only[Fj.v,List.mem_cons,List.not_mem_nil,or_false] at hv
  rcases hv with rfl|rfl|rfl|rfl<;>rfl
 mono:=λh _ _=>h
theorem FX.ex {S h v}{x:Fj}(k:Rd S h FX v x):v= .agg #[.int .i64 x.Place,.int .i64 x.Owner,.int .i64 x.Litres,.int .i64 x.To]∧x.ok:=by obtain⟨_,rfl,rfl,h⟩:=k;exact⟨rfl,h⟩
theorem FX.mk {S h}{x:Fj}(k:x.ok):Rd S h FX (.agg #[.int .i64 x.Place,.int .i64 x.Owner,.int .i64 x.Litres,.int .i64 x.To]) x:=⟨x.v,rfl,rfl,k⟩
theorem QR:FM FX 1 AM.int (·.Owner):=by
 rintro S h cs x ⟨rfl,⟨k0,k1,k2,k3⟩⟩
 exact⟨rfl,k1⟩
theorem Fj.f_Litres:FM FX 2 AM.int (·.Litres):=by
 rintro S h cs x ⟨rfl,⟨k0,k1,k2,k3⟩⟩
 exact⟨rfl,k2⟩
theorem Fj.f_To:FM FX 3 AM.int (·.To):=by
 rintro S h cs x ⟨rfl,⟨k0,k1,k2,k3⟩⟩
 exact⟨rfl,k3⟩
structure Ly where
 Place:Int
 From:Int
 To:Int
 Litres:Int
instance:Inhabited Ly:=⟨⟨default,default,default,default⟩⟩
@[reducible] def Ly.v (x:Ly):List Go.Value:=[.int .i64 x.Place,.int .i64 x.From,.int .i64 x.To,.int .i64 x.Litres]
def Ly.ok (x:Ly):Prop:=AG x.Place∧AG x.From∧AG x.To∧AG x.Litres
def GM:AM Ly where
 sz:=4
 ag:=true
 rd:=λ_ _ cs x=>cs=x.v∧x.ok
 len:=λ⟨h,_⟩=>by rw[h];rfl
 one:=λ{_ _ _ x} ⟨h,_⟩ v hv=>by
  rw[h] at hv
  simp only[Ly.v,List.mem_cons,List.not_mem_nil,or_false] at hv
  rcases hv with rfl|rfl|rfl|rfl<;>rfl
 mono:=λh _ _=>h
theorem GM.ex {S h v}{x:Ly}(k:Rd S h GM v x):v= .agg #[.int .i64 x.Place,.int .i64 x.From,.int .i64 x.To,.int .i64 x.Litres]∧x.ok:=by obtain⟨_,rfl,rfl,h⟩:=k;exact⟨rfl,h⟩
theorem GM.mk {S h}{x:Ly}(k:x.ok):Rd S h GM (.agg #[.int .i64 x.Place,.int .i64 x.From,.int .i64 x.To,.int .i64 x.Litres]) x:=⟨x.v,rfl,rfl,k⟩
theorem Ly.f_To:FM GM 2 AM.int (·.To):=by
 rintro S h cs x ⟨rfl,⟨k0,k1,k2,k3⟩⟩
 exact⟨rfl,k2⟩
theorem Ly.f_Litres:FM GM 3 AM.int (·.Litres):=by
 rintro S h cs x ⟨rfl,⟨k0,k1,k2,k3⟩⟩
 exact⟨rfl,k3⟩
structure Ct where
 Rain:(List Int)
 Faults:(List Jh)
 Cmds:(List O4)
 Takes:(List Fj)
 Swaps:(List Ly)
instance:Inhabited Ct:=⟨⟨default,default,default,default,default⟩⟩
def Fg:AM Ct where
 sz:=5
 ag:=true
 rd:=λS h cs x=>∃v0 v1 v2 v3 v4:Value,cs=[v0,v1,v2,v3,v4]∧Sl S h AM.int v0 x.Rain∧Sl S h FL v1 x.Faults∧Sl S h IX v2 x.Cmds∧Sl S h FX v3 x.Takes∧Sl S h GM v4 x.Swaps
 len:=λ⟨_,_,_,_,_,h,_⟩=>by rw[h];rfl
 one:=by
  rintro S h cs x ⟨v0,v1,v2,v3,v4,rfl,k0,k1,k2,k3,k4⟩ v hv
  simp only[List.mem_cons,List.not_mem_nil,or_false] at hv
  rcases hv with rfl|rfl|rfl|rfl|rfl<;>first|rfl|exact Sl.one ‹_› |exact(‹_∧_›).2|(obtain ⟨_,_,rfl,_⟩:=Rd.fn ‹_›;rfl)|(obtain ⟨_,_,rfl,_⟩:=Rd.fnr ‹_›;rfl)
 mono:=by
  rintro S S' h h' cs x ⟨v0,v1,v2,v3,v4,rfl,k0,k1,k2,k3,k4⟩ s e
  exact⟨v0,v1,v2,v3,v4,rfl,k0.mono s e,k1.mono s e,k2.mono s e,k3.mono s e,k4.mono s e⟩
theorem Fg.ex {S h v}{x:Ct}(k:Rd S h Fg v x):∃v0 v1 v2 v3 v4:Value,v= .agg #[v0,v1,v2,v3,v4]∧Sl S h AM.int v0 x.Rain∧Sl S h FL v1 x.Faults∧Sl S h IX v2 x.Cmds∧Sl S h FX v3 x.Takes∧Sl S h GM v4 x.Swaps:=by obtain⟨_,rfl,v0,v1,v2,v3,v4,rfl,k⟩:=k;exact⟨v0,v1,v2,v3,v4,rfl,k⟩
theorem Fg.mk {S h}{x:Ct}{v0 v1 v2 v3 v4:Value}(k0:Sl S h AM.int v0 x.Rain) (k1:Sl S h FL v1 x.Faults) (k2:Sl S h IX v2 x.Cmds) (k3:Sl S h FX v3 x.Takes) (k4:Sl S h GM v4 x.Swaps):Rd S h Fg (.agg #[v0,v1,v2,v3,v4]) x:=⟨_,rfl,v0,v1,v2,v3,v4,rfl,k0,k1,k2,k3,k4⟩
theorem Ct.f_Rain:FM Fg 0 (AM.sl AM.int) (·.Rain):=by
 rintro S h cs x ⟨v0,v1,v2,v3,v4,rfl,k0,k1,k2,k3,k4⟩
 exact⟨_,rfl,k0⟩
theorem O3:FM Fg 1 (AM.sl FL) (·.Faults):=by
 rintro S h cs x ⟨v0,v1,v2,v3,v4,rfl,k0,k1,k2,k3,k4⟩
 exact⟨_,rfl,k1⟩
theorem QS:FM Fg 2 (AM.sl IX) (·.Cmds):=by
 rintro S h cs x ⟨v0,v1,v2,v3,v4,rfl,k0,k1,k2,k3,k4⟩
 exact⟨_,rfl,k2⟩
theorem P9:FM Fg 3 (AM.sl FX) (·.Takes):=by
 rintro S h cs x ⟨v0,v1,v2,v3,v4,rfl,k0,k1,k2,k3,k4⟩
 exact⟨_,rfl,k3⟩
theorem Me:FM Fg 4 (AM.sl GM) (·.Swaps):=by
 rintro S h cs x ⟨v0,v1,v2,v3,v4,rfl,k0,k1,k2,k3,k4⟩
 exact⟨_,rfl,k4⟩
structure Ae where
 Hour:Int
 From:Int
 To:Int
 Way:Int
 Part:(List Int)
instance:Inhabited Ae:=⟨⟨default,default,default,default,default⟩⟩
def BT:AM Ae where
 sz:=5
 ag:=true
 rd:=λS h cs x=>∃v4:Value,cs=[.int .i64 x.Hour,.int .i64 x.From,.int .i64 x.To,.int .i64 x.Way,v4]∧AG x.Hour∧AG x.From∧AG x.To∧AG x.Way∧Sl S h AM.int v4 x.Part
 len:=λ⟨_,h,_⟩=>by rw[h];rfl
 one:=by
  rintro S h cs x ⟨v4,rfl,k0,k1,k2,k3,k4⟩ v hv
  simp only[List.mem_cons,List.not_mem_nil,or_false] at hv
  rcases hv with rfl|rfl|rfl|rfl|rfl<;>first|rfl|exact Sl.one ‹_› |exact(‹_∧_›).2|(obtain ⟨_,_,rfl,_⟩:=Rd.fn ‹_›;rfl)|(obtain ⟨_,_,rfl,_⟩:=Rd.fnr ‹_›;rfl)
 mono:=by
  rintro S S' h h' cs x ⟨v4,rfl,k0,k1,k2,k3,k4⟩ s e
  exact⟨v4,rfl,k0,k1,k2,k3,k4.mono s e⟩
theorem BT.ex {S h v}{x:Ae}(k:Rd S h BT v x):∃v4:Value,v= .agg #[.int .i64 x.Hour,.int .i64 x.From,.int .i64 x.To,.int .i64 x.Way,v4]∧AG x.Hour∧AG x.From∧AG x.To∧AG x.Way∧Sl S h AM.int v4 x.Part:=by obtain⟨_,rfl,v4,rfl,k⟩:=k;exact⟨v4,rfl,k⟩
theorem BT.mk {S h}{x:Ae}{v4:Value}(k0:AG x.Hour) (k1:AG x.From) (k2:AG x.To) (k3:AG x.Way) (k4:Sl S h AM.int v4 x.Part):Rd S h BT (.agg #[.int .i64 x.Hour,.int .i64 x.From,.int .i64 x.To,.int .i64 x.Way,v4]) x:=⟨_,rfl,v4,rfl,k0,k1,k2,k3,k4⟩
theorem Ae.f_Hour:FM BT 0 AM.int (·.Hour):=by
 rintro S h cs x ⟨v4,rfl,k0,k1,k2,k3,k4⟩
 exact⟨rfl,k0⟩
theorem Ae.f_To:FM BT 2 AM.int (·.To):=by
 rintro S h cs x ⟨v4,rfl,k0,k1,k2,k3,k4⟩
 exact⟨rfl,k2⟩
theorem FK:FM BT 3 AM.int (·.Way):=by
 rintro S h cs x ⟨v4,rfl,k0,k1,k2,k3,k4⟩
 exact⟨rfl,k3⟩
theorem Ae.f_Part:FM BT 4 (AM.sl AM.int) (·.Part):=by
 rintro S h cs x ⟨v4,rfl,k0,k1,k2,k3,k4⟩
 exact⟨_,rfl,k4⟩
structure Aj where
 b:AW
 in_:Ct
 s:Ak
 moves:(List Ae)
 peaks:(List Int)
 sent:(List Ao)
instance:Inhabited Aj:=⟨⟨default,default,default,default,default,default⟩⟩
def K4:AM Aj where
 sz:=26
 ag:=true
 rd:=λS h cs x=>∃v1 v3 v4 v5 v6 v7 v8 v9 v11 v12 v13 v14 v15 v17 v18 v19 v20 v21 v22 v23 v24 v25:Value,cs=[.string x.b.Name,v1,.int .i64 x.b.Cells,v3,v4,v5,v6,v7,v8,v9,.int .i64 x.b.Err,v11,v12,v13,v14,v15,.int .i64 x.s.Hour,v17,v18,v19,v20,v21,v22,v23,v24,v25]∧x.b.Name.size≤maxLen∧Sl S h AM.str v1 x.b.Owners∧AG x.b.Cells∧Sl S h Bw v3 x.b.Places∧Sl S h Bu v4 x.b.Links∧Sl S h GL v5 x.b.Towns∧Sl S h EN v6 x.b.Gauges∧Sl S h F8 v7 x.b.Roads∧Sl S h Cr v8 x.b.Shelters∧Sl S h AM.int v9 x.b.Room∧AG x.b.Err∧Sl S h AM.int v11 x.in_.Rain∧Sl S h FL v12 x.in_.Faults∧Sl S h IX v13 x.in_.Cmds∧Sl S h FX v14 x.in_.Takes∧Sl S h GM v15 x.in_.Swaps∧AG x.s.Hour∧Sl S h (AM.sl AM.int) v17 x.s.Own∧Sl S h AM.int v18 x.s.Rem∧Sl S h Ap v19 x.s.Queue∧Sl S h A8 v20 x.s.Gates∧Sl S h AM.int v21 x.s.In∧Sl S h AM.int v22 x.s.Out∧Sl S h BT v23 x.moves∧Sl S h AM.int v24 x.peaks∧Sl S h Ap v25 x.sent
 len:=λ⟨_,_,_,_,_,_,_,_,_,_,_,_,_,_,_,_,_,_,_,_,_,_,h,_⟩=>by rw[h];rfl
 one:=by
  rintro S h cs x ⟨v1,v3,v4,v5,v6,v7,v8,v9,v11,v12,v13,v14,v15,v17,v18,v19,v20,v21,v22,v23,v24,v25,rfl,k0,k1,k2,k3,k4,k5,k6,k7,k8,k9,k10,k11,k12,k13,k14,k15,k16,k17,k18,k19,k20,k21,k22,k23,k24,k25⟩ v hv
  simp only[List.mem_cons,List.not_mem_nil,or_false] at hv
  rcases hv with rfl|rfl|rfl|rfl|rfl|rfl|rfl|rfl|rfl|rfl|rfl|rfl|rfl|rfl|rfl|rfl|rfl|rfl|rfl|rfl|rfl|rfl|rfl|rfl|rfl|rfl<;>first|rfl|exact Sl.one ‹_› |exact(‹_∧_›).2|(obtain ⟨_,_,rfl,_⟩:=Rd.fn ‹_›;rfl)|(obtain ⟨_,_,rfl,_⟩:=Rd.fnr ‹_›;rfl)
 mono:=by
  rintro S S' h h' cs x ⟨v1,v3,v4,v5,v6,v7,v8,v9,v11,v12,v13,v14,v15,v17,v18,v19,v20,v21,v22,v23,v24,v25,rfl,k0,k1,k2,k3,k4,k5,k6,k7,k8,k9,k10,k11,k12,k13,k14,k15,k16,k17,k18,k19,k20,k21,k22,k23,k24,k25⟩ s e
  exact⟨v1,v3,v4,v5,v6,v7,v8,v9,v11,v12,v13,v14,v15,v17,v18,v19,v20,v21,v22,v23,v24,v25,rfl,k0,k1.mono s e,k2,k3.mono s e,k4.mono s e,k5.mono s e,k6.mono s e,k7.mono s e,k8.mono s e,k9.mono s e,k10,k11.mono s e,k12.mono s e,k13.mono s e,k14.mono s e,k15.mono s e,k16,k17.mono s e,k18.mono s e,k19.mono s e,k20.mono s e,k21.mono s e,k22.mono s e,k23.mono s e,k24.mono s e,k25.mono s e⟩
theorem K4.ex {S h v}{x:Aj}(k:Rd S h K4 v x):∃v1 v3 v4 v5 v6 v7 v8 v9 v11 v12 v13 v14 v15 v17 v18 v19 v20 v21 v22 v23 v24 v25:Value,v= .agg #[.string x.b.Name,v1,.int .i64 x.b.Cells,v3,v4,v5,v6,v7,v8,v9,.int .i64 x.b.Err,v11,v12,v13,v14,v15,.int .i64 x.s.Hour,v17,v18,v19,v20,v21,v22,v23,v24,v25]∧x.b.Name.size≤maxLen∧Sl S h AM.str v1 x.b.Owners∧AG x.b.Cells∧Sl S h Bw v3 x.b.Places∧Sl S h Bu v4 x.b.Links∧Sl S h GL v5 x.b.Towns∧Sl S h EN v6 x.b.Gauges∧Sl S h F8 v7 x.b.Roads∧Sl S h Cr v8 x.b.Shelters∧Sl S h AM.int v9 x.b.Room∧AG x.b.Err∧Sl S h AM.int v11 x.in_.Rain∧Sl S h FL v12 x.in_.Faults∧Sl S h IX v13 x.in_.Cmds∧Sl S h FX v14 x.in_.Takes∧Sl S h GM v15 x.in_.Swaps∧AG x.s.Hour∧Sl S h (AM.sl AM.int) v17 x.s.Own∧Sl S h AM.int v18 x.s.Rem∧Sl S h Ap v19 x.s.Queue∧Sl S h A8 v20 x.s.Gates∧Sl S h AM.int v21 x.s.In∧Sl S h AM.int v22 x.s.Out∧Sl S h BT v23 x.moves∧Sl S h AM.int v24 x.peaks∧Sl S h Ap v25 x.sent:=by obtain⟨_,rfl,v1,v3,v4,v5,v6,v7,v8,v9,v11,v12,v13,v14,v15,v17,v18,v19,v20,v21,v22,v23,v24,v25,rfl,k⟩:=k;exact⟨v1,v3,v4,v5,v6,v7,v8,v9,v11,v12,v13,v14,v15,v17,v18,v19,v20,v21,v22,v23,v24,v25,rfl,k⟩
theorem K4.mk {S h}{x:Aj}{v1 v3 v4 v5 v6 v7 v8 v9 v11 v12 v13 v14 v15 v17 v18 v19 v20 v21 v22 v23 v24 v25:Value}(k0:x.b.Name.size≤maxLen) (k1:Sl S h AM.str v1 x.b.Owners) (k2:AG x.b.Cells) (k3:Sl S h Bw v3 x.b.Places) (k4:Sl S h Bu v4 x.b.Links) (k5:Sl S h GL v5 x.b.Towns) (k6:Sl S h EN v6 x.b.Gauges) (k7:Sl S h F8 v7 x.b.Roads) (k8:Sl S h Cr v8 x.b.Shelters) (k9:Sl S h AM.int v9 x.b.Room) (k10:AG x.b.Err) (k11:Sl S h AM.int v11 x.in_.Rain) (k12:Sl S h FL v12 x.in_.Faults) (k13:Sl S h IX v13 x.in_.Cmds) (k14:Sl S h FX v14 x.in_.Takes) (k15:Sl S h GM v15 x.in_.Swaps) (k16:AG x.s.Hour) (k17:Sl S h (AM.sl AM.int) v17 x.s.Own) (k18:Sl S h AM.int v18 x.s.Rem) (k19:Sl S h Ap v19 x.s.Queue) (k20:Sl S h A8 v20 x.s.Gates) (k21:Sl S h AM.int v21 x.s.In) (k22:Sl S h AM.int v22 x.s.Out) (k23:Sl S h BT v23 x.moves) (k24:Sl S h AM.int v24 x.peaks) (k25:Sl S h Ap v25 x.sent):Rd S h K4 (.agg #[.string x.b.Name,v1,.int .i64 x.b.Cells,v3,v4,v5,v6,v7,v8,v9,.int .i64 x.b.Err,v11,v12,v13,v14,v15,.int .i64 x.s.Hour,v17,v18,v19,v20,v21,v22,v23,v24,v25]) x:=⟨_,rfl,v1,v3,v4,v5,v6,v7,v8,v9,v11,v12,v13,v14,v15,v17,v18,v19,v20,v21,v22,v23,v24,v25,rfl,k0,k1,k2,k3,k4,k5,k6,k7,k8,k9,k10,k11,k12,k13,k14,k15,k16,k17,k18,k19,k20,k21,k22,k23,k24,k25⟩
structure AK where
 to_:Int
 delay:Int
 way:Int
 take:((List Int)→Option ((List Int)×(List Int)))
instance:Inhabited AK:=⟨⟨default,default,default,default⟩⟩
def Ar:AM AK where
 sz:=4
 ag:=true
 rd:=λS h cs x=>∃v3:Value,cs=[.int .i64 x.to_,.int .i64 x.delay,.int .i64 x.way,v3]∧AG x.to_∧AG x.delay∧AG x.way∧Rd S h (AM.fnr Tryz.prog (λS h vs (x:(List Int))=>∃w0:Value,vs=[w0]∧Sl S h AM.int w0 x) (λS h v (y:((List Int)×(List Int)))=>∃w0 w1:Value,v= .tuple #[w0,w1]∧Sl S h AM.int w0 y.1∧Sl S h AM.int w1 y.2)) v3 x.take
 len:=λ⟨_,h,_⟩=>by rw[h];rfl
 one:=by
  rintro S h cs x ⟨v3,rfl,k0,k1,k2,k3⟩ v hv
  simp only[List.mem_cons,List.not_mem_nil,or_false] at hv
  rcases hv with rfl|rfl|rfl|rfl<;>first|rfl|exact Sl.one ‹_› |exact(‹_∧_›).2|(obtain ⟨_,_,rfl,_⟩:=Rd.fn ‹_›;rfl)|(obtain ⟨_,_,rfl,_⟩:=Rd.fnr ‹_›;rfl)
 mono:=by
  rintro S S' h h' cs x ⟨v3,rfl,k0,k1,k2,k3⟩ s e
  exact⟨v3,rfl,k0,k1,k2,k3.mono'' s e⟩
theorem Ar.ex {S h v}{x:AK}(k:Rd S h Ar v x):∃v3:Value,v= .agg #[.int .i64 x.to_,.int .i64 x.delay,.int .i64 x.way,v3]∧AG x.to_∧AG x.delay∧AG x.way∧Rd S h (AM.fnr Tryz.prog (λS h vs (x:(List Int))=>∃w0:Value,vs=[w0]∧Sl S h AM.int w0 x) (λS h v (y:((List Int)×(List Int)))=>∃w0 w1:Value,v= .tuple #[w0,w1]∧Sl S h AM.int w0 y.1∧Sl S h AM.int w1 y.2)) v3 x.take:=by obtain⟨_,rfl,v3,rfl,k⟩:=k;exact⟨v3,rfl,k⟩
theorem Ar.mk {S h}{x:AK}{v3:Value}(k0:AG x.to_) (k1:AG x.delay) (k2:AG x.way) (k3:Rd S h (AM.fnr Tryz.prog (λS h vs (x:(List Int))=>∃w0:Value,vs=[w0]∧Sl S h AM.int w0 x) (λS h v (y:((List Int)×(List Int)))=>∃w0 w1:Value,v= .tuple #[w0,w1]∧Sl S h AM.int w0 y.1∧Sl S h AM.int w1 y.2)) v3 x.take):Rd S h Ar (.agg #[.int .i64 x.to_,.int .i64 x.delay,.int .i64 x.way,v3]) x:=⟨_,rfl,v3,rfl,k0,k1,k2,k3⟩
theorem Jf:FM Ar 0 AM.int (·.to_):=by
 rintro S h cs x ⟨v3,rfl,k0,k1,k2,k3⟩
 exact⟨rfl,k0⟩
theorem NR:FM Ar 1 AM.int (·.delay):=by
 rintro S h cs x ⟨v3,rfl,k0,k1,k2,k3⟩
 exact⟨rfl,k1⟩
theorem ON:FM Ar 2 AM.int (·.way):=by
 rintro S h cs x ⟨v3,rfl,k0,k1,k2,k3⟩
 exact⟨rfl,k2⟩
theorem N6:FM Ar 3 (AM.fnr Tryz.prog (λS h vs (x:(List Int))=>∃w0:Value,vs=[w0]∧Sl S h AM.int w0 x) (λS h v (y:((List Int)×(List Int)))=>∃w0 w1:Value,v= .tuple #[w0,w1]∧Sl S h AM.int w0 y.1∧Sl S h AM.int w1 y.2)) (·.take):=by
 rintro S h cs x ⟨v3,rfl,k0,k1,k2,k3⟩
 obtain⟨_,rfl,f_,c_,rfl,q_⟩:=k3
 exact⟨f_,c_,rfl,q_⟩
def K7:ByteArray:=ByteArray.mk #[0,1,2,2,3,3,3,3,4,4,4,4,4,4,4,4,5,5,5,5,5,5,5,5,5,5,5,5,5,5,5,5,6,6,6,6,6,6,6,6,6,6,6,6,6,6,6,6,6,6,6,6,6,6,6,6,6,6,6,6,6,6,6,6,7,7,7,7,7,7,7,7,7,7,7,7,7,7,7,7,7,7,7,7,7,7,7,7,7,7,7,7,7,7,7,7,7,7,7,7,7,7,7,7,7,7,7,7,7,7,7,7,7,7,7,7,7,7,7,7,7,7,7,7,7,7,7,7,8,8,8,8,8,8,8,8,8,8,8,8,8,8,8,8,8,8,8,8,8,8,8,8,8,8,8,8,8,8,8,8,8,8,8,8,8,8,8,8,8,8,8,8,8,8,8,8,8,8,8,8,8,8,8,8,8,8,8,8,8,8,8,8,8,8,8,8,8,8,8,8,8,8,8,8,8,8,8,8,8,8,8,8,8,8,8,8,8,8,8,8,8,8,8,8,8,8,8,8,8,8,8,8,8,8,8,8,8,8,8,8,8,8,8,8,8,8,8,8,8,8,8,8,8,8,8,8]
def Mj:List ByteArray:=([(ByteArray.mk #[97]),(ByteArray.mk #[99])]:List ByteArray)
def Mk:List Dx:=([(⟨(ByteArray.mk #[112]),0,2,120,([(⟨0,0⟩:BO)]:List BO),([100,50]:List Int),1,10,(-1),0,0,[]⟩:Dx)]:List Dx)
end Go.Proofs.YtblcgjadhemlbaaGreat
