import Derived.Test.YtblcgjadhemlbaaGreatRSortD
import Derived.Test.YtblcgjadhemlbaaGreatRows
namespace Go.Proofs.YtblcgjadhemlbaaGreat
open Go.RowKit
set_option linter.unusedVariables false
structure BS where
 X:Int
 Y:Int
instance:Inhabited BS:=⟨⟨default,default⟩⟩
@[reducible] def BS.v (x:BS):List Go.Value:=[.int .i64 x.X,.int .i64 x.Y]
def BS.ok (x:BS):Prop:=AH x.X∧AH x.Y
def Bv:AM BS where
 sz:=2
 ag:=true
 rd:=λ_ _ cs x=>cs=x.v∧x.ok
 len:=λ⟨h,_⟩=>by rw[h];rfl
 one:=λ{_ _ _ x} ⟨h,_⟩ v hv=>by
  rw[h] at hv
  simp only[BS.v,List.mem_cons,List.not_mem_nil,or_false] at hv
  rcases hv with rfl|rfl<;>rfl
 mono:=λh _ _=>h
theorem Bv.ex {S h v}{x:BS}(k:Rd S h Bv v x):v= .agg #[.int .i64 x.X,.int .i64 x.Y]∧x.ok:=by obtain⟨_,rfl,rfl,h⟩:=k;exact⟨rfl,h⟩
theorem Bv.mk {S h}{x:BS}(k:x.ok):Rd S h Bv (.agg #[.int .i64 x.X,.int .i64 x.Y]) x:=⟨x.v,rfl,rfl,k⟩
theorem Ky:E9 Bv 0 AM.int (·.X):=by
 rintro S h cs x ⟨rfl,⟨k0,k1⟩⟩
 exact⟨rfl,k0⟩
theorem Kx:E9 Bv 1 AM.int (·.Y):=by
 rintro S h cs x ⟨rfl,⟨k0,k1⟩⟩
 exact⟨rfl,k1⟩
structure NP where
 Index:Int
 Area:Int
instance:Inhabited NP:=⟨⟨default,default⟩⟩
@[reducible] def NP.v (x:NP):List Go.Value:=[.int .i64 x.Index,.int .i64 x.Area]
def NP.ok (x:NP):Prop:=AH x.Index∧AH x.Area
def KK:AM NP where
 sz:=2
 ag:=true
 rd:=λ_ _ cs x=>cs=x.v∧x.ok
 len:=λ⟨h,_⟩=>by rw[h];rfl
 one:=λ{_ _ _ x} ⟨h,_⟩ v hv=>by
  rw[h] at hv
  simp only[NP.v,List.mem_cons,List.not_mem_nil,or_false] at hv
  rcases hv with rfl|rfl<;>rfl
 mono:=λh _ _=>h
theorem KK.ex {S h v}{x:NP}(k:Rd S h KK v x):v= .agg #[.int .i64 x.Index,.int .i64 x.Area]∧x.ok:=by obtain⟨_,rfl,rfl,h⟩:=k;exact⟨rfl,h⟩
theorem KK.mk {S h}{x:NP}(k:x.ok):Rd S h KK (.agg #[.int .i64 x.Index,.int .i64 x.Area]) x:=⟨x.v,rfl,rfl,k⟩
structure Dv where
 Name:ByteArray
 Kind:Int
 Office:Int
 Cap:Int
 Level:(List BS)
 Start:(List Int)
 Num:Int
 Den:Int
 Down:Int
 Delay:Int
 Floor:Int
 Rain:(List NP)
instance:Inhabited Dv:=⟨⟨default,default,default,default,default,default,default,default,default,default,default,default⟩⟩
def B0:AM Dv where
 sz:=12
 ag:=true
 rd:=λS h cs x=>∃v4 v5 v11:Value,cs=[.string x.Name,.int .i64 x.Kind,.int .i64 x.Office,.int .i64 x.Cap,v4,v5,.int .i64 x.Num,.int .i64 x.Den,.int .i64 x.Down,.int .i64 x.Delay,.int .i64 x.Floor,v11]∧x.Name.size≤maxLen∧AH x.Kind∧AH x.Office∧AH x.Cap∧Sl S h Bv v4 x.Level∧Sl S h AM.int v5 x.Start∧AH x.Num∧AH x.Den∧AH x.Down∧AH x.Delay∧AH x.Floor∧Sl S h KK v11 x.Rain
 len:=λ⟨_,_,_,h,_⟩=>by rw[h];rfl
 one:=by
  rintro S h cs x ⟨v4,v5,v11,rfl,k0,k1,k2,k3,k4,k5,k6,k7,k8,k9,k10,k11⟩ v hv
  simp only[List.mem_cons,List.not_mem_nil,or_false] at hv
  rcases hv with rfl|rfl|rfl|rfl|rfl|rfl|rfl|rfl|rfl|rfl|rfl|rfl<;>first|rfl|exact Sl.one ‹_› |exact(‹_∧_›).2|(obtain ⟨_,_,rfl,_⟩:=Rd.fn ‹_›;rfl)|(obtain ⟨_,_,rfl,_⟩:=Rd.fnr ‹_›;rfl)
 mono:=by
  rintro S S' h h' cs x ⟨v4,v5,v11,rfl,k0,k1,k2,k3,k4,k5,k6,k7,k8,k9,k10,k11⟩ s e
  exact⟨v4,v5,v11,rfl,k0,k1,k2,k3,k4.mono s e,k5.mono s e,k6,k7,k8,k9,k10,k11.mono s e⟩
theorem B0.ex {S h v}{x:Dv}(k:Rd S h B0 v x):∃v4 v5 v11:Value,v= .agg #[.string x.Name,.int .i64 x.Kind,.int .i64 x.Office,.int .i64 x.Cap,v4,v5,.int .i64 x.Num,.int .i64 x.Den,.int .i64 x.Down,.int .i64 x.Delay,.int .i64 x.Floor,v11]∧x.Name.size≤maxLen∧AH x.Kind∧AH x.Office∧AH x.Cap∧Sl S h Bv v4 x.Level∧Sl S h AM.int v5 x.Start∧AH x.Num∧AH x.Den∧AH x.Down∧AH x.Delay∧AH x.Floor∧Sl S h KK v11 x.Rain:=by obtain⟨_,rfl,v4,v5,v11,rfl,k⟩:=k;exact⟨v4,v5,v11,rfl,k⟩
theorem B0.mk {S h}{x:Dv}{v4 v5 v11:Value}(k0:x.Name.size≤maxLen) (k1:AH x.Kind) (k2:AH x.Office) (k3:AH x.Cap) (k4:Sl S h Bv v4 x.Level) (k5:Sl S h AM.int v5 x.Start) (k6:AH x.Num) (k7:AH x.Den) (k8:AH x.Down) (k9:AH x.Delay) (k10:AH x.Floor) (k11:Sl S h KK v11 x.Rain):Rd S h B0 (.agg #[.string x.Name,.int .i64 x.Kind,.int .i64 x.Office,.int .i64 x.Cap,v4,v5,.int .i64 x.Num,.int .i64 x.Den,.int .i64 x.Down,.int .i64 x.Delay,.int .i64 x.Floor,v11]) x:=⟨_,rfl,v4,v5,v11,rfl,k0,k1,k2,k3,k4,k5,k6,k7,k8,k9,k10,k11⟩
theorem Dv.f_Name:E9 B0 0 AM.str (·.Name):=by
 rintro S h cs x ⟨v4,v5,v11,rfl,k0,k1,k2,k3,k4,k5,k6,k7,k8,k9,k10,k11⟩
 exact⟨rfl,k0⟩
theorem Dv.f_Kind:E9 B0 1 AM.int (·.Kind):=by
 rintro S h cs x ⟨v4,v5,v11,rfl,k0,k1,k2,k3,k4,k5,k6,k7,k8,k9,k10,k11⟩
 exact⟨rfl,k1⟩
theorem IH:E9 B0 2 AM.int (·.Office):=by
 rintro S h cs x ⟨v4,v5,v11,rfl,k0,k1,k2,k3,k4,k5,k6,k7,k8,k9,k10,k11⟩
 exact⟨rfl,k2⟩
theorem Dv.f_Num:E9 B0 6 AM.int (·.Num):=by
 rintro S h cs x ⟨v4,v5,v11,rfl,k0,k1,k2,k3,k4,k5,k6,k7,k8,k9,k10,k11⟩
 exact⟨rfl,k6⟩
theorem Dv.f_Den:E9 B0 7 AM.int (·.Den):=by
 rintro S h cs x ⟨v4,v5,v11,rfl,k0,k1,k2,k3,k4,k5,k6,k7,k8,k9,k10,k11⟩
 exact⟨rfl,k7⟩
theorem Dv.f_Delay:E9 B0 9 AM.int (·.Delay):=by
 rintro S h cs x ⟨v4,v5,v11,rfl,k0,k1,k2,k3,k4,k5,k6,k7,k8,k9,k10,k11⟩
 exact⟨rfl,k9⟩
theorem Dv.f_Rain:E9 B0 11 (AM.sl KK) (·.Rain):=by
 rintro S h cs x ⟨v4,v5,v11,rfl,k0,k1,k2,k3,k4,k5,k6,k7,k8,k9,k10,k11⟩
 exact⟨_,rfl,k11⟩
structure LZ where
 Lo:(List BS)
 Hi:(List BS)
instance:Inhabited LZ:=⟨⟨default,default⟩⟩
def Lw:AM LZ where
 sz:=2
 ag:=true
 rd:=λS h cs x=>∃v0 v1:Value,cs=[v0,v1]∧Sl S h Bv v0 x.Lo∧Sl S h Bv v1 x.Hi
 len:=λ⟨_,_,h,_⟩=>by rw[h];rfl
 one:=by
  rintro S h cs x ⟨v0,v1,rfl,k0,k1⟩ v hv
  simp only[List.mem_cons,List.not_mem_nil,or_false] at hv
  rcases hv with rfl|rfl<;>first|rfl|exact Sl.one ‹_› |exact(‹_∧_›).2|(obtain ⟨_,_,rfl,_⟩:=Rd.fn ‹_›;rfl)|(obtain ⟨_,_,rfl,_⟩:=Rd.fnr ‹_›;rfl)
 mono:=by
  rintro S S' h h' cs x ⟨v0,v1,rfl,k0,k1⟩ s e
  exact⟨v0,v1,rfl,k0.mono s e,k1.mono s e⟩
theorem Lw.ex {S h v}{x:LZ}(k:Rd S h Lw v x):∃v0 v1:Value,v= .agg #[v0,v1]∧Sl S h Bv v0 x.Lo∧Sl S h Bv v1 x.Hi:=by obtain⟨_,rfl,v0,v1,rfl,k⟩:=k;exact⟨v0,v1,rfl,k⟩
theorem Lw.mk {S h}{x:LZ}{v0 v1:Value}(k0:Sl S h Bv v0 x.Lo) (k1:Sl S h Bv v1 x.Hi):Rd S h Lw (.agg #[v0,v1]) x:=⟨_,rfl,v0,v1,rfl,k0,k1⟩
theorem Nb:E9 Lw 0 (AM.sl Bv) (·.Lo):=by
 rintro S h cs x ⟨v0,v1,rfl,k0,k1⟩
 exact⟨_,rfl,k0⟩
theorem Nc:E9 Lw 1 (AM.sl Bv) (·.Hi):=by
 rintro S h cs x ⟨v0,v1,rfl,k0,k1⟩
 exact⟨_,rfl,k1⟩
structure A7 where
 Name:ByteArray
 Kind:Int
 From:Int
 To:Int
 Rate:(List BS)
 Band:LZ
 Positions:Int
 Speed:Int
 Leak:Int
 Crest:Int
 Num:Int
 Den:Int
 Prime:Int
 Break:Int
 BackNum:Int
 BackDen:Int
 Delay:Int
instance:Inhabited A7:=⟨⟨default,default,default,default,default,default,default,default,default,default,default,default,default,default,default,default,default⟩⟩
def Bu:AM A7 where
 sz:=18
 ag:=true
 rd:=λS h cs x=>∃v4 v5 v6:Value,cs=[.string x.Name,.int .i64 x.Kind,.int .i64 x.From,.int .i64 x.To,v4,v5,v6,.int .i64 x.Positions,.int .i64 x.Speed,.int .i64 x.Leak,.int .i64 x.Crest,.int .i64 x.Num,.int .i64 x.Den,.int .i64 x.Prime,.int .i64 x.Break,.int .i64 x.BackNum,.int .i64 x.BackDen,.int .i64 x.Delay]∧x.Name.size≤maxLen∧AH x.Kind∧AH x.From∧AH x.To∧Sl S h Bv v4 x.Rate∧Sl S h Bv v5 x.Band.Lo∧Sl S h Bv v6 x.Band.Hi∧AH x.Positions∧AH x.Speed∧AH x.Leak∧AH x.Crest∧AH x.Num∧AH x.Den∧AH x.Prime∧AH x.Break∧AH x.BackNum∧AH x.BackDen∧AH x.Delay
 len:=λ⟨_,_,_,h,_⟩=>by rw[h];rfl
 one:=by
  rintro S h cs x ⟨v4,v5,v6,rfl,k0,k1,k2,k3,k4,k5,k6,k7,k8,k9,k10,k11,k12,k13,k14,k15,k16,k17⟩ v hv
  simp only[List.mem_cons,List.not_mem_nil,or_false] at hv
  rcases hv with rfl|rfl|rfl|rfl|rfl|rfl|rfl|rfl|rfl|rfl|rfl|rfl|rfl|rfl|rfl|rfl|rfl|rfl<;>first|rfl|exact Sl.one ‹_› |exact(‹_∧_›).2|(obtain ⟨_,_,rfl,_⟩:=Rd.fn ‹_›;rfl)|(obtain ⟨_,_,rfl,_⟩:=Rd.fnr ‹_›;rfl)
 mono:=by
  rintro S S' h h' cs x ⟨v4,v5,v6,rfl,k0,k1,k2,k3,k4,k5,k6,k7,k8,k9,k10,k11,k12,k13,k14,k15,k16,k17⟩ s e
  exact⟨v4,v5,v6,rfl,k0,k1,k2,k3,k4.mono s e,k5.mono s e,k6.mono s e,k7,k8,k9,k10,k11,k12,k13,k14,k15,k16,k17⟩
theorem Bu.ex {S h v}{x:A7}(k:Rd S h Bu v x):∃v4 v5 v6:Value,v= .agg #[.string x.Name,.int .i64 x.Kind,.int .i64 x.From,.int .i64 x.To,v4,v5,v6,.int .i64 x.Positions,.int .i64 x.Speed,.int .i64 x.Leak,.int .i64 x.Crest,.int .i64 x.Num,.int .i64 x.Den,.int .i64 x.Prime,.int .i64 x.Break,.int .i64 x.BackNum,.int .i64 x.BackDen,.int .i64 x.Delay]∧x.Name.size≤maxLen∧AH x.Kind∧AH x.From∧AH x.To∧Sl S h Bv v4 x.Rate∧Sl S h Bv v5 x.Band.Lo∧Sl S h Bv v6 x.Band.Hi∧AH x.Positions∧AH x.Speed∧AH x.Leak∧AH x.Crest∧AH x.Num∧AH x.Den∧AH x.Prime∧AH x.Break∧AH x.BackNum∧AH x.BackDen∧AH x.Delay:=by obtain⟨_,rfl,v4,v5,v6,rfl,k⟩:=k;exact⟨v4,v5,v6,rfl,k⟩
theorem Bu.mk {S h}{x:A7}{v4 v5 v6:Value}(k0:x.Name.size≤maxLen) (k1:AH x.Kind) (k2:AH x.From) (k3:AH x.To) (k4:Sl S h Bv v4 x.Rate) (k5:Sl S h Bv v5 x.Band.Lo) (k6:Sl S h Bv v6 x.Band.Hi) (k7:AH x.Positions) (k8:AH x.Speed) (k9:AH x.Leak) (k10:AH x.Crest) (k11:AH x.Num) (k12:AH x.Den) (k13:AH x.Prime) (k14:AH x.Break) (k15:AH x.BackNum) (k16:AH x.BackDen) (k17:AH x.Delay):Rd S h Bu (.agg #[.string x.Name,.int .i64 x.Kind,.int .i64 x.From,.int .i64 x.To,v4,v5,v6,.int .i64 x.Positions,.int .i64 x.Speed,.int .i64 x.Leak,.int .i64 x.Crest,.int .i64 x.Num,.int .i64 x.Den,.int .i64 x.Prime,.int .i64 x.Break,.int .i64 x.BackNum,.int .i64 x.BackDen,.int .i64 x.Delay]) x:=⟨_,rfl,v4,v5,v6,rfl,k0,k1,k2,k3,k4,k5,k6,k7,k8,k9,k10,k11,k12,k13,k14,k15,k16,k17⟩
theorem A7.f_Name:E9 Bu 0 AM.str (·.Name):=by
 rintro S h cs x ⟨v4,v5,v6,rfl,k0,k1,k2,k3,k4,k5,k6,k7,k8,k9,k10,k11,k12,k13,k14,k15,k16,k17⟩
 exact⟨rfl,k0⟩
theorem A7.f_Kind:E9 Bu 1 AM.int (·.Kind):=by
 rintro S h cs x ⟨v4,v5,v6,rfl,k0,k1,k2,k3,k4,k5,k6,k7,k8,k9,k10,k11,k12,k13,k14,k15,k16,k17⟩
 exact⟨rfl,k1⟩
theorem A7.f_From:E9 Bu 2 AM.int (·.From):=by
 rintro S h cs x ⟨v4,v5,v6,rfl,k0,k1,k2,k3,k4,k5,k6,k7,k8,k9,k10,k11,k12,k13,k14,k15,k16,k17⟩
 exact⟨rfl,k2⟩
theorem A7.f_To:E9 Bu 3 AM.int (·.To):=by
 rintro S h cs x ⟨v4,v5,v6,rfl,k0,k1,k2,k3,k4,k5,k6,k7,k8,k9,k10,k11,k12,k13,k14,k15,k16,k17⟩
 exact⟨rfl,k3⟩
theorem Ji:E9 Bu 4 (AM.sl Bv) (·.Rate):=by
 rintro S h cs x ⟨v4,v5,v6,rfl,k0,k1,k2,k3,k4,k5,k6,k7,k8,k9,k10,k11,k12,k13,k14,k15,k16,k17⟩
 exact⟨_,rfl,k4⟩
theorem Ix:E9 Bu 5 Lw (·.Band):=by
 rintro S h cs x ⟨v4,v5,v6,rfl,k0,k1,k2,k3,k4,k5,k6,k7,k8,k9,k10,k11,k12,k13,k14,k15,k16,k17⟩
 exact⟨_,_,rfl,k5,k6⟩
theorem ED:E9 Bu 7 AM.int (·.Positions):=by
 rintro S h cs x ⟨v4,v5,v6,rfl,k0,k1,k2,k3,k4,k5,k6,k7,k8,k9,k10,k11,k12,k13,k14,k15,k16,k17⟩
 exact⟨rfl,k7⟩
theorem JC:E9 Bu 8 AM.int (·.Speed):=by
 rintro S h cs x ⟨v4,v5,v6,rfl,k0,k1,k2,k3,k4,k5,k6,k7,k8,k9,k10,k11,k12,k13,k14,k15,k16,k17⟩
 exact⟨rfl,k8⟩
theorem Lz:E9 Bu 9 AM.int (·.Leak):=by
 rintro S h cs x ⟨v4,v5,v6,rfl,k0,k1,k2,k3,k4,k5,k6,k7,k8,k9,k10,k11,k12,k13,k14,k15,k16,k17⟩
 exact⟨rfl,k9⟩
theorem LH:E9 Bu 10 AM.int (·.Crest):=by
 rintro S h cs x ⟨v4,v5,v6,rfl,k0,k1,k2,k3,k4,k5,k6,k7,k8,k9,k10,k11,k12,k13,k14,k15,k16,k17⟩
 exact⟨rfl,k10⟩
theorem A7.f_Num:E9 Bu 11 AM.int (·.Num):=by
 rintro S h cs x ⟨v4,v5,v6,rfl,k0,k1,k2,k3,k4,k5,k6,k7,k8,k9,k10,k11,k12,k13,k14,k15,k16,k17⟩
 exact⟨rfl,k11⟩
theorem A7.f_Den:E9 Bu 12 AM.int (·.Den):=by
 rintro S h cs x ⟨v4,v5,v6,rfl,k0,k1,k2,k3,k4,k5,k6,k7,k8,k9,k10,k11,k12,k13,k14,k15,k16,k17⟩
 exact⟨rfl,k12⟩
theorem J2:E9 Bu 13 AM.int (·.Prime):=by
 rintro S h cs x ⟨v4,v5,v6,rfl,k0,k1,k2,k3,k4,k5,k6,k7,k8,k9,k10,k11,k12,k13,k14,k15,k16,k17⟩
 exact⟨rfl,k13⟩
theorem J3:E9 Bu 14 AM.int (·.Break):=by
 rintro S h cs x ⟨v4,v5,v6,rfl,k0,k1,k2,k3,k4,k5,k6,k7,k8,k9,k10,k11,k12,k13,k14,k15,k16,k17⟩
 exact⟨rfl,k14⟩
theorem II:E9 Bu 15 AM.int (·.BackNum):=by
 rintro S h cs x ⟨v4,v5,v6,rfl,k0,k1,k2,k3,k4,k5,k6,k7,k8,k9,k10,k11,k12,k13,k14,k15,k16,k17⟩
 exact⟨rfl,k15⟩
theorem HG:E9 Bu 16 AM.int (·.BackDen):=by
 rintro S h cs x ⟨v4,v5,v6,rfl,k0,k1,k2,k3,k4,k5,k6,k7,k8,k9,k10,k11,k12,k13,k14,k15,k16,k17⟩
 exact⟨rfl,k16⟩
theorem A7.f_Delay:E9 Bu 17 AM.int (·.Delay):=by
 rintro S h cs x ⟨v4,v5,v6,rfl,k0,k1,k2,k3,k4,k5,k6,k7,k8,k9,k10,k11,k12,k13,k14,k15,k16,k17⟩
 exact⟨rfl,k17⟩
structure L5 where
 Name:ByteArray
 Place:Int
 Flood:Int
 Lead:Int
 People:Int
 Watch:Int
 Quorum:Int
instance:Inhabited L5:=⟨⟨default,default,default,default,default,default,default⟩⟩
@[reducible] def L5.v (x:L5):List Go.Value:=[.string x.Name,.int .i64 x.Place,.int .i64 x.Flood,.int .i64 x.Lead,.int .i64 x.People,.int .i64 x.Watch,.int .i64 x.Quorum]
def L5.ok (x:L5):Prop:=x.Name.size≤maxLen∧AH x.Place∧AH x.Flood∧AH x.Lead∧AH x.People∧AH x.Watch∧AH x.Quorum
def GT:AM L5 where
 sz:=7
 ag:=true
 rd:=λ_ _ cs x=>cs=x.v∧x.ok
 len:=λ⟨h,_⟩=>by rw[h];rfl
 one:=λ{_ _ _ x} ⟨h,_⟩ v hv=>by
  rw[h] at hv
  simp only[L5.v,List.mem_cons,List.not_mem_nil,or_false] at hv
  rcases hv with rfl|rfl|rfl|rfl|rfl|rfl|rfl<;>rfl
 mono:=λh _ _=>h
theorem GT.ex {S h v}{x:L5}(k:Rd S h GT v x):v= .agg #[.string x.Name,.int .i64 x.Place,.int .i64 x.Flood,.int .i64 x.Lead,.int .i64 x.People,.int .i64 x.Watch,.int .i64 x.Quorum]∧x.ok:=by obtain⟨_,rfl,rfl,h⟩:=k;exact⟨rfl,h⟩
theorem GT.mk {S h}{x:L5}(k:x.ok):Rd S h GT (.agg #[.string x.Name,.int .i64 x.Place,.int .i64 x.Flood,.int .i64 x.Lead,.int .i64 x.People,.int .i64 x.Watch,.int .i64 x.Quorum]) x:=⟨x.v,rfl,rfl,k⟩
theorem L5.f_Name:E9 GT 0 AM.str (·.Name):=by
 rintro S h cs x ⟨rfl,⟨k0,k1,k2,k3,k4,k5,k6⟩⟩
 exact⟨rfl,k0⟩
structure Jt where
 Name:ByteArray
 Kind:Int
 Target:Int
 Err:Int
 Drift:Int
instance:Inhabited Jt:=⟨⟨default,default,default,default,default⟩⟩
@[reducible] def Jt.v (x:Jt):List Go.Value:=[.string x.Name,.int .i64 x.Kind,.int .i64 x.Target,.int .i64 x.Err,.int .i64 x.Drift]
def Jt.ok (x:Jt):Prop:=x.Name.size≤maxLen∧AH x.Kind∧AH x.Target∧AH x.Err∧AH x.Drift
def Ed:AM Jt where
 sz:=5
 ag:=true
 rd:=λ_ _ cs x=>cs=x.v∧x.ok
 len:=λ⟨h,_⟩=>by rw[h];rfl
 one:=λ{_ _ _ x} ⟨h,_⟩ v hv=>by
  rw[h] at hv
  simp only[Jt.v,List.mem_cons,List.not_mem_nil,or_false] at hv
  rcases hv with rfl|rfl|rfl|rfl|rfl<;>rfl
 mono:=λh _ _=>h
theorem Ed.ex {S h v}{x:Jt}(k:Rd S h Ed v x):v= .agg #[.string x.Name,.int .i64 x.Kind,.int .i64 x.Target,.int .i64 x.Err,.int .i64 x.Drift]∧x.ok:=by obtain⟨_,rfl,rfl,h⟩:=k;exact⟨rfl,h⟩
theorem Ed.mk {S h}{x:Jt}(k:x.ok):Rd S h Ed (.agg #[.string x.Name,.int .i64 x.Kind,.int .i64 x.Target,.int .i64 x.Err,.int .i64 x.Drift]) x:=⟨x.v,rfl,rfl,k⟩
theorem Jt.f_Name:E9 Ed 0 AM.str (·.Name):=by
 rintro S h cs x ⟨rfl,⟨k0,k1,k2,k3,k4⟩⟩
 exact⟨rfl,k0⟩
theorem Jt.f_Kind:E9 Ed 1 AM.int (·.Kind):=by
 rintro S h cs x ⟨rfl,⟨k0,k1,k2,k3,k4⟩⟩
 exact⟨rfl,k1⟩
theorem Jt.f_Err:E9 Ed 3 AM.int (·.Err):=by
 rintro S h cs x ⟨rfl,⟨k0,k1,k2,k3,k4⟩⟩
 exact⟨rfl,k3⟩
structure LY where
 Name:ByteArray
 From:Int
 To:Int
 Hours:Int
 Flow:Int
 By:Int
 Limit:Int
instance:Inhabited LY:=⟨⟨default,default,default,default,default,default,default⟩⟩
@[reducible] def LY.v (x:LY):List Go.Value:=[.string x.Name,.int .i64 x.From,.int .i64 x.To,.int .i64 x.Hours,.int .i64 x.Flow,.int .i64 x.By,.int .i64 x.Limit]
def LY.ok (x:LY):Prop:=x.Name.size≤maxLen∧AH x.From∧AH x.To∧AH x.Hours∧AH x.Flow∧AH x.By∧AH x.Limit
def Fv:AM LY where
 sz:=7
 ag:=true
 rd:=λ_ _ cs x=>cs=x.v∧x.ok
 len:=λ⟨h,_⟩=>by rw[h];rfl
 one:=λ{_ _ _ x} ⟨h,_⟩ v hv=>by
  rw[h] at hv
  simp only[LY.v,List.mem_cons,List.not_mem_nil,or_false] at hv
  rcases hv with rfl|rfl|rfl|rfl|rfl|rfl|rfl<;>rfl
 mono:=λh _ _=>h
theorem Fv.ex {S h v}{x:LY}(k:Rd S h Fv v x):v= .agg #[.string x.Name,.int .i64 x.From,.int .i64 x.To,.int .i64 x.Hours,.int .i64 x.Flow,.int .i64 x.By,.int .i64 x.Limit]∧x.ok:=by obtain⟨_,rfl,rfl,h⟩:=k;exact⟨rfl,h⟩
theorem Fv.mk {S h}{x:LY}(k:x.ok):Rd S h Fv (.agg #[.string x.Name,.int .i64 x.From,.int .i64 x.To,.int .i64 x.Hours,.int .i64 x.Flow,.int .i64 x.By,.int .i64 x.Limit]) x:=⟨x.v,rfl,rfl,k⟩
theorem LY.f_Name:E9 Fv 0 AM.str (·.Name):=by
 rintro S h cs x ⟨rfl,⟨k0,k1,k2,k3,k4,k5,k6⟩⟩
 exact⟨rfl,k0⟩
theorem LY.f_From:E9 Fv 1 AM.int (·.From):=by
 rintro S h cs x ⟨rfl,⟨k0,k1,k2,k3,k4,k5,k6⟩⟩
 exact⟨rfl,k1⟩
theorem LY.f_To:E9 Fv 2 AM.int (·.To):=by
 rintro S h cs x ⟨rfl,⟨k0,k1,k2,k3,k4,k5,k6⟩⟩
 exact⟨rfl,k2⟩
structure IG where
 Name:ByteArray
 Room:Int
instance:Inhabited IG:=⟨⟨default,default⟩⟩
@[reducible] def IG.v (x:IG):List Go.Value:=[.string x.Name,.int .i64 x.Room]
def IG.ok (x:IG):Prop:=x.Name.size≤maxLen∧AH x.Room
def Cz:AM IG where
 sz:=2
 ag:=true
 rd:=λ_ _ cs x=>cs=x.v∧x.ok
 len:=λ⟨h,_⟩=>by rw[h];rfl
 one:=λ{_ _ _ x} ⟨h,_⟩ v hv=>by
  rw[h] at hv
  simp only[IG.v,List.mem_cons,List.not_mem_nil,or_false] at hv
  rcases hv with rfl|rfl<;>rfl
 mono:=λh _ _=>h
theorem Cz.ex {S h v}{x:IG}(k:Rd S h Cz v x):v= .agg #[.string x.Name,.int .i64 x.Room]∧x.ok:=by obtain⟨_,rfl,rfl,h⟩:=k;exact⟨rfl,h⟩
theorem Cz.mk {S h}{x:IG}(k:x.ok):Rd S h Cz (.agg #[.string x.Name,.int .i64 x.Room]) x:=⟨x.v,rfl,rfl,k⟩
theorem IG.f_Name:E9 Cz 0 AM.str (·.Name):=by
 rintro S h cs x ⟨rfl,⟨k0,k1⟩⟩
 exact⟨rfl,k0⟩
theorem IG.f_Room:E9 Cz 1 AM.int (·.Room):=by
 rintro S h cs x ⟨rfl,⟨k0,k1⟩⟩
 exact⟨rfl,k1⟩
structure AX where
 Name:ByteArray
 Owners:(List ByteArray)
 Cells:Int
 Places:(List Dv)
 Links:(List A7)
 Towns:(List L5)
 Gauges:(List Jt)
 Roads:(List LY)
 Shelters:(List IG)
 Room:(List Int)
 Err:Int
instance:Inhabited AX:=⟨⟨default,default,default,default,default,default,default,default,default,default,default⟩⟩
def B1:AM AX where
 sz:=11
 ag:=true
 rd:=λS h cs x=>∃v1 v3 v4 v5 v6 v7 v8 v9:Value,cs=[.string x.Name,v1,.int .i64 x.Cells,v3,v4,v5,v6,v7,v8,v9,.int .i64 x.Err]∧x.Name.size≤maxLen∧Sl S h AM.str v1 x.Owners∧AH x.Cells∧Sl S h B0 v3 x.Places∧Sl S h Bu v4 x.Links∧Sl S h GT v5 x.Towns∧Sl S h Ed v6 x.Gauges∧Sl S h Fv v7 x.Roads∧Sl S h Cz v8 x.Shelters∧Sl S h AM.int v9 x.Room∧AH x.Err
 len:=λ⟨_,_,_,_,_,_,_,_,h,_⟩=>by rw[h];rfl
 one:=by
  rintro S h cs x ⟨v1,v3,v4,v5,v6,v7,v8,v9,rfl,k0,k1,k2,k3,k4,k5,k6,k7,k8,k9,k10⟩ v hv
  simp only[List.mem_cons,List.not_mem_nil,or_false] at hv
  rcases hv with rfl|rfl|rfl|rfl|rfl|rfl|rfl|rfl|rfl|rfl|rfl<;>first|rfl|exact Sl.one ‹_› |exact(‹_∧_›).2|(obtain ⟨_,_,rfl,_⟩:=Rd.fn ‹_›;rfl)|(obtain ⟨_,_,rfl,_⟩:=Rd.fnr ‹_›;rfl)
 mono:=by
  rintro S S' h h' cs x ⟨v1,v3,v4,v5,v6,v7,v8,v9,rfl,k0,k1,k2,k3,k4,k5,k6,k7,k8,k9,k10⟩ s e
  exact⟨v1,v3,v4,v5,v6,v7,v8,v9,rfl,k0,k1.mono s e,k2,k3.mono s e,k4.mono s e,k5.mono s e,k6.mono s e,k7.mono s e,k8.mono s e,k9.mono s e,k10⟩
theorem B1.ex {S h v}{x:AX}(k:Rd S h B1 v x):∃v1 v3 v4 v5 v6 v7 v8 v9:Value,v= .agg #[.string x.Name,v1,.int .i64 x.Cells,v3,v4,v5,v6,v7,v8,v9,.int .i64 x.Err]∧x.Name.size≤maxLen∧Sl S h AM.str v1 x.Owners∧AH x.Cells∧Sl S h B0 v3 x.Places∧Sl S h Bu v4 x.Links∧Sl S h GT v5 x.Towns∧Sl S h Ed v6 x.Gauges∧Sl S h Fv v7 x.Roads∧Sl S h Cz v8 x.Shelters∧Sl S h AM.int v9 x.Room∧AH x.Err:=by obtain⟨_,rfl,v1,v3,v4,v5,v6,v7,v8,v9,rfl,k⟩:=k;exact⟨v1,v3,v4,v5,v6,v7,v8,v9,rfl,k⟩
theorem B1.mk {S h}{x:AX}{v1 v3 v4 v5 v6 v7 v8 v9:Value}(k0:x.Name.size≤maxLen) (k1:Sl S h AM.str v1 x.Owners) (k2:AH x.Cells) (k3:Sl S h B0 v3 x.Places) (k4:Sl S h Bu v4 x.Links) (k5:Sl S h GT v5 x.Towns) (k6:Sl S h Ed v6 x.Gauges) (k7:Sl S h Fv v7 x.Roads) (k8:Sl S h Cz v8 x.Shelters) (k9:Sl S h AM.int v9 x.Room) (k10:AH x.Err):Rd S h B1 (.agg #[.string x.Name,v1,.int .i64 x.Cells,v3,v4,v5,v6,v7,v8,v9,.int .i64 x.Err]) x:=⟨_,rfl,v1,v3,v4,v5,v6,v7,v8,v9,rfl,k0,k1,k2,k3,k4,k5,k6,k7,k8,k9,k10⟩
theorem AX.f_Name:E9 B1 0 AM.str (·.Name):=by
 rintro S h cs x ⟨v1,v3,v4,v5,v6,v7,v8,v9,rfl,k0,k1,k2,k3,k4,k5,k6,k7,k8,k9,k10⟩
 exact⟨rfl,k0⟩
theorem EQ:E9 B1 1 (AM.sl AM.str) (·.Owners):=by
 rintro S h cs x ⟨v1,v3,v4,v5,v6,v7,v8,v9,rfl,k0,k1,k2,k3,k4,k5,k6,k7,k8,k9,k10⟩
 exact⟨_,rfl,k1⟩
theorem K0:E9 B1 2 AM.int (·.Cells):=by
 rintro S h cs x ⟨v1,v3,v4,v5,v6,v7,v8,v9,rfl,k0,k1,k2,k3,k4,k5,k6,k7,k8,k9,k10⟩
 exact⟨rfl,k2⟩
theorem BP:E9 B1 3 (AM.sl B0) (·.Places):=by
 rintro S h cs x ⟨v1,v3,v4,v5,v6,v7,v8,v9,rfl,k0,k1,k2,k3,k4,k5,k6,k7,k8,k9,k10⟩
 exact⟨_,rfl,k3⟩
theorem D1:E9 B1 4 (AM.sl Bu) (·.Links):=by
 rintro S h cs x ⟨v1,v3,v4,v5,v6,v7,v8,v9,rfl,k0,k1,k2,k3,k4,k5,k6,k7,k8,k9,k10⟩
 exact⟨_,rfl,k4⟩
theorem Im:E9 B1 5 (AM.sl GT) (·.Towns):=by
 rintro S h cs x ⟨v1,v3,v4,v5,v6,v7,v8,v9,rfl,k0,k1,k2,k3,k4,k5,k6,k7,k8,k9,k10⟩
 exact⟨_,rfl,k5⟩
theorem KL:E9 B1 6 (AM.sl Ed) (·.Gauges):=by
 rintro S h cs x ⟨v1,v3,v4,v5,v6,v7,v8,v9,rfl,k0,k1,k2,k3,k4,k5,k6,k7,k8,k9,k10⟩
 exact⟨_,rfl,k6⟩
theorem Kz:E9 B1 7 (AM.sl Fv) (·.Roads):=by
 rintro S h cs x ⟨v1,v3,v4,v5,v6,v7,v8,v9,rfl,k0,k1,k2,k3,k4,k5,k6,k7,k8,k9,k10⟩
 exact⟨_,rfl,k7⟩
theorem IU:E9 B1 8 (AM.sl Cz) (·.Shelters):=by
 rintro S h cs x ⟨v1,v3,v4,v5,v6,v7,v8,v9,rfl,k0,k1,k2,k3,k4,k5,k6,k7,k8,k9,k10⟩
 exact⟨_,rfl,k8⟩
theorem AX.f_Room:E9 B1 9 (AM.sl AM.int) (·.Room):=by
 rintro S h cs x ⟨v1,v3,v4,v5,v6,v7,v8,v9,rfl,k0,k1,k2,k3,k4,k5,k6,k7,k8,k9,k10⟩
 exact⟨_,rfl,k9⟩
theorem AX.f_Err:E9 B1 10 AM.int (·.Err):=by
 rintro S h cs x ⟨v1,v3,v4,v5,v6,v7,v8,v9,rfl,k0,k1,k2,k3,k4,k5,k6,k7,k8,k9,k10⟩
 exact⟨rfl,k10⟩
structure Al where
 At:Int
 To:Int
 Part:(List Int)
instance:Inhabited Al:=⟨⟨default,default,default⟩⟩
def Ap:AM Al where
 sz:=3
 ag:=true
 rd:=λS h cs x=>∃v2:Value,cs=[.int .i64 x.At,.int .i64 x.To,v2]∧AH x.At∧AH x.To∧Sl S h AM.int v2 x.Part
 len:=λ⟨_,h,_⟩=>by rw[h];rfl
 one:=by
  rintro S h cs x ⟨v2,rfl,k0,k1,k2⟩ v hv
  simp only[List.mem_cons,List.not_mem_nil,or_false] at hv
  rcases hv with rfl|rfl|rfl<;>first|rfl|exact Sl.one ‹_› |exact(‹_∧_›).2|(obtain ⟨_,_,rfl,_⟩:=Rd.fn ‹_›;rfl)|(obtain ⟨_,_,rfl,_⟩:=Rd.fnr ‹_›;rfl)
 mono:=by
  rintro S S' h h' cs x ⟨v2,rfl,k0,k1,k2⟩ s e
  exact⟨v2,rfl,k0,k1,k2.mono s e⟩
theorem Ap.ex {S h v}{x:Al}(k:Rd S h Ap v x):∃v2:Value,v= .agg #[.int .i64 x.At,.int .i64 x.To,v2]∧AH x.At∧AH x.To∧Sl S h AM.int v2 x.Part:=by obtain⟨_,rfl,v2,rfl,k⟩:=k;exact⟨v2,rfl,k⟩
theorem Ap.mk {S h}{x:Al}{v2:Value}(k0:AH x.At) (k1:AH x.To) (k2:Sl S h AM.int v2 x.Part):Rd S h Ap (.agg #[.int .i64 x.At,.int .i64 x.To,v2]) x:=⟨_,rfl,v2,rfl,k0,k1,k2⟩
theorem Ly:E9 Ap 0 AM.int (·.At):=by
 rintro S h cs x ⟨v2,rfl,k0,k1,k2⟩
 exact⟨rfl,k0⟩
theorem Al.f_To:E9 Ap 1 AM.int (·.To):=by
 rintro S h cs x ⟨v2,rfl,k0,k1,k2⟩
 exact⟨rfl,k1⟩
theorem Al.f_Part:E9 Ap 2 (AM.sl AM.int) (·.Part):=by
 rintro S h cs x ⟨v2,rfl,k0,k1,k2⟩
 exact⟨_,rfl,k2⟩
structure Ax where
 Pos:Int
 Target:Int
 Stuck:Bool
 Open:Bool
instance:Inhabited Ax:=⟨⟨default,default,default,default⟩⟩
@[reducible] def Ax.v (x:Ax):List Go.Value:=[.int .i64 x.Pos,.int .i64 x.Target,.bool x.Stuck,.bool x.Open]
def Ax.ok (x:Ax):Prop:=AH x.Pos∧AH x.Target
def BJ:AM Ax where
 sz:=4
 ag:=true
 rd:=λ_ _ cs x=>cs=x.v∧x.ok
 len:=λ⟨h,_⟩=>by rw[h];rfl
 one:=λ{_ _ _ x} ⟨h,_⟩ v hv=>by
  rw[h] at hv
  simp only[Ax.v,List.mem_cons,List.not_mem_nil,or_false] at hv
  rcases hv with rfl|rfl|rfl|rfl<;>rfl
 mono:=λh _ _=>h
theorem BJ.ex {S h v}{x:Ax}(k:Rd S h BJ v x):v= .agg #[.int .i64 x.Pos,.int .i64 x.Target,.bool x.Stuck,.bool x.Open]∧x.ok:=by obtain⟨_,rfl,rfl,h⟩:=k;exact⟨rfl,h⟩
theorem BJ.mk {S h}{x:Ax}(k:x.ok):Rd S h BJ (.agg #[.int .i64 x.Pos,.int .i64 x.Target,.bool x.Stuck,.bool x.Open]) x:=⟨x.v,rfl,rfl,k⟩
theorem TF:E9 BJ 0 AM.int (·.Pos):=by
 rintro S h cs x ⟨rfl,⟨k0,k1⟩⟩
 exact⟨rfl,k0⟩
theorem R4:E9 BJ 3 AM.bool (·.Open):=by
 rintro S h cs x ⟨rfl,⟨k0,k1⟩⟩
 exact rfl
structure Aj where
 Hour:Int
 Own:(List (List Int))
 Rem:(List Int)
 Queue:(List Al)
 Gates:(List Ax)
 In:(List Int)
 Out:(List Int)
instance:Inhabited Aj:=⟨⟨default,default,default,default,default,default,default⟩⟩
def CO:AM Aj where
 sz:=7
 ag:=true
 rd:=λS h cs x=>∃v1 v2 v3 v4 v5 v6:Value,cs=[.int .i64 x.Hour,v1,v2,v3,v4,v5,v6]∧AH x.Hour∧Sl S h (AM.sl AM.int) v1 x.Own∧Sl S h AM.int v2 x.Rem∧Sl S h Ap v3 x.Queue∧Sl S h BJ v4 x.Gates∧Sl S h AM.int v5 x.In∧Sl S h AM.int v6 x.Out
 len:=λ⟨_,_,_,_,_,_,h,_⟩=>by rw[h];rfl
 one:=by
  rintro S h cs x ⟨v1,v2,v3,v4,v5,v6,rfl,k0,k1,k2,k3,k4,k5,k6⟩ v hv
  simp only[List.mem_cons,List.not_mem_nil,or_false] at hv
  rcases hv with rfl|rfl|rfl|rfl|rfl|rfl|rfl<;>first|rfl|exact Sl.one ‹_› |exact(‹_∧_›).2|(obtain ⟨_,_,rfl,_⟩:=Rd.fn ‹_›;rfl)|(obtain ⟨_,_,rfl,_⟩:=Rd.fnr ‹_›;rfl)
 mono:=by
  rintro S S' h h' cs x ⟨v1,v2,v3,v4,v5,v6,rfl,k0,k1,k2,k3,k4,k5,k6⟩ s e
  exact⟨v1,v2,v3,v4,v5,v6,rfl,k0,k1.mono s e,k2.mono s e,k3.mono s e,k4.mono s e,k5.mono s e,k6.mono s e⟩
theorem CO.ex {S h v}{x:Aj}(k:Rd S h CO v x):∃v1 v2 v3 v4 v5 v6:Value,v= .agg #[.int .i64 x.Hour,v1,v2,v3,v4,v5,v6]∧AH x.Hour∧Sl S h (AM.sl AM.int) v1 x.Own∧Sl S h AM.int v2 x.Rem∧Sl S h Ap v3 x.Queue∧Sl S h BJ v4 x.Gates∧Sl S h AM.int v5 x.In∧Sl S h AM.int v6 x.Out:=by obtain⟨_,rfl,v1,v2,v3,v4,v5,v6,rfl,k⟩:=k;exact⟨v1,v2,v3,v4,v5,v6,rfl,k⟩
theorem CO.mk {S h}{x:Aj}{v1 v2 v3 v4 v5 v6:Value}(k0:AH x.Hour) (k1:Sl S h (AM.sl AM.int) v1 x.Own) (k2:Sl S h AM.int v2 x.Rem) (k3:Sl S h Ap v3 x.Queue) (k4:Sl S h BJ v4 x.Gates) (k5:Sl S h AM.int v5 x.In) (k6:Sl S h AM.int v6 x.Out):Rd S h CO (.agg #[.int .i64 x.Hour,v1,v2,v3,v4,v5,v6]) x:=⟨_,rfl,v1,v2,v3,v4,v5,v6,rfl,k0,k1,k2,k3,k4,k5,k6⟩
theorem Aj.f_Hour:E9 CO 0 AM.int (·.Hour):=by
 rintro S h cs x ⟨v1,v2,v3,v4,v5,v6,rfl,k0,k1,k2,k3,k4,k5,k6⟩
 exact⟨rfl,k0⟩
theorem Iw:E9 CO 1 (AM.sl (AM.sl AM.int)) (·.Own):=by
 rintro S h cs x ⟨v1,v2,v3,v4,v5,v6,rfl,k0,k1,k2,k3,k4,k5,k6⟩
 exact⟨_,rfl,k1⟩
theorem Jf:E9 CO 2 (AM.sl AM.int) (·.Rem):=by
 rintro S h cs x ⟨v1,v2,v3,v4,v5,v6,rfl,k0,k1,k2,k3,k4,k5,k6⟩
 exact⟨_,rfl,k2⟩
theorem D0:E9 CO 3 (AM.sl Ap) (·.Queue):=by
 rintro S h cs x ⟨v1,v2,v3,v4,v5,v6,rfl,k0,k1,k2,k3,k4,k5,k6⟩
 exact⟨_,rfl,k3⟩
theorem Jh:E9 CO 4 (AM.sl BJ) (·.Gates):=by
 rintro S h cs x ⟨v1,v2,v3,v4,v5,v6,rfl,k0,k1,k2,k3,k4,k5,k6⟩
 exact⟨_,rfl,k4⟩
theorem KE:E9 CO 5 (AM.sl AM.int) (·.In):=by
 rintro S h cs x ⟨v1,v2,v3,v4,v5,v6,rfl,k0,k1,k2,k3,k4,k5,k6⟩
 exact⟨_,rfl,k5⟩
theorem Jg:E9 CO 6 (AM.sl AM.int) (·.Out):=by
 rintro S h cs x ⟨v1,v2,v3,v4,v5,v6,rfl,k0,k1,k2,k3,k4,k5,k6⟩
 exact⟨_,rfl,k6⟩
structure AT where
 group:ByteArray
 name:ByteArray
instance:Inhabited AT:=⟨⟨default,default⟩⟩
@[reducible] def AT.v (x:AT):List Go.Value:=[.string x.group,.string x.name]
def AT.ok (x:AT):Prop:=x.group.size≤maxLen∧x.name.size≤maxLen
def Kb:AM AT where
 sz:=2
 ag:=true
 rd:=λ_ _ cs x=>cs=x.v∧x.ok
 len:=λ⟨h,_⟩=>by rw[h];rfl
 one:=λ{_ _ _ x} ⟨h,_⟩ v hv=>by
  rw[h] at hv
  simp only[AT.v,List.mem_cons,List.not_mem_nil,or_false] at hv
  rcases hv with rfl|rfl<;>rfl
 mono:=λh _ _=>h
theorem Kb.ex {S h v}{x:AT}(k:Rd S h Kb v x):v= .agg #[.string x.group,.string x.name]∧x.ok:=by obtain⟨_,rfl,rfl,h⟩:=k;exact⟨rfl,h⟩
theorem Kb.mk {S h}{x:AT}(k:x.ok):Rd S h Kb (.agg #[.string x.group,.string x.name]) x:=⟨x.v,rfl,rfl,k⟩
structure Ju where
 Kind:Int
 Link:Int
instance:Inhabited Ju:=⟨⟨default,default⟩⟩
@[reducible] def Ju.v (x:Ju):List Go.Value:=[.int .i64 x.Kind,.int .i64 x.Link]
def Ju.ok (x:Ju):Prop:=AH x.Kind∧AH x.Link
def FT:AM Ju where
 sz:=2
 ag:=true
 rd:=λ_ _ cs x=>cs=x.v∧x.ok
 len:=λ⟨h,_⟩=>by rw[h];rfl
 one:=λ{_ _ _ x} ⟨h,_⟩ v hv=>by
  rw[h] at hv
  simp only[Ju.v,List.mem_cons,List.not_mem_nil,or_false] at hv
  rcases hv with rfl|rfl<;>rfl
 mono:=λh _ _=>h
theorem FT.ex {S h v}{x:Ju}(k:Rd S h FT v x):v= .agg #[.int .i64 x.Kind,.int .i64 x.Link]∧x.ok:=by obtain⟨_,rfl,rfl,h⟩:=k;exact⟨rfl,h⟩
theorem FT.mk {S h}{x:Ju}(k:x.ok):Rd S h FT (.agg #[.int .i64 x.Kind,.int .i64 x.Link]) x:=⟨x.v,rfl,rfl,k⟩
theorem Ju.f_Kind:E9 FT 0 AM.int (·.Kind):=by
 rintro S h cs x ⟨rfl,⟨k0,k1⟩⟩
 exact⟨rfl,k0⟩
structure O9 where
 Link:Int
 Target:Int
instance:Inhabited O9:=⟨⟨default,default⟩⟩
@[reducible] def O9.v (x:O9):List Go.Value:=[.int .i64 x.Link,.int .i64 x.Target]
def O9.ok (x:O9):Prop:=AH x.Link∧AH x.Target
def Ik:AM O9 where
 sz:=2
 ag:=true
 rd:=λ_ _ cs x=>cs=x.v∧x.ok
 len:=λ⟨h,_⟩=>by rw[h];rfl
 one:=λ{_ _ _ x} ⟨h,_⟩ v hv=>by
  rw[h] at hv
  simp only[O9.v,List.mem_cons,List.not_mem_nil,or_false] at hv
  rcases hv with rfl|rfl<;>rfl
 mono:=λh _ _=>h
theorem Ik.ex {S h v}{x:O9}(k:Rd S h Ik v x):v= .agg #[.int .i64 x.Link,.int .i64 x.Target]∧x.ok:=by obtain⟨_,rfl,rfl,h⟩:=k;exact⟨rfl,h⟩
theorem Ik.mk {S h}{x:O9}(k:x.ok):Rd S h Ik (.agg #[.int .i64 x.Link,.int .i64 x.Target]) x:=⟨x.v,rfl,rfl,k⟩
structure IT where
 Place:Int
 Owner:Int
 Litres:Int
 To:Int
instance:Inhabited IT:=⟨⟨default,default,default,default⟩⟩
@[reducible] def IT.v (x:IT):List Go.Value:=[.int .i64 x.Place,.int .i64 x.Owner,.int .i64 x.Litres,.int .i64 x.To]
def IT.ok (x:IT):Prop:=AH x.Place∧AH x.Owner∧AH x.Litres∧AH x.To
def Fd:AM IT where
 sz:=4
 ag:=true
 rd:=λ_ _ cs x=>cs=x.v∧x.ok
 len:=λ⟨h,_⟩=>by rw[h];rfl
 one:=λ{_ _ _ x} ⟨h,_⟩ v hv=>by
  rw[h] at hv
  simp only[IT.v,List.mem_cons,List.not_mem_nil,or_false] at hv
  rcases hv with rfl|rfl|rfl|rfl<;>rfl
 mono:=λh _ _=>h
theorem Fd.ex {S h v}{x:IT}(k:Rd S h Fd v x):v= .agg #[.int .i64 x.Place,.int .i64 x.Owner,.int .i64 x.Litres,.int .i64 x.To]∧x.ok:=by obtain⟨_,rfl,rfl,h⟩:=k;exact⟨rfl,h⟩
theorem Fd.mk {S h}{x:IT}(k:x.ok):Rd S h Fd (.agg #[.int .i64 x.Place,.int .i64 x.Owner,.int .i64 x.Litres,.int .i64 x.To]) x:=⟨x.v,rfl,rfl,k⟩
theorem QU:E9 Fd 1 AM.int (·.Owner):=by
 rintro S h cs x ⟨rfl,⟨k0,k1,k2,k3⟩⟩
 exact⟨rfl,k1⟩
theorem IT.f_Litres:E9 Fd 2 AM.int (·.Litres):=by
 rintro S h cs x ⟨rfl,⟨k0,k1,k2,k3⟩⟩
 exact⟨rfl,k2⟩
theorem IT.f_To:E9 Fd 3 AM.int (·.To):=by
 rintro S h cs x ⟨rfl,⟨k0,k1,k2,k3⟩⟩
 exact⟨rfl,k3⟩
structure LX where
 Place:Int
 From:Int
 To:Int
 Litres:Int
instance:Inhabited LX:=⟨⟨default,default,default,default⟩⟩
@[reducible] def LX.v (x:LX):List Go.Value:=[.int .i64 x.Place,.int .i64 x.From,.int .i64 x.To,.int .i64 x.Litres]
def LX.ok (x:LX):Prop:=AH x.Place∧AH x.From∧AH x.To∧AH x.Litres
def GH:AM LX where
 sz:=4
 ag:=true
 rd:=λ_ _ cs x=>cs=x.v∧x.ok
 len:=λ⟨h,_⟩=>by rw[h];rfl
 one:=λ{_ _ _ x} ⟨h,_⟩ v hv=>by
  rw[h] at hv
  simp only[LX.v,List.mem_cons,List.not_mem_nil,or_false] at hv
  rcases hv with rfl|rfl|rfl|rfl<;>rfl
 mono:=λh _ _=>h
theorem GH.ex {S h v}{x:LX}(k:Rd S h GH v x):v= .agg #[.int .i64 x.Place,.int .i64 x.From,.int .i64 x.To,.int .i64 x.Litres]∧x.ok:=by obtain⟨_,rfl,rfl,h⟩:=k;exact⟨rfl,h⟩
theorem GH.mk {S h}{x:LX}(k:x.ok):Rd S h GH (.agg #[.int .i64 x.Place,.int .i64 x.From,.int .i64 x.To,.int .i64 x.Litres]) x:=⟨x.v,rfl,rfl,k⟩
theorem LX.f_From:E9 GH 1 AM.int (·.From):=by
 rintro S h cs x ⟨rfl,⟨k0,k1,k2,k3⟩⟩
 exact⟨rfl,k1⟩
theorem LX.f_To:E9 GH 2 AM.int (·.To):=by
 rintro S h cs x ⟨rfl,⟨k0,k1,k2,k3⟩⟩
 exact⟨rfl,k2⟩
theorem LX.f_Litres:E9 GH 3 AM.int (·.Litres):=by
 rintro S h cs x ⟨rfl,⟨k0,k1,k2,k3⟩⟩
 exact⟨rfl,k3⟩
structure Ek where
 Rain:(List Int)
 Faults:(List Ju)
 Cmds:(List O9)
 Takes:(List IT)
 Swaps:(List LX)
instance:Inhabited Ek:=⟨⟨default,default,default,default,default⟩⟩
def Fm:AM Ek where
 sz:=5
 ag:=true
 rd:=λS h cs x=>∃v0 v1 v2 v3 v4:Value,cs=[v0,v1,v2,v3,v4]∧Sl S h AM.int v0 x.Rain∧Sl S h FT v1 x.Faults∧Sl S h Ik v2 x.Cmds∧Sl S h Fd v3 x.Takes∧Sl S h GH v4 x.Swaps
 len:=λ⟨_,_,_,_,_,h,_⟩=>by rw[h];rfl
 one:=by
  rintro S h cs x ⟨v0,v1,v2,v3,v4,rfl,k0,k1,k2,k3,k4⟩ v hv
  simp only[List.mem_cons,List.not_mem_nil,or_false] at hv
  rcases hv with rfl|rfl|rfl|rfl|rfl<;>first|rfl|exact Sl.one ‹_› |exact(‹_∧_›).2|(obtain ⟨_,_,rfl,_⟩:=Rd.fn ‹_›;rfl)|(obtain ⟨_,_,rfl,_⟩:=Rd.fnr ‹_›;rfl)
 mono:=by
  rintro S S' h h' cs x ⟨v0,v1,v2,v3,v4,rfl,k0,k1,k2,k3,k4⟩ s e
  exact⟨v0,v1,v2,v3,v4,rfl,k0.mono s e,k1.mono s e,k2.mono s e,k3.mono s e,k4.mono s e⟩
theorem Fm.ex {S h v}{x:Ek}(k:Rd S h Fm v x):∃v0 v1 v2 v3 v4:Value,v= .agg #[v0,v1,v2,v3,v4]∧Sl S h AM.int v0 x.Rain∧Sl S h FT v1 x.Faults∧Sl S h Ik v2 x.Cmds∧Sl S h Fd v3 x.Takes∧Sl S h GH v4 x.Swaps:=by obtain⟨_,rfl,v0,v1,v2,v3,v4,rfl,k⟩:=k;exact⟨v0,v1,v2,v3,v4,rfl,k⟩
theorem Fm.mk {S h}{x:Ek}{v0 v1 v2 v3 v4:Value}(k0:Sl S h AM.int v0 x.Rain) (k1:Sl S h FT v1 x.Faults) (k2:Sl S h Ik v2 x.Cmds) (k3:Sl S h Fd v3 x.Takes) (k4:Sl S h GH v4 x.Swaps):Rd S h Fm (.agg #[v0,v1,v2,v3,v4]) x:=⟨_,rfl,v0,v1,v2,v3,v4,rfl,k0,k1,k2,k3,k4⟩
theorem Ek.f_Rain:E9 Fm 0 (AM.sl AM.int) (·.Rain):=by
 rintro S h cs x ⟨v0,v1,v2,v3,v4,rfl,k0,k1,k2,k3,k4⟩
 exact⟨_,rfl,k0⟩
theorem O8:E9 Fm 1 (AM.sl FT) (·.Faults):=by
 rintro S h cs x ⟨v0,v1,v2,v3,v4,rfl,k0,k1,k2,k3,k4⟩
 exact⟨_,rfl,k1⟩
theorem QV:E9 Fm 2 (AM.sl Ik) (·.Cmds):=by
 rintro S h cs x ⟨v0,v1,v2,v3,v4,rfl,k0,k1,k2,k3,k4⟩
 exact⟨_,rfl,k2⟩
theorem QD:E9 Fm 3 (AM.sl Fd) (·.Takes):=by
 rintro S h cs x ⟨v0,v1,v2,v3,v4,rfl,k0,k1,k2,k3,k4⟩
 exact⟨_,rfl,k3⟩
theorem Mp:E9 Fm 4 (AM.sl GH) (·.Swaps):=by
 rintro S h cs x ⟨v0,v1,v2,v3,v4,rfl,k0,k1,k2,k3,k4⟩
 exact⟨_,rfl,k4⟩
structure Ak where
 Hour:Int
 From:Int
 To:Int
 Way:Int
 Part:(List Int)
instance:Inhabited Ak:=⟨⟨default,default,default,default,default⟩⟩
def BH:AM Ak where
 sz:=5
 ag:=true
 rd:=λS h cs x=>∃v4:Value,cs=[.int .i64 x.Hour,.int .i64 x.From,.int .i64 x.To,.int .i64 x.Way,v4]∧AH x.Hour∧AH x.From∧AH x.To∧AH x.Way∧Sl S h AM.int v4 x.Part
 len:=λ⟨_,h,_⟩=>by rw[h];rfl
 one:=by
  rintro S h cs x ⟨v4,rfl,k0,k1,k2,k3,k4⟩ v hv
  simp only[List.mem_cons,List.not_mem_nil,or_false] at hv
  rcases hv with rfl|rfl|rfl|rfl|rfl<;>first|rfl|exact Sl.one ‹_› |exact(‹_∧_›).2|(obtain ⟨_,_,rfl,_⟩:=Rd.fn ‹_›;rfl)|(obtain ⟨_,_,rfl,_⟩:=Rd.fnr ‹_›;rfl)
 mono:=by
  rintro S S' h h' cs x ⟨v4,rfl,k0,k1,k2,k3,k4⟩ s e
  exact⟨v4,rfl,k0,k1,k2,k3,k4.mono s e⟩
theorem BH.ex {S h v}{x:Ak}(k:Rd S h BH v x):∃v4:Value,v= .agg #[.int .i64 x.Hour,.int .i64 x.From,.int .i64 x.To,.int .i64 x.Way,v4]∧AH x.Hour∧AH x.From∧AH x.To∧AH x.Way∧Sl S h AM.int v4 x.Part:=by obtain⟨_,rfl,v4,rfl,k⟩:=k;exact⟨v4,rfl,k⟩
theorem BH.mk {S h}{x:Ak}{v4:Value}(k0:AH x.Hour) (k1:AH x.From) (k2:AH x.To) (k3:AH x.Way) (k4:Sl S h AM.int v4 x.Part):Rd S h BH (.agg #[.int .i64 x.Hour,.int .i64 x.From,.int .i64 x.To,.int .i64 x.Way,v4]) x:=⟨_,rfl,v4,rfl,k0,k1,k2,k3,k4⟩
theorem Ak.f_Hour:E9 BH 0 AM.int (·.Hour):=by
 rintro S h cs x ⟨v4,rfl,k0,k1,k2,k3,k4⟩
 exact⟨rfl,k0⟩
theorem Ak.f_From:E9 BH 1 AM.int (·.From):=by
 rintro S h cs x ⟨v4,rfl,k0,k1,k2,k3,k4⟩
 exact⟨rfl,k1⟩
theorem Ak.f_To:E9 BH 2 AM.int (·.To):=by
 rintro S h cs x ⟨v4,rfl,k0,k1,k2,k3,k4⟩
 exact⟨rfl,k2⟩
theorem Dk:E9 BH 3 AM.int (·.Way):=by
 rintro S h cs x ⟨v4,rfl,k0,k1,k2,k3,k4⟩
 exact⟨rfl,k3⟩
theorem Ak.f_Part:E9 BH 4 (AM.sl AM.int) (·.Part):=by
 rintro S h cs x ⟨v4,rfl,k0,k1,k2,k3,k4⟩
 exact⟨_,rfl,k4⟩
structure Aq where
 b:AX
 in_:Ek
 s:Aj
 moves:(List Ak)
 peaks:(List Int)
 sent:(List Al)
instance:Inhabited Aq:=⟨⟨default,default,default,default,default,default⟩⟩
def K7:AM Aq where
 sz:=26
 ag:=true
 rd:=λS h cs x=>∃v1 v3 v4 v5 v6 v7 v8 v9 v11 v12 v13 v14 v15 v17 v18 v19 v20 v21 v22 v23 v24 v25:Value,cs=[.string x.b.Name,v1,.int .i64 x.b.Cells,v3,v4,v5,v6,v7,v8,v9,.int .i64 x.b.Err,v11,v12,v13,v14,v15,.int .i64 x.s.Hour,v17,v18,v19,v20,v21,v22,v23,v24,v25]∧x.b.Name.size≤maxLen∧Sl S h AM.str v1 x.b.Owners∧AH x.b.Cells∧Sl S h B0 v3 x.b.Places∧Sl S h Bu v4 x.b.Links∧Sl S h GT v5 x.b.Towns∧Sl S h Ed v6 x.b.Gauges∧Sl S h Fv v7 x.b.Roads∧Sl S h Cz v8 x.b.Shelters∧Sl S h AM.int v9 x.b.Room∧AH x.b.Err∧Sl S h AM.int v11 x.in_.Rain∧Sl S h FT v12 x.in_.Faults∧Sl S h Ik v13 x.in_.Cmds∧Sl S h Fd v14 x.in_.Takes∧Sl S h GH v15 x.in_.Swaps∧AH x.s.Hour∧Sl S h (AM.sl AM.int) v17 x.s.Own∧Sl S h AM.int v18 x.s.Rem∧Sl S h Ap v19 x.s.Queue∧Sl S h BJ v20 x.s.Gates∧Sl S h AM.int v21 x.s.In∧Sl S h AM.int v22 x.s.Out∧Sl S h BH v23 x.moves∧Sl S h AM.int v24 x.peaks∧Sl S h Ap v25 x.sent
 len:=λ⟨_,_,_,_,_,_,_,_,_,_,_,_,_,_,_,_,_,_,_,_,_,_,h,_⟩=>by rw[h];rfl
 one:=by
  rintro S h cs x ⟨v1,v3,v4,v5,v6,v7,v8,v9,v11,v12,v13,v14,v15,v17,v18,v19,v20,v21,v22,v23,v24,v25,rfl,k0,k1,k2,k3,k4,k5,k6,k7,k8,k9,k10,k11,k12,k13,k14,k15,k16,k17,k18,k19,k20,k21,k22,k23,k24,k25⟩ v hv
  simp only[List.mem_cons,List.not_mem_nil,or_false] at hv
  rcases hv with rfl|rfl|rfl|rfl|rfl|rfl|rfl|rfl|rfl|rfl|rfl|rfl|rfl|rfl|rfl|rfl|rfl|rfl|rfl|rfl|rfl|rfl|rfl|rfl|rfl|rfl<;>first|rfl|exact Sl.one ‹_› |exact(‹_∧_›).2|(obtain ⟨_,_,rfl,_⟩:=Rd.fn ‹_›;rfl)|(obtain ⟨_,_,rfl,_⟩:=Rd.fnr ‹_›;rfl)
 mono:=by
  rintro S S' h h' cs x ⟨v1,v3,v4,v5,v6,v7,v8,v9,v11,v12,v13,v14,v15,v17,v18,v19,v20,v21,v22,v23,v24,v25,rfl,k0,k1,k2,k3,k4,k5,k6,k7,k8,k9,k10,k11,k12,k13,k14,k15,k16,k17,k18,k19,k20,k21,k22,k23,k24,k25⟩ s e
  exact⟨v1,v3,v4,v5,v6,v7,v8,v9,v11,v12,v13,v14,v15,v17,v18,v19,v20,v21,v22,v23,v24,v25,rfl,k0,k1.mono s e,k2,k3.mono s e,k4.mono s e,k5.mono s e,k6.mono s e,k7.mono s e,k8.mono s e,k9.mono s e,k10,k11.mono s e,k12.mono s e,k13.mono s e,k14.mono s e,k15.mono s e,k16,k17.mono s e,k18.mono s e,k19.mono s e,k20.mono s e,k21.mono s e,k22.mono s e,k23.mono s e,k24.mono s e,k25.mono s e⟩
theorem K7.ex {S h v}{x:Aq}(k:Rd S h K7 v x):∃v1 v3 v4 v5 v6 v7 v8 v9 v11 v12 v13 v14 v15 v17 v18 v19 v20 v21 v22 v23 v24 v25:Value,v= .agg #[.string x.b.Name,v1,.int .i64 x.b.Cells,v3,v4,v5,v6,v7,v8,v9,.int .i64 x.b.Err,v11,v12,v13,v14,v15,.int .i64 x.s.Hour,v17,v18,v19,v20,v21,v22,v23,v24,v25]∧x.b.Name.size≤maxLen∧Sl S h AM.str v1 x.b.Owners∧AH x.b.Cells∧Sl S h B0 v3 x.b.Places∧Sl S h Bu v4 x.b.Links∧Sl S h GT v5 x.b.Towns∧Sl S h Ed v6 x.b.Gauges∧Sl S h Fv v7 x.b.Roads∧Sl S h Cz v8 x.b.Shelters∧Sl S h AM.int v9 x.b.Room∧AH x.b.Err∧Sl S h AM.int v11 x.in_.Rain∧Sl S h FT v12 x.in_.Faults∧Sl S h Ik v13 x.in_.Cmds∧Sl S h Fd v14 x.in_.Takes∧Sl S h GH v15 x.in_.Swaps∧AH x.s.Hour∧Sl S h (AM.sl AM.int) v17 x.s.Own∧Sl S h AM.int v18 x.s.Rem∧Sl S h Ap v19 x.s.Queue∧Sl S h BJ v20 x.s.Gates∧Sl S h AM.int v21 x.s.In∧Sl S h AM.int v22 x.s.Out∧Sl S h BH v23 x.moves∧Sl S h AM.int v24 x.peaks∧Sl S h Ap v25 x.sent:=by obtain⟨_,rfl,v1,v3,v4,v5,v6,v7,v8,v9,v11,v12,v13,v14,v15,v17,v18,v19,v20,v21,v22,v23,v24,v25,rfl,k⟩:=k;exact⟨v1,v3,v4,v5,v6,v7,v8,v9,v11,v12,v13,v14,v15,v17,v18,v19,v20,v21,v22,v23,v24,v25,rfl,k⟩
theorem K7.mk {S h}{x:Aq}{v1 v3 v4 v5 v6 v7 v8 v9 v11 v12 v13 v14 v15 v17 v18 v19 v20 v21 v22 v23 v24 v25:Value}(k0:x.b.Name.size≤maxLen) (k1:Sl S h AM.str v1 x.b.Owners) (k2:AH x.b.Cells) (k3:Sl S h B0 v3 x.b.Places) (k4:Sl S h Bu v4 x.b.Links) (k5:Sl S h GT v5 x.b.Towns) (k6:Sl S h Ed v6 x.b.Gauges) (k7:Sl S h Fv v7 x.b.Roads) (k8:Sl S h Cz v8 x.b.Shelters) (k9:Sl S h AM.int v9 x.b.Room) (k10:AH x.b.Err) (k11:Sl S h AM.int v11 x.in_.Rain) (k12:Sl S h FT v12 x.in_.Faults) (k13:Sl S h Ik v13 x.in_.Cmds) (k14:Sl S h Fd v14 x.in_.Takes) (k15:Sl S h GH v15 x.in_.Swaps) (k16:AH x.s.Hour) (k17:Sl S h (AM.sl AM.int) v17 x.s.Own) (k18:Sl S h AM.int v18 x.s.Rem) (k19:Sl S h Ap v19 x.s.Queue) (k20:Sl S h BJ v20 x.s.Gates) (k21:Sl S h AM.int v21 x.s.In) (k22:Sl S h AM.int v22 x.s.Out) (k23:Sl S h BH v23 x.moves) (k24:Sl S h AM.int v24 x.peaks) (k25:Sl S h Ap v25 x.sent):Rd S h K7 (.agg #[.string x.b.Name,v1,.int .i64 x.b.Cells,v3,v4,v5,v6,v7,v8,v9,.int .i64 x.b.Err,v11,v12,v13,v14,v15,.int .i64 x.s.Hour,v17,v18,v19,v20,v21,v22,v23,v24,v25]) x:=⟨_,rfl,v1,v3,v4,v5,v6,v7,v8,v9,v11,v12,v13,v14,v15,v17,v18,v19,v20,v21,v22,v23,v24,v25,rfl,k0,k1,k2,k3,k4,k5,k6,k7,k8,k9,k10,k11,k12,k13,k14,k15,k16,k17,k18,k19,k20,k21,k22,k23,k24,k25⟩
structure AL where
 to_:Int
 delay:Int
 way:Int
 take:((List Int)→Option ((List Int)×(List Int)))
instance:Inhabited AL:=⟨⟨default,default,default,default⟩⟩
def Av:AM AL where
 sz:=4
 ag:=true
 rd:=λS h cs x=>∃v3:Value,cs=[.int .i64 x.to_,.int .i64 x.delay,.int .i64 x.way,v3]∧AH x.to_∧AH x.delay∧AH x.way∧Rd S h (AM.fnr Tryz.prog (λS h vs (x:(List Int))=>∃w0:Value,vs=[w0]∧Sl S h AM.int w0 x) (λS h v (y:((List Int)×(List Int)))=>∃w0 w1:Value,v= .tuple #[w0,w1]∧Sl S h AM.int w0 y.1∧Sl S h AM.int w1 y.2)) v3 x.take
 len:=λ⟨_,h,_⟩=>by rw[h];rfl
 one:=by
  rintro S h cs x ⟨v3,rfl,k0,k1,k2,k3⟩ v hv
  simp only[List.mem_cons,List.not_mem_nil,or_false] at hv
  rcases hv with rfl|rfl|rfl|rfl<;>first|rfl|exact Sl.one ‹_› |exact(‹_∧_›).2|(obtain ⟨_,_,rfl,_⟩:=Rd.fn ‹_›;rfl)|(obtain ⟨_,_,rfl,_⟩:=Rd.fnr ‹_›;rfl)
 mono:=by
  rintro S S' h h' cs x ⟨v3,rfl,k0,k1,k2,k3⟩ s e
  exact⟨v3,rfl,k0,k1,k2,k3.mono'' s e⟩
theorem Av.ex {S h v}{x:AL}(k:Rd S h Av v x):∃v3:Value,v= .agg #[.int .i64 x.to_,.int .i64 x.delay,.int .i64 x.way,v3]∧AH x.to_∧AH x.delay∧AH x.way∧Rd S h (AM.fnr Tryz.prog (λS h vs (x:(List Int))=>∃w0:Value,vs=[w0]∧Sl S h AM.int w0 x) (λS h v (y:((List Int)×(List Int)))=>∃w0 w1:Value,v= .tuple #[w0,w1]∧Sl S h AM.int w0 y.1∧Sl S h AM.int w1 y.2)) v3 x.take:=by obtain⟨_,rfl,v3,rfl,k⟩:=k;exact⟨v3,rfl,k⟩
theorem Av.mk {S h}{x:AL}{v3:Value}(k0:AH x.to_) (k1:AH x.delay) (k2:AH x.way) (k3:Rd S h (AM.fnr Tryz.prog (λS h vs (x:(List Int))=>∃w0:Value,vs=[w0]∧Sl S h AM.int w0 x) (λS h v (y:((List Int)×(List Int)))=>∃w0 w1:Value,v= .tuple #[w0,w1]∧Sl S h AM.int w0 y.1∧Sl S h AM.int w1 y.2)) v3 x.take):Rd S h Av (.agg #[.int .i64 x.to_,.int .i64 x.delay,.int .i64 x.way,v3]) x:=⟨_,rfl,v3,rfl,k0,k1,k2,k3⟩
theorem Js:E9 Av 0 AM.int (·.to_):=by
 rintro S h cs x ⟨v3,rfl,k0,k1,k2,k3⟩
 exact⟨rfl,k0⟩
theorem Na:E9 Av 1 AM.int (·.delay):=by
 rintro S h cs x ⟨v3,rfl,k0,k1,k2,k3⟩
 exact⟨rfl,k1⟩
theorem OV:E9 Av 2 AM.int (·.way):=by
 rintro S h cs x ⟨v3,rfl,k0,k1,k2,k3⟩
 exact⟨rfl,k2⟩
theorem OB:E9 Av 3 (AM.fnr Tryz.prog (λS h vs (x:(List Int))=>∃w0:Value,vs=[w0]∧Sl S h AM.int w0 x) (λS h v (y:((List Int)×(List Int)))=>∃w0 w1:Value,v= .tuple #[w0,w1]∧Sl S h AM.int w0 y.1∧Sl S h AM.int w1 y.2)) (·.take):=by
 rintro S h cs x ⟨v3,rfl,k0,k1,k2,k3⟩
 obtain⟨_,rfl,f_,c_,rfl,q_⟩:=k3
 exact⟨f_,c_,rfl,q_⟩
def LB:ByteArray:=ByteArray.mk #[0,1,2,2,3,3,3,3,4,4,4,4,4,4,4,4,5,5,5,5,5,5,5,5,5,5,5,5,5,5,5,5,6,6,6,6,6,6,6,6,6,6,6,6,6,6,6,6,6,6,6,6,6,6,6,6,6,6,6,6,6,6,6,6,7,7,7,7,7,7,7,7,7,7,7,7,7,7,7,7,7,7,7,7,7,7,7,7,7,7,7,7,7,7,7,7,7,7,7,7,7,7,7,7,7,7,7,7,7,7,7,7,7,7,7,7,7,7,7,7,7,7,7,7,7,7,7,7,8,8,8,8,8,8,8,8,8,8,8,8,8,8,8,8,8,8,8,8,8,8,8,8,8,8,8,8,8,8,8,8,8,8,8,8,8,8,8,8,8,8,8,8,8,8,8,8,8,8,8,8,8,8,8,8,8,8,8,8,8,8,8,8,8,8,8,8,8,8,8,8,8,8,8,8,8,8,8,8,8,8,8,8,8,8,8,8,8,8,8,8,8,8,8,8,8,8,8,8,8,8,8,8,8,8,8,8,8,8,8,8,8,8,8,8,8,8,8,8,8,8,8,8,8,8,8,8]
def Mv:List ByteArray:=([(ByteArray.mk #[97]),(ByteArray.mk #[99])]:List ByteArray)
def Mw:List Dv:=([(⟨(ByteArray.mk #[112]),0,2,120,([(⟨0,0⟩:BS)]:List BS),([100,50]:List Int),1,10,(-1),0,0,[]⟩:Dv)]:List Dv)
end Go.Proofs.YtblcgjadhemlbaaGreat
