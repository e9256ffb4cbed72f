import Derived.Test.YtblcgjadhemlbaaGreatTSortD
import Derived.Test.YtblcgjadhemlbaaGreatRows
namespace Go.Proofs.YtblcgjadhemlbaaGreat
open Go.RowKit
set_option linter.unusedVariables false
structure BT where
 X:Int
 Y:Int
instance:Inhabited BT:=⟨⟨default,default⟩⟩
@[reducible] def BT.v (x:BT):List Go.Value:=[.int .i64 x.X,.int .i64 x.Y]
def BT.ok (x:BT):Prop:=AE x.X∧AE x.Y
def Bu:AN BT where
 sz:=2
 ag:=true
 rd:=λ_ _ cs x=>cs=x.v∧x.ok
 len:=λ⟨h,_⟩=>by rw[h];rfl
 one:=λ{_ _ _ x} ⟨h,_⟩ v hv=>by
  rw[h] at hv
  simp only[BT.v,List.mem_cons,List.not_mem_nil,or_false] at hv
  rcases hv with rfl|rfl<;>rfl
 mono:=λh _ _=>h
theorem Bu.ex {S h v}{x:BT}(k:Rd S h Bu v x):v= .agg #[.int .i64 x.X,.int .i64 x.Y]∧x.ok:=by obtain⟨_,rfl,rfl,h⟩:=k;exact⟨rfl,h⟩
theorem Bu.mk {S h}{x:BT}(k:x.ok):Rd S h Bu (.agg #[.int .i64 x.X,.int .i64 x.Y]) x:=⟨x.v,rfl,rfl,k⟩
theorem Ks:FL Bu 0 AN.int (·.X):=by
 rintro S h cs x ⟨rfl,⟨k0,k1⟩⟩
 exact⟨rfl,k0⟩
theorem Kr:FL Bu 1 AN.int (·.Y):=by
 rintro S h cs x ⟨rfl,⟨k0,k1⟩⟩
 exact⟨rfl,k1⟩
structure NI where
 Index:Int
 Area:Int
instance:Inhabited NI:=⟨⟨default,default⟩⟩
@[reducible] def NI.v (x:NI):List Go.Value:=[.int .i64 x.Index,.int .i64 x.Area]
def NI.ok (x:NI):Prop:=AE x.Index∧AE x.Area
def KG:AN NI where
 sz:=2
 ag:=true
 rd:=λ_ _ cs x=>cs=x.v∧x.ok
 len:=λ⟨h,_⟩=>by rw[h];rfl
 one:=λ{_ _ _ x} ⟨h,_⟩ v hv=>by
  rw[h] at hv
  simp only[NI.v,List.mem_cons,List.not_mem_nil,or_false] at hv
  rcases hv with rfl|rfl<;>rfl
 mono:=λh _ _=>h
theorem KG.ex {S h v}{x:NI}(k:Rd S h KG v x):v= .agg #[.int .i64 x.Index,.int .i64 x.Area]∧x.ok:=by obtain⟨_,rfl,rfl,h⟩:=k;exact⟨rfl,h⟩
theorem KG.mk {S h}{x:NI}(k:x.ok):Rd S h KG (.agg #[.int .i64 x.Index,.int .i64 x.Area]) x:=⟨x.v,rfl,rfl,k⟩
structure Dl where
 Name:ByteArray
 Kind:Int
 Office:Int
 Cap:Int
 Level:(List BT)
 Start:(List Int)
 Num:Int
 Den:Int
 Down:Int
 Delay:Int
 Floor:Int
 Rain:(List NI)
instance:Inhabited Dl:=⟨⟨default,default,default,default,default,default,default,default,default,default,default,default⟩⟩
def B1:AN Dl where
 sz:=12
 ag:=true
 rd:=λS h cs x=>∃v4 v5 v11:Value,cs=[.string x.Name,.int .i64 x.Kind,.int .i64 x.Office,.int .i64 x.Cap,v4,v5,.int .i64 x.Num,.int .i64 x.Den,.int .i64 x.Down,.int .i64 x.Delay,.int .i64 x.Floor,v11]∧x.Name.size≤maxLen∧AE x.Kind∧AE x.Office∧AE x.Cap∧Sl S h Bu v4 x.Level∧Sl S h AN.int v5 x.Start∧AE x.Num∧AE x.Den∧AE x.Down∧AE x.Delay∧AE x.Floor∧Sl S h KG v11 x.Rain
 len:=λ⟨_,_,_,h,_⟩=>by rw[h];rfl
 one:=by
  rintro S h cs x ⟨v4,v5,v11,rfl,k0,k1,k2,k3,k4,k5,k6,k7,k8,k9,k10,k11⟩ v hv
  simp only[List.mem_cons,List.not_mem_nil,or_false] at hv
  rcases hv with rfl|rfl|rfl|rfl|rfl|rfl|rfl|rfl|rfl|rfl|rfl|rfl<;>first|rfl|exact Sl.one ‹_› |exact(‹_∧_›).2|(obtain ⟨_,_,rfl,_⟩:=Rd.fn ‹_›;rfl)|(obtain ⟨_,_,rfl,_⟩:=Rd.fnr ‹_›;rfl)
 mono:=by
  rintro S S' h h' cs x ⟨v4,v5,v11,rfl,k0,k1,k2,k3,k4,k5,k6,k7,k8,k9,k10,k11⟩ s e
  exact⟨v4,v5,v11,rfl,k0,k1,k2,k3,k4.mono s e,k5.mono s e,k6,k7,k8,k9,k10,k11.mono s e⟩
theorem B1.ex {S h v}{x:Dl}(k:Rd S h B1 v x):∃v4 v5 v11:Value,v= .agg #[.string x.Name,.int .i64 x.Kind,.int .i64 x.Office,.int .i64 x.Cap,v4,v5,.int .i64 x.Num,.int .i64 x.Den,.int .i64 x.Down,.int .i64 x.Delay,.int .i64 x.Floor,v11]∧x.Name.size≤maxLen∧AE x.Kind∧AE x.Office∧AE x.Cap∧Sl S h Bu v4 x.Level∧Sl S h AN.int v5 x.Start∧AE x.Num∧AE x.Den∧AE x.Down∧AE x.Delay∧AE x.Floor∧Sl S h KG v11 x.Rain:=by obtain⟨_,rfl,v4,v5,v11,rfl,k⟩:=k;exact⟨v4,v5,v11,rfl,k⟩
theorem B1.mk {S h}{x:Dl}{v4 v5 v11:Value}(k0:x.Name.size≤maxLen) (k1:AE x.Kind) (k2:AE x.Office) (k3:AE x.Cap) (k4:Sl S h Bu v4 x.Level) (k5:Sl S h AN.int v5 x.Start) (k6:AE x.Num) (k7:AE x.Den) (k8:AE x.Down) (k9:AE x.Delay) (k10:AE x.Floor) (k11:Sl S h KG v11 x.Rain):Rd S h B1 (.agg #[.string x.Name,.int .i64 x.Kind,.int .i64 x.Office,.int .i64 x.Cap,v4,v5,.int .i64 x.Num,.int .i64 x.Den,.int .i64 x.Down,.int .i64 x.Delay,.int .i64 x.Floor,v11]) x:=⟨_,rfl,v4,v5,v11,rfl,k0,k1,k2,k3,k4,k5,k6,k7,k8,k9,k10,k11⟩
theorem Dl.f_Name:FL B1 0 AN.str (·.Name):=by
 rintro S h cs x ⟨v4,v5,v11,rfl,k0,k1,k2,k3,k4,k5,k6,k7,k8,k9,k10,k11⟩
 exact⟨rfl,k0⟩
theorem Dl.f_Kind:FL B1 1 AN.int (·.Kind):=by
 rintro S h cs x ⟨v4,v5,v11,rfl,k0,k1,k2,k3,k4,k5,k6,k7,k8,k9,k10,k11⟩
 exact⟨rfl,k1⟩
theorem GR:FL B1 2 AN.int (·.Office):=by
 rintro S h cs x ⟨v4,v5,v11,rfl,k0,k1,k2,k3,k4,k5,k6,k7,k8,k9,k10,k11⟩
 exact⟨rfl,k2⟩
theorem Dl.f_Num:FL B1 6 AN.int (·.Num):=by
 rintro S h cs x ⟨v4,v5,v11,rfl,k0,k1,k2,k3,k4,k5,k6,k7,k8,k9,k10,k11⟩
 exact⟨rfl,k6⟩
theorem Dl.f_Den:FL B1 7 AN.int (·.Den):=by
 rintro S h cs x ⟨v4,v5,v11,rfl,k0,k1,k2,k3,k4,k5,k6,k7,k8,k9,k10,k11⟩
 exact⟨rfl,k7⟩
theorem Dl.f_Rain:FL B1 11 (AN.sl KG) (·.Rain):=by
 rintro S h cs x ⟨v4,v5,v11,rfl,k0,k1,k2,k3,k4,k5,k6,k7,k8,k9,k10,k11⟩
 exact⟨_,rfl,k11⟩
structure LX where
 Lo:(List BT)
 Hi:(List BT)
instance:Inhabited LX:=⟨⟨default,default⟩⟩
def Ls:AN LX where
 sz:=2
 ag:=true
 rd:=λS h cs x=>∃v0 v1:Value,cs=[v0,v1]∧Sl S h Bu v0 x.Lo∧Sl S h Bu v1 x.Hi
 len:=λ⟨_,_,h,_⟩=>by rw[h];rfl
 one:=by
  rintro S h cs x ⟨v0,v1,rfl,k0,k1⟩ v hv
  simp only[List.mem_cons,List.not_mem_nil,or_false] at hv
  rcases hv with rfl|rfl<;>first|rfl|exact Sl.one ‹_› |exact(‹_∧_›).2|(obtain ⟨_,_,rfl,_⟩:=Rd.fn ‹_›;rfl)|(obtain ⟨_,_,rfl,_⟩:=Rd.fnr ‹_›;rfl)
 mono:=by
  rintro S S' h h' cs x ⟨v0,v1,rfl,k0,k1⟩ s e
  exact⟨v0,v1,rfl,k0.mono s e,k1.mono s e⟩
theorem Ls.ex {S h v}{x:LX}(k:Rd S h Ls v x):∃v0 v1:Value,v= .agg #[v0,v1]∧Sl S h Bu v0 x.Lo∧Sl S h Bu v1 x.Hi:=by obtain⟨_,rfl,v0,v1,rfl,k⟩:=k;exact⟨v0,v1,rfl,k⟩
theorem Ls.mk {S h}{x:LX}{v0 v1:Value}(k0:Sl S h Bu v0 x.Lo) (k1:Sl S h Bu v1 x.Hi):Rd S h Ls (.agg #[v0,v1]) x:=⟨_,rfl,v0,v1,rfl,k0,k1⟩
theorem NX:FL Ls 0 (AN.sl Bu) (·.Lo):=by
 rintro S h cs x ⟨v0,v1,rfl,k0,k1⟩
 exact⟨_,rfl,k0⟩
theorem NY:FL Ls 1 (AN.sl Bu) (·.Hi):=by
 rintro S h cs x ⟨v0,v1,rfl,k0,k1⟩
 exact⟨_,rfl,k1⟩
structure A4 where
 Name:ByteArray
 Kind:Int
 From:Int
 To:Int
 Rate:(List BT)
 Band:LX
 Positions:Int
 Speed:Int
 Leak:Int
 Crest:Int
 Num:Int
 Den:Int
 Prime:Int
 Break:Int
 BackNum:Int
 BackDen:Int
 Delay:Int
instance:Inhabited A4:=⟨⟨default,default,default,default,default,default,default,default,default,default,default,default,default,default,default,default,default⟩⟩
def Bv:AN A4 where
 sz:=18
 ag:=true
 rd:=λS h cs x=>∃v4 v5 v6:Value,cs=[.string x.Name,.int .i64 x.Kind,.int .i64 x.From,.int .i64 x.To,v4,v5,v6,.int .i64 x.Positions,.int .i64 x.Speed,.int .i64 x.Leak,.int .i64 x.Crest,.int .i64 x.Num,.int .i64 x.Den,.int .i64 x.Prime,.int .i64 x.Break,.int .i64 x.BackNum,.int .i64 x.BackDen,.int .i64 x.Delay]∧x.Name.size≤maxLen∧AE x.Kind∧AE x.From∧AE x.To∧Sl S h Bu v4 x.Rate∧Sl S h Bu v5 x.Band.Lo∧Sl S h Bu v6 x.Band.Hi∧AE x.Positions∧AE x.Speed∧AE x.Leak∧AE x.Crest∧AE x.Num∧AE x.Den∧AE x.Prime∧AE x.Break∧AE x.BackNum∧AE x.BackDen∧AE x.Delay
 len:=λ⟨_,_,_,h,_⟩=>by rw[h];rfl
 one:=by
  rintro S h cs x ⟨v4,v5,v6,rfl,k0,k1,k2,k3,k4,k5,k6,k7,k8,k9,k10,k11,k12,k13,k14,k15,k16,k17⟩ v hv
  simp only[List.mem_cons,List.not_mem_nil,or_false] at hv
  rcases hv with rfl|rfl|rfl|rfl|rfl|rfl|rfl|rfl|rfl|rfl|rfl|rfl|rfl|rfl|rfl|rfl|rfl|rfl<;>first|rfl|exact Sl.one ‹_› |exact(‹_∧_›).2|(obtain ⟨_,_,rfl,_⟩:=Rd.fn ‹_›;rfl)|(obtain ⟨_,_,rfl,_⟩:=Rd.fnr ‹_›;rfl)
 mono:=by
  rintro S S' h h' cs x ⟨v4,v5,v6,rfl,k0,k1,k2,k3,k4,k5,k6,k7,k8,k9,k10,k11,k12,k13,k14,k15,k16,k17⟩ s e
  exact⟨v4,v5,v6,rfl,k0,k1,k2,k3,k4.mono s e,k5.mono s e,k6.mono s e,k7,k8,k9,k10,k11,k12,k13,k14,k15,k16,k17⟩
theorem Bv.ex {S h v}{x:A4}(k:Rd S h Bv v x):∃v4 v5 v6:Value,v= .agg #[.string x.Name,.int .i64 x.Kind,.int .i64 x.From,.int .i64 x.To,v4,v5,v6,.int .i64 x.Positions,.int .i64 x.Speed,.int .i64 x.Leak,.int .i64 x.Crest,.int .i64 x.Num,.int .i64 x.Den,.int .i64 x.Prime,.int .i64 x.Break,.int .i64 x.BackNum,.int .i64 x.BackDen,.int .i64 x.Delay]∧x.Name.size≤maxLen∧AE x.Kind∧AE x.From∧AE x.To∧Sl S h Bu v4 x.Rate∧Sl S h Bu v5 x.Band.Lo∧Sl S h Bu v6 x.Band.Hi∧AE x.Positions∧AE x.Speed∧AE x.Leak∧AE x.Crest∧AE x.Num∧AE x.Den∧AE x.Prime∧AE x.Break∧AE x.BackNum∧AE x.BackDen∧AE x.Delay:=by obtain⟨_,rfl,v4,v5,v6,rfl,k⟩:=k;exact⟨v4,v5,v6,rfl,k⟩
theorem Bv.mk {S h}{x:A4}{v4 v5 v6:Value}(k0:x.Name.size≤maxLen) (k1:AE x.Kind) (k2:AE x.From) (k3:AE x.To) (k4:Sl S h Bu v4 x.Rate) (k5:Sl S h Bu v5 x.Band.Lo) (k6:Sl S h Bu v6 x.Band.Hi) (k7:AE x.Positions) (k8:AE x.Speed) (k9:AE x.Leak) (k10:AE x.Crest) (k11:AE x.Num) (k12:AE x.Den) (k13:AE x.Prime) (k14:AE x.Break) (k15:AE x.BackNum) (k16:AE x.BackDen) (k17:AE x.Delay):Rd S h Bv (.agg #[.string x.Name,.int .i64 x.Kind,.int .i64 x.From,.int .i64 x.To,v4,v5,v6,.int .i64 x.Positions,.int .i64 x.Speed,.int .i64 x.Leak,.int .i64 x.Crest,.int .i64 x.Num,.int .i64 x.Den,.int .i64 x.Prime,.int .i64 x.Break,.int .i64 x.BackNum,.int .i64 x.BackDen,.int .i64 x.Delay]) x:=⟨_,rfl,v4,v5,v6,rfl,k0,k1,k2,k3,k4,k5,k6,k7,k8,k9,k10,k11,k12,k13,k14,k15,k16,k17⟩
theorem A4.f_Name:FL Bv 0 AN.str (·.Name):=by
 rintro S h cs x ⟨v4,v5,v6,rfl,k0,k1,k2,k3,k4,k5,k6,k7,k8,k9,k10,k11,k12,k13,k14,k15,k16,k17⟩
 exact⟨rfl,k0⟩
theorem A4.f_Kind:FL Bv 1 AN.int (·.Kind):=by
 rintro S h cs x ⟨v4,v5,v6,rfl,k0,k1,k2,k3,k4,k5,k6,k7,k8,k9,k10,k11,k12,k13,k14,k15,k16,k17⟩
 exact⟨rfl,k1⟩
theorem A4.f_From:FL Bv 2 AN.int (·.From):=by
 rintro S h cs x ⟨v4,v5,v6,rfl,k0,k1,k2,k3,k4,k5,k6,k7,k8,k9,k10,k11,k12,k13,k14,k15,k16,k17⟩
 exact⟨rfl,k2⟩
theorem A4.f_To:FL Bv 3 AN.int (·.To):=by
 rintro S h cs x ⟨v4,v5,v6,rfl,k0,k1,k2,k3,k4,k5,k6,k7,k8,k9,k10,k11,k12,k13,k14,k15,k16,k17⟩
 exact⟨rfl,k3⟩
theorem JW:FL Bv 4 (AN.sl Bu) (·.Rate):=by
 rintro S h cs x ⟨v4,v5,v6,rfl,k0,k1,k2,k3,k4,k5,k6,k7,k8,k9,k10,k11,k12,k13,k14,k15,k16,k17⟩
 exact⟨_,rfl,k4⟩
theorem Il:FL Bv 5 Ls (·.Band):=by
 rintro S h cs x ⟨v4,v5,v6,rfl,k0,k1,k2,k3,k4,k5,k6,k7,k8,k9,k10,k11,k12,k13,k14,k15,k16,k17⟩
 exact⟨_,_,rfl,k5,k6⟩
theorem D5:FL Bv 7 AN.int (·.Positions):=by
 rintro S h cs x ⟨v4,v5,v6,rfl,k0,k1,k2,k3,k4,k5,k6,k7,k8,k9,k10,k11,k12,k13,k14,k15,k16,k17⟩
 exact⟨rfl,k7⟩
theorem I2:FL Bv 8 AN.int (·.Speed):=by
 rintro S h cs x ⟨v4,v5,v6,rfl,k0,k1,k2,k3,k4,k5,k6,k7,k8,k9,k10,k11,k12,k13,k14,k15,k16,k17⟩
 exact⟨rfl,k8⟩
theorem Lu:FL Bv 9 AN.int (·.Leak):=by
 rintro S h cs x ⟨v4,v5,v6,rfl,k0,k1,k2,k3,k4,k5,k6,k7,k8,k9,k10,k11,k12,k13,k14,k15,k16,k17⟩
 exact⟨rfl,k9⟩
theorem LG:FL Bv 10 AN.int (·.Crest):=by
 rintro S h cs x ⟨v4,v5,v6,rfl,k0,k1,k2,k3,k4,k5,k6,k7,k8,k9,k10,k11,k12,k13,k14,k15,k16,k17⟩
 exact⟨rfl,k10⟩
theorem A4.f_Num:FL Bv 11 AN.int (·.Num):=by
 rintro S h cs x ⟨v4,v5,v6,rfl,k0,k1,k2,k3,k4,k5,k6,k7,k8,k9,k10,k11,k12,k13,k14,k15,k16,k17⟩
 exact⟨rfl,k11⟩
theorem A4.f_Den:FL Bv 12 AN.int (·.Den):=by
 rintro S h cs x ⟨v4,v5,v6,rfl,k0,k1,k2,k3,k4,k5,k6,k7,k8,k9,k10,k11,k12,k13,k14,k15,k16,k17⟩
 exact⟨rfl,k12⟩
theorem Jq:FL Bv 13 AN.int (·.Prime):=by
 rintro S h cs x ⟨v4,v5,v6,rfl,k0,k1,k2,k3,k4,k5,k6,k7,k8,k9,k10,k11,k12,k13,k14,k15,k16,k17⟩
 exact⟨rfl,k13⟩
theorem Jr:FL Bv 14 AN.int (·.Break):=by
 rintro S h cs x ⟨v4,v5,v6,rfl,k0,k1,k2,k3,k4,k5,k6,k7,k8,k9,k10,k11,k12,k13,k14,k15,k16,k17⟩
 exact⟨rfl,k14⟩
theorem IE:FL Bv 15 AN.int (·.BackNum):=by
 rintro S h cs x ⟨v4,v5,v6,rfl,k0,k1,k2,k3,k4,k5,k6,k7,k8,k9,k10,k11,k12,k13,k14,k15,k16,k17⟩
 exact⟨rfl,k15⟩
theorem G7:FL Bv 16 AN.int (·.BackDen):=by
 rintro S h cs x ⟨v4,v5,v6,rfl,k0,k1,k2,k3,k4,k5,k6,k7,k8,k9,k10,k11,k12,k13,k14,k15,k16,k17⟩
 exact⟨rfl,k16⟩
structure Lz where
 Name:ByteArray
 Place:Int
 Flood:Int
 Lead:Int
 People:Int
 Watch:Int
 Quorum:Int
instance:Inhabited Lz:=⟨⟨default,default,default,default,default,default,default⟩⟩
@[reducible] def Lz.v (x:Lz):List Go.Value:=[.string x.Name,.int .i64 x.Place,.int .i64 x.Flood,.int .i64 x.Lead,.int .i64 x.People,.int .i64 x.Watch,.int .i64 x.Quorum]
def Lz.ok (x:Lz):Prop:=x.Name.size≤maxLen∧AE x.Place∧AE x.Flood∧AE x.Lead∧AE x.People∧AE x.Watch∧AE x.Quorum
def GQ:AN Lz where
 sz:=7
 ag:=true
 rd:=λ_ _ cs x=>cs=x.v∧x.ok
 len:=λ⟨h,_⟩=>by rw[h];rfl
 one:=λ{_ _ _ x} ⟨h,_⟩ v hv=>by
  rw[h] at hv
  simp only[Lz.v,List.mem_cons,List.not_mem_nil,or_false] at hv
  rcases hv with rfl|rfl|rfl|rfl|rfl|rfl|rfl<;>rfl
 mono:=λh _ _=>h
theorem GQ.ex {S h v}{x:Lz}(k:Rd S h GQ v x):v= .agg #[.string x.Name,.int .i64 x.Place,.int .i64 x.Flood,.int .i64 x.Lead,.int .i64 x.People,.int .i64 x.Watch,.int .i64 x.Quorum]∧x.ok:=by obtain⟨_,rfl,rfl,h⟩:=k;exact⟨rfl,h⟩
theorem GQ.mk {S h}{x:Lz}(k:x.ok):Rd S h GQ (.agg #[.string x.Name,.int .i64 x.Place,.int .i64 x.Flood,.int .i64 x.Lead,.int .i64 x.People,.int .i64 x.Watch,.int .i64 x.Quorum]) x:=⟨x.v,rfl,rfl,k⟩
theorem Lz.f_Name:FL GQ 0 AN.str (·.Name):=by
 rintro S h cs x ⟨rfl,⟨k0,k1,k2,k3,k4,k5,k6⟩⟩
 exact⟨rfl,k0⟩
structure Jh where
 Name:ByteArray
 Kind:Int
 Target:Int
 Err:Int
 Drift:Int
instance:Inhabited Jh:=⟨⟨default,default,default,default,default⟩⟩
@[reducible] def Jh.v (x:Jh):List Go.Value:=[.string x.Name,.int .i64 x.Kind,.int .i64 x.Target,.int .i64 x.Err,.int .i64 x.Drift]
def Jh.ok (x:Jh):Prop:=x.Name.size≤maxLen∧AE x.Kind∧AE x.Target∧AE x.Err∧AE x.Drift
def EV:AN Jh where
 sz:=5
 ag:=true
 rd:=λ_ _ cs x=>cs=x.v∧x.ok
 len:=λ⟨h,_⟩=>by rw[h];rfl
 one:=λ{_ _ _ x} ⟨h,_⟩ v hv=>by
  rw[h] at hv
  simp only[Jh.v,List.mem_cons,List.not_mem_nil,or_false] at hv
  rcases hv with rfl|rfl|rfl|rfl|rfl<;>rfl
 mono:=λh _ _=>h
theorem EV.ex {S h v}{x:Jh}(k:Rd S h EV v x):v= .agg #[.string x.Name,.int .i64 x.Kind,.int .i64 x.Target,.int .i64 x.Err,.int .i64 x.Drift]∧x.ok:=by obtain⟨_,rfl,rfl,h⟩:=k;exact⟨rfl,h⟩
theorem EV.mk {S h}{x:Jh}(k:x.ok):Rd S h EV (.agg #[.string x.Name,.int .i64 x.Kind,.int .i64 x.Target,.int .i64 x.Err,.int .i64 x.Drift]) x:=⟨x.v,rfl,rfl,k⟩
theorem Jh.f_Name:FL EV 0 AN.str (·.Name):=by
 rintro S h cs x ⟨rfl,⟨k0,k1,k2,k3,k4⟩⟩
 exact⟨rfl,k0⟩
theorem Jh.f_Kind:FL EV 1 AN.int (·.Kind):=by
 rintro S h cs x ⟨rfl,⟨k0,k1,k2,k3,k4⟩⟩
 exact⟨rfl,k1⟩
theorem Jh.f_Err:FL EV 3 AN.int (·.Err):=by
 rintro S h cs x ⟨rfl,⟨k0,k1,k2,k3,k4⟩⟩
 exact⟨rfl,k3⟩
structure LW where
 Name:ByteArray
 From:Int
 To:Int
 Hours:Int
 Flow:Int
 By:Int
 Limit:Int
instance:Inhabited LW:=⟨⟨default,default,default,default,default,default,default⟩⟩
@[reducible] def LW.v (x:LW):List Go.Value:=[.string x.Name,.int .i64 x.From,.int .i64 x.To,.int .i64 x.Hours,.int .i64 x.Flow,.int .i64 x.By,.int .i64 x.Limit]
def LW.ok (x:LW):Prop:=x.Name.size≤maxLen∧AE x.From∧AE x.To∧AE x.Hours∧AE x.Flow∧AE x.By∧AE x.Limit
def Fp:AN LW where
 sz:=7
 ag:=true
 rd:=λ_ _ cs x=>cs=x.v∧x.ok
 len:=λ⟨h,_⟩=>by rw[h];rfl
 one:=λ{_ _ _ x} ⟨h,_⟩ v hv=>by
  rw[h] at hv
  simp only[LW.v,List.mem_cons,List.not_mem_nil,or_false] at hv
  rcases hv with rfl|rfl|rfl|rfl|rfl|rfl|rfl<;>rfl
 mono:=λh _ _=>h
theorem Fp.ex {S h v}{x:LW}(k:Rd S h Fp v x):v= .agg #[.string x.Name,.int .i64 x.From,.int .i64 x.To,.int .i64 x.Hours,.int .i64 x.Flow,.int .i64 x.By,.int .i64 x.Limit]∧x.ok:=by obtain⟨_,rfl,rfl,h⟩:=k;exact⟨rfl,h⟩
theorem Fp.mk {S h}{x:LW}(k:x.ok):Rd S h Fp (.agg #[.string x.Name,.int .i64 x.From,.int .i64 x.To,.int .i64 x.Hours,.int .i64 x.Flow,.int .i64 x.By,.int .i64 x.Limit]) x:=⟨x.v,rfl,rfl,k⟩
theorem LW.f_Name:FL Fp 0 AN.str (·.Name):=by
 rintro S h cs x ⟨rfl,⟨k0,k1,k2,k3,k4,k5,k6⟩⟩
 exact⟨rfl,k0⟩
theorem LW.f_From:FL Fp 1 AN.int (·.From):=by
 rintro S h cs x ⟨rfl,⟨k0,k1,k2,k3,k4,k5,k6⟩⟩
 exact⟨rfl,k1⟩
theorem LW.f_To:FL Fp 2 AN.int (·.To):=by
 rintro S h cs x ⟨rfl,⟨k0,k1,k2,k3,k4,k5,k6⟩⟩
 exact⟨rfl,k2⟩
structure ID where
 Name:ByteArray
 Room:Int
instance:Inhabited ID:=⟨⟨default,default⟩⟩
@[reducible] def ID.v (x:ID):List Go.Value:=[.string x.Name,.int .i64 x.Room]
def ID.ok (x:ID):Prop:=x.Name.size≤maxLen∧AE x.Room
def Cx:AN ID where
 sz:=2
 ag:=true
 rd:=λ_ _ cs x=>cs=x.v∧x.ok
 len:=λ⟨h,_⟩=>by rw[h];rfl
 one:=λ{_ _ _ x} ⟨h,_⟩ v hv=>by
  rw[h] at hv
  simp only[ID.v,List.mem_cons,List.not_mem_nil,or_false] at hv
  rcases hv with rfl|rfl<;>rfl
 mono:=λh _ _=>h
theorem Cx.ex {S h v}{x:ID}(k:Rd S h Cx v x):v= .agg #[.string x.Name,.int .i64 x.Room]∧x.ok:=by obtain⟨_,rfl,rfl,h⟩:=k;exact⟨rfl,h⟩
theorem Cx.mk {S h}{x:ID}(k:x.ok):Rd S h Cx (.agg #[.string x.Name,.int .i64 x.Room]) x:=⟨x.v,rfl,rfl,k⟩
theorem ID.f_Name:FL Cx 0 AN.str (·.Name):=by
 rintro S h cs x ⟨rfl,⟨k0,k1⟩⟩
 exact⟨rfl,k0⟩
theorem ID.f_Room:FL Cx 1 AN.int (·.Room):=by
 rintro S h cs x ⟨rfl,⟨k0,k1⟩⟩
 exact⟨rfl,k1⟩
structure AW where
 Name:ByteArray
 Owners:(List ByteArray)
 Cells:Int
 Places:(List Dl)
 Links:(List A4)
 Towns:(List Lz)
 Gauges:(List Jh)
 Roads:(List LW)
 Shelters:(List ID)
 Room:(List Int)
 Err:Int
instance:Inhabited AW:=⟨⟨default,default,default,default,default,default,default,default,default,default,default⟩⟩
def B8:AN AW where
 sz:=11
 ag:=true
 rd:=λS h cs x=>∃v1 v3 v4 v5 v6 v7 v8 v9:Value,cs=[.string x.Name,v1,.int .i64 x.Cells,v3,v4,v5,v6,v7,v8,v9,.int .i64 x.Err]∧x.Name.size≤maxLen∧Sl S h AN.str v1 x.Owners∧AE x.Cells∧Sl S h B1 v3 x.Places∧Sl S h Bv v4 x.Links∧Sl S h GQ v5 x.Towns∧Sl S h EV v6 x.Gauges∧Sl S h Fp v7 x.Roads∧Sl S h Cx v8 x.Shelters∧Sl S h AN.int v9 x.Room∧AE x.Err
 len:=λ⟨_,_,_,_,_,_,_,_,h,_⟩=>by rw[h];rfl
 one:=by
  rintro S h cs x ⟨v1,v3,v4,v5,v6,v7,v8,v9,rfl,k0,k1,k2,k3,k4,k5,k6,k7,k8,k9,k10⟩ v hv
  simp only[List.mem_cons,List.not_mem_nil,or_false] at hv
  rcases hv with rfl|rfl|rfl|rfl|rfl|rfl|rfl|rfl|rfl|rfl|rfl<;>first|rfl|exact Sl.one ‹_› |exact(‹_∧_›).2|(obtain ⟨_,_,rfl,_⟩:=Rd.fn ‹_›;rfl)|(obtain ⟨_,_,rfl,_⟩:=Rd.fnr ‹_›;rfl)
 mono:=by
  rintro S S' h h' cs x ⟨v1,v3,v4,v5,v6,v7,v8,v9,rfl,k0,k1,k2,k3,k4,k5,k6,k7,k8,k9,k10⟩ s e
  exact⟨v1,v3,v4,v5,v6,v7,v8,v9,rfl,k0,k1.mono s e,k2,k3.mono s e,k4.mono s e,k5.mono s e,k6.mono s e,k7.mono s e,k8.mono s e,k9.mono s e,k10⟩
theorem B8.ex {S h v}{x:AW}(k:Rd S h B8 v x):∃v1 v3 v4 v5 v6 v7 v8 v9:Value,v= .agg #[.string x.Name,v1,.int .i64 x.Cells,v3,v4,v5,v6,v7,v8,v9,.int .i64 x.Err]∧x.Name.size≤maxLen∧Sl S h AN.str v1 x.Owners∧AE x.Cells∧Sl S h B1 v3 x.Places∧Sl S h Bv v4 x.Links∧Sl S h GQ v5 x.Towns∧Sl S h EV v6 x.Gauges∧Sl S h Fp v7 x.Roads∧Sl S h Cx v8 x.Shelters∧Sl S h AN.int v9 x.Room∧AE x.Err:=by obtain⟨_,rfl,v1,v3,v4,v5,v6,v7,v8,v9,rfl,k⟩:=k;exact⟨v1,v3,v4,v5,v6,v7,v8,v9,rfl,k⟩
theorem B8.mk {S h}{x:AW}{v1 v3 v4 v5 v6 v7 v8 v9:Value}(k0:x.Name.size≤maxLen) (k1:Sl S h AN.str v1 x.Owners) (k2:AE x.Cells) (k3:Sl S h B1 v3 x.Places) (k4:Sl S h Bv v4 x.Links) (k5:Sl S h GQ v5 x.Towns) (k6:Sl S h EV v6 x.Gauges) (k7:Sl S h Fp v7 x.Roads) (k8:Sl S h Cx v8 x.Shelters) (k9:Sl S h AN.int v9 x.Room) (k10:AE x.Err):Rd S h B8 (.agg #[.string x.Name,v1,.int .i64 x.Cells,v3,v4,v5,v6,v7,v8,v9,.int .i64 x.Err]) x:=⟨_,rfl,v1,v3,v4,v5,v6,v7,v8,v9,rfl,k0,k1,k2,k3,k4,k5,k6,k7,k8,k9,k10⟩
theorem AW.f_Name:FL B8 0 AN.str (·.Name):=by
 rintro S h cs x ⟨v1,v3,v4,v5,v6,v7,v8,v9,rfl,k0,k1,k2,k3,k4,k5,k6,k7,k8,k9,k10⟩
 exact⟨rfl,k0⟩
theorem Dq:FL B8 1 (AN.sl AN.str) (·.Owners):=by
 rintro S h cs x ⟨v1,v3,v4,v5,v6,v7,v8,v9,rfl,k0,k1,k2,k3,k4,k5,k6,k7,k8,k9,k10⟩
 exact⟨_,rfl,k1⟩
theorem Kv:FL B8 2 AN.int (·.Cells):=by
 rintro S h cs x ⟨v1,v3,v4,v5,v6,v7,v8,v9,rfl,k0,k1,k2,k3,k4,k5,k6,k7,k8,k9,k10⟩
 exact⟨rfl,k2⟩
theorem BO:FL B8 3 (AN.sl B1) (·.Places):=by
 rintro S h cs x ⟨v1,v3,v4,v5,v6,v7,v8,v9,rfl,k0,k1,k2,k3,k4,k5,k6,k7,k8,k9,k10⟩
 exact⟨_,rfl,k3⟩
theorem Es:FL B8 4 (AN.sl Bv) (·.Links):=by
 rintro S h cs x ⟨v1,v3,v4,v5,v6,v7,v8,v9,rfl,k0,k1,k2,k3,k4,k5,k6,k7,k8,k9,k10⟩
 exact⟨_,rfl,k4⟩
theorem Ie:FL B8 5 (AN.sl GQ) (·.Towns):=by
 rintro S h cs x ⟨v1,v3,v4,v5,v6,v7,v8,v9,rfl,k0,k1,k2,k3,k4,k5,k6,k7,k8,k9,k10⟩
 exact⟨_,rfl,k5⟩
theorem KH:FL B8 6 (AN.sl EV) (·.Gauges):=by
 rintro S h cs x ⟨v1,v3,v4,v5,v6,v7,v8,v9,rfl,k0,k1,k2,k3,k4,k5,k6,k7,k8,k9,k10⟩
 exact⟨_,rfl,k6⟩
theorem Ku:FL B8 7 (AN.sl Fp) (·.Roads):=by
 rintro S h cs x ⟨v1,v3,v4,v5,v6,v7,v8,v9,rfl,k0,k1,k2,k3,k4,k5,k6,k7,k8,k9,k10⟩
 exact⟨_,rfl,k7⟩
theorem IP:FL B8 8 (AN.sl Cx) (·.Shelters):=by
 rintro S h cs x ⟨v1,v3,v4,v5,v6,v7,v8,v9,rfl,k0,k1,k2,k3,k4,k5,k6,k7,k8,k9,k10⟩
 exact⟨_,rfl,k8⟩
theorem AW.f_Room:FL B8 9 (AN.sl AN.int) (·.Room):=by
 rintro S h cs x ⟨v1,v3,v4,v5,v6,v7,v8,v9,rfl,k0,k1,k2,k3,k4,k5,k6,k7,k8,k9,k10⟩
 exact⟨_,rfl,k9⟩
theorem AW.f_Err:FL B8 10 AN.int (·.Err):=by
 rintro S h cs x ⟨v1,v3,v4,v5,v6,v7,v8,v9,rfl,k0,k1,k2,k3,k4,k5,k6,k7,k8,k9,k10⟩
 exact⟨rfl,k10⟩
structure Av where
 At:Int
 To:Int
 Part:(List Int)
instance:Inhabited Av:=⟨⟨default,default,default⟩⟩
def Ar:AN Av where
 sz:=3
 ag:=true
 rd:=λS h cs x=>∃v2:Value,cs=[.int .i64 x.At,.int .i64 x.To,v2]∧AE x.At∧AE x.To∧Sl S h AN.int v2 x.Part
 len:=λ⟨_,h,_⟩=>by rw[h];rfl
 one:=by
  rintro S h cs x ⟨v2,rfl,k0,k1,k2⟩ v hv
  simp only[List.mem_cons,List.not_mem_nil,or_false] at hv
  rcases hv with rfl|rfl|rfl<;>first|rfl|exact Sl.one ‹_› |exact(‹_∧_›).2|(obtain ⟨_,_,rfl,_⟩:=Rd.fn ‹_›;rfl)|(obtain ⟨_,_,rfl,_⟩:=Rd.fnr ‹_›;rfl)
 mono:=by
  rintro S S' h h' cs x ⟨v2,rfl,k0,k1,k2⟩ s e
  exact⟨v2,rfl,k0,k1,k2.mono s e⟩
theorem Ar.ex {S h v}{x:Av}(k:Rd S h Ar v x):∃v2:Value,v= .agg #[.int .i64 x.At,.int .i64 x.To,v2]∧AE x.At∧AE x.To∧Sl S h AN.int v2 x.Part:=by obtain⟨_,rfl,v2,rfl,k⟩:=k;exact⟨v2,rfl,k⟩
theorem Ar.mk {S h}{x:Av}{v2:Value}(k0:AE x.At) (k1:AE x.To) (k2:Sl S h AN.int v2 x.Part):Rd S h Ar (.agg #[.int .i64 x.At,.int .i64 x.To,v2]) x:=⟨_,rfl,v2,rfl,k0,k1,k2⟩
theorem NW:FL Ar 0 AN.int (·.At):=by
 rintro S h cs x ⟨v2,rfl,k0,k1,k2⟩
 exact⟨rfl,k0⟩
theorem Av.f_To:FL Ar 1 AN.int (·.To):=by
 rintro S h cs x ⟨v2,rfl,k0,k1,k2⟩
 exact⟨rfl,k1⟩
theorem Av.f_Part:FL Ar 2 (AN.sl AN.int) (·.Part):=by
 rintro S h cs x ⟨v2,rfl,k0,k1,k2⟩
 exact⟨_,rfl,k2⟩
structure Ax where
 Pos:Int
 Target:Int
 Stuck:Bool
 Open:Bool
instance:Inhabited Ax:=⟨⟨default,default,default,default⟩⟩
@[reducible] def Ax.v (x:Ax):List Go.Value:=[.int .i64 x.Pos,.int .i64 x.Target,.bool x.Stuck,.bool x.Open]
def Ax.ok (x:Ax):Prop:=AE x.Pos∧AE x.Target
def BE:AN Ax where
 sz:=4
 ag:=true
 rd:=λ_ _ cs x=>cs=x.v∧x.ok
 len:=λ⟨h,_⟩=>by rw[h];rfl
 one:=λ{_ _ _ x} ⟨h,_⟩ v hv=>by
  rw[h] at hv
  simp only[Ax.v,List.mem_cons,List.not_mem_nil,or_false] at hv
  rcases hv with rfl|rfl|rfl|rfl<;>rfl
 mono:=λh _ _=>h
theorem BE.ex {S h v}{x:Ax}(k:Rd S h BE v x):v= .agg #[.int .i64 x.Pos,.int .i64 x.Target,.bool x.Stuck,.bool x.Open]∧x.ok:=by obtain⟨_,rfl,rfl,h⟩:=k;exact⟨rfl,h⟩
theorem BE.mk {S h}{x:Ax}(k:x.ok):Rd S h BE (.agg #[.int .i64 x.Pos,.int .i64 x.Target,.bool x.Stuck,.bool x.Open]) x:=⟨x.v,rfl,rfl,k⟩
theorem TS:FL BE 0 AN.int (·.Pos):=by
 rintro S h cs x ⟨rfl,⟨k0,k1⟩⟩
 exact⟨rfl,k0⟩
theorem SC:FL BE 3 AN.bool (·.Open):=by
 rintro S h cs x ⟨rfl,⟨k0,k1⟩⟩
 exact rfl
structure Am where
 Hour:Int
 Own:(List (List Int))
 Rem:(List Int)
 Queue:(List Av)
 Gates:(List Ax)
 In:(List Int)
 Out:(List Int)
instance:Inhabited Am:=⟨⟨default,default,default,default,default,default,default⟩⟩
def CP:AN Am where
 sz:=7
 ag:=true
 rd:=λS h cs x=>∃v1 v2 v3 v4 v5 v6:Value,cs=[.int .i64 x.Hour,v1,v2,v3,v4,v5,v6]∧AE x.Hour∧Sl S h (AN.sl AN.int) v1 x.Own∧Sl S h AN.int v2 x.Rem∧Sl S h Ar v3 x.Queue∧Sl S h BE v4 x.Gates∧Sl S h AN.int v5 x.In∧Sl S h AN.int v6 x.Out
 len:=λ⟨_,_,_,_,_,_,h,_⟩=>by rw[h];rfl
 one:=by
  rintro S h cs x ⟨v1,v2,v3,v4,v5,v6,rfl,k0,k1,k2,k3,k4,k5,k6⟩ v hv
  simp only[List.mem_cons,List.not_mem_nil,or_false] at hv
  rcases hv with rfl|rfl|rfl|rfl|rfl|rfl|rfl<;>first|rfl|exact Sl.one ‹_› |exact(‹_∧_›).2|(obtain ⟨_,_,rfl,_⟩:=Rd.fn ‹_›;rfl)|(obtain ⟨_,_,rfl,_⟩:=Rd.fnr ‹_›;rfl)
 mono:=by
  rintro S S' h h' cs x ⟨v1,v2,v3,v4,v5,v6,rfl,k0,k1,k2,k3,k4,k5,k6⟩ s e
  exact⟨v1,v2,v3,v4,v5,v6,rfl,k0,k1.mono s e,k2.mono s e,k3.mono s e,k4.mono s e,k5.mono s e,k6.mono s e⟩
theorem CP.ex {S h v}{x:Am}(k:Rd S h CP v x):∃v1 v2 v3 v4 v5 v6:Value,v= .agg #[.int .i64 x.Hour,v1,v2,v3,v4,v5,v6]∧AE x.Hour∧Sl S h (AN.sl AN.int) v1 x.Own∧Sl S h AN.int v2 x.Rem∧Sl S h Ar v3 x.Queue∧Sl S h BE v4 x.Gates∧Sl S h AN.int v5 x.In∧Sl S h AN.int v6 x.Out:=by obtain⟨_,rfl,v1,v2,v3,v4,v5,v6,rfl,k⟩:=k;exact⟨v1,v2,v3,v4,v5,v6,rfl,k⟩
theorem CP.mk {S h}{x:Am}{v1 v2 v3 v4 v5 v6:Value}(k0:AE x.Hour) (k1:Sl S h (AN.sl AN.int) v1 x.Own) (k2:Sl S h AN.int v2 x.Rem) (k3:Sl S h Ar v3 x.Queue) (k4:Sl S h BE v4 x.Gates) (k5:Sl S h AN.int v5 x.In) (k6:Sl S h AN.int v6 x.Out):Rd S h CP (.agg #[.int .i64 x.Hour,v1,v2,v3,v4,v5,v6]) x:=⟨_,rfl,v1,v2,v3,v4,v5,v6,rfl,k0,k1,k2,k3,k4,k5,k6⟩
theorem Am.f_Hour:FL CP 0 AN.int (·.Hour):=by
 rintro S h cs x ⟨v1,v2,v3,v4,v5,v6,rfl,k0,k1,k2,k3,k4,k5,k6⟩
 exact⟨rfl,k0⟩
theorem Ik:FL CP 1 (AN.sl (AN.sl AN.int)) (·.Own):=by
 rintro S h cs x ⟨v1,v2,v3,v4,v5,v6,rfl,k0,k1,k2,k3,k4,k5,k6⟩
 exact⟨_,rfl,k1⟩
theorem JU:FL CP 2 (AN.sl AN.int) (·.Rem):=by
 rintro S h cs x ⟨v1,v2,v3,v4,v5,v6,rfl,k0,k1,k2,k3,k4,k5,k6⟩
 exact⟨_,rfl,k2⟩
theorem FZ:FL CP 3 (AN.sl Ar) (·.Queue):=by
 rintro S h cs x ⟨v1,v2,v3,v4,v5,v6,rfl,k0,k1,k2,k3,k4,k5,k6⟩
 exact⟨_,rfl,k3⟩
theorem JV:FL CP 4 (AN.sl BE) (·.Gates):=by
 rintro S h cs x ⟨v1,v2,v3,v4,v5,v6,rfl,k0,k1,k2,k3,k4,k5,k6⟩
 exact⟨_,rfl,k4⟩
theorem KA:FL CP 5 (AN.sl AN.int) (·.In):=by
 rintro S h cs x ⟨v1,v2,v3,v4,v5,v6,rfl,k0,k1,k2,k3,k4,k5,k6⟩
 exact⟨_,rfl,k5⟩
theorem Ka:FL CP 6 (AN.sl AN.int) (·.Out):=by
 rintro S h cs x ⟨v1,v2,v3,v4,v5,v6,rfl,k0,k1,k2,k3,k4,k5,k6⟩
 exact⟨_,rfl,k6⟩
structure AS where
 group:ByteArray
 name:ByteArray
instance:Inhabited AS:=⟨⟨default,default⟩⟩
@[reducible] def AS.v (x:AS):List Go.Value:=[.string x.group,.string x.name]
def AS.ok (x:AS):Prop:=x.group.size≤maxLen∧x.name.size≤maxLen
def KZ:AN AS where
 sz:=2
 ag:=true
 rd:=λ_ _ cs x=>cs=x.v∧x.ok
 len:=λ⟨h,_⟩=>by rw[h];rfl
 one:=λ{_ _ _ x} ⟨h,_⟩ v hv=>by
  rw[h] at hv
  simp only[AS.v,List.mem_cons,List.not_mem_nil,or_false] at hv
  rcases hv with rfl|rfl<;>rfl
 mono:=λh _ _=>h
theorem KZ.ex {S h v}{x:AS}(k:Rd S h KZ v x):v= .agg #[.string x.group,.string x.name]∧x.ok:=by obtain⟨_,rfl,rfl,h⟩:=k;exact⟨rfl,h⟩
theorem KZ.mk {S h}{x:AS}(k:x.ok):Rd S h KZ (.agg #[.string x.group,.string x.name]) x:=⟨x.v,rfl,rfl,k⟩
structure Ji where
 Kind:Int
 Link:Int
instance:Inhabited Ji:=⟨⟨default,default⟩⟩
@[reducible] def Ji.v (x:Ji):List Go.Value:=[.int .i64 x.Kind,.int .i64 x.Link]
def Ji.ok (x:Ji):Prop:=AE x.Kind∧AE x.Link
def FM:AN Ji where
 sz:=2
 ag:=true
 rd:=λ_ _ cs x=>cs=x.v∧x.ok
 len:=λ⟨h,_⟩=>by rw[h];rfl
 one:=λ{_ _ _ x} ⟨h,_⟩ v hv=>by
  rw[h] at hv
  simp only[Ji.v,List.mem_cons,List.not_mem_nil,or_false] at hv
  rcases hv with rfl|rfl<;>rfl
 mono:=λh _ _=>h
theorem FM.ex {S h v}{x:Ji}(k:Rd S h FM v x):v= .agg #[.int .i64 x.Kind,.int .i64 x.Link]∧x.ok:=by obtain⟨_,rfl,rfl,h⟩:=k;exact⟨rfl,h⟩
theorem FM.mk {S h}{x:Ji}(k:x.ok):Rd S h FM (.agg #[.int .i64 x.Kind,.int .i64 x.Link]) x:=⟨x.v,rfl,rfl,k⟩
theorem Ji.f_Kind:FL FM 0 AN.int (·.Kind):=by
 rintro S h cs x ⟨rfl,⟨k0,k1⟩⟩
 exact⟨rfl,k0⟩
structure O6 where
 Link:Int
 Target:Int
instance:Inhabited O6:=⟨⟨default,default⟩⟩
@[reducible] def O6.v (x:O6):List Go.Value:=[.int .i64 x.Link,.int .i64 x.Target]
def O6.ok (x:O6):Prop:=AE x.Link∧AE x.Target
def Ic:AN O6 where
 sz:=2
 ag:=true
 rd:=λ_ _ cs x=>cs=x.v∧x.ok
 len:=λ⟨h,_⟩=>by rw[h];rfl
 one:=λ{_ _ _ x} ⟨h,_⟩ v hv=>by
  rw[h] at hv
  simp only[O6.v,List.mem_cons,List.not_mem_nil,or_false] at hv
  rcases hv with rfl|rfl<;>rfl
 mono:=λh _ _=>h
theorem Ic.ex {S h v}{x:O6}(k:Rd S h Ic v x):v= .agg #[.int .i64 x.Link,.int .i64 x.Target]∧x.ok:=by obtain⟨_,rfl,rfl,h⟩:=k;exact⟨rfl,h⟩
theorem Ic.mk {S h}{x:O6}(k:x.ok):Rd S h Ic (.agg #[.int .i64 x.Link,.int .i64 x.Target]) x:=⟨x.v,rfl,rfl,k⟩
structure FK where
 Place:Int
 Owner:Int
 Litres:Int
 To:Int
instance:Inhabited FK:=⟨⟨default,default,default,default⟩⟩
@[reducible] def FK.v (x:FK):List Go.Value:=[.int .i64 x.Place,.int .i64 x.Owner,.int .i64 x.Litres,.int .i64 x.To]
def FK.ok (x:FK):Prop:=AE x.Place∧AE x.Owner∧AE x.Litres∧AE x.To
def FO:AN FK where
 sz:=4
 ag:=true
 rd:=λ_ _ cs x=>cs=x.v∧x.ok
 len:=λ⟨h,_⟩=>by rw[h];rfl
 one:=λ{_ _ _ x} ⟨h,_⟩ v hv=>by
  rw[h] at hv
  simp only[FK.v,List.mem_cons,List.not_mem_nil,or_false] at hv
  rcases hv with rfl|rfl|rfl|rfl<;>rfl
 mono:=λh _ _=>h
theorem FO.ex {S h v}{x:FK}(k:Rd S h FO v x):v= .agg #[.int .i64 x.Place,.int .i64 x.Owner,.int .i64 x.Litres,.int .i64 x.To]∧x.ok:=by obtain⟨_,rfl,rfl,h⟩:=k;exact⟨rfl,h⟩
theorem FO.mk {S h}{x:FK}(k:x.ok):Rd S h FO (.agg #[.int .i64 x.Place,.int .i64 x.Owner,.int .i64 x.Litres,.int .i64 x.To]) x:=⟨x.v,rfl,rfl,k⟩
theorem QU:FL FO 1 AN.int (·.Owner):=by
 rintro S h cs x ⟨rfl,⟨k0,k1,k2,k3⟩⟩
 exact⟨rfl,k1⟩
theorem FK.f_Litres:FL FO 2 AN.int (·.Litres):=by
 rintro S h cs x ⟨rfl,⟨k0,k1,k2,k3⟩⟩
 exact⟨rfl,k2⟩
theorem FK.f_To:FL FO 3 AN.int (·.To):=by
 rintro S h cs x ⟨rfl,⟨k0,k1,k2,k3⟩⟩
 exact⟨rfl,k3⟩
structure LV where
 Place:Int
 From:Int
 To:Int
 Litres:Int
instance:Inhabited LV:=⟨⟨default,default,default,default⟩⟩
@[reducible] def LV.v (x:LV):List Go.Value:=[.int .i64 x.Place,.int .i64 x.From,.int .i64 x.To,.int .i64 x.Litres]
def LV.ok (x:LV):Prop:=AE x.Place∧AE x.From∧AE x.To∧AE x.Litres
def GC:AN LV where
 sz:=4
 ag:=true
 rd:=λ_ _ cs x=>cs=x.v∧x.ok
 len:=λ⟨h,_⟩=>by rw[h];rfl
 one:=λ{_ _ _ x} ⟨h,_⟩ v hv=>by
  rw[h] at hv
  simp only[LV.v,List.mem_cons,List.not_mem_nil,or_false] at hv
  rcases hv with rfl|rfl|rfl|rfl<;>rfl
 mono:=λh _ _=>h
theorem GC.ex {S h v}{x:LV}(k:Rd S h GC v x):v= .agg #[.int .i64 x.Place,.int .i64 x.From,.int .i64 x.To,.int .i64 x.Litres]∧x.ok:=by obtain⟨_,rfl,rfl,h⟩:=k;exact⟨rfl,h⟩
theorem GC.mk {S h}{x:LV}(k:x.ok):Rd S h GC (.agg #[.int .i64 x.Place,.int .i64 x.From,.int .i64 x.To,.int .i64 x.Litres]) x:=⟨x.v,rfl,rfl,k⟩
theorem LV.f_From:FL GC 1 AN.int (·.From):=by
 rintro S h cs x ⟨rfl,⟨k0,k1,k2,k3⟩⟩
 exact⟨rfl,k1⟩
theorem LV.f_To:FL GC 2 AN.int (·.To):=by
 rintro S h cs x ⟨rfl,⟨k0,k1,k2,k3⟩⟩
 exact⟨rfl,k2⟩
theorem LV.f_Litres:FL GC 3 AN.int (·.Litres):=by
 rintro S h cs x ⟨rfl,⟨k0,k1,k2,k3⟩⟩
 exact⟨rfl,k3⟩
structure Cy where
 Rain:(List Int)
 Faults:(List Ji)
 Cmds:(List O6)
 Takes:(List FK)
 Swaps:(List LV)
instance:Inhabited Cy:=⟨⟨default,default,default,default,default⟩⟩
def FY:AN Cy where
 sz:=5
 ag:=true
 rd:=λS h cs x=>∃v0 v1 v2 v3 v4:Value,cs=[v0,v1,v2,v3,v4]∧Sl S h AN.int v0 x.Rain∧Sl S h FM v1 x.Faults∧Sl S h Ic v2 x.Cmds∧Sl S h FO v3 x.Takes∧Sl S h GC v4 x.Swaps
 len:=λ⟨_,_,_,_,_,h,_⟩=>by rw[h];rfl
 one:=by
  rintro S h cs x ⟨v0,v1,v2,v3,v4,rfl,k0,k1,k2,k3,k4⟩ v hv
  simp only[List.mem_cons,List.not_mem_nil,or_false] at hv
  rcases hv with rfl|rfl|rfl|rfl|rfl<;>first|rfl|exact Sl.one ‹_› |exact(‹_∧_›).2|(obtain ⟨_,_,rfl,_⟩:=Rd.fn ‹_›;rfl)|(obtain ⟨_,_,rfl,_⟩:=Rd.fnr ‹_›;rfl)
 mono:=by
  rintro S S' h h' cs x ⟨v0,v1,v2,v3,v4,rfl,k0,k1,k2,k3,k4⟩ s e
  exact⟨v0,v1,v2,v3,v4,rfl,k0.mono s e,k1.mono s e,k2.mono s e,k3.mono s e,k4.mono s e⟩
theorem FY.ex {S h v}{x:Cy}(k:Rd S h FY v x):∃v0 v1 v2 v3 v4:Value,v= .agg #[v0,v1,v2,v3,v4]∧Sl S h AN.int v0 x.Rain∧Sl S h FM v1 x.Faults∧Sl S h Ic v2 x.Cmds∧Sl S h FO v3 x.Takes∧Sl S h GC v4 x.Swaps:=by obtain⟨_,rfl,v0,v1,v2,v3,v4,rfl,k⟩:=k;exact⟨v0,v1,v2,v3,v4,rfl,k⟩
theorem FY.mk {S h}{x:Cy}{v0 v1 v2 v3 v4:Value}(k0:Sl S h AN.int v0 x.Rain) (k1:Sl S h FM v1 x.Faults) (k2:Sl S h Ic v2 x.Cmds) (k3:Sl S h FO v3 x.Takes) (k4:Sl S h GC v4 x.Swaps):Rd S h FY (.agg #[v0,v1,v2,v3,v4]) x:=⟨_,rfl,v0,v1,v2,v3,v4,rfl,k0,k1,k2,k3,k4⟩
theorem Cy.f_Rain:FL FY 0 (AN.sl AN.int) (·.Rain):=by
 rintro S h cs x ⟨v0,v1,v2,v3,v4,rfl,k0,k1,k2,k3,k4⟩
 exact⟨_,rfl,k0⟩
theorem O5:FL FY 1 (AN.sl FM) (·.Faults):=by
 rintro S h cs x ⟨v0,v1,v2,v3,v4,rfl,k0,k1,k2,k3,k4⟩
 exact⟨_,rfl,k1⟩
theorem QV:FL FY 2 (AN.sl Ic) (·.Cmds):=by
 rintro S h cs x ⟨v0,v1,v2,v3,v4,rfl,k0,k1,k2,k3,k4⟩
 exact⟨_,rfl,k2⟩
theorem Kt:FL FY 3 (AN.sl FO) (·.Takes):=by
 rintro S h cs x ⟨v0,v1,v2,v3,v4,rfl,k0,k1,k2,k3,k4⟩
 exact⟨_,rfl,k3⟩
theorem Mh:FL FY 4 (AN.sl GC) (·.Swaps):=by
 rintro S h cs x ⟨v0,v1,v2,v3,v4,rfl,k0,k1,k2,k3,k4⟩
 exact⟨_,rfl,k4⟩
structure Ah where
 Hour:Int
 From:Int
 To:Int
 Way:Int
 Part:(List Int)
instance:Inhabited Ah:=⟨⟨default,default,default,default,default⟩⟩
def BJ:AN Ah where
 sz:=5
 ag:=true
 rd:=λS h cs x=>∃v4:Value,cs=[.int .i64 x.Hour,.int .i64 x.From,.int .i64 x.To,.int .i64 x.Way,v4]∧AE x.Hour∧AE x.From∧AE x.To∧AE x.Way∧Sl S h AN.int v4 x.Part
 len:=λ⟨_,h,_⟩=>by rw[h];rfl
 one:=by
  rintro S h cs x ⟨v4,rfl,k0,k1,k2,k3,k4⟩ v hv
  simp only[List.mem_cons,List.not_mem_nil,or_false] at hv
  rcases hv with rfl|rfl|rfl|rfl|rfl<;>first|rfl|exact Sl.one ‹_› |exact(‹_∧_›).2|(obtain ⟨_,_,rfl,_⟩:=Rd.fn ‹_›;rfl)|(obtain ⟨_,_,rfl,_⟩:=Rd.fnr ‹_›;rfl)
 mono:=by
  rintro S S' h h' cs x ⟨v4,rfl,k0,k1,k2,k3,k4⟩ s e
  exact⟨v4,rfl,k0,k1,k2,k3,k4.mono s e⟩
theorem BJ.ex {S h v}{x:Ah}(k:Rd S h BJ v x):∃v4:Value,v= .agg #[.int .i64 x.Hour,.int .i64 x.From,.int .i64 x.To,.int .i64 x.Way,v4]∧AE x.Hour∧AE x.From∧AE x.To∧AE x.Way∧Sl S h AN.int v4 x.Part:=by obtain⟨_,rfl,v4,rfl,k⟩:=k;exact⟨v4,rfl,k⟩
theorem BJ.mk {S h}{x:Ah}{v4:Value}(k0:AE x.Hour) (k1:AE x.From) (k2:AE x.To) (k3:AE x.Way) (k4:Sl S h AN.int v4 x.Part):Rd S h BJ (.agg #[.int .i64 x.Hour,.int .i64 x.From,.int .i64 x.To,.int .i64 x.Way,v4]) x:=⟨_,rfl,v4,rfl,k0,k1,k2,k3,k4⟩
theorem Ah.f_Hour:FL BJ 0 AN.int (·.Hour):=by
 rintro S h cs x ⟨v4,rfl,k0,k1,k2,k3,k4⟩
 exact⟨rfl,k0⟩
theorem Ah.f_From:FL BJ 1 AN.int (·.From):=by
 rintro S h cs x ⟨v4,rfl,k0,k1,k2,k3,k4⟩
 exact⟨rfl,k1⟩
theorem Ah.f_To:FL BJ 2 AN.int (·.To):=by
 rintro S h cs x ⟨v4,rfl,k0,k1,k2,k3,k4⟩
 exact⟨rfl,k2⟩
theorem ED:FL BJ 3 AN.int (·.Way):=by
 rintro S h cs x ⟨v4,rfl,k0,k1,k2,k3,k4⟩
 exact⟨rfl,k3⟩
theorem Ah.f_Part:FL BJ 4 (AN.sl AN.int) (·.Part):=by
 rintro S h cs x ⟨v4,rfl,k0,k1,k2,k3,k4⟩
 exact⟨_,rfl,k4⟩
structure An where
 b:AW
 in_:Cy
 s:Am
 moves:(List Ah)
 peaks:(List Int)
 sent:(List Av)
instance:Inhabited An:=⟨⟨default,default,default,default,default,default⟩⟩
def K6:AN An where
 sz:=26
 ag:=true
 rd:=λS h cs x=>∃v1 v3 v4 v5 v6 v7 v8 v9 v11 v12 v13 v14 v15 v17 v18 v19 v20 v21 v22 v23 v24 v25:Value,cs=[.string x.b.Name,v1,.int .i64 x.b.Cells,v3,v4,v5,v6,v7,v8,v9,.int .i64 x.b.Err,v11,v12,v13,v14,v15,.int .i64 x.s.Hour,v17,v18,v19,v20,v21,v22,v23,v24,v25]∧x.b.Name.size≤maxLen∧Sl S h AN.str v1 x.b.Owners∧AE x.b.Cells∧Sl S h B1 v3 x.b.Places∧Sl S h Bv v4 x.b.Links∧Sl S h GQ v5 x.b.Towns∧Sl S h EV v6 x.b.Gauges∧Sl S h Fp v7 x.b.Roads∧Sl S h Cx v8 x.b.Shelters∧Sl S h AN.int v9 x.b.Room∧AE x.b.Err∧Sl S h AN.int v11 x.in_.Rain∧Sl S h FM v12 x.in_.Faults∧Sl S h Ic v13 x.in_.Cmds∧Sl S h FO v14 x.in_.Takes∧Sl S h GC v15 x.in_.Swaps∧AE x.s.Hour∧Sl S h (AN.sl AN.int) v17 x.s.Own∧Sl S h AN.int v18 x.s.Rem∧Sl S h Ar v19 x.s.Queue∧Sl S h BE v20 x.s.Gates∧Sl S h AN.int v21 x.s.In∧Sl S h AN.int v22 x.s.Out∧Sl S h BJ v23 x.moves∧Sl S h AN.int v24 x.peaks∧Sl S h Ar v25 x.sent
 len:=λ⟨_,_,_,_,_,_,_,_,_,_,_,_,_,_,_,_,_,_,_,_,_,_,h,_⟩=>by rw[h];rfl
 one:=by
  rintro S h cs x ⟨v1,v3,v4,v5,v6,v7,v8,v9,v11,v12,v13,v14,v15,v17,v18,v19,v20,v21,v22,v23,v24,v25,rfl,k0,k1,k2,k3,k4,k5,k6,k7,k8,k9,k10,k11,k12,k13,k14,k15,k16,k17,k18,k19,k20,k21,k22,k23,k24,k25⟩ v hv
  simp only[List.mem_cons,List.not_mem_nil,or_false] at hv
  rcases hv with rfl|rfl|rfl|rfl|rfl|rfl|rfl|rfl|rfl|rfl|rfl|rfl|rfl|rfl|rfl|rfl|rfl|rfl|rfl|rfl|rfl|rfl|rfl|rfl|rfl|rfl<;>first|rfl|exact Sl.one ‹_› |exact(‹_∧_›).2|(obtain ⟨_,_,rfl,_⟩:=Rd.fn ‹_›;rfl)|(obtain ⟨_,_,rfl,_⟩:=Rd.fnr ‹_›;rfl)
 mono:=by
  rintro S S' h h' cs x ⟨v1,v3,v4,v5,v6,v7,v8,v9,v11,v12,v13,v14,v15,v17,v18,v19,v20,v21,v22,v23,v24,v25,rfl,k0,k1,k2,k3,k4,k5,k6,k7,k8,k9,k10,k11,k12,k13,k14,k15,k16,k17,k18,k19,k20,k21,k22,k23,k24,k25⟩ s e
  exact⟨v1,v3,v4,v5,v6,v7,v8,v9,v11,v12,v13,v14,v15,v17,v18,v19,v20,v21,v22,v23,v24,v25,rfl,k0,k1.mono s e,k2,k3.mono s e,k4.mono s e,k5.mono s e,k6.mono s e,k7.mono s e,k8.mono s e,k9.mono s e,k10,k11.mono s e,k12.mono s e,k13.mono s e,k14.mono s e,k15.mono s e,k16,k17.mono s e,k18.mono s e,k19.mono s e,k20.mono s e,k21.mono s e,k22.mono s e,k23.mono s e,k24.mono s e,k25.mono s e⟩
theorem K6.ex {S h v}{x:An}(k:Rd S h K6 v x):∃v1 v3 v4 v5 v6 v7 v8 v9 v11 v12 v13 v14 v15 v17 v18 v19 v20 v21 v22 v23 v24 v25:Value,v= .agg #[.string x.b.Name,v1,.int .i64 x.b.Cells,v3,v4,v5,v6,v7,v8,v9,.int .i64 x.b.Err,v11,v12,v13,v14,v15,.int .i64 x.s.Hour,v17,v18,v19,v20,v21,v22,v23,v24,v25]∧x.b.Name.size≤maxLen∧Sl S h AN.str v1 x.b.Owners∧AE x.b.Cells∧Sl S h B1 v3 x.b.Places∧Sl S h Bv v4 x.b.Links∧Sl S h GQ v5 x.b.Towns∧Sl S h EV v6 x.b.Gauges∧Sl S h Fp v7 x.b.Roads∧Sl S h Cx v8 x.b.Shelters∧Sl S h AN.int v9 x.b.Room∧AE x.b.Err∧Sl S h AN.int v11 x.in_.Rain∧Sl S h FM v12 x.in_.Faults∧Sl S h Ic v13 x.in_.Cmds∧Sl S h FO v14 x.in_.Takes∧Sl S h GC v15 x.in_.Swaps∧AE x.s.Hour∧Sl S h (AN.sl AN.int) v17 x.s.Own∧Sl S h AN.int v18 x.s.Rem∧Sl S h Ar v19 x.s.Queue∧Sl S h BE v20 x.s.Gates∧Sl S h AN.int v21 x.s.In∧Sl S h AN.int v22 x.s.Out∧Sl S h BJ v23 x.moves∧Sl S h AN.int v24 x.peaks∧Sl S h Ar v25 x.sent:=by obtain⟨_,rfl,v1,v3,v4,v5,v6,v7,v8,v9,v11,v12,v13,v14,v15,v17,v18,v19,v20,v21,v22,v23,v24,v25,rfl,k⟩:=k;exact⟨v1,v3,v4,v5,v6,v7,v8,v9,v11,v12,v13,v14,v15,v17,v18,v19,v20,v21,v22,v23,v24,v25,rfl,k⟩
theorem K6.mk {S h}{x:An}{v1 v3 v4 v5 v6 v7 v8 v9 v11 v12 v13 v14 v15 v17 v18 v19 v20 v21 v22 v23 v24 v25:Value}(k0:x.b.Name.size≤maxLen) (k1:Sl S h AN.str v1 x.b.Owners) (k2:AE x.b.Cells) (k3:Sl S h B1 v3 x.b.Places) (k4:Sl S h Bv v4 x.b.Links) (k5:Sl S h GQ v5 x.b.Towns) (k6:Sl S h EV v6 x.b.Gauges) (k7:Sl S h Fp v7 x.b.Roads) (k8:Sl S h Cx v8 x.b.Shelters) (k9:Sl S h AN.int v9 x.b.Room) (k10:AE x.b.Err) (k11:Sl S h AN.int v11 x.in_.Rain) (k12:Sl S h FM v12 x.in_.Faults) (k13:Sl S h Ic v13 x.in_.Cmds) (k14:Sl S h FO v14 x.in_.Takes) (k15:Sl S h GC v15 x.in_.Swaps) (k16:AE x.s.Hour) (k17:Sl S h (AN.sl AN.int) v17 x.s.Own) (k18:Sl S h AN.int v18 x.s.Rem) (k19:Sl S h Ar v19 x.s.Queue) (k20:Sl S h BE v20 x.s.Gates) (k21:Sl S h AN.int v21 x.s.In) (k22:Sl S h AN.int v22 x.s.Out) (k23:Sl S h BJ v23 x.moves) (k24:Sl S h AN.int v24 x.peaks) (k25:Sl S h Ar v25 x.sent):Rd S h K6 (.agg #[.string x.b.Name,v1,.int .i64 x.b.Cells,v3,v4,v5,v6,v7,v8,v9,.int .i64 x.b.Err,v11,v12,v13,v14,v15,.int .i64 x.s.Hour,v17,v18,v19,v20,v21,v22,v23,v24,v25]) x:=⟨_,rfl,v1,v3,v4,v5,v6,v7,v8,v9,v11,v12,v13,v14,v15,v17,v18,v19,v20,v21,v22,v23,v24,v25,rfl,k0,k1,k2,k3,k4,k5,k6,k7,k8,k9,k10,k11,k12,k13,k14,k15,k16,k17,k18,k19,k20,k21,k22,k23,k24,k25⟩
structure AK where
 to_:Int
 delay:Int
 way:Int
 take:((List Int)→Option ((List Int)×(List Int)))
instance:Inhabited AK:=⟨⟨default,default,default,default⟩⟩
def Au:AN AK where
 sz:=4
 ag:=true
 rd:=λS h cs x=>∃v3:Value,cs=[.int .i64 x.to_,.int .i64 x.delay,.int .i64 x.way,v3]∧AE x.to_∧AE x.delay∧AE x.way∧Rd S h (AN.fnr Tryz.prog (λS h vs (x:(List Int))=>∃w0:Value,vs=[w0]∧Sl S h AN.int w0 x) (λS h v (y:((List Int)×(List Int)))=>∃w0 w1:Value,v= .tuple #[w0,w1]∧Sl S h AN.int w0 y.1∧Sl S h AN.int w1 y.2)) v3 x.take
 len:=λ⟨_,h,_⟩=>by rw[h];rfl
 one:=by
  rintro S h cs x ⟨v3,rfl,k0,k1,k2,k3⟩ v hv
  simp only[List.mem_cons,List.not_mem_nil,or_false] at hv
  rcases hv with rfl|rfl|rfl|rfl<;>first|rfl|exact Sl.one ‹_› |exact(‹_∧_›).2|(obtain ⟨_,_,rfl,_⟩:=Rd.fn ‹_›;rfl)|(obtain ⟨_,_,rfl,_⟩:=Rd.fnr ‹_›;rfl)
 mono:=by
  rintro S S' h h' cs x ⟨v3,rfl,k0,k1,k2,k3⟩ s e
  exact⟨v3,rfl,k0,k1,k2,k3.mono'' s e⟩
theorem Au.ex {S h v}{x:AK}(k:Rd S h Au v x):∃v3:Value,v= .agg #[.int .i64 x.to_,.int .i64 x.delay,.int .i64 x.way,v3]∧AE x.to_∧AE x.delay∧AE x.way∧Rd S h (AN.fnr Tryz.prog (λS h vs (x:(List Int))=>∃w0:Value,vs=[w0]∧Sl S h AN.int w0 x) (λS h v (y:((List Int)×(List Int)))=>∃w0 w1:Value,v= .tuple #[w0,w1]∧Sl S h AN.int w0 y.1∧Sl S h AN.int w1 y.2)) v3 x.take:=by obtain⟨_,rfl,v3,rfl,k⟩:=k;exact⟨v3,rfl,k⟩
theorem Au.mk {S h}{x:AK}{v3:Value}(k0:AE x.to_) (k1:AE x.delay) (k2:AE x.way) (k3:Rd S h (AN.fnr Tryz.prog (λS h vs (x:(List Int))=>∃w0:Value,vs=[w0]∧Sl S h AN.int w0 x) (λS h v (y:((List Int)×(List Int)))=>∃w0 w1:Value,v= .tuple #[w0,w1]∧Sl S h AN.int w0 y.1∧Sl S h AN.int w1 y.2)) v3 x.take):Rd S h Au (.agg #[.int .i64 x.to_,.int .i64 x.delay,.int .i64 x.way,v3]) x:=⟨_,rfl,v3,rfl,k0,k1,k2,k3⟩
theorem Jg:FL Au 0 AN.int (·.to_):=by
 rintro S h cs x ⟨v3,rfl,k0,k1,k2,k3⟩
 exact⟨rfl,k0⟩
theorem NV:FL Au 1 AN.int (·.delay):=by
 rintro S h cs x ⟨v3,rfl,k0,k1,k2,k3⟩
 exact⟨rfl,k1⟩
theorem ON:FL Au 2 AN.int (·.way):=by
 rintro S h cs x ⟨v3,rfl,k0,k1,k2,k3⟩
 exact⟨rfl,k2⟩
theorem N7:FL Au 3 (AN.fnr Tryz.prog (λS h vs (x:(List Int))=>∃w0:Value,vs=[w0]∧Sl S h AN.int w0 x) (λS h v (y:((List Int)×(List Int)))=>∃w0 w1:Value,v= .tuple #[w0,w1]∧Sl S h AN.int w0 y.1∧Sl S h AN.int w1 y.2)) (·.take):=by
 rintro S h cs x ⟨v3,rfl,k0,k1,k2,k3⟩
 obtain⟨_,rfl,f_,c_,rfl,q_⟩:=k3
 exact⟨f_,c_,rfl,q_⟩
def LA:ByteArray:=ByteArray.mk #[0,1,2,2,3,3,3,3,4,4,4,4,4,4,4,4,5,5,5,5,5,5,5,5,5,5,5,5,5,5,5,5,6,6,6,6,6,6,6,6,6,6,6,6,6,6,6,6,6,6,6,6,6,6,6,6,6,6,6,6,6,6,6,6,7,7,7,7,7,7,7,7,7,7,7,7,7,7,7,7,7,7,7,7,7,7,7,7,7,7,7,7,7,7,7,7,7,7,7,7,7,7,7,7,7,7,7,7,7,7,7,7,7,7,7,7,7,7,7,7,7,7,7,7,7,7,7,7,8,8,8,8,8,8,8,8,8,8,8,8,8,8,8,8,8,8,8,8,8,8,8,8,8,8,8,8,8,8,8,8,8,8,8,8,8,8,8,8,8,8,8,8,8,8,8,8,8,8,8,8,8,8,8,8,8,8,8,8,8,8,8,8,8,8,8,8,8,8,8,8,8,8,8,8,8,8,8,8,8,8,8,8,8,8,8,8,8,8,8,8,8,8,8,8,8,8,8,8,8,8,8,8,8,8,8,8,8,8,8,8,8,8,8,8,8,8,8,8,8,8,8,8,8,8,8,8]
def Mn:List ByteArray:=([(ByteArray.mk #[97]),(ByteArray.mk #[99])]:List ByteArray)
def Mo:List Dl:=([(⟨(ByteArray.mk #[112]),0,2,120,([(⟨0,0⟩:BT)]:List BT),([100,50]:List Int),1,10,(-1),0,0,[]⟩:Dl)]:List Dl)
end Go.Proofs.YtblcgjadhemlbaaGreat
