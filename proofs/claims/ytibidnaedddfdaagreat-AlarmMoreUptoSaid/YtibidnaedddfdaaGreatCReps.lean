import Derived.Test.YtibidnaedddfdaaGreatCCore23
import Derived.Test.YtibidnaedddfdaaGreatRows
namespace Go.Proofs.YtibidnaedddfdaaGreat
set_option linter.unusedSimpArgs false
open Go.RowKit
set_option linter.unusedVariables false
structure EM where
 Name:ByteArray
 Place:Int
 Flood:Int
 Lead:Int
 People:Int
 Watch:Int
 Quorum:Int
instance:Inhabited EM:=⟨⟨default,default,default,default,default,default,default⟩⟩
@[reducible] def EM.v (x:EM):List Go.Value:=[.string x.Name,.int .i64 x.Place,.int .i64 x.Flood,.int .i64 x.Lead,.int .i64 x.People,.int .i64 x.Watch,.int .i64 x.Quorum]
def EM.ok (x:EM):Prop:=x.Name.size≤maxLen∧AB x.Place∧AB x.Flood∧AB x.Lead∧AB x.People∧AB x.Watch∧AB x.Quorum
def EK:AV EM where
 sz:=7
 ag:=true
 rd:=λ_ _ cs x=>cs=x.v∧x.ok
 len:=λ⟨h,_⟩=>by rw[h];rfl
 one:=λ{_ _ _ x} ⟨h,_⟩ v hv=>by
  rw[h] at hv
  simp only[EM.v,List.mem_cons,List.not_mem_nil,or_false] at hv
  rcases hv with rfl|rfl|rfl|rfl|rfl|rfl|rfl<;>rfl
 mono:=λh _ _=>h
theorem EK.ex {S h v}{x:EM}(k:Rd S h EK v x):v= .agg #[.string x.Name,.int .i64 x.Place,.int .i64 x.Flood,.int .i64 x.Lead,.int .i64 x.People,.int .i64 x.Watch,.int .i64 x.Quorum]∧x.ok:=by obtain⟨_,rfl,rfl,h⟩:=k;exact⟨rfl,h⟩
theorem EK.mk {S h}{x:EM}(k:x.ok):Rd S h EK (.agg #[.string x.Name,.int .i64 x.Place,.int .i64 x.Flood,.int .i64 x.Lead,.int .i64 x.People,.int .i64 x.Watch,.int .i64 x.Quorum]) x:=⟨x.v,rfl,rfl,k⟩
theorem EM.f_Name:EO EK 0 AV.str (·.Name):=by
 rintro S h cs x ⟨rfl,⟨k0,k1,k2,k3,k4,k5,k6⟩⟩
 exact⟨rfl,k0⟩
theorem L8:EO EK 3 AV.int (·.Lead):=by
 rintro S h cs x ⟨rfl,⟨k0,k1,k2,k3,k4,k5,k6⟩⟩
 exact⟨rfl,k3⟩
theorem EM.f_Quorum:EO EK 6 AV.int (·.Quorum):=by
 rintro S h cs x ⟨rfl,⟨k0,k1,k2,k3,k4,k5,k6⟩⟩
 exact⟨rfl,k6⟩
structure B4 where
 Crest:Int
 Quorum:Bool
instance:Inhabited B4:=⟨⟨default,default⟩⟩
@[reducible] def B4.v (x:B4):List Go.Value:=[.int .i64 x.Crest,.bool x.Quorum]
def B4.ok (x:B4):Prop:=AB x.Crest
def G2:AV B4 where
 sz:=2
 ag:=true
 rd:=λ_ _ cs x=>cs=x.v∧x.ok
 len:=λ⟨h,_⟩=>by rw[h];rfl
 one:=λ{_ _ _ x} ⟨h,_⟩ v hv=>by
  rw[h] at hv
  simp only[B4.v,List.mem_cons,List.not_mem_nil,or_false] at hv
  rcases hv with rfl|rfl<;>rfl
 mono:=λh _ _=>h
theorem G2.ex {S h v}{x:B4}(k:Rd S h G2 v x):v= .agg #[.int .i64 x.Crest,.bool x.Quorum]∧x.ok:=by obtain⟨_,rfl,rfl,h⟩:=k;exact⟨rfl,h⟩
theorem G2.mk {S h}{x:B4}(k:x.ok):Rd S h G2 (.agg #[.int .i64 x.Crest,.bool x.Quorum]) x:=⟨x.v,rfl,rfl,k⟩
theorem B4.f_Crest:EO G2 0 AV.int (·.Crest):=by
 rintro S h cs x ⟨rfl,k0⟩
 exact⟨rfl,k0⟩
theorem B4.f_Quorum:EO G2 1 AV.bool (·.Quorum):=by
 rintro S h cs x ⟨rfl,k0⟩
 exact rfl
structure Bj where
 Level:Int
 Calm:Int
 Then:Int
instance:Inhabited Bj:=⟨⟨default,default,default⟩⟩
@[reducible] def Bj.v (x:Bj):List Go.Value:=[.int .i64 x.Level,.int .i64 x.Calm,.int .i64 x.Then]
def Bj.ok (x:Bj):Prop:=AB x.Level∧AB x.Calm∧AB x.Then
def Fe:AV Bj where
 sz:=3
 ag:=true
 rd:=λ_ _ cs x=>cs=x.v∧x.ok
 len:=λ⟨h,_⟩=>by rw[h];rfl
 one:=λ{_ _ _ x} ⟨h,_⟩ v hv=>by
  rw[h] at hv
  simp only[Bj.v,List.mem_cons,List.not_mem_nil,or_false] at hv
  rcases hv with rfl|rfl|rfl<;>rfl
 mono:=λh _ _=>h
theorem Fe.ex {S h v}{x:Bj}(k:Rd S h Fe v x):v= .agg #[.int .i64 x.Level,.int .i64 x.Calm,.int .i64 x.Then]∧x.ok:=by obtain⟨_,rfl,rfl,h⟩:=k;exact⟨rfl,h⟩
theorem Fe.mk {S h}{x:Bj}(k:x.ok):Rd S h Fe (.agg #[.int .i64 x.Level,.int .i64 x.Calm,.int .i64 x.Then]) x:=⟨x.v,rfl,rfl,k⟩
theorem Bj.f_Level:EO Fe 0 AV.int (·.Level):=by
 rintro S h cs x ⟨rfl,⟨k0,k1,k2⟩⟩
 exact⟨rfl,k0⟩
theorem I1:EO Fe 1 AV.int (·.Calm):=by
 rintro S h cs x ⟨rfl,⟨k0,k1,k2⟩⟩
 exact⟨rfl,k1⟩
theorem N9:EO Fe 2 AV.int (·.Then):=by
 rintro S h cs x ⟨rfl,⟨k0,k1,k2⟩⟩
 exact⟨rfl,k2⟩
structure AU where
 X:Int
 Y:Int
instance:Inhabited AU:=⟨⟨default,default⟩⟩
@[reducible] def AU.v (x:AU):List Go.Value:=[.int .i64 x.X,.int .i64 x.Y]
def AU.ok (x:AU):Prop:=AB x.X∧AB x.Y
def BB:AV AU where
 sz:=2
 ag:=true
 rd:=λ_ _ cs x=>cs=x.v∧x.ok
 len:=λ⟨h,_⟩=>by rw[h];rfl
 one:=λ{_ _ _ x} ⟨h,_⟩ v hv=>by
  rw[h] at hv
  simp only[AU.v,List.mem_cons,List.not_mem_nil,or_false] at hv
  rcases hv with rfl|rfl<;>rfl
 mono:=λh _ _=>h
theorem BB.ex {S h v}{x:AU}(k:Rd S h BB v x):v= .agg #[.int .i64 x.X,.int .i64 x.Y]∧x.ok:=by obtain⟨_,rfl,rfl,h⟩:=k;exact⟨rfl,h⟩
theorem BB.mk {S h}{x:AU}(k:x.ok):Rd S h BB (.agg #[.int .i64 x.X,.int .i64 x.Y]) x:=⟨x.v,rfl,rfl,k⟩
theorem Ie:EO BB 0 AV.int (·.X):=by
 rintro S h cs x ⟨rfl,⟨k0,k1⟩⟩
 exact⟨rfl,k0⟩
theorem Ic:EO BB 1 AV.int (·.Y):=by
 rintro S h cs x ⟨rfl,⟨k0,k1⟩⟩
 exact⟨rfl,k1⟩
structure K5 where
 Index:Int
 Area:Int
instance:Inhabited K5:=⟨⟨default,default⟩⟩
@[reducible] def K5.v (x:K5):List Go.Value:=[.int .i64 x.Index,.int .i64 x.Area]
def K5.ok (x:K5):Prop:=AB x.Index∧AB x.Area
def H2:AV K5 where
 sz:=2
 ag:=true
 rd:=λ_ _ cs x=>cs=x.v∧x.ok
 len:=λ⟨h,_⟩=>by rw[h];rfl
 one:=λ{_ _ _ x} ⟨h,_⟩ v hv=>by
  rw[h] at hv
  simp only[K5.v,List.mem_cons,List.not_mem_nil,or_false] at hv
  rcases hv with rfl|rfl<;>rfl
 mono:=λh _ _=>h
theorem H2.ex {S h v}{x:K5}(k:Rd S h H2 v x):v= .agg #[.int .i64 x.Index,.int .i64 x.Area]∧x.ok:=by obtain⟨_,rfl,rfl,h⟩:=k;exact⟨rfl,h⟩
theorem H2.mk {S h}{x:K5}(k:x.ok):Rd S h H2 (.agg #[.int .i64 x.Index,.int .i64 x.Area]) x:=⟨x.v,rfl,rfl,k⟩
structure C7 where
 Name:ByteArray
 Kind:Int
 Office:Int
 Cap:Int
 Level:(List AU)
 Start:(List Int)
 Num:Int
 Den:Int
 Down:Int
 Delay:Int
 Floor:Int
 Rain:(List K5)
instance:Inhabited C7:=⟨⟨default,default,default,default,default,default,default,default,default,default,default,default⟩⟩
def BO:AV C7 where
 sz:=12
 ag:=true
 rd:=λS h cs x=>∃v4 v5 v11:Value,cs=[.string x.Name,.int .i64 x.Kind,.int .i64 x.Office,.int .i64 x.Cap,v4,v5,.int .i64 x.Num,.int .i64 x.Den,.int .i64 x.Down,.int .i64 x.Delay,.int .i64 x.Floor,v11]∧x.Name.size≤maxLen∧AB x.Kind∧AB x.Office∧AB x.Cap∧Sl S h BB v4 x.Level∧Sl S h AV.int v5 x.Start∧AB x.Num∧AB x.Den∧AB x.Down∧AB x.Delay∧AB x.Floor∧Sl S h H2 v11 x.Rain
 len:=λ⟨_,_,_,h,_⟩=>by rw[h];rfl
 one:=by
  rintro S h cs x ⟨v4,v5,v11,rfl,k0,k1,k2,k3,k4,k5,k6,k7,k8,k9,k10,k11⟩ v hv
  simp only[List.mem_cons,List.not_mem_nil,or_false] at hv
  rcases hv with rfl|rfl|rfl|rfl|rfl|rfl|rfl|rfl|rfl|rfl|rfl|rfl<;>first|rfl|exact Sl.one ‹_› |exact(‹_∧_›).2|(obtain ⟨_,_,rfl,_⟩:=Rd.fn ‹_›;rfl)
 mono:=by
  rintro S S' h h' cs x ⟨v4,v5,v11,rfl,k0,k1,k2,k3,k4,k5,k6,k7,k8,k9,k10,k11⟩ s e
  exact⟨v4,v5,v11,rfl,k0,k1,k2,k3,k4.mono s e,k5.mono s e,k6,k7,k8,k9,k10,k11.mono s e⟩
theorem BO.ex {S h v}{x:C7}(k:Rd S h BO v x):∃v4 v5 v11:Value,v= .agg #[.string x.Name,.int .i64 x.Kind,.int .i64 x.Office,.int .i64 x.Cap,v4,v5,.int .i64 x.Num,.int .i64 x.Den,.int .i64 x.Down,.int .i64 x.Delay,.int .i64 x.Floor,v11]∧x.Name.size≤maxLen∧AB x.Kind∧AB x.Office∧AB x.Cap∧Sl S h BB v4 x.Level∧Sl S h AV.int v5 x.Start∧AB x.Num∧AB x.Den∧AB x.Down∧AB x.Delay∧AB x.Floor∧Sl S h H2 v11 x.Rain:=by obtain⟨_,rfl,v4,v5,v11,rfl,k⟩:=k;exact⟨v4,v5,v11,rfl,k⟩
theorem BO.mk {S h}{x:C7}{v4 v5 v11:Value}(k0:x.Name.size≤maxLen) (k1:AB x.Kind) (k2:AB x.Office) (k3:AB x.Cap) (k4:Sl S h BB v4 x.Level) (k5:Sl S h AV.int v5 x.Start) (k6:AB x.Num) (k7:AB x.Den) (k8:AB x.Down) (k9:AB x.Delay) (k10:AB x.Floor) (k11:Sl S h H2 v11 x.Rain):Rd S h BO (.agg #[.string x.Name,.int .i64 x.Kind,.int .i64 x.Office,.int .i64 x.Cap,v4,v5,.int .i64 x.Num,.int .i64 x.Den,.int .i64 x.Down,.int .i64 x.Delay,.int .i64 x.Floor,v11]) x:=⟨_,rfl,v4,v5,v11,rfl,k0,k1,k2,k3,k4,k5,k6,k7,k8,k9,k10,k11⟩
theorem C7.f_Name:EO BO 0 AV.str (·.Name):=by
 rintro S h cs x ⟨v4,v5,v11,rfl,k0,k1,k2,k3,k4,k5,k6,k7,k8,k9,k10,k11⟩
 exact⟨rfl,k0⟩
theorem C7.f_Kind:EO BO 1 AV.int (·.Kind):=by
 rintro S h cs x ⟨v4,v5,v11,rfl,k0,k1,k2,k3,k4,k5,k6,k7,k8,k9,k10,k11⟩
 exact⟨rfl,k1⟩
theorem GG:EO BO 2 AV.int (·.Office):=by
 rintro S h cs x ⟨v4,v5,v11,rfl,k0,k1,k2,k3,k4,k5,k6,k7,k8,k9,k10,k11⟩
 exact⟨rfl,k2⟩
theorem C7.f_Level:EO BO 4 (AV.sl BB) (·.Level):=by
 rintro S h cs x ⟨v4,v5,v11,rfl,k0,k1,k2,k3,k4,k5,k6,k7,k8,k9,k10,k11⟩
 exact⟨_,rfl,k4⟩
theorem C7.f_Num:EO BO 6 AV.int (·.Num):=by
 rintro S h cs x ⟨v4,v5,v11,rfl,k0,k1,k2,k3,k4,k5,k6,k7,k8,k9,k10,k11⟩
 exact⟨rfl,k6⟩
theorem C7.f_Den:EO BO 7 AV.int (·.Den):=by
 rintro S h cs x ⟨v4,v5,v11,rfl,k0,k1,k2,k3,k4,k5,k6,k7,k8,k9,k10,k11⟩
 exact⟨rfl,k7⟩
theorem C7.f_Rain:EO BO 11 (AV.sl H2) (·.Rain):=by
 rintro S h cs x ⟨v4,v5,v11,rfl,k0,k1,k2,k3,k4,k5,k6,k7,k8,k9,k10,k11⟩
 exact⟨_,rfl,k11⟩
structure Ih where
 Lo:(List AU)
 Hi:(List AU)
instance:Inhabited Ih:=⟨⟨default,default⟩⟩
def JW:AV Ih where
 sz:=2
 ag:=true
 rd:=λS h cs x=>∃v0 v1:Value,cs=[v0,v1]∧Sl S h BB v0 x.Lo∧Sl S h BB v1 x.Hi
 len:=λ⟨_,_,h,_⟩=>by rw[h];rfl
 one:=by
  rintro S h cs x ⟨v0,v1,rfl,k0,k1⟩ v hv
  simp only[List.mem_cons,List.not_mem_nil,or_false] at hv
  rcases hv with rfl|rfl<;>first|rfl|exact Sl.one ‹_› |exact(‹_∧_›).2|(obtain ⟨_,_,rfl,_⟩:=Rd.fn ‹_›;rfl)
 mono:=by
  rintro S S' h h' cs x ⟨v0,v1,rfl,k0,k1⟩ s e
  exact⟨v0,v1,rfl,k0.mono s e,k1.mono s e⟩
theorem JW.ex {S h v}{x:Ih}(k:Rd S h JW v x):∃v0 v1:Value,v= .agg #[v0,v1]∧Sl S h BB v0 x.Lo∧Sl S h BB v1 x.Hi:=by obtain⟨_,rfl,v0,v1,rfl,k⟩:=k;exact⟨v0,v1,rfl,k⟩
theorem JW.mk {S h}{x:Ih}{v0 v1:Value}(k0:Sl S h BB v0 x.Lo) (k1:Sl S h BB v1 x.Hi):Rd S h JW (.agg #[v0,v1]) x:=⟨_,rfl,v0,v1,rfl,k0,k1⟩
theorem Ih.f_Lo:EO JW 0 (AV.sl BB) (·.Lo):=by
 rintro S h cs x ⟨v0,v1,rfl,k0,k1⟩
 exact⟨_,rfl,k0⟩
theorem Ih.f_Hi:EO JW 1 (AV.sl BB) (·.Hi):=by
 rintro S h cs x ⟨v0,v1,rfl,k0,k1⟩
 exact⟨_,rfl,k1⟩
structure AQ where
 Name:ByteArray
 Kind:Int
 From:Int
 To:Int
 Rate:(List AU)
 Band:Ih
 Positions:Int
 Speed:Int
 Leak:Int
 Crest:Int
 Num:Int
 Den:Int
 Prime:Int
 Break:Int
 BackNum:Int
 BackDen:Int
 Delay:Int
instance:Inhabited AQ:=⟨⟨default,default,default,default,default,default,default,default,default,default,default,default,default,default,default,default,default⟩⟩
def A9:AV AQ where
 sz:=18
 ag:=true
 rd:=λS h cs x=>∃v4 v5 v6:Value,cs=[.string x.Name,.int .i64 x.Kind,.int .i64 x.From,.int .i64 x.To,v4,v5,v6,.int .i64 x.Positions,.int .i64 x.Speed,.int .i64 x.Leak,.int .i64 x.Crest,.int .i64 x.Num,.int .i64 x.Den,.int .i64 x.Prime,.int .i64 x.Break,.int .i64 x.BackNum,.int .i64 x.BackDen,.int .i64 x.Delay]∧x.Name.size≤maxLen∧AB x.Kind∧AB x.From∧AB x.To∧Sl S h BB v4 x.Rate∧Sl S h BB v5 x.Band.Lo∧Sl S h BB v6 x.Band.Hi∧AB x.Positions∧AB x.Speed∧AB x.Leak∧AB x.Crest∧AB x.Num∧AB x.Den∧AB x.Prime∧AB x.Break∧AB x.BackNum∧AB x.BackDen∧AB x.Delay
 len:=λ⟨_,_,_,h,_⟩=>by rw[h];rfl
 one:=by
  rintro S h cs x ⟨v4,v5,v6,rfl,k0,k1,k2,k3,k4,k5,k6,k7,k8,k9,k10,k11,k12,k13,k14,k15,k16,k17⟩ v hv
  simp only[List.mem_cons,List.not_mem_nil,or_false] at hv
  rcases hv with rfl|rfl|rfl|rfl|rfl|rfl|rfl|rfl|rfl|rfl|rfl|rfl|rfl|rfl|rfl|rfl|rfl|rfl<;>first|rfl|exact Sl.one ‹_› |exact(‹_∧_›).2|(obtain ⟨_,_,rfl,_⟩:=Rd.fn ‹_›;rfl)
 mono:=by
  rintro S S' h h' cs x ⟨v4,v5,v6,rfl,k0,k1,k2,k3,k4,k5,k6,k7,k8,k9,k10,k11,k12,k13,k14,k15,k16,k17⟩ s e
  exact⟨v4,v5,v6,rfl,k0,k1,k2,k3,k4.mono s e,k5.mono s e,k6.mono s e,k7,k8,k9,k10,k11,k12,k13,k14,k15,k16,k17⟩
theorem A9.ex {S h v}{x:AQ}(k:Rd S h A9 v x):∃v4 v5 v6:Value,v= .agg #[.string x.Name,.int .i64 x.Kind,.int .i64 x.From,.int .i64 x.To,v4,v5,v6,.int .i64 x.Positions,.int .i64 x.Speed,.int .i64 x.Leak,.int .i64 x.Crest,.int .i64 x.Num,.int .i64 x.Den,.int .i64 x.Prime,.int .i64 x.Break,.int .i64 x.BackNum,.int .i64 x.BackDen,.int .i64 x.Delay]∧x.Name.size≤maxLen∧AB x.Kind∧AB x.From∧AB x.To∧Sl S h BB v4 x.Rate∧Sl S h BB v5 x.Band.Lo∧Sl S h BB v6 x.Band.Hi∧AB x.Positions∧AB x.Speed∧AB x.Leak∧AB x.Crest∧AB x.Num∧AB x.Den∧AB x.Prime∧AB x.Break∧AB x.BackNum∧AB x.BackDen∧AB x.Delay:=by obtain⟨_,rfl,v4,v5,v6,rfl,k⟩:=k;exact⟨v4,v5,v6,rfl,k⟩
theorem A9.mk {S h}{x:AQ}{v4 v5 v6:Value}(k0:x.Name.size≤maxLen) (k1:AB x.Kind) (k2:AB x.From) (k3:AB x.To) (k4:Sl S h BB v4 x.Rate) (k5:Sl S h BB v5 x.Band.Lo) (k6:Sl S h BB v6 x.Band.Hi) (k7:AB x.Positions) (k8:AB x.Speed) (k9:AB x.Leak) (k10:AB x.Crest) (k11:AB x.Num) (k12:AB x.Den) (k13:AB x.Prime) (k14:AB x.Break) (k15:AB x.BackNum) (k16:AB x.BackDen) (k17:AB x.Delay):Rd S h A9 (.agg #[.string x.Name,.int .i64 x.Kind,.int .i64 x.From,.int .i64 x.To,v4,v5,v6,.int .i64 x.Positions,.int .i64 x.Speed,.int .i64 x.Leak,.int .i64 x.Crest,.int .i64 x.Num,.int .i64 x.Den,.int .i64 x.Prime,.int .i64 x.Break,.int .i64 x.BackNum,.int .i64 x.BackDen,.int .i64 x.Delay]) x:=⟨_,rfl,v4,v5,v6,rfl,k0,k1,k2,k3,k4,k5,k6,k7,k8,k9,k10,k11,k12,k13,k14,k15,k16,k17⟩
theorem AQ.f_Name:EO A9 0 AV.str (·.Name):=by
 rintro S h cs x ⟨v4,v5,v6,rfl,k0,k1,k2,k3,k4,k5,k6,k7,k8,k9,k10,k11,k12,k13,k14,k15,k16,k17⟩
 exact⟨rfl,k0⟩
theorem AQ.f_Kind:EO A9 1 AV.int (·.Kind):=by
 rintro S h cs x ⟨v4,v5,v6,rfl,k0,k1,k2,k3,k4,k5,k6,k7,k8,k9,k10,k11,k12,k13,k14,k15,k16,k17⟩
 exact⟨rfl,k1⟩
theorem AQ.f_From:EO A9 2 AV.int (·.From):=by
 rintro S h cs x ⟨v4,v5,v6,rfl,k0,k1,k2,k3,k4,k5,k6,k7,k8,k9,k10,k11,k12,k13,k14,k15,k16,k17⟩
 exact⟨rfl,k2⟩
theorem AQ.f_To:EO A9 3 AV.int (·.To):=by
 rintro S h cs x ⟨v4,v5,v6,rfl,k0,k1,k2,k3,k4,k5,k6,k7,k8,k9,k10,k11,k12,k13,k14,k15,k16,k17⟩
 exact⟨rfl,k3⟩
theorem II:EO A9 4 (AV.sl BB) (·.Rate):=by
 rintro S h cs x ⟨v4,v5,v6,rfl,k0,k1,k2,k3,k4,k5,k6,k7,k8,k9,k10,k11,k12,k13,k14,k15,k16,k17⟩
 exact⟨_,rfl,k4⟩
theorem FX:EO A9 5 JW (·.Band):=by
 rintro S h cs x ⟨v4,v5,v6,rfl,k0,k1,k2,k3,k4,k5,k6,k7,k8,k9,k10,k11,k12,k13,k14,k15,k16,k17⟩
 exact⟨_,_,rfl,k5,k6⟩
theorem B0:EO A9 7 AV.int (·.Positions):=by
 rintro S h cs x ⟨v4,v5,v6,rfl,k0,k1,k2,k3,k4,k5,k6,k7,k8,k9,k10,k11,k12,k13,k14,k15,k16,k17⟩
 exact⟨rfl,k7⟩
theorem Fa:EO A9 8 AV.int (·.Speed):=by
 rintro S h cs x ⟨v4,v5,v6,rfl,k0,k1,k2,k3,k4,k5,k6,k7,k8,k9,k10,k11,k12,k13,k14,k15,k16,k17⟩
 exact⟨rfl,k8⟩
theorem JX:EO A9 9 AV.int (·.Leak):=by
 rintro S h cs x ⟨v4,v5,v6,rfl,k0,k1,k2,k3,k4,k5,k6,k7,k8,k9,k10,k11,k12,k13,k14,k15,k16,k17⟩
 exact⟨rfl,k9⟩
theorem AQ.f_Crest:EO A9 10 AV.int (·.Crest):=by
 rintro S h cs x ⟨v4,v5,v6,rfl,k0,k1,k2,k3,k4,k5,k6,k7,k8,k9,k10,k11,k12,k13,k14,k15,k16,k17⟩
 exact⟨rfl,k10⟩
theorem AQ.f_Num:EO A9 11 AV.int (·.Num):=by
 rintro S h cs x ⟨v4,v5,v6,rfl,k0,k1,k2,k3,k4,k5,k6,k7,k8,k9,k10,k11,k12,k13,k14,k15,k16,k17⟩
 exact⟨rfl,k11⟩
theorem AQ.f_Den:EO A9 12 AV.int (·.Den):=by
 rintro S h cs x ⟨v4,v5,v6,rfl,k0,k1,k2,k3,k4,k5,k6,k7,k8,k9,k10,k11,k12,k13,k14,k15,k16,k17⟩
 exact⟨rfl,k12⟩
theorem Hm:EO A9 13 AV.int (·.Prime):=by
 rintro S h cs x ⟨v4,v5,v6,rfl,k0,k1,k2,k3,k4,k5,k6,k7,k8,k9,k10,k11,k12,k13,k14,k15,k16,k17⟩
 exact⟨rfl,k13⟩
theorem Fb:EO A9 14 AV.int (·.Break):=by
 rintro S h cs x ⟨v4,v5,v6,rfl,k0,k1,k2,k3,k4,k5,k6,k7,k8,k9,k10,k11,k12,k13,k14,k15,k16,k17⟩
 exact⟨rfl,k14⟩
theorem GH:EO A9 15 AV.int (·.BackNum):=by
 rintro S h cs x ⟨v4,v5,v6,rfl,k0,k1,k2,k3,k4,k5,k6,k7,k8,k9,k10,k11,k12,k13,k14,k15,k16,k17⟩
 exact⟨rfl,k15⟩
theorem FL:EO A9 16 AV.int (·.BackDen):=by
 rintro S h cs x ⟨v4,v5,v6,rfl,k0,k1,k2,k3,k4,k5,k6,k7,k8,k9,k10,k11,k12,k13,k14,k15,k16,k17⟩
 exact⟨rfl,k16⟩
structure G6 where
 Name:ByteArray
 Kind:Int
 Target:Int
 Err:Int
 Drift:Int
instance:Inhabited G6:=⟨⟨default,default,default,default,default⟩⟩
@[reducible] def G6.v (x:G6):List Go.Value:=[.string x.Name,.int .i64 x.Kind,.int .i64 x.Target,.int .i64 x.Err,.int .i64 x.Drift]
def G6.ok (x:G6):Prop:=x.Name.size≤maxLen∧AB x.Kind∧AB x.Target∧AB x.Err∧AB x.Drift
def Di:AV G6 where
 sz:=5
 ag:=true
 rd:=λ_ _ cs x=>cs=x.v∧x.ok
 len:=λ⟨h,_⟩=>by rw[h];rfl
 one:=λ{_ _ _ x} ⟨h,_⟩ v hv=>by
  rw[h] at hv
  simp only[G6.v,List.mem_cons,List.not_mem_nil,or_false] at hv
  rcases hv with rfl|rfl|rfl|rfl|rfl<;>rfl
 mono:=λh _ _=>h
theorem Di.ex {S h v}{x:G6}(k:Rd S h Di v x):v= .agg #[.string x.Name,.int .i64 x.Kind,.int .i64 x.Target,.int .i64 x.Err,.int .i64 x.Drift]∧x.ok:=by obtain⟨_,rfl,rfl,h⟩:=k;exact⟨rfl,h⟩
theorem Di.mk {S h}{x:G6}(k:x.ok):Rd S h Di (.agg #[.string x.Name,.int .i64 x.Kind,.int .i64 x.Target,.int .i64 x.Err,.int .i64 x.Drift]) x:=⟨x.v,rfl,rfl,k⟩
theorem G6.f_Name:EO Di 0 AV.str (·.Name):=by
 rintro S h cs x ⟨rfl,⟨k0,k1,k2,k3,k4⟩⟩
 exact⟨rfl,k0⟩
theorem G6.f_Kind:EO Di 1 AV.int (·.Kind):=by
 rintro S h cs x ⟨rfl,⟨k0,k1,k2,k3,k4⟩⟩
 exact⟨rfl,k1⟩
theorem G6.f_Target:EO Di 2 AV.int (·.Target):=by
 rintro S h cs x ⟨rfl,⟨k0,k1,k2,k3,k4⟩⟩
 exact⟨rfl,k2⟩
theorem G6.f_Err:EO Di 3 AV.int (·.Err):=by
 rintro S h cs x ⟨rfl,⟨k0,k1,k2,k3,k4⟩⟩
 exact⟨rfl,k3⟩
theorem G6.u_Target:MA Di 2 AV.int (λx y=>{ x with Target:=y}):=by
 refine⟨by decide,?_⟩
 rintro S h c x vs y ⟨rfl,⟨k0,k1,k2,k3,k4⟩⟩ ⟨rfl,j2⟩
 exact⟨rfl,⟨k0,k1,j2,k3,k4⟩⟩
structure JF where
 Name:ByteArray
 From:Int
 To:Int
 Hours:Int
 Flow:Int
 By:Int
 Limit:Int
instance:Inhabited JF:=⟨⟨default,default,default,default,default,default,default⟩⟩
@[reducible] def JF.v (x:JF):List Go.Value:=[.string x.Name,.int .i64 x.From,.int .i64 x.To,.int .i64 x.Hours,.int .i64 x.Flow,.int .i64 x.By,.int .i64 x.Limit]
def JF.ok (x:JF):Prop:=x.Name.size≤maxLen∧AB x.From∧AB x.To∧AB x.Hours∧AB x.Flow∧AB x.By∧AB x.Limit
def Et:AV JF where
 sz:=7
 ag:=true
 rd:=λ_ _ cs x=>cs=x.v∧x.ok
 len:=λ⟨h,_⟩=>by rw[h];rfl
 one:=λ{_ _ _ x} ⟨h,_⟩ v hv=>by
  rw[h] at hv
  simp only[JF.v,List.mem_cons,List.not_mem_nil,or_false] at hv
  rcases hv with rfl|rfl|rfl|rfl|rfl|rfl|rfl<;>rfl
 mono:=λh _ _=>h
theorem Et.ex {S h v}{x:JF}(k:Rd S h Et v x):v= .agg #[.string x.Name,.int .i64 x.From,.int .i64 x.To,.int .i64 x.Hours,.int .i64 x.Flow,.int .i64 x.By,.int .i64 x.Limit]∧x.ok:=by obtain⟨_,rfl,rfl,h⟩:=k;exact⟨rfl,h⟩
theorem Et.mk {S h}{x:JF}(k:x.ok):Rd S h Et (.agg #[.string x.Name,.int .i64 x.From,.int .i64 x.To,.int .i64 x.Hours,.int .i64 x.Flow,.int .i64 x.By,.int .i64 x.Limit]) x:=⟨x.v,rfl,rfl,k⟩
theorem JF.f_Name:EO Et 0 AV.str (·.Name):=by
 rintro S h cs x ⟨rfl,⟨k0,k1,k2,k3,k4,k5,k6⟩⟩
 exact⟨rfl,k0⟩
theorem JF.f_From:EO Et 1 AV.int (·.From):=by
 rintro S h cs x ⟨rfl,⟨k0,k1,k2,k3,k4,k5,k6⟩⟩
 exact⟨rfl,k1⟩
theorem JF.f_To:EO Et 2 AV.int (·.To):=by
 rintro S h cs x ⟨rfl,⟨k0,k1,k2,k3,k4,k5,k6⟩⟩
 exact⟨rfl,k2⟩
structure GF where
 Name:ByteArray
 Room:Int
instance:Inhabited GF:=⟨⟨default,default⟩⟩
@[reducible] def GF.v (x:GF):List Go.Value:=[.string x.Name,.int .i64 x.Room]
def GF.ok (x:GF):Prop:=x.Name.size≤maxLen∧AB x.Room
def Cc:AV GF where
 sz:=2
 ag:=true
 rd:=λ_ _ cs x=>cs=x.v∧x.ok
 len:=λ⟨h,_⟩=>by rw[h];rfl
 one:=λ{_ _ _ x} ⟨h,_⟩ v hv=>by
  rw[h] at hv
  simp only[GF.v,List.mem_cons,List.not_mem_nil,or_false] at hv
  rcases hv with rfl|rfl<;>rfl
 mono:=λh _ _=>h
theorem Cc.ex {S h v}{x:GF}(k:Rd S h Cc v x):v= .agg #[.string x.Name,.int .i64 x.Room]∧x.ok:=by obtain⟨_,rfl,rfl,h⟩:=k;exact⟨rfl,h⟩
theorem Cc.mk {S h}{x:GF}(k:x.ok):Rd S h Cc (.agg #[.string x.Name,.int .i64 x.Room]) x:=⟨x.v,rfl,rfl,k⟩
theorem GF.f_Name:EO Cc 0 AV.str (·.Name):=by
 rintro S h cs x ⟨rfl,⟨k0,k1⟩⟩
 exact⟨rfl,k0⟩
theorem GF.f_Room:EO Cc 1 AV.int (·.Room):=by
 rintro S h cs x ⟨rfl,⟨k0,k1⟩⟩
 exact⟨rfl,k1⟩
structure AJ where
 Name:ByteArray
 Owners:(List ByteArray)
 Cells:Int
 Places:(List C7)
 Links:(List AQ)
 Towns:(List EM)
 Gauges:(List G6)
 Roads:(List JF)
 Shelters:(List GF)
 Room:(List Int)
 Err:Int
instance:Inhabited AJ:=⟨⟨default,default,default,default,default,default,default,default,default,default,default⟩⟩
def BV:AV AJ where
 sz:=11
 ag:=true
 rd:=λS h cs x=>∃v1 v3 v4 v5 v6 v7 v8 v9:Value,cs=[.string x.Name,v1,.int .i64 x.Cells,v3,v4,v5,v6,v7,v8,v9,.int .i64 x.Err]∧x.Name.size≤maxLen∧Sl S h AV.str v1 x.Owners∧AB x.Cells∧Sl S h BO v3 x.Places∧Sl S h A9 v4 x.Links∧Sl S h EK v5 x.Towns∧Sl S h Di v6 x.Gauges∧Sl S h Et v7 x.Roads∧Sl S h Cc v8 x.Shelters∧Sl S h AV.int v9 x.Room∧AB x.Err
 len:=λ⟨_,_,_,_,_,_,_,_,h,_⟩=>by rw[h];rfl
 one:=by
  rintro S h cs x ⟨v1,v3,v4,v5,v6,v7,v8,v9,rfl,k0,k1,k2,k3,k4,k5,k6,k7,k8,k9,k10⟩ v hv
  simp only[List.mem_cons,List.not_mem_nil,or_false] at hv
  rcases hv with rfl|rfl|rfl|rfl|rfl|rfl|rfl|rfl|rfl|rfl|rfl<;>first|rfl|exact Sl.one ‹_› |exact(‹_∧_›).2|(obtain ⟨_,_,rfl,_⟩:=Rd.fn ‹_›;rfl)
 mono:=by
  rintro S S' h h' cs x ⟨v1,v3,v4,v5,v6,v7,v8,v9,rfl,k0,k1,k2,k3,k4,k5,k6,k7,k8,k9,k10⟩ s e
  exact⟨v1,v3,v4,v5,v6,v7,v8,v9,rfl,k0,k1.mono s e,k2,k3.mono s e,k4.mono s e,k5.mono s e,k6.mono s e,k7.mono s e,k8.mono s e,k9.mono s e,k10⟩
theorem BV.ex {S h v}{x:AJ}(k:Rd S h BV v x):∃v1 v3 v4 v5 v6 v7 v8 v9:Value,v= .agg #[.string x.Name,v1,.int .i64 x.Cells,v3,v4,v5,v6,v7,v8,v9,.int .i64 x.Err]∧x.Name.size≤maxLen∧Sl S h AV.str v1 x.Owners∧AB x.Cells∧Sl S h BO v3 x.Places∧Sl S h A9 v4 x.Links∧Sl S h EK v5 x.Towns∧Sl S h Di v6 x.Gauges∧Sl S h Et v7 x.Roads∧Sl S h Cc v8 x.Shelters∧Sl S h AV.int v9 x.Room∧AB x.Err:=by obtain⟨_,rfl,v1,v3,v4,v5,v6,v7,v8,v9,rfl,k⟩:=k;exact⟨v1,v3,v4,v5,v6,v7,v8,v9,rfl,k⟩
theorem BV.mk {S h}{x:AJ}{v1 v3 v4 v5 v6 v7 v8 v9:Value}(k0:x.Name.size≤maxLen) (k1:Sl S h AV.str v1 x.Owners) (k2:AB x.Cells) (k3:Sl S h BO v3 x.Places) (k4:Sl S h A9 v4 x.Links) (k5:Sl S h EK v5 x.Towns) (k6:Sl S h Di v6 x.Gauges) (k7:Sl S h Et v7 x.Roads) (k8:Sl S h Cc v8 x.Shelters) (k9:Sl S h AV.int v9 x.Room) (k10:AB x.Err):Rd S h BV (.agg #[.string x.Name,v1,.int .i64 x.Cells,v3,v4,v5,v6,v7,v8,v9,.int .i64 x.Err]) x:=⟨_,rfl,v1,v3,v4,v5,v6,v7,v8,v9,rfl,k0,k1,k2,k3,k4,k5,k6,k7,k8,k9,k10⟩
theorem AJ.f_Name:EO BV 0 AV.str (·.Name):=by
 rintro S h cs x ⟨v1,v3,v4,v5,v6,v7,v8,v9,rfl,k0,k1,k2,k3,k4,k5,k6,k7,k8,k9,k10⟩
 exact⟨rfl,k0⟩
theorem H4:EO BV 1 (AV.sl AV.str) (·.Owners):=by
 rintro S h cs x ⟨v1,v3,v4,v5,v6,v7,v8,v9,rfl,k0,k1,k2,k3,k4,k5,k6,k7,k8,k9,k10⟩
 exact⟨_,rfl,k1⟩
theorem Ig:EO BV 2 AV.int (·.Cells):=by
 rintro S h cs x ⟨v1,v3,v4,v5,v6,v7,v8,v9,rfl,k0,k1,k2,k3,k4,k5,k6,k7,k8,k9,k10⟩
 exact⟨rfl,k2⟩
theorem A4:EO BV 3 (AV.sl BO) (·.Places):=by
 rintro S h cs x ⟨v1,v3,v4,v5,v6,v7,v8,v9,rfl,k0,k1,k2,k3,k4,k5,k6,k7,k8,k9,k10⟩
 exact⟨_,rfl,k3⟩
theorem AJ.f_Links:EO BV 4 (AV.sl A9) (·.Links):=by
 rintro S h cs x ⟨v1,v3,v4,v5,v6,v7,v8,v9,rfl,k0,k1,k2,k3,k4,k5,k6,k7,k8,k9,k10⟩
 exact⟨_,rfl,k4⟩
theorem FA:EO BV 5 (AV.sl EK) (·.Towns):=by
 rintro S h cs x ⟨v1,v3,v4,v5,v6,v7,v8,v9,rfl,k0,k1,k2,k3,k4,k5,k6,k7,k8,k9,k10⟩
 exact⟨_,rfl,k5⟩
theorem H5:EO BV 6 (AV.sl Di) (·.Gauges):=by
 rintro S h cs x ⟨v1,v3,v4,v5,v6,v7,v8,v9,rfl,k0,k1,k2,k3,k4,k5,k6,k7,k8,k9,k10⟩
 exact⟨_,rfl,k6⟩
theorem If:EO BV 7 (AV.sl Et) (·.Roads):=by
 rintro S h cs x ⟨v1,v3,v4,v5,v6,v7,v8,v9,rfl,k0,k1,k2,k3,k4,k5,k6,k7,k8,k9,k10⟩
 exact⟨_,rfl,k7⟩
theorem GR:EO BV 8 (AV.sl Cc) (·.Shelters):=by
 rintro S h cs x ⟨v1,v3,v4,v5,v6,v7,v8,v9,rfl,k0,k1,k2,k3,k4,k5,k6,k7,k8,k9,k10⟩
 exact⟨_,rfl,k8⟩
theorem AJ.f_Room:EO BV 9 (AV.sl AV.int) (·.Room):=by
 rintro S h cs x ⟨v1,v3,v4,v5,v6,v7,v8,v9,rfl,k0,k1,k2,k3,k4,k5,k6,k7,k8,k9,k10⟩
 exact⟨_,rfl,k9⟩
theorem AJ.f_Err:EO BV 10 AV.int (·.Err):=by
 rintro S h cs x ⟨v1,v3,v4,v5,v6,v7,v8,v9,rfl,k0,k1,k2,k3,k4,k5,k6,k7,k8,k9,k10⟩
 exact⟨rfl,k10⟩
structure AD where
 Lo:Int
 Hi:Int
instance:Inhabited AD:=⟨⟨default,default⟩⟩
@[reducible] def AD.v (x:AD):List Go.Value:=[.int .i64 x.Lo,.int .i64 x.Hi]
def AD.ok (x:AD):Prop:=AB x.Lo∧AB x.Hi
def AF:AV AD where
 sz:=2
 ag:=true
 rd:=λ_ _ cs x=>cs=x.v∧x.ok
 len:=λ⟨h,_⟩=>by rw[h];rfl
 one:=λ{_ _ _ x} ⟨h,_⟩ v hv=>by
  rw[h] at hv
  simp only[AD.v,List.mem_cons,List.not_mem_nil,or_false] at hv
  rcases hv with rfl|rfl<;>rfl
 mono:=λh _ _=>h
theorem AF.ex {S h v}{x:AD}(k:Rd S h AF v x):v= .agg #[.int .i64 x.Lo,.int .i64 x.Hi]∧x.ok:=by obtain⟨_,rfl,rfl,h⟩:=k;exact⟨rfl,h⟩
theorem AF.mk {S h}{x:AD}(k:x.ok):Rd S h AF (.agg #[.int .i64 x.Lo,.int .i64 x.Hi]) x:=⟨x.v,rfl,rfl,k⟩
theorem AD.f_Lo:EO AF 0 AV.int (·.Lo):=by
 rintro S h cs x ⟨rfl,⟨k0,k1⟩⟩
 exact⟨rfl,k0⟩
theorem AD.f_Hi:EO AF 1 AV.int (·.Hi):=by
 rintro S h cs x ⟨rfl,⟨k0,k1⟩⟩
 exact⟨rfl,k1⟩
structure Be where
 Id:Int
 From:Int
 Rain:(List (List AD))
instance:Inhabited Be:=⟨⟨default,default,default⟩⟩
def El:AV Be where
 sz:=3
 ag:=true
 rd:=λS h cs x=>∃v2:Value,cs=[.int .i64 x.Id,.int .i64 x.From,v2]∧AB x.Id∧AB x.From∧Sl S h (AV.sl AF) v2 x.Rain
 len:=λ⟨_,h,_⟩=>by rw[h];rfl
 one:=by
  rintro S h cs x ⟨v2,rfl,k0,k1,k2⟩ v hv
  simp only[List.mem_cons,List.not_mem_nil,or_false] at hv
  rcases hv with rfl|rfl|rfl<;>first|rfl|exact Sl.one ‹_› |exact(‹_∧_›).2|(obtain ⟨_,_,rfl,_⟩:=Rd.fn ‹_›;rfl)
 mono:=by
  rintro S S' h h' cs x ⟨v2,rfl,k0,k1,k2⟩ s e
  exact⟨v2,rfl,k0,k1,k2.mono s e⟩
theorem El.ex {S h v}{x:Be}(k:Rd S h El v x):∃v2:Value,v= .agg #[.int .i64 x.Id,.int .i64 x.From,v2]∧AB x.Id∧AB x.From∧Sl S h (AV.sl AF) v2 x.Rain:=by obtain⟨_,rfl,v2,rfl,k⟩:=k;exact⟨v2,rfl,k⟩
theorem El.mk {S h}{x:Be}{v2:Value}(k0:AB x.Id) (k1:AB x.From) (k2:Sl S h (AV.sl AF) v2 x.Rain):Rd S h El (.agg #[.int .i64 x.Id,.int .i64 x.From,v2]) x:=⟨_,rfl,v2,rfl,k0,k1,k2⟩
theorem Nx:EO El 0 AV.int (·.Id):=by
 rintro S h cs x ⟨v2,rfl,k0,k1,k2⟩
 exact⟨rfl,k0⟩
theorem Be.f_From:EO El 1 AV.int (·.From):=by
 rintro S h cs x ⟨v2,rfl,k0,k1,k2⟩
 exact⟨rfl,k1⟩
theorem Be.f_Rain:EO El 2 (AV.sl (AV.sl AF)) (·.Rain):=by
 rintro S h cs x ⟨v2,rfl,k0,k1,k2⟩
 exact⟨_,rfl,k2⟩
structure He where
 Kind:Int
 Link:Int
instance:Inhabited He:=⟨⟨default,default⟩⟩
@[reducible] def He.v (x:He):List Go.Value:=[.int .i64 x.Kind,.int .i64 x.Link]
def He.ok (x:He):Prop:=AB x.Kind∧AB x.Link
def GQ:AV He where
 sz:=2
 ag:=true
 rd:=λ_ _ cs x=>cs=x.v∧x.ok
 len:=λ⟨h,_⟩=>by rw[h];rfl
 one:=λ{_ _ _ x} ⟨h,_⟩ v hv=>by
  rw[h] at hv
  simp only[He.v,List.mem_cons,List.not_mem_nil,or_false] at hv
  rcases hv with rfl|rfl<;>rfl
 mono:=λh _ _=>h
theorem GQ.ex {S h v}{x:He}(k:Rd S h GQ v x):v= .agg #[.int .i64 x.Kind,.int .i64 x.Link]∧x.ok:=by obtain⟨_,rfl,rfl,h⟩:=k;exact⟨rfl,h⟩
theorem GQ.mk {S h}{x:He}(k:x.ok):Rd S h GQ (.agg #[.int .i64 x.Kind,.int .i64 x.Link]) x:=⟨x.v,rfl,rfl,k⟩
theorem He.f_Kind:EO GQ 0 AV.int (·.Kind):=by
 rintro S h cs x ⟨rfl,⟨k0,k1⟩⟩
 exact⟨rfl,k0⟩
structure L9 where
 Link:Int
 Target:Int
instance:Inhabited L9:=⟨⟨default,default⟩⟩
@[reducible] def L9.v (x:L9):List Go.Value:=[.int .i64 x.Link,.int .i64 x.Target]
def L9.ok (x:L9):Prop:=AB x.Link∧AB x.Target
def Ia:AV L9 where
 sz:=2
 ag:=true
 rd:=λ_ _ cs x=>cs=x.v∧x.ok
 len:=λ⟨h,_⟩=>by rw[h];rfl
 one:=λ{_ _ _ x} ⟨h,_⟩ v hv=>by
  rw[h] at hv
  simp only[L9.v,List.mem_cons,List.not_mem_nil,or_false] at hv
  rcases hv with rfl|rfl<;>rfl
 mono:=λh _ _=>h
theorem Ia.ex {S h v}{x:L9}(k:Rd S h Ia v x):v= .agg #[.int .i64 x.Link,.int .i64 x.Target]∧x.ok:=by obtain⟨_,rfl,rfl,h⟩:=k;exact⟨rfl,h⟩
theorem Ia.mk {S h}{x:L9}(k:x.ok):Rd S h Ia (.agg #[.int .i64 x.Link,.int .i64 x.Target]) x:=⟨x.v,rfl,rfl,k⟩
theorem L9.f_Target:EO Ia 1 AV.int (·.Target):=by
 rintro S h cs x ⟨rfl,⟨k0,k1⟩⟩
 exact⟨rfl,k1⟩
theorem L9.u_Target:MA Ia 1 AV.int (λx y=>{ x with Target:=y}):=by
 refine⟨by decide,?_⟩
 rintro S h c x vs y ⟨rfl,⟨k0,k1⟩⟩ ⟨rfl,j1⟩
 exact⟨rfl,⟨k0,j1⟩⟩
structure Gl where
 Place:Int
 Owner:Int
 Litres:Int
 To:Int
instance:Inhabited Gl:=⟨⟨default,default,default,default⟩⟩
@[reducible] def Gl.v (x:Gl):List Go.Value:=[.int .i64 x.Place,.int .i64 x.Owner,.int .i64 x.Litres,.int .i64 x.To]
def Gl.ok (x:Gl):Prop:=AB x.Place∧AB x.Owner∧AB x.Litres∧AB x.To
def GL:AV Gl where
 sz:=4
 ag:=true
 rd:=λ_ _ cs x=>cs=x.v∧x.ok
 len:=λ⟨h,_⟩=>by rw[h];rfl
 one:=λ{_ _ _ x} ⟨h,_⟩ v hv=>by
  rw[h] at hv
  simp only[Gl.v,List.mem_cons,List.not_mem_nil,or_false] at hv
  rcases hv with rfl|rfl|rfl|rfl<;>rfl
 mono:=λh _ _=>h
theorem GL.ex {S h v}{x:Gl}(k:Rd S h GL v x):v= .agg #[.int .i64 x.Place,.int .i64 x.Owner,.int .i64 x.Litres,.int .i64 x.To]∧x.ok:=by obtain⟨_,rfl,rfl,h⟩:=k;exact⟨rfl,h⟩
theorem GL.mk {S h}{x:Gl}(k:x.ok):Rd S h GL (.agg #[.int .i64 x.Place,.int .i64 x.Owner,.int .i64 x.Litres,.int .i64 x.To]) x:=⟨x.v,rfl,rfl,k⟩
theorem Gl.f_Litres:EO GL 2 AV.int (·.Litres):=by
 rintro S h cs x ⟨rfl,⟨k0,k1,k2,k3⟩⟩
 exact⟨rfl,k2⟩
theorem Gl.f_To:EO GL 3 AV.int (·.To):=by
 rintro S h cs x ⟨rfl,⟨k0,k1,k2,k3⟩⟩
 exact⟨rfl,k3⟩
structure Ib where
 Place:Int
 From:Int
 To:Int
 Litres:Int
instance:Inhabited Ib:=⟨⟨default,default,default,default⟩⟩
@[reducible] def Ib.v (x:Ib):List Go.Value:=[.int .i64 x.Place,.int .i64 x.From,.int .i64 x.To,.int .i64 x.Litres]
def Ib.ok (x:Ib):Prop:=AB x.Place∧AB x.From∧AB x.To∧AB x.Litres
def G4:AV Ib where
 sz:=4
 ag:=true
 rd:=λ_ _ cs x=>cs=x.v∧x.ok
 len:=λ⟨h,_⟩=>by rw[h];rfl
 one:=λ{_ _ _ x} ⟨h,_⟩ v hv=>by
  rw[h] at hv
  simp only[Ib.v,List.mem_cons,List.not_mem_nil,or_false] at hv
  rcases hv with rfl|rfl|rfl|rfl<;>rfl
 mono:=λh _ _=>h
theorem G4.ex {S h v}{x:Ib}(k:Rd S h G4 v x):v= .agg #[.int .i64 x.Place,.int .i64 x.From,.int .i64 x.To,.int .i64 x.Litres]∧x.ok:=by obtain⟨_,rfl,rfl,h⟩:=k;exact⟨rfl,h⟩
theorem G4.mk {S h}{x:Ib}(k:x.ok):Rd S h G4 (.agg #[.int .i64 x.Place,.int .i64 x.From,.int .i64 x.To,.int .i64 x.Litres]) x:=⟨x.v,rfl,rfl,k⟩
theorem Ib.f_From:EO G4 1 AV.int (·.From):=by
 rintro S h cs x ⟨rfl,⟨k0,k1,k2,k3⟩⟩
 exact⟨rfl,k1⟩
theorem Ib.f_To:EO G4 2 AV.int (·.To):=by
 rintro S h cs x ⟨rfl,⟨k0,k1,k2,k3⟩⟩
 exact⟨rfl,k2⟩
theorem Ib.f_Litres:EO G4 3 AV.int (·.Litres):=by
 rintro S h cs x ⟨rfl,⟨k0,k1,k2,k3⟩⟩
 exact⟨rfl,k3⟩
structure BJ where
 Rain:(List Int)
 Faults:(List He)
 Cmds:(List L9)
 Takes:(List Gl)
 Swaps:(List Ib)
instance:Inhabited BJ:=⟨⟨default,default,default,default,default⟩⟩
def Dt:AV BJ where
 sz:=5
 ag:=true
 rd:=λS h cs x=>∃v0 v1 v2 v3 v4:Value,cs=[v0,v1,v2,v3,v4]∧Sl S h AV.int v0 x.Rain∧Sl S h GQ v1 x.Faults∧Sl S h Ia v2 x.Cmds∧Sl S h GL v3 x.Takes∧Sl S h G4 v4 x.Swaps
 len:=λ⟨_,_,_,_,_,h,_⟩=>by rw[h];rfl
 one:=by
  rintro S h cs x ⟨v0,v1,v2,v3,v4,rfl,k0,k1,k2,k3,k4⟩ v hv
  simp only[List.mem_cons,List.not_mem_nil,or_false] at hv
  rcases hv with rfl|rfl|rfl|rfl|rfl<;>first|rfl|exact Sl.one ‹_› |exact(‹_∧_›).2|(obtain ⟨_,_,rfl,_⟩:=Rd.fn ‹_›;rfl)
 mono:=by
  rintro S S' h h' cs x ⟨v0,v1,v2,v3,v4,rfl,k0,k1,k2,k3,k4⟩ s e
  exact⟨v0,v1,v2,v3,v4,rfl,k0.mono s e,k1.mono s e,k2.mono s e,k3.mono s e,k4.mono s e⟩
theorem Dt.ex {S h v}{x:BJ}(k:Rd S h Dt v x):∃v0 v1 v2 v3 v4:Value,v= .agg #[v0,v1,v2,v3,v4]∧Sl S h AV.int v0 x.Rain∧Sl S h GQ v1 x.Faults∧Sl S h Ia v2 x.Cmds∧Sl S h GL v3 x.Takes∧Sl S h G4 v4 x.Swaps:=by obtain⟨_,rfl,v0,v1,v2,v3,v4,rfl,k⟩:=k;exact⟨v0,v1,v2,v3,v4,rfl,k⟩
theorem Dt.mk {S h}{x:BJ}{v0 v1 v2 v3 v4:Value}(k0:Sl S h AV.int v0 x.Rain) (k1:Sl S h GQ v1 x.Faults) (k2:Sl S h Ia v2 x.Cmds) (k3:Sl S h GL v3 x.Takes) (k4:Sl S h G4 v4 x.Swaps):Rd S h Dt (.agg #[v0,v1,v2,v3,v4]) x:=⟨_,rfl,v0,v1,v2,v3,v4,rfl,k0,k1,k2,k3,k4⟩
theorem BJ.f_Rain:EO Dt 0 (AV.sl AV.int) (·.Rain):=by
 rintro S h cs x ⟨v0,v1,v2,v3,v4,rfl,k0,k1,k2,k3,k4⟩
 exact⟨_,rfl,k0⟩
theorem Jg:EO Dt 1 (AV.sl GQ) (·.Faults):=by
 rintro S h cs x ⟨v0,v1,v2,v3,v4,rfl,k0,k1,k2,k3,k4⟩
 exact⟨_,rfl,k1⟩
theorem K3:EO Dt 2 (AV.sl Ia) (·.Cmds):=by
 rintro S h cs x ⟨v0,v1,v2,v3,v4,rfl,k0,k1,k2,k3,k4⟩
 exact⟨_,rfl,k2⟩
theorem KR:EO Dt 3 (AV.sl GL) (·.Takes):=by
 rintro S h cs x ⟨v0,v1,v2,v3,v4,rfl,k0,k1,k2,k3,k4⟩
 exact⟨_,rfl,k3⟩
theorem Nw:EO Dt 4 (AV.sl G4) (·.Swaps):=by
 rintro S h cs x ⟨v0,v1,v2,v3,v4,rfl,k0,k1,k2,k3,k4⟩
 exact⟨_,rfl,k4⟩
structure AE where
 group:ByteArray
 name:ByteArray
instance:Inhabited AE:=⟨⟨default,default⟩⟩
@[reducible] def AE.v (x:AE):List Go.Value:=[.string x.group,.string x.name]
def AE.ok (x:AE):Prop:=x.group.size≤maxLen∧x.name.size≤maxLen
def IH:AV AE where
 sz:=2
 ag:=true
 rd:=λ_ _ cs x=>cs=x.v∧x.ok
 len:=λ⟨h,_⟩=>by rw[h];rfl
 one:=λ{_ _ _ x} ⟨h,_⟩ v hv=>by
  rw[h] at hv
  simp only[AE.v,List.mem_cons,List.not_mem_nil,or_false] at hv
  rcases hv with rfl|rfl<;>rfl
 mono:=λh _ _=>h
theorem IH.ex {S h v}{x:AE}(k:Rd S h IH v x):v= .agg #[.string x.group,.string x.name]∧x.ok:=by obtain⟨_,rfl,rfl,h⟩:=k;exact⟨rfl,h⟩
theorem IH.mk {S h}{x:AE}(k:x.ok):Rd S h IH (.agg #[.string x.group,.string x.name]) x:=⟨x.v,rfl,rfl,k⟩
structure Az where
 At:Int
 To:Int
 Vol:AD
instance:Inhabited Az:=⟨⟨default,default,default⟩⟩
@[reducible] def Az.v (x:Az):List Go.Value:=[.int .i64 x.At,.int .i64 x.To,.int .i64 x.Vol.Lo,.int .i64 x.Vol.Hi]
def Az.ok (x:Az):Prop:=AB x.At∧AB x.To∧AB x.Vol.Lo∧AB x.Vol.Hi
def BS:AV Az where
 sz:=4
 ag:=true
 rd:=λ_ _ cs x=>cs=x.v∧x.ok
 len:=λ⟨h,_⟩=>by rw[h];rfl
 one:=λ{_ _ _ x} ⟨h,_⟩ v hv=>by
  rw[h] at hv
  simp only[Az.v,List.mem_cons,List.not_mem_nil,or_false] at hv
  rcases hv with rfl|rfl|rfl|rfl<;>rfl
 mono:=λh _ _=>h
theorem BS.ex {S h v}{x:Az}(k:Rd S h BS v x):v= .agg #[.int .i64 x.At,.int .i64 x.To,.int .i64 x.Vol.Lo,.int .i64 x.Vol.Hi]∧x.ok:=by obtain⟨_,rfl,rfl,h⟩:=k;exact⟨rfl,h⟩
theorem BS.mk {S h}{x:Az}(k:x.ok):Rd S h BS (.agg #[.int .i64 x.At,.int .i64 x.To,.int .i64 x.Vol.Lo,.int .i64 x.Vol.Hi]) x:=⟨x.v,rfl,rfl,k⟩
theorem Ob:EO BS 0 AV.int (·.At):=by
 rintro S h cs x ⟨rfl,⟨k0,k1,k2,k3⟩⟩
 exact⟨rfl,k0⟩
theorem Az.f_To:EO BS 1 AV.int (·.To):=by
 rintro S h cs x ⟨rfl,⟨k0,k1,k2,k3⟩⟩
 exact⟨rfl,k1⟩
theorem Az.f_Vol:EO BS 2 AF (·.Vol):=by
 rintro S h cs x ⟨rfl,⟨k0,k1,k2,k3⟩⟩
 exact⟨rfl,⟨k2,k3⟩⟩
theorem Az.u_Vol:MA BS 2 AF (λx y=>{ x with Vol:=y}):=by
 refine⟨by decide,?_⟩
 rintro S h c x vs y ⟨rfl,⟨k0,k1,k2,k3⟩⟩ ⟨rfl,⟨j2,j3⟩⟩
 exact⟨rfl,⟨k0,k1,j2,j3⟩⟩
structure AT where
 Pos:AD
 Target:Int
 Open:AD
instance:Inhabited AT:=⟨⟨default,default,default⟩⟩
@[reducible] def AT.v (x:AT):List Go.Value:=[.int .i64 x.Pos.Lo,.int .i64 x.Pos.Hi,.int .i64 x.Target,.int .i64 x.Open.Lo,.int .i64 x.Open.Hi]
def AT.ok (x:AT):Prop:=AB x.Pos.Lo∧AB x.Pos.Hi∧AB x.Target∧AB x.Open.Lo∧AB x.Open.Hi
def AZ:AV AT where
 sz:=5
 ag:=true
 rd:=λ_ _ cs x=>cs=x.v∧x.ok
 len:=λ⟨h,_⟩=>by rw[h];rfl
 one:=λ{_ _ _ x} ⟨h,_⟩ v hv=>by
  rw[h] at hv
  simp only[AT.v,List.mem_cons,List.not_mem_nil,or_false] at hv
  rcases hv with rfl|rfl|rfl|rfl|rfl<;>rfl
 mono:=λh _ _=>h
theorem AZ.ex {S h v}{x:AT}(k:Rd S h AZ v x):v= .agg #[.int .i64 x.Pos.Lo,.int .i64 x.Pos.Hi,.int .i64 x.Target,.int .i64 x.Open.Lo,.int .i64 x.Open.Hi]∧x.ok:=by obtain⟨_,rfl,rfl,h⟩:=k;exact⟨rfl,h⟩
theorem AZ.mk {S h}{x:AT}(k:x.ok):Rd S h AZ (.agg #[.int .i64 x.Pos.Lo,.int .i64 x.Pos.Hi,.int .i64 x.Target,.int .i64 x.Open.Lo,.int .i64 x.Open.Hi]) x:=⟨x.v,rfl,rfl,k⟩
theorem AT.f_Pos:EO AZ 0 AF (·.Pos):=by
 rintro S h cs x ⟨rfl,⟨k0,k1,k2,k3,k4⟩⟩
 exact⟨rfl,⟨k0,k1⟩⟩
theorem AT.f_Target:EO AZ 2 AV.int (·.Target):=by
 rintro S h cs x ⟨rfl,⟨k0,k1,k2,k3,k4⟩⟩
 exact⟨rfl,k2⟩
theorem AT.f_Open:EO AZ 3 AF (·.Open):=by
 rintro S h cs x ⟨rfl,⟨k0,k1,k2,k3,k4⟩⟩
 exact⟨rfl,⟨k3,k4⟩⟩
theorem AT.u_Target:MA AZ 2 AV.int (λx y=>{ x with Target:=y}):=by
 refine⟨by decide,?_⟩
 rintro S h c x vs y ⟨rfl,⟨k0,k1,k2,k3,k4⟩⟩ ⟨rfl,j2⟩
 exact⟨rfl,⟨k0,k1,j2,k3,k4⟩⟩
theorem AT.u_Open:MA AZ 3 AF (λx y=>{ x with Open:=y}):=by
 refine⟨by decide,?_⟩
 rintro S h c x vs y ⟨rfl,⟨k0,k1,k2,k3,k4⟩⟩ ⟨rfl,⟨j3,j4⟩⟩
 exact⟨rfl,⟨k0,k1,k2,j3,j4⟩⟩
structure BT where
 Hour:Int
 Vol:(List AD)
 Queue:(List Az)
 Links:(List AT)
instance:Inhabited BT:=⟨⟨default,default,default,default⟩⟩
def DI:AV BT where
 sz:=4
 ag:=true
 rd:=λS h cs x=>∃v1 v2 v3:Value,cs=[.int .i64 x.Hour,v1,v2,v3]∧AB x.Hour∧Sl S h AF v1 x.Vol∧Sl S h BS v2 x.Queue∧Sl S h AZ v3 x.Links
 len:=λ⟨_,_,_,h,_⟩=>by rw[h];rfl
 one:=by
  rintro S h cs x ⟨v1,v2,v3,rfl,k0,k1,k2,k3⟩ v hv
  simp only[List.mem_cons,List.not_mem_nil,or_false] at hv
  rcases hv with rfl|rfl|rfl|rfl<;>first|rfl|exact Sl.one ‹_› |exact(‹_∧_›).2|(obtain ⟨_,_,rfl,_⟩:=Rd.fn ‹_›;rfl)
 mono:=by
  rintro S S' h h' cs x ⟨v1,v2,v3,rfl,k0,k1,k2,k3⟩ s e
  exact⟨v1,v2,v3,rfl,k0,k1.mono s e,k2.mono s e,k3.mono s e⟩
theorem DI.ex {S h v}{x:BT}(k:Rd S h DI v x):∃v1 v2 v3:Value,v= .agg #[.int .i64 x.Hour,v1,v2,v3]∧AB x.Hour∧Sl S h AF v1 x.Vol∧Sl S h BS v2 x.Queue∧Sl S h AZ v3 x.Links:=by obtain⟨_,rfl,v1,v2,v3,rfl,k⟩:=k;exact⟨v1,v2,v3,rfl,k⟩
theorem DI.mk {S h}{x:BT}{v1 v2 v3:Value}(k0:AB x.Hour) (k1:Sl S h AF v1 x.Vol) (k2:Sl S h BS v2 x.Queue) (k3:Sl S h AZ v3 x.Links):Rd S h DI (.agg #[.int .i64 x.Hour,v1,v2,v3]) x:=⟨_,rfl,v1,v2,v3,rfl,k0,k1,k2,k3⟩
theorem JY:EO DI 0 AV.int (·.Hour):=by
 rintro S h cs x ⟨v1,v2,v3,rfl,k0,k1,k2,k3⟩
 exact⟨rfl,k0⟩
theorem BT.f_Vol:EO DI 1 (AV.sl AF) (·.Vol):=by
 rintro S h cs x ⟨v1,v2,v3,rfl,k0,k1,k2,k3⟩
 exact⟨_,rfl,k1⟩
theorem K4:EO DI 2 (AV.sl BS) (·.Queue):=by
 rintro S h cs x ⟨v1,v2,v3,rfl,k0,k1,k2,k3⟩
 exact⟨_,rfl,k2⟩
theorem BT.f_Links:EO DI 3 (AV.sl AZ) (·.Links):=by
 rintro S h cs x ⟨v1,v2,v3,rfl,k0,k1,k2,k3⟩
 exact⟨_,rfl,k3⟩
theorem BT.u_Vol:MA DI 1 (AV.sl AF) (λx y=>{ x with Vol:=y}):=by
 refine⟨by decide,?_⟩
 rintro S h c x vs y ⟨w0,w1,w2,rfl,k0,k1,k2,k3⟩ ⟨u1,rfl,j1⟩
 exact⟨u1,w1,w2,rfl,k0,j1,k2,k3⟩
structure Db where
 Pos:Int
 Target:Int
 Stuck:Bool
 Open:Bool
instance:Inhabited Db:=⟨⟨default,default,default,default⟩⟩
@[reducible] def Db.v (x:Db):List Go.Value:=[.int .i64 x.Pos,.int .i64 x.Target,.bool x.Stuck,.bool x.Open]
def Db.ok (x:Db):Prop:=AB x.Pos∧AB x.Target
def GM:AV Db where
 sz:=4
 ag:=true
 rd:=λ_ _ cs x=>cs=x.v∧x.ok
 len:=λ⟨h,_⟩=>by rw[h];rfl
 one:=λ{_ _ _ x} ⟨h,_⟩ v hv=>by
  rw[h] at hv
  simp only[Db.v,List.mem_cons,List.not_mem_nil,or_false] at hv
  rcases hv with rfl|rfl|rfl|rfl<;>rfl
 mono:=λh _ _=>h
theorem GM.ex {S h v}{x:Db}(k:Rd S h GM v x):v= .agg #[.int .i64 x.Pos,.int .i64 x.Target,.bool x.Stuck,.bool x.Open]∧x.ok:=by obtain⟨_,rfl,rfl,h⟩:=k;exact⟨rfl,h⟩
theorem GM.mk {S h}{x:Db}(k:x.ok):Rd S h GM (.agg #[.int .i64 x.Pos,.int .i64 x.Target,.bool x.Stuck,.bool x.Open]) x:=⟨x.v,rfl,rfl,k⟩
theorem Db.f_Pos:EO GM 0 AV.int (·.Pos):=by
 rintro S h cs x ⟨rfl,⟨k0,k1⟩⟩
 exact⟨rfl,k0⟩
theorem Db.f_Target:EO GM 1 AV.int (·.Target):=by
 rintro S h cs x ⟨rfl,⟨k0,k1⟩⟩
 exact⟨rfl,k1⟩
theorem Db.f_Open:EO GM 3 AV.bool (·.Open):=by
 rintro S h cs x ⟨rfl,⟨k0,k1⟩⟩
 exact rfl
theorem Db.u_Target:MA GM 1 AV.int (λx y=>{ x with Target:=y}):=by
 refine⟨by decide,?_⟩
 rintro S h c x vs y ⟨rfl,⟨k0,k1⟩⟩ ⟨rfl,j1⟩
 exact⟨rfl,⟨k0,j1⟩⟩
theorem Db.u_Open:MA GM 3 AV.bool (λx y=>{ x with Open:=y}):=by
 refine⟨by decide,?_⟩
 rintro S h c x vs y ⟨rfl,⟨k0,k1⟩⟩ rfl
 exact⟨rfl,⟨k0,k1⟩⟩
structure Ac where
 b:AJ
 h:BT
 peaks:(List AD)
instance:Inhabited Ac:=⟨⟨default,default,default⟩⟩
def It:AV Ac where
 sz:=16
 ag:=true
 rd:=λS h cs x=>∃v1 v3 v4 v5 v6 v7 v8 v9 v12 v13 v14 v15:Value,cs=[.string x.b.Name,v1,.int .i64 x.b.Cells,v3,v4,v5,v6,v7,v8,v9,.int .i64 x.b.Err,.int .i64 x.h.Hour,v12,v13,v14,v15]∧x.b.Name.size≤maxLen∧Sl S h AV.str v1 x.b.Owners∧AB x.b.Cells∧Sl S h BO v3 x.b.Places∧Sl S h A9 v4 x.b.Links∧Sl S h EK v5 x.b.Towns∧Sl S h Di v6 x.b.Gauges∧Sl S h Et v7 x.b.Roads∧Sl S h Cc v8 x.b.Shelters∧Sl S h AV.int v9 x.b.Room∧AB x.b.Err∧AB x.h.Hour∧Sl S h AF v12 x.h.Vol∧Sl S h BS v13 x.h.Queue∧Sl S h AZ v14 x.h.Links∧Sl S h AF v15 x.peaks
 len:=λ⟨_,_,_,_,_,_,_,_,_,_,_,_,h,_⟩=>by rw[h];rfl
 one:=by
  rintro S h cs x ⟨v1,v3,v4,v5,v6,v7,v8,v9,v12,v13,v14,v15,rfl,k0,k1,k2,k3,k4,k5,k6,k7,k8,k9,k10,k11,k12,k13,k14,k15⟩ v hv
  simp only[List.mem_cons,List.not_mem_nil,or_false] at hv
  rcases hv with rfl|rfl|rfl|rfl|rfl|rfl|rfl|rfl|rfl|rfl|rfl|rfl|rfl|rfl|rfl|rfl<;>first|rfl|exact Sl.one ‹_› |exact(‹_∧_›).2|(obtain ⟨_,_,rfl,_⟩:=Rd.fn ‹_›;rfl)
 mono:=by
  rintro S S' h h' cs x ⟨v1,v3,v4,v5,v6,v7,v8,v9,v12,v13,v14,v15,rfl,k0,k1,k2,k3,k4,k5,k6,k7,k8,k9,k10,k11,k12,k13,k14,k15⟩ s e
  exact⟨v1,v3,v4,v5,v6,v7,v8,v9,v12,v13,v14,v15,rfl,k0,k1.mono s e,k2,k3.mono s e,k4.mono s e,k5.mono s e,k6.mono s e,k7.mono s e,k8.mono s e,k9.mono s e,k10,k11,k12.mono s e,k13.mono s e,k14.mono s e,k15.mono s e⟩
theorem It.ex {S h v}{x:Ac}(k:Rd S h It v x):∃v1 v3 v4 v5 v6 v7 v8 v9 v12 v13 v14 v15:Value,v= .agg #[.string x.b.Name,v1,.int .i64 x.b.Cells,v3,v4,v5,v6,v7,v8,v9,.int .i64 x.b.Err,.int .i64 x.h.Hour,v12,v13,v14,v15]∧x.b.Name.size≤maxLen∧Sl S h AV.str v1 x.b.Owners∧AB x.b.Cells∧Sl S h BO v3 x.b.Places∧Sl S h A9 v4 x.b.Links∧Sl S h EK v5 x.b.Towns∧Sl S h Di v6 x.b.Gauges∧Sl S h Et v7 x.b.Roads∧Sl S h Cc v8 x.b.Shelters∧Sl S h AV.int v9 x.b.Room∧AB x.b.Err∧AB x.h.Hour∧Sl S h AF v12 x.h.Vol∧Sl S h BS v13 x.h.Queue∧Sl S h AZ v14 x.h.Links∧Sl S h AF v15 x.peaks:=by obtain⟨_,rfl,v1,v3,v4,v5,v6,v7,v8,v9,v12,v13,v14,v15,rfl,k⟩:=k;exact⟨v1,v3,v4,v5,v6,v7,v8,v9,v12,v13,v14,v15,rfl,k⟩
theorem It.mk {S h}{x:Ac}{v1 v3 v4 v5 v6 v7 v8 v9 v12 v13 v14 v15:Value}(k0:x.b.Name.size≤maxLen) (k1:Sl S h AV.str v1 x.b.Owners) (k2:AB x.b.Cells) (k3:Sl S h BO v3 x.b.Places) (k4:Sl S h A9 v4 x.b.Links) (k5:Sl S h EK v5 x.b.Towns) (k6:Sl S h Di v6 x.b.Gauges) (k7:Sl S h Et v7 x.b.Roads) (k8:Sl S h Cc v8 x.b.Shelters) (k9:Sl S h AV.int v9 x.b.Room) (k10:AB x.b.Err) (k11:AB x.h.Hour) (k12:Sl S h AF v12 x.h.Vol) (k13:Sl S h BS v13 x.h.Queue) (k14:Sl S h AZ v14 x.h.Links) (k15:Sl S h AF v15 x.peaks):Rd S h It (.agg #[.string x.b.Name,v1,.int .i64 x.b.Cells,v3,v4,v5,v6,v7,v8,v9,.int .i64 x.b.Err,.int .i64 x.h.Hour,v12,v13,v14,v15]) x:=⟨_,rfl,v1,v3,v4,v5,v6,v7,v8,v9,v12,v13,v14,v15,rfl,k0,k1,k2,k3,k4,k5,k6,k7,k8,k9,k10,k11,k12,k13,k14,k15⟩
structure AO where
 to_:Int
 delay:Int
 slack:Int
 asks:(Int→Option AD)
instance:Inhabited AO:=⟨⟨default,default,default,default⟩⟩
def Bv:AV AO where
 sz:=4
 ag:=true
 rd:=λS h cs x=>∃v3:Value,cs=[.int .i64 x.to_,.int .i64 x.delay,.int .i64 x.slack,v3]∧AB x.to_∧AB x.delay∧AB x.slack∧Rd S h (AV.fn Tryz.prog (λx:Int=>([.int .i64 x]:List Value)) (λx:Int=>AB x) (λy:AD=> .agg #[.int .i64 y.Lo,.int .i64 y.Hi]) (λy:AD=>AD.ok y)) v3 x.asks
 len:=λ⟨_,h,_⟩=>by rw[h];rfl
 one:=by
  rintro S h cs x ⟨v3,rfl,k0,k1,k2,k3⟩ v hv
  simp only[List.mem_cons,List.not_mem_nil,or_false] at hv
  rcases hv with rfl|rfl|rfl|rfl<;>first|rfl|exact Sl.one ‹_› |exact(‹_∧_›).2|(obtain ⟨_,_,rfl,_⟩:=Rd.fn ‹_›;rfl)
 mono:=by
  rintro S S' h h' cs x ⟨v3,rfl,k0,k1,k2,k3⟩ s e
  exact⟨v3,rfl,k0,k1,k2,k3.mono'' s e⟩
theorem Bv.ex {S h v}{x:AO}(k:Rd S h Bv v x):∃v3:Value,v= .agg #[.int .i64 x.to_,.int .i64 x.delay,.int .i64 x.slack,v3]∧AB x.to_∧AB x.delay∧AB x.slack∧Rd S h (AV.fn Tryz.prog (λx:Int=>([.int .i64 x]:List Value)) (λx:Int=>AB x) (λy:AD=> .agg #[.int .i64 y.Lo,.int .i64 y.Hi]) (λy:AD=>AD.ok y)) v3 x.asks:=by obtain⟨_,rfl,v3,rfl,k⟩:=k;exact⟨v3,rfl,k⟩
theorem Bv.mk {S h}{x:AO}{v3:Value}(k0:AB x.to_) (k1:AB x.delay) (k2:AB x.slack) (k3:Rd S h (AV.fn Tryz.prog (λx:Int=>([.int .i64 x]:List Value)) (λx:Int=>AB x) (λy:AD=> .agg #[.int .i64 y.Lo,.int .i64 y.Hi]) (λy:AD=>AD.ok y)) v3 x.asks):Rd S h Bv (.agg #[.int .i64 x.to_,.int .i64 x.delay,.int .i64 x.slack,v3]) x:=⟨_,rfl,v3,rfl,k0,k1,k2,k3⟩
def Iy:ByteArray:=ByteArray.mk #[0,1,2,2,3,3,3,3,4,4,4,4,4,4,4,4,5,5,5,5,5,5,5,5,5,5,5,5,5,5,5,5,6,6,6,6,6,6,6,6,6,6,6,6,6,6,6,6,6,6,6,6,6,6,6,6,6,6,6,6,6,6,6,6,7,7,7,7,7,7,7,7,7,7,7,7,7,7,7,7,7,7,7,7,7,7,7,7,7,7,7,7,7,7,7,7,7,7,7,7,7,7,7,7,7,7,7,7,7,7,7,7,7,7,7,7,7,7,7,7,7,7,7,7,7,7,7,7,8,8,8,8,8,8,8,8,8,8,8,8,8,8,8,8,8,8,8,8,8,8,8,8,8,8,8,8,8,8,8,8,8,8,8,8,8,8,8,8,8,8,8,8,8,8,8,8,8,8,8,8,8,8,8,8,8,8,8,8,8,8,8,8,8,8,8,8,8,8,8,8,8,8,8,8,8,8,8,8,8,8,8,8,8,8,8,8,8,8,8,8,8,8,8,8,8,8,8,8,8,8,8,8,8,8,8,8,8,8,8,8,8,8,8,8,8,8,8,8,8,8,8,8,8,8,8,8]
def MM:List B4:=([(⟨9,false⟩:B4),(⟨8,false⟩:B4),(⟨4,false⟩:B4),(⟨5,false⟩:B4),(⟨(-1),false⟩:B4),(⟨(-1),true⟩:B4),(⟨(-1),false⟩:B4)]:List B4)
end Go.Proofs.YtibidnaedddfdaaGreat
