import Derived.Test.YtibidnaedddfdaaGreatACore21
import Derived.Test.YtibidnaedddfdaaGreatRows
namespace Go.Proofs.YtibidnaedddfdaaGreat
set_option linter.unusedSimpArgs false
open Go.RowKit
set_option linter.unusedVariables false
structure AF where
 Lo:Int
 Hi:Int
instance:Inhabited AF:=⟨⟨default,default⟩⟩
@[reducible] def AF.v (x:AF):List Go.Value:=[.int .i64 x.Lo,.int .i64 x.Hi]
def AF.ok (x:AF):Prop:=AB x.Lo∧AB x.Hi
def AK:AW AF where
 sz:=2
 ag:=true
 rd:=λ_ _ cs x=>cs=x.v∧x.ok
 len:=λ⟨h,_⟩=>by rw[h];rfl
 one:=λ{_ _ _ x} ⟨h,_⟩ v hv=>by
  rw[h] at hv
  simp only[AF.v,List.mem_cons,List.not_mem_nil,or_false] at hv
  rcases hv with rfl|rfl<;>rfl
 mono:=λh _ _=>h
theorem AK.ex {S h v}{x:AF}(k:Rd S h AK v x):v= .agg #[.int .i64 x.Lo,.int .i64 x.Hi]∧x.ok:=by obtain⟨_,rfl,rfl,h⟩:=k;exact⟨rfl,h⟩
theorem AK.mk {S h}{x:AF}(k:x.ok):Rd S h AK (.agg #[.int .i64 x.Lo,.int .i64 x.Hi]) x:=⟨x.v,rfl,rfl,k⟩
theorem AF.f_Lo:D8 AK 0 AW.int (·.Lo):=by
 rintro S h cs x ⟨rfl,⟨k0,k1⟩⟩
 exact⟨rfl,k0⟩
theorem AF.f_Hi:D8 AK 1 AW.int (·.Hi):=by
 rintro S h cs x ⟨rfl,⟨k0,k1⟩⟩
 exact⟨rfl,k1⟩
structure AT where
 Pos:AF
 Target:Int
 Open:AF
instance:Inhabited AT:=⟨⟨default,default,default⟩⟩
@[reducible] def AT.v (x:AT):List Go.Value:=[.int .i64 x.Pos.Lo,.int .i64 x.Pos.Hi,.int .i64 x.Target,.int .i64 x.Open.Lo,.int .i64 x.Open.Hi]
def AT.ok (x:AT):Prop:=AB x.Pos.Lo∧AB x.Pos.Hi∧AB x.Target∧AB x.Open.Lo∧AB x.Open.Hi
def Ab:AW AT where
 sz:=5
 ag:=true
 rd:=λ_ _ cs x=>cs=x.v∧x.ok
 len:=λ⟨h,_⟩=>by rw[h];rfl
 one:=λ{_ _ _ x} ⟨h,_⟩ v hv=>by
  rw[h] at hv
  simp only[AT.v,List.mem_cons,List.not_mem_nil,or_false] at hv
  rcases hv with rfl|rfl|rfl|rfl|rfl<;>rfl
 mono:=λh _ _=>h
theorem Ab.ex {S h v}{x:AT}(k:Rd S h Ab v x):v= .agg #[.int .i64 x.Pos.Lo,.int .i64 x.Pos.Hi,.int .i64 x.Target,.int .i64 x.Open.Lo,.int .i64 x.Open.Hi]∧x.ok:=by obtain⟨_,rfl,rfl,h⟩:=k;exact⟨rfl,h⟩
theorem Ab.mk {S h}{x:AT}(k:x.ok):Rd S h Ab (.agg #[.int .i64 x.Pos.Lo,.int .i64 x.Pos.Hi,.int .i64 x.Target,.int .i64 x.Open.Lo,.int .i64 x.Open.Hi]) x:=⟨x.v,rfl,rfl,k⟩
theorem AT.f_Pos:D8 Ab 0 AK (·.Pos):=by
 rintro S h cs x ⟨rfl,⟨k0,k1,k2,k3,k4⟩⟩
 exact⟨rfl,⟨k0,k1⟩⟩
theorem AT.f_Target:D8 Ab 2 AW.int (·.Target):=by
 rintro S h cs x ⟨rfl,⟨k0,k1,k2,k3,k4⟩⟩
 exact⟨rfl,k2⟩
theorem AT.f_Open:D8 Ab 3 AK (·.Open):=by
 rintro S h cs x ⟨rfl,⟨k0,k1,k2,k3,k4⟩⟩
 exact⟨rfl,⟨k3,k4⟩⟩
theorem AT.u_Target:MS Ab 2 AW.int (λx y=>{ x with Target:=y}):=by
 refine⟨by decide,?_⟩
 rintro S h c x vs y ⟨rfl,⟨k0,k1,k2,k3,k4⟩⟩ ⟨rfl,j2⟩
 exact⟨rfl,⟨k0,k1,j2,k3,k4⟩⟩
theorem AT.u_Open:MS Ab 3 AK (λx y=>{ x with Open:=y}):=by
 refine⟨by decide,?_⟩
 rintro S h c x vs y ⟨rfl,⟨k0,k1,k2,k3,k4⟩⟩ ⟨rfl,⟨j3,j4⟩⟩
 exact⟨rfl,⟨k0,k1,k2,j3,j4⟩⟩
structure BA where
 X:Int
 Y:Int
instance:Inhabited BA:=⟨⟨default,default⟩⟩
@[reducible] def BA.v (x:BA):List Go.Value:=[.int .i64 x.X,.int .i64 x.Y]
def BA.ok (x:BA):Prop:=AB x.X∧AB x.Y
def A8:AW BA where
 sz:=2
 ag:=true
 rd:=λ_ _ cs x=>cs=x.v∧x.ok
 len:=λ⟨h,_⟩=>by rw[h];rfl
 one:=λ{_ _ _ x} ⟨h,_⟩ v hv=>by
  rw[h] at hv
  simp only[BA.v,List.mem_cons,List.not_mem_nil,or_false] at hv
  rcases hv with rfl|rfl<;>rfl
 mono:=λh _ _=>h
theorem A8.ex {S h v}{x:BA}(k:Rd S h A8 v x):v= .agg #[.int .i64 x.X,.int .i64 x.Y]∧x.ok:=by obtain⟨_,rfl,rfl,h⟩:=k;exact⟨rfl,h⟩
theorem A8.mk {S h}{x:BA}(k:x.ok):Rd S h A8 (.agg #[.int .i64 x.X,.int .i64 x.Y]) x:=⟨x.v,rfl,rfl,k⟩
theorem I0:D8 A8 0 AW.int (·.X):=by
 rintro S h cs x ⟨rfl,⟨k0,k1⟩⟩
 exact⟨rfl,k0⟩
theorem Iz:D8 A8 1 AW.int (·.Y):=by
 rintro S h cs x ⟨rfl,⟨k0,k1⟩⟩
 exact⟨rfl,k1⟩
structure I4 where
 Lo:(List BA)
 Hi:(List BA)
instance:Inhabited I4:=⟨⟨default,default⟩⟩
def Jz:AW I4 where
 sz:=2
 ag:=true
 rd:=λS h cs x=>∃v0 v1:Value,cs=[v0,v1]∧Sl S h A8 v0 x.Lo∧Sl S h A8 v1 x.Hi
 len:=λ⟨_,_,h,_⟩=>by rw[h];rfl
 one:=by
  rintro S h cs x ⟨v0,v1,rfl,k0,k1⟩ v hv
  simp only[List.mem_cons,List.not_mem_nil,or_false] at hv
  rcases hv with rfl|rfl<;>first|rfl|exact Sl.one ‹_› |exact(‹_∧_›).2|(obtain ⟨_,_,rfl,_⟩:=Rd.fn ‹_›;rfl)
 mono:=by
  rintro S S' h h' cs x ⟨v0,v1,rfl,k0,k1⟩ s e
  exact⟨v0,v1,rfl,k0.mono s e,k1.mono s e⟩
theorem Jz.ex {S h v}{x:I4}(k:Rd S h Jz v x):∃v0 v1:Value,v= .agg #[v0,v1]∧Sl S h A8 v0 x.Lo∧Sl S h A8 v1 x.Hi:=by obtain⟨_,rfl,v0,v1,rfl,k⟩:=k;exact⟨v0,v1,rfl,k⟩
theorem Jz.mk {S h}{x:I4}{v0 v1:Value}(k0:Sl S h A8 v0 x.Lo) (k1:Sl S h A8 v1 x.Hi):Rd S h Jz (.agg #[v0,v1]) x:=⟨_,rfl,v0,v1,rfl,k0,k1⟩
theorem I4.f_Lo:D8 Jz 0 (AW.sl A8) (·.Lo):=by
 rintro S h cs x ⟨v0,v1,rfl,k0,k1⟩
 exact⟨_,rfl,k0⟩
theorem I4.f_Hi:D8 Jz 1 (AW.sl A8) (·.Hi):=by
 rintro S h cs x ⟨v0,v1,rfl,k0,k1⟩
 exact⟨_,rfl,k1⟩
structure AX where
 Name:ByteArray
 Kind:Int
 From:Int
 To:Int
 Rate:(List BA)
 Band:I4
 Positions:Int
 Speed:Int
 Leak:Int
 Crest:Int
 Num:Int
 Den:Int
 Prime:Int
 Break:Int
 BackNum:Int
 BackDen:Int
 Delay:Int
instance:Inhabited AX:=⟨⟨default,default,default,default,default,default,default,default,default,default,default,default,default,default,default,default,default⟩⟩
def A0:AW AX where
 sz:=18
 ag:=true
 rd:=λS h cs x=>∃v4 v5 v6:Value,cs=[.string x.Name,.int .i64 x.Kind,.int .i64 x.From,.int .i64 x.To,v4,v5,v6,.int .i64 x.Positions,.int .i64 x.Speed,.int .i64 x.Leak,.int .i64 x.Crest,.int .i64 x.Num,.int .i64 x.Den,.int .i64 x.Prime,.int .i64 x.Break,.int .i64 x.BackNum,.int .i64 x.BackDen,.int .i64 x.Delay]∧x.Name.size≤maxLen∧AB x.Kind∧AB x.From∧AB x.To∧Sl S h A8 v4 x.Rate∧Sl S h A8 v5 x.Band.Lo∧Sl S h A8 v6 x.Band.Hi∧AB x.Positions∧AB x.Speed∧AB x.Leak∧AB x.Crest∧AB x.Num∧AB x.Den∧AB x.Prime∧AB x.Break∧AB x.BackNum∧AB x.BackDen∧AB x.Delay
 len:=λ⟨_,_,_,h,_⟩=>by rw[h];rfl
 one:=by
  rintro S h cs x ⟨v4,v5,v6,rfl,k0,k1,k2,k3,k4,k5,k6,k7,k8,k9,k10,k11,k12,k13,k14,k15,k16,k17⟩ v hv
  simp only[List.mem_cons,List.not_mem_nil,or_false] at hv
  rcases hv with rfl|rfl|rfl|rfl|rfl|rfl|rfl|rfl|rfl|rfl|rfl|rfl|rfl|rfl|rfl|rfl|rfl|rfl<;>first|rfl|exact Sl.one ‹_› |exact(‹_∧_›).2|(obtain ⟨_,_,rfl,_⟩:=Rd.fn ‹_›;rfl)
 mono:=by
  rintro S S' h h' cs x ⟨v4,v5,v6,rfl,k0,k1,k2,k3,k4,k5,k6,k7,k8,k9,k10,k11,k12,k13,k14,k15,k16,k17⟩ s e
  exact⟨v4,v5,v6,rfl,k0,k1,k2,k3,k4.mono s e,k5.mono s e,k6.mono s e,k7,k8,k9,k10,k11,k12,k13,k14,k15,k16,k17⟩
theorem A0.ex {S h v}{x:AX}(k:Rd S h A0 v x):∃v4 v5 v6:Value,v= .agg #[.string x.Name,.int .i64 x.Kind,.int .i64 x.From,.int .i64 x.To,v4,v5,v6,.int .i64 x.Positions,.int .i64 x.Speed,.int .i64 x.Leak,.int .i64 x.Crest,.int .i64 x.Num,.int .i64 x.Den,.int .i64 x.Prime,.int .i64 x.Break,.int .i64 x.BackNum,.int .i64 x.BackDen,.int .i64 x.Delay]∧x.Name.size≤maxLen∧AB x.Kind∧AB x.From∧AB x.To∧Sl S h A8 v4 x.Rate∧Sl S h A8 v5 x.Band.Lo∧Sl S h A8 v6 x.Band.Hi∧AB x.Positions∧AB x.Speed∧AB x.Leak∧AB x.Crest∧AB x.Num∧AB x.Den∧AB x.Prime∧AB x.Break∧AB x.BackNum∧AB x.BackDen∧AB x.Delay:=by obtain⟨_,rfl,v4,v5,v6,rfl,k⟩:=k;exact⟨v4,v5,v6,rfl,k⟩
theorem A0.mk {S h}{x:AX}{v4 v5 v6:Value}(k0:x.Name.size≤maxLen) (k1:AB x.Kind) (k2:AB x.From) (k3:AB x.To) (k4:Sl S h A8 v4 x.Rate) (k5:Sl S h A8 v5 x.Band.Lo) (k6:Sl S h A8 v6 x.Band.Hi) (k7:AB x.Positions) (k8:AB x.Speed) (k9:AB x.Leak) (k10:AB x.Crest) (k11:AB x.Num) (k12:AB x.Den) (k13:AB x.Prime) (k14:AB x.Break) (k15:AB x.BackNum) (k16:AB x.BackDen) (k17:AB x.Delay):Rd S h A0 (.agg #[.string x.Name,.int .i64 x.Kind,.int .i64 x.From,.int .i64 x.To,v4,v5,v6,.int .i64 x.Positions,.int .i64 x.Speed,.int .i64 x.Leak,.int .i64 x.Crest,.int .i64 x.Num,.int .i64 x.Den,.int .i64 x.Prime,.int .i64 x.Break,.int .i64 x.BackNum,.int .i64 x.BackDen,.int .i64 x.Delay]) x:=⟨_,rfl,v4,v5,v6,rfl,k0,k1,k2,k3,k4,k5,k6,k7,k8,k9,k10,k11,k12,k13,k14,k15,k16,k17⟩
theorem AX.f_Name:D8 A0 0 AW.str (·.Name):=by
 rintro S h cs x ⟨v4,v5,v6,rfl,k0,k1,k2,k3,k4,k5,k6,k7,k8,k9,k10,k11,k12,k13,k14,k15,k16,k17⟩
 exact⟨rfl,k0⟩
theorem AX.f_Kind:D8 A0 1 AW.int (·.Kind):=by
 rintro S h cs x ⟨v4,v5,v6,rfl,k0,k1,k2,k3,k4,k5,k6,k7,k8,k9,k10,k11,k12,k13,k14,k15,k16,k17⟩
 exact⟨rfl,k1⟩
theorem AX.f_To:D8 A0 3 AW.int (·.To):=by
 rintro S h cs x ⟨v4,v5,v6,rfl,k0,k1,k2,k3,k4,k5,k6,k7,k8,k9,k10,k11,k12,k13,k14,k15,k16,k17⟩
 exact⟨rfl,k3⟩
theorem If:D8 A0 4 (AW.sl A8) (·.Rate):=by
 rintro S h cs x ⟨v4,v5,v6,rfl,k0,k1,k2,k3,k4,k5,k6,k7,k8,k9,k10,k11,k12,k13,k14,k15,k16,k17⟩
 exact⟨_,rfl,k4⟩
theorem Fg:D8 A0 5 Jz (·.Band):=by
 rintro S h cs x ⟨v4,v5,v6,rfl,k0,k1,k2,k3,k4,k5,k6,k7,k8,k9,k10,k11,k12,k13,k14,k15,k16,k17⟩
 exact⟨_,_,rfl,k5,k6⟩
theorem BZ:D8 A0 7 AW.int (·.Positions):=by
 rintro S h cs x ⟨v4,v5,v6,rfl,k0,k1,k2,k3,k4,k5,k6,k7,k8,k9,k10,k11,k12,k13,k14,k15,k16,k17⟩
 exact⟨rfl,k7⟩
theorem Fk:D8 A0 8 AW.int (·.Speed):=by
 rintro S h cs x ⟨v4,v5,v6,rfl,k0,k1,k2,k3,k4,k5,k6,k7,k8,k9,k10,k11,k12,k13,k14,k15,k16,k17⟩
 exact⟨rfl,k8⟩
theorem J2:D8 A0 9 AW.int (·.Leak):=by
 rintro S h cs x ⟨v4,v5,v6,rfl,k0,k1,k2,k3,k4,k5,k6,k7,k8,k9,k10,k11,k12,k13,k14,k15,k16,k17⟩
 exact⟨rfl,k9⟩
theorem JS:D8 A0 10 AW.int (·.Crest):=by
 rintro S h cs x ⟨v4,v5,v6,rfl,k0,k1,k2,k3,k4,k5,k6,k7,k8,k9,k10,k11,k12,k13,k14,k15,k16,k17⟩
 exact⟨rfl,k10⟩
theorem AX.f_Num:D8 A0 11 AW.int (·.Num):=by
 rintro S h cs x ⟨v4,v5,v6,rfl,k0,k1,k2,k3,k4,k5,k6,k7,k8,k9,k10,k11,k12,k13,k14,k15,k16,k17⟩
 exact⟨rfl,k11⟩
theorem AX.f_Den:D8 A0 12 AW.int (·.Den):=by
 rintro S h cs x ⟨v4,v5,v6,rfl,k0,k1,k2,k3,k4,k5,k6,k7,k8,k9,k10,k11,k12,k13,k14,k15,k16,k17⟩
 exact⟨rfl,k12⟩
theorem H8:D8 A0 13 AW.int (·.Prime):=by
 rintro S h cs x ⟨v4,v5,v6,rfl,k0,k1,k2,k3,k4,k5,k6,k7,k8,k9,k10,k11,k12,k13,k14,k15,k16,k17⟩
 exact⟨rfl,k13⟩
theorem Fl:D8 A0 14 AW.int (·.Break):=by
 rintro S h cs x ⟨v4,v5,v6,rfl,k0,k1,k2,k3,k4,k5,k6,k7,k8,k9,k10,k11,k12,k13,k14,k15,k16,k17⟩
 exact⟨rfl,k14⟩
theorem GO:D8 A0 15 AW.int (·.BackNum):=by
 rintro S h cs x ⟨v4,v5,v6,rfl,k0,k1,k2,k3,k4,k5,k6,k7,k8,k9,k10,k11,k12,k13,k14,k15,k16,k17⟩
 exact⟨rfl,k15⟩
theorem FQ:D8 A0 16 AW.int (·.BackDen):=by
 rintro S h cs x ⟨v4,v5,v6,rfl,k0,k1,k2,k3,k4,k5,k6,k7,k8,k9,k10,k11,k12,k13,k14,k15,k16,k17⟩
 exact⟨rfl,k16⟩
structure BM where
 Pos:Int
 Target:Int
 Stuck:Bool
 Open:Bool
instance:Inhabited BM:=⟨⟨default,default,default,default⟩⟩
@[reducible] def BM.v (x:BM):List Go.Value:=[.int .i64 x.Pos,.int .i64 x.Target,.bool x.Stuck,.bool x.Open]
def BM.ok (x:BM):Prop:=AB x.Pos∧AB x.Target
def DE:AW BM where
 sz:=4
 ag:=true
 rd:=λ_ _ cs x=>cs=x.v∧x.ok
 len:=λ⟨h,_⟩=>by rw[h];rfl
 one:=λ{_ _ _ x} ⟨h,_⟩ v hv=>by
  rw[h] at hv
  simp only[BM.v,List.mem_cons,List.not_mem_nil,or_false] at hv
  rcases hv with rfl|rfl|rfl|rfl<;>rfl
 mono:=λh _ _=>h
theorem DE.ex {S h v}{x:BM}(k:Rd S h DE v x):v= .agg #[.int .i64 x.Pos,.int .i64 x.Target,.bool x.Stuck,.bool x.Open]∧x.ok:=by obtain⟨_,rfl,rfl,h⟩:=k;exact⟨rfl,h⟩
theorem DE.mk {S h}{x:BM}(k:x.ok):Rd S h DE (.agg #[.int .i64 x.Pos,.int .i64 x.Target,.bool x.Stuck,.bool x.Open]) x:=⟨x.v,rfl,rfl,k⟩
theorem BM.f_Pos:D8 DE 0 AW.int (·.Pos):=by
 rintro S h cs x ⟨rfl,⟨k0,k1⟩⟩
 exact⟨rfl,k0⟩
theorem BM.f_Target:D8 DE 1 AW.int (·.Target):=by
 rintro S h cs x ⟨rfl,⟨k0,k1⟩⟩
 exact⟨rfl,k1⟩
theorem BM.f_Open:D8 DE 3 AW.bool (·.Open):=by
 rintro S h cs x ⟨rfl,⟨k0,k1⟩⟩
 exact rfl
theorem BM.u_Target:MS DE 1 AW.int (λx y=>{ x with Target:=y}):=by
 refine⟨by decide,?_⟩
 rintro S h c x vs y ⟨rfl,⟨k0,k1⟩⟩ ⟨rfl,j1⟩
 exact⟨rfl,⟨k0,j1⟩⟩
theorem BM.u_Open:MS DE 3 AW.bool (λx y=>{ x with Open:=y}):=by
 refine⟨by decide,?_⟩
 rintro S h c x vs y ⟨rfl,⟨k0,k1⟩⟩ rfl
 exact⟨rfl,⟨k0,k1⟩⟩
structure Le where
 Index:Int
 Area:Int
instance:Inhabited Le:=⟨⟨default,default⟩⟩
@[reducible] def Le.v (x:Le):List Go.Value:=[.int .i64 x.Index,.int .i64 x.Area]
def Le.ok (x:Le):Prop:=AB x.Index∧AB x.Area
def IM:AW Le where
 sz:=2
 ag:=true
 rd:=λ_ _ cs x=>cs=x.v∧x.ok
 len:=λ⟨h,_⟩=>by rw[h];rfl
 one:=λ{_ _ _ x} ⟨h,_⟩ v hv=>by
  rw[h] at hv
  simp only[Le.v,List.mem_cons,List.not_mem_nil,or_false] at hv
  rcases hv with rfl|rfl<;>rfl
 mono:=λh _ _=>h
theorem IM.ex {S h v}{x:Le}(k:Rd S h IM v x):v= .agg #[.int .i64 x.Index,.int .i64 x.Area]∧x.ok:=by obtain⟨_,rfl,rfl,h⟩:=k;exact⟨rfl,h⟩
theorem IM.mk {S h}{x:Le}(k:x.ok):Rd S h IM (.agg #[.int .i64 x.Index,.int .i64 x.Area]) x:=⟨x.v,rfl,rfl,k⟩
structure Ce where
 Name:ByteArray
 Kind:Int
 Office:Int
 Cap:Int
 Level:(List BA)
 Start:(List Int)
 Num:Int
 Den:Int
 Down:Int
 Delay:Int
 Floor:Int
 Rain:(List Le)
instance:Inhabited Ce:=⟨⟨default,default,default,default,default,default,default,default,default,default,default,default⟩⟩
def A7:AW Ce where
 sz:=12
 ag:=true
 rd:=λS h cs x=>∃v4 v5 v11:Value,cs=[.string x.Name,.int .i64 x.Kind,.int .i64 x.Office,.int .i64 x.Cap,v4,v5,.int .i64 x.Num,.int .i64 x.Den,.int .i64 x.Down,.int .i64 x.Delay,.int .i64 x.Floor,v11]∧x.Name.size≤maxLen∧AB x.Kind∧AB x.Office∧AB x.Cap∧Sl S h A8 v4 x.Level∧Sl S h AW.int v5 x.Start∧AB x.Num∧AB x.Den∧AB x.Down∧AB x.Delay∧AB x.Floor∧Sl S h IM v11 x.Rain
 len:=λ⟨_,_,_,h,_⟩=>by rw[h];rfl
 one:=by
  rintro S h cs x ⟨v4,v5,v11,rfl,k0,k1,k2,k3,k4,k5,k6,k7,k8,k9,k10,k11⟩ v hv
  simp only[List.mem_cons,List.not_mem_nil,or_false] at hv
  rcases hv with rfl|rfl|rfl|rfl|rfl|rfl|rfl|rfl|rfl|rfl|rfl|rfl<;>first|rfl|exact Sl.one ‹_› |exact(‹_∧_›).2|(obtain ⟨_,_,rfl,_⟩:=Rd.fn ‹_›;rfl)
 mono:=by
  rintro S S' h h' cs x ⟨v4,v5,v11,rfl,k0,k1,k2,k3,k4,k5,k6,k7,k8,k9,k10,k11⟩ s e
  exact⟨v4,v5,v11,rfl,k0,k1,k2,k3,k4.mono s e,k5.mono s e,k6,k7,k8,k9,k10,k11.mono s e⟩
theorem A7.ex {S h v}{x:Ce}(k:Rd S h A7 v x):∃v4 v5 v11:Value,v= .agg #[.string x.Name,.int .i64 x.Kind,.int .i64 x.Office,.int .i64 x.Cap,v4,v5,.int .i64 x.Num,.int .i64 x.Den,.int .i64 x.Down,.int .i64 x.Delay,.int .i64 x.Floor,v11]∧x.Name.size≤maxLen∧AB x.Kind∧AB x.Office∧AB x.Cap∧Sl S h A8 v4 x.Level∧Sl S h AW.int v5 x.Start∧AB x.Num∧AB x.Den∧AB x.Down∧AB x.Delay∧AB x.Floor∧Sl S h IM v11 x.Rain:=by obtain⟨_,rfl,v4,v5,v11,rfl,k⟩:=k;exact⟨v4,v5,v11,rfl,k⟩
theorem A7.mk {S h}{x:Ce}{v4 v5 v11:Value}(k0:x.Name.size≤maxLen) (k1:AB x.Kind) (k2:AB x.Office) (k3:AB x.Cap) (k4:Sl S h A8 v4 x.Level) (k5:Sl S h AW.int v5 x.Start) (k6:AB x.Num) (k7:AB x.Den) (k8:AB x.Down) (k9:AB x.Delay) (k10:AB x.Floor) (k11:Sl S h IM v11 x.Rain):Rd S h A7 (.agg #[.string x.Name,.int .i64 x.Kind,.int .i64 x.Office,.int .i64 x.Cap,v4,v5,.int .i64 x.Num,.int .i64 x.Den,.int .i64 x.Down,.int .i64 x.Delay,.int .i64 x.Floor,v11]) x:=⟨_,rfl,v4,v5,v11,rfl,k0,k1,k2,k3,k4,k5,k6,k7,k8,k9,k10,k11⟩
theorem Ce.f_Name:D8 A7 0 AW.str (·.Name):=by
 rintro S h cs x ⟨v4,v5,v11,rfl,k0,k1,k2,k3,k4,k5,k6,k7,k8,k9,k10,k11⟩
 exact⟨rfl,k0⟩
theorem Ce.f_Kind:D8 A7 1 AW.int (·.Kind):=by
 rintro S h cs x ⟨v4,v5,v11,rfl,k0,k1,k2,k3,k4,k5,k6,k7,k8,k9,k10,k11⟩
 exact⟨rfl,k1⟩
theorem GN:D8 A7 2 AW.int (·.Office):=by
 rintro S h cs x ⟨v4,v5,v11,rfl,k0,k1,k2,k3,k4,k5,k6,k7,k8,k9,k10,k11⟩
 exact⟨rfl,k2⟩
theorem Ce.f_Num:D8 A7 6 AW.int (·.Num):=by
 rintro S h cs x ⟨v4,v5,v11,rfl,k0,k1,k2,k3,k4,k5,k6,k7,k8,k9,k10,k11⟩
 exact⟨rfl,k6⟩
theorem Ce.f_Den:D8 A7 7 AW.int (·.Den):=by
 rintro S h cs x ⟨v4,v5,v11,rfl,k0,k1,k2,k3,k4,k5,k6,k7,k8,k9,k10,k11⟩
 exact⟨rfl,k7⟩
theorem Ce.f_Rain:D8 A7 11 (AW.sl IM) (·.Rain):=by
 rintro S h cs x ⟨v4,v5,v11,rfl,k0,k1,k2,k3,k4,k5,k6,k7,k8,k9,k10,k11⟩
 exact⟨_,rfl,k11⟩
structure KD where
 Name:ByteArray
 Place:Int
 Flood:Int
 Lead:Int
 People:Int
 Watch:Int
 Quorum:Int
instance:Inhabited KD:=⟨⟨default,default,default,default,default,default,default⟩⟩
@[reducible] def KD.v (x:KD):List Go.Value:=[.string x.Name,.int .i64 x.Place,.int .i64 x.Flood,.int .i64 x.Lead,.int .i64 x.People,.int .i64 x.Watch,.int .i64 x.Quorum]
def KD.ok (x:KD):Prop:=x.Name.size≤maxLen∧AB x.Place∧AB x.Flood∧AB x.Lead∧AB x.People∧AB x.Watch∧AB x.Quorum
def FI:AW KD where
 sz:=7
 ag:=true
 rd:=λ_ _ cs x=>cs=x.v∧x.ok
 len:=λ⟨h,_⟩=>by rw[h];rfl
 one:=λ{_ _ _ x} ⟨h,_⟩ v hv=>by
  rw[h] at hv
  simp only[KD.v,List.mem_cons,List.not_mem_nil,or_false] at hv
  rcases hv with rfl|rfl|rfl|rfl|rfl|rfl|rfl<;>rfl
 mono:=λh _ _=>h
theorem FI.ex {S h v}{x:KD}(k:Rd S h FI v x):v= .agg #[.string x.Name,.int .i64 x.Place,.int .i64 x.Flood,.int .i64 x.Lead,.int .i64 x.People,.int .i64 x.Watch,.int .i64 x.Quorum]∧x.ok:=by obtain⟨_,rfl,rfl,h⟩:=k;exact⟨rfl,h⟩
theorem FI.mk {S h}{x:KD}(k:x.ok):Rd S h FI (.agg #[.string x.Name,.int .i64 x.Place,.int .i64 x.Flood,.int .i64 x.Lead,.int .i64 x.People,.int .i64 x.Watch,.int .i64 x.Quorum]) x:=⟨x.v,rfl,rfl,k⟩
theorem KD.f_Name:D8 FI 0 AW.str (·.Name):=by
 rintro S h cs x ⟨rfl,⟨k0,k1,k2,k3,k4,k5,k6⟩⟩
 exact⟨rfl,k0⟩
structure HU where
 Name:ByteArray
 Kind:Int
 Target:Int
 Err:Int
 Drift:Int
instance:Inhabited HU:=⟨⟨default,default,default,default,default⟩⟩
@[reducible] def HU.v (x:HU):List Go.Value:=[.string x.Name,.int .i64 x.Kind,.int .i64 x.Target,.int .i64 x.Err,.int .i64 x.Drift]
def HU.ok (x:HU):Prop:=x.Name.size≤maxLen∧AB x.Kind∧AB x.Target∧AB x.Err∧AB x.Drift
def C9:AW HU where
 sz:=5
 ag:=true
 rd:=λ_ _ cs x=>cs=x.v∧x.ok
 len:=λ⟨h,_⟩=>by rw[h];rfl
 one:=λ{_ _ _ x} ⟨h,_⟩ v hv=>by
  rw[h] at hv
  simp only[HU.v,List.mem_cons,List.not_mem_nil,or_false] at hv
  rcases hv with rfl|rfl|rfl|rfl|rfl<;>rfl
 mono:=λh _ _=>h
theorem C9.ex {S h v}{x:HU}(k:Rd S h C9 v x):v= .agg #[.string x.Name,.int .i64 x.Kind,.int .i64 x.Target,.int .i64 x.Err,.int .i64 x.Drift]∧x.ok:=by obtain⟨_,rfl,rfl,h⟩:=k;exact⟨rfl,h⟩
theorem C9.mk {S h}{x:HU}(k:x.ok):Rd S h C9 (.agg #[.string x.Name,.int .i64 x.Kind,.int .i64 x.Target,.int .i64 x.Err,.int .i64 x.Drift]) x:=⟨x.v,rfl,rfl,k⟩
theorem HU.f_Name:D8 C9 0 AW.str (·.Name):=by
 rintro S h cs x ⟨rfl,⟨k0,k1,k2,k3,k4⟩⟩
 exact⟨rfl,k0⟩
theorem HU.f_Kind:D8 C9 1 AW.int (·.Kind):=by
 rintro S h cs x ⟨rfl,⟨k0,k1,k2,k3,k4⟩⟩
 exact⟨rfl,k1⟩
theorem HU.f_Target:D8 C9 2 AW.int (·.Target):=by
 rintro S h cs x ⟨rfl,⟨k0,k1,k2,k3,k4⟩⟩
 exact⟨rfl,k2⟩
theorem HU.f_Err:D8 C9 3 AW.int (·.Err):=by
 rintro S h cs x ⟨rfl,⟨k0,k1,k2,k3,k4⟩⟩
 exact⟨rfl,k3⟩
theorem HU.u_Target:MS C9 2 AW.int (λx y=>{ x with Target:=y}):=by
 refine⟨by decide,?_⟩
 rintro S h c x vs y ⟨rfl,⟨k0,k1,k2,k3,k4⟩⟩ ⟨rfl,j2⟩
 exact⟨rfl,⟨k0,k1,j2,k3,k4⟩⟩
structure KF where
 Name:ByteArray
 From:Int
 To:Int
 Hours:Int
 Flow:Int
 By:Int
 Limit:Int
instance:Inhabited KF:=⟨⟨default,default,default,default,default,default,default⟩⟩
@[reducible] def KF.v (x:KF):List Go.Value:=[.string x.Name,.int .i64 x.From,.int .i64 x.To,.int .i64 x.Hours,.int .i64 x.Flow,.int .i64 x.By,.int .i64 x.Limit]
def KF.ok (x:KF):Prop:=x.Name.size≤maxLen∧AB x.From∧AB x.To∧AB x.Hours∧AB x.Flow∧AB x.By∧AB x.Limit
def FD:AW KF where
 sz:=7
 ag:=true
 rd:=λ_ _ cs x=>cs=x.v∧x.ok
 len:=λ⟨h,_⟩=>by rw[h];rfl
 one:=λ{_ _ _ x} ⟨h,_⟩ v hv=>by
  rw[h] at hv
  simp only[KF.v,List.mem_cons,List.not_mem_nil,or_false] at hv
  rcases hv with rfl|rfl|rfl|rfl|rfl|rfl|rfl<;>rfl
 mono:=λh _ _=>h
theorem FD.ex {S h v}{x:KF}(k:Rd S h FD v x):v= .agg #[.string x.Name,.int .i64 x.From,.int .i64 x.To,.int .i64 x.Hours,.int .i64 x.Flow,.int .i64 x.By,.int .i64 x.Limit]∧x.ok:=by obtain⟨_,rfl,rfl,h⟩:=k;exact⟨rfl,h⟩
theorem FD.mk {S h}{x:KF}(k:x.ok):Rd S h FD (.agg #[.string x.Name,.int .i64 x.From,.int .i64 x.To,.int .i64 x.Hours,.int .i64 x.Flow,.int .i64 x.By,.int .i64 x.Limit]) x:=⟨x.v,rfl,rfl,k⟩
theorem KF.f_Name:D8 FD 0 AW.str (·.Name):=by
 rintro S h cs x ⟨rfl,⟨k0,k1,k2,k3,k4,k5,k6⟩⟩
 exact⟨rfl,k0⟩
theorem KF.f_To:D8 FD 2 AW.int (·.To):=by
 rintro S h cs x ⟨rfl,⟨k0,k1,k2,k3,k4,k5,k6⟩⟩
 exact⟨rfl,k2⟩
structure GM where
 Name:ByteArray
 Room:Int
instance:Inhabited GM:=⟨⟨default,default⟩⟩
@[reducible] def GM.v (x:GM):List Go.Value:=[.string x.Name,.int .i64 x.Room]
def GM.ok (x:GM):Prop:=x.Name.size≤maxLen∧AB x.Room
def B9:AW GM where
 sz:=2
 ag:=true
 rd:=λ_ _ cs x=>cs=x.v∧x.ok
 len:=λ⟨h,_⟩=>by rw[h];rfl
 one:=λ{_ _ _ x} ⟨h,_⟩ v hv=>by
  rw[h] at hv
  simp only[GM.v,List.mem_cons,List.not_mem_nil,or_false] at hv
  rcases hv with rfl|rfl<;>rfl
 mono:=λh _ _=>h
theorem B9.ex {S h v}{x:GM}(k:Rd S h B9 v x):v= .agg #[.string x.Name,.int .i64 x.Room]∧x.ok:=by obtain⟨_,rfl,rfl,h⟩:=k;exact⟨rfl,h⟩
theorem B9.mk {S h}{x:GM}(k:x.ok):Rd S h B9 (.agg #[.string x.Name,.int .i64 x.Room]) x:=⟨x.v,rfl,rfl,k⟩
theorem GM.f_Name:D8 B9 0 AW.str (·.Name):=by
 rintro S h cs x ⟨rfl,⟨k0,k1⟩⟩
 exact⟨rfl,k0⟩
theorem GM.f_Room:D8 B9 1 AW.int (·.Room):=by
 rintro S h cs x ⟨rfl,⟨k0,k1⟩⟩
 exact⟨rfl,k1⟩
structure AJ where
 Name:ByteArray
 Owners:(List ByteArray)
 Cells:Int
 Places:(List Ce)
 Links:(List AX)
 Towns:(List KD)
 Gauges:(List HU)
 Roads:(List KF)
 Shelters:(List GM)
 Room:(List Int)
 Err:Int
instance:Inhabited AJ:=⟨⟨default,default,default,default,default,default,default,default,default,default,default⟩⟩
def A3:AW AJ where
 sz:=11
 ag:=true
 rd:=λS h cs x=>∃v1 v3 v4 v5 v6 v7 v8 v9:Value,cs=[.string x.Name,v1,.int .i64 x.Cells,v3,v4,v5,v6,v7,v8,v9,.int .i64 x.Err]∧x.Name.size≤maxLen∧Sl S h AW.str v1 x.Owners∧AB x.Cells∧Sl S h A7 v3 x.Places∧Sl S h A0 v4 x.Links∧Sl S h FI v5 x.Towns∧Sl S h C9 v6 x.Gauges∧Sl S h FD v7 x.Roads∧Sl S h B9 v8 x.Shelters∧Sl S h AW.int v9 x.Room∧AB x.Err
 len:=λ⟨_,_,_,_,_,_,_,_,h,_⟩=>by rw[h];rfl
 one:=by
  rintro S h cs x ⟨v1,v3,v4,v5,v6,v7,v8,v9,rfl,k0,k1,k2,k3,k4,k5,k6,k7,k8,k9,k10⟩ v hv
  simp only[List.mem_cons,List.not_mem_nil,or_false] at hv
  rcases hv with rfl|rfl|rfl|rfl|rfl|rfl|rfl|rfl|rfl|rfl|rfl<;>first|rfl|exact Sl.one ‹_› |exact(‹_∧_›).2|(obtain ⟨_,_,rfl,_⟩:=Rd.fn ‹_›;rfl)
 mono:=by
  rintro S S' h h' cs x ⟨v1,v3,v4,v5,v6,v7,v8,v9,rfl,k0,k1,k2,k3,k4,k5,k6,k7,k8,k9,k10⟩ s e
  exact⟨v1,v3,v4,v5,v6,v7,v8,v9,rfl,k0,k1.mono s e,k2,k3.mono s e,k4.mono s e,k5.mono s e,k6.mono s e,k7.mono s e,k8.mono s e,k9.mono s e,k10⟩
theorem A3.ex {S h v}{x:AJ}(k:Rd S h A3 v x):∃v1 v3 v4 v5 v6 v7 v8 v9:Value,v= .agg #[.string x.Name,v1,.int .i64 x.Cells,v3,v4,v5,v6,v7,v8,v9,.int .i64 x.Err]∧x.Name.size≤maxLen∧Sl S h AW.str v1 x.Owners∧AB x.Cells∧Sl S h A7 v3 x.Places∧Sl S h A0 v4 x.Links∧Sl S h FI v5 x.Towns∧Sl S h C9 v6 x.Gauges∧Sl S h FD v7 x.Roads∧Sl S h B9 v8 x.Shelters∧Sl S h AW.int v9 x.Room∧AB x.Err:=by obtain⟨_,rfl,v1,v3,v4,v5,v6,v7,v8,v9,rfl,k⟩:=k;exact⟨v1,v3,v4,v5,v6,v7,v8,v9,rfl,k⟩
theorem A3.mk {S h}{x:AJ}{v1 v3 v4 v5 v6 v7 v8 v9:Value}(k0:x.Name.size≤maxLen) (k1:Sl S h AW.str v1 x.Owners) (k2:AB x.Cells) (k3:Sl S h A7 v3 x.Places) (k4:Sl S h A0 v4 x.Links) (k5:Sl S h FI v5 x.Towns) (k6:Sl S h C9 v6 x.Gauges) (k7:Sl S h FD v7 x.Roads) (k8:Sl S h B9 v8 x.Shelters) (k9:Sl S h AW.int v9 x.Room) (k10:AB x.Err):Rd S h A3 (.agg #[.string x.Name,v1,.int .i64 x.Cells,v3,v4,v5,v6,v7,v8,v9,.int .i64 x.Err]) x:=⟨_,rfl,v1,v3,v4,v5,v6,v7,v8,v9,rfl,k0,k1,k2,k3,k4,k5,k6,k7,k8,k9,k10⟩
theorem AJ.f_Name:D8 A3 0 AW.str (·.Name):=by
 rintro S h cs x ⟨v1,v3,v4,v5,v6,v7,v8,v9,rfl,k0,k1,k2,k3,k4,k5,k6,k7,k8,k9,k10⟩
 exact⟨rfl,k0⟩
theorem Ct:D8 A3 1 (AW.sl AW.str) (·.Owners):=by
 rintro S h cs x ⟨v1,v3,v4,v5,v6,v7,v8,v9,rfl,k0,k1,k2,k3,k4,k5,k6,k7,k8,k9,k10⟩
 exact⟨_,rfl,k1⟩
theorem I3:D8 A3 2 AW.int (·.Cells):=by
 rintro S h cs x ⟨v1,v3,v4,v5,v6,v7,v8,v9,rfl,k0,k1,k2,k3,k4,k5,k6,k7,k8,k9,k10⟩
 exact⟨rfl,k2⟩
theorem Ah:D8 A3 3 (AW.sl A7) (·.Places):=by
 rintro S h cs x ⟨v1,v3,v4,v5,v6,v7,v8,v9,rfl,k0,k1,k2,k3,k4,k5,k6,k7,k8,k9,k10⟩
 exact⟨_,rfl,k3⟩
theorem AJ.f_Links:D8 A3 4 (AW.sl A0) (·.Links):=by
 rintro S h cs x ⟨v1,v3,v4,v5,v6,v7,v8,v9,rfl,k0,k1,k2,k3,k4,k5,k6,k7,k8,k9,k10⟩
 exact⟨_,rfl,k4⟩
theorem Gp:D8 A3 5 (AW.sl FI) (·.Towns):=by
 rintro S h cs x ⟨v1,v3,v4,v5,v6,v7,v8,v9,rfl,k0,k1,k2,k3,k4,k5,k6,k7,k8,k9,k10⟩
 exact⟨_,rfl,k5⟩
theorem Zq:D8 A3 6 (AW.sl C9) (·.Gauges):=by
 rintro S h cs x ⟨v1,v3,v4,v5,v6,v7,v8,v9,rfl,k0,k1,k2,k3,k4,k5,k6,k7,k8,k9,k10⟩
 exact⟨_,rfl,k6⟩
theorem I2:D8 A3 7 (AW.sl FD) (·.Roads):=by
 rintro S h cs x ⟨v1,v3,v4,v5,v6,v7,v8,v9,rfl,k0,k1,k2,k3,k4,k5,k6,k7,k8,k9,k10⟩
 exact⟨_,rfl,k7⟩
theorem GZ:D8 A3 8 (AW.sl B9) (·.Shelters):=by
 rintro S h cs x ⟨v1,v3,v4,v5,v6,v7,v8,v9,rfl,k0,k1,k2,k3,k4,k5,k6,k7,k8,k9,k10⟩
 exact⟨_,rfl,k8⟩
theorem AJ.f_Room:D8 A3 9 (AW.sl AW.int) (·.Room):=by
 rintro S h cs x ⟨v1,v3,v4,v5,v6,v7,v8,v9,rfl,k0,k1,k2,k3,k4,k5,k6,k7,k8,k9,k10⟩
 exact⟨_,rfl,k9⟩
theorem AJ.f_Err:D8 A3 10 AW.int (·.Err):=by
 rintro S h cs x ⟨v1,v3,v4,v5,v6,v7,v8,v9,rfl,k0,k1,k2,k3,k4,k5,k6,k7,k8,k9,k10⟩
 exact⟨rfl,k10⟩
structure Ay where
 At:Int
 To:Int
 Vol:AF
instance:Inhabited Ay:=⟨⟨default,default,default⟩⟩
@[reducible] def Ay.v (x:Ay):List Go.Value:=[.int .i64 x.At,.int .i64 x.To,.int .i64 x.Vol.Lo,.int .i64 x.Vol.Hi]
def Ay.ok (x:Ay):Prop:=AB x.At∧AB x.To∧AB x.Vol.Lo∧AB x.Vol.Hi
def BE:AW Ay where
 sz:=4
 ag:=true
 rd:=λ_ _ cs x=>cs=x.v∧x.ok
 len:=λ⟨h,_⟩=>by rw[h];rfl
 one:=λ{_ _ _ x} ⟨h,_⟩ v hv=>by
  rw[h] at hv
  simp only[Ay.v,List.mem_cons,List.not_mem_nil,or_false] at hv
  rcases hv with rfl|rfl|rfl|rfl<;>rfl
 mono:=λh _ _=>h
theorem BE.ex {S h v}{x:Ay}(k:Rd S h BE v x):v= .agg #[.int .i64 x.At,.int .i64 x.To,.int .i64 x.Vol.Lo,.int .i64 x.Vol.Hi]∧x.ok:=by obtain⟨_,rfl,rfl,h⟩:=k;exact⟨rfl,h⟩
theorem BE.mk {S h}{x:Ay}(k:x.ok):Rd S h BE (.agg #[.int .i64 x.At,.int .i64 x.To,.int .i64 x.Vol.Lo,.int .i64 x.Vol.Hi]) x:=⟨x.v,rfl,rfl,k⟩
theorem Ay.f_At:D8 BE 0 AW.int (·.At):=by
 rintro S h cs x ⟨rfl,⟨k0,k1,k2,k3⟩⟩
 exact⟨rfl,k0⟩
theorem Ay.f_To:D8 BE 1 AW.int (·.To):=by
 rintro S h cs x ⟨rfl,⟨k0,k1,k2,k3⟩⟩
 exact⟨rfl,k1⟩
theorem Ay.f_Vol:D8 BE 2 AK (·.Vol):=by
 rintro S h cs x ⟨rfl,⟨k0,k1,k2,k3⟩⟩
 exact⟨rfl,⟨k2,k3⟩⟩
theorem Ay.u_Vol:MS BE 2 AK (λx y=>{ x with Vol:=y}):=by
 refine⟨by decide,?_⟩
 rintro S h c x vs y ⟨rfl,⟨k0,k1,k2,k3⟩⟩ ⟨rfl,⟨j2,j3⟩⟩
 exact⟨rfl,⟨k0,k1,j2,j3⟩⟩
structure Aq where
 Hour:Int
 Vol:(List AF)
 Queue:(List Ay)
 Links:(List AT)
instance:Inhabited Aq:=⟨⟨default,default,default,default⟩⟩
def Bj:AW Aq where
 sz:=4
 ag:=true
 rd:=λS h cs x=>∃v1 v2 v3:Value,cs=[.int .i64 x.Hour,v1,v2,v3]∧AB x.Hour∧Sl S h AK v1 x.Vol∧Sl S h BE v2 x.Queue∧Sl S h Ab v3 x.Links
 len:=λ⟨_,_,_,h,_⟩=>by rw[h];rfl
 one:=by
  rintro S h cs x ⟨v1,v2,v3,rfl,k0,k1,k2,k3⟩ v hv
  simp only[List.mem_cons,List.not_mem_nil,or_false] at hv
  rcases hv with rfl|rfl|rfl|rfl<;>first|rfl|exact Sl.one ‹_› |exact(‹_∧_›).2|(obtain ⟨_,_,rfl,_⟩:=Rd.fn ‹_›;rfl)
 mono:=by
  rintro S S' h h' cs x ⟨v1,v2,v3,rfl,k0,k1,k2,k3⟩ s e
  exact⟨v1,v2,v3,rfl,k0,k1.mono s e,k2.mono s e,k3.mono s e⟩
theorem Bj.ex {S h v}{x:Aq}(k:Rd S h Bj v x):∃v1 v2 v3:Value,v= .agg #[.int .i64 x.Hour,v1,v2,v3]∧AB x.Hour∧Sl S h AK v1 x.Vol∧Sl S h BE v2 x.Queue∧Sl S h Ab v3 x.Links:=by obtain⟨_,rfl,v1,v2,v3,rfl,k⟩:=k;exact⟨v1,v2,v3,rfl,k⟩
theorem Bj.mk {S h}{x:Aq}{v1 v2 v3:Value}(k0:AB x.Hour) (k1:Sl S h AK v1 x.Vol) (k2:Sl S h BE v2 x.Queue) (k3:Sl S h Ab v3 x.Links):Rd S h Bj (.agg #[.int .i64 x.Hour,v1,v2,v3]) x:=⟨_,rfl,v1,v2,v3,rfl,k0,k1,k2,k3⟩
theorem Aq.f_Hour:D8 Bj 0 AW.int (·.Hour):=by
 rintro S h cs x ⟨v1,v2,v3,rfl,k0,k1,k2,k3⟩
 exact⟨rfl,k0⟩
theorem Aq.f_Vol:D8 Bj 1 (AW.sl AK) (·.Vol):=by
 rintro S h cs x ⟨v1,v2,v3,rfl,k0,k1,k2,k3⟩
 exact⟨_,rfl,k1⟩
theorem Aq.f_Queue:D8 Bj 2 (AW.sl BE) (·.Queue):=by
 rintro S h cs x ⟨v1,v2,v3,rfl,k0,k1,k2,k3⟩
 exact⟨_,rfl,k2⟩
theorem Aq.f_Links:D8 Bj 3 (AW.sl Ab) (·.Links):=by
 rintro S h cs x ⟨v1,v2,v3,rfl,k0,k1,k2,k3⟩
 exact⟨_,rfl,k3⟩
theorem Aq.u_Vol:MS Bj 1 (AW.sl AK) (λx y=>{ x with Vol:=y}):=by
 refine⟨by decide,?_⟩
 rintro S h c x vs y ⟨w0,w1,w2,rfl,k0,k1,k2,k3⟩ ⟨u1,rfl,j1⟩
 exact⟨u1,w1,w2,rfl,k0,j1,k2,k3⟩
structure Ao where
 b:AJ
 h:Aq
 peaks:(List AF)
instance:Inhabited Ao:=⟨⟨default,default,default⟩⟩
def JG:AW Ao where
 sz:=16
 ag:=true
 rd:=λS h cs x=>∃v1 v3 v4 v5 v6 v7 v8 v9 v12 v13 v14 v15:Value,cs=[.string x.b.Name,v1,.int .i64 x.b.Cells,v3,v4,v5,v6,v7,v8,v9,.int .i64 x.b.Err,.int .i64 x.h.Hour,v12,v13,v14,v15]∧x.b.Name.size≤maxLen∧Sl S h AW.str v1 x.b.Owners∧AB x.b.Cells∧Sl S h A7 v3 x.b.Places∧Sl S h A0 v4 x.b.Links∧Sl S h FI v5 x.b.Towns∧Sl S h C9 v6 x.b.Gauges∧Sl S h FD v7 x.b.Roads∧Sl S h B9 v8 x.b.Shelters∧Sl S h AW.int v9 x.b.Room∧AB x.b.Err∧AB x.h.Hour∧Sl S h AK v12 x.h.Vol∧Sl S h BE v13 x.h.Queue∧Sl S h Ab v14 x.h.Links∧Sl S h AK v15 x.peaks
 len:=λ⟨_,_,_,_,_,_,_,_,_,_,_,_,h,_⟩=>by rw[h];rfl
 one:=by
  rintro S h cs x ⟨v1,v3,v4,v5,v6,v7,v8,v9,v12,v13,v14,v15,rfl,k0,k1,k2,k3,k4,k5,k6,k7,k8,k9,k10,k11,k12,k13,k14,k15⟩ v hv
  simp only[List.mem_cons,List.not_mem_nil,or_false] at hv
  rcases hv with rfl|rfl|rfl|rfl|rfl|rfl|rfl|rfl|rfl|rfl|rfl|rfl|rfl|rfl|rfl|rfl<;>first|rfl|exact Sl.one ‹_› |exact(‹_∧_›).2|(obtain ⟨_,_,rfl,_⟩:=Rd.fn ‹_›;rfl)
 mono:=by
  rintro S S' h h' cs x ⟨v1,v3,v4,v5,v6,v7,v8,v9,v12,v13,v14,v15,rfl,k0,k1,k2,k3,k4,k5,k6,k7,k8,k9,k10,k11,k12,k13,k14,k15⟩ s e
  exact⟨v1,v3,v4,v5,v6,v7,v8,v9,v12,v13,v14,v15,rfl,k0,k1.mono s e,k2,k3.mono s e,k4.mono s e,k5.mono s e,k6.mono s e,k7.mono s e,k8.mono s e,k9.mono s e,k10,k11,k12.mono s e,k13.mono s e,k14.mono s e,k15.mono s e⟩
theorem JG.ex {S h v}{x:Ao}(k:Rd S h JG v x):∃v1 v3 v4 v5 v6 v7 v8 v9 v12 v13 v14 v15:Value,v= .agg #[.string x.b.Name,v1,.int .i64 x.b.Cells,v3,v4,v5,v6,v7,v8,v9,.int .i64 x.b.Err,.int .i64 x.h.Hour,v12,v13,v14,v15]∧x.b.Name.size≤maxLen∧Sl S h AW.str v1 x.b.Owners∧AB x.b.Cells∧Sl S h A7 v3 x.b.Places∧Sl S h A0 v4 x.b.Links∧Sl S h FI v5 x.b.Towns∧Sl S h C9 v6 x.b.Gauges∧Sl S h FD v7 x.b.Roads∧Sl S h B9 v8 x.b.Shelters∧Sl S h AW.int v9 x.b.Room∧AB x.b.Err∧AB x.h.Hour∧Sl S h AK v12 x.h.Vol∧Sl S h BE v13 x.h.Queue∧Sl S h Ab v14 x.h.Links∧Sl S h AK v15 x.peaks:=by obtain⟨_,rfl,v1,v3,v4,v5,v6,v7,v8,v9,v12,v13,v14,v15,rfl,k⟩:=k;exact⟨v1,v3,v4,v5,v6,v7,v8,v9,v12,v13,v14,v15,rfl,k⟩
theorem JG.mk {S h}{x:Ao}{v1 v3 v4 v5 v6 v7 v8 v9 v12 v13 v14 v15:Value}(k0:x.b.Name.size≤maxLen) (k1:Sl S h AW.str v1 x.b.Owners) (k2:AB x.b.Cells) (k3:Sl S h A7 v3 x.b.Places) (k4:Sl S h A0 v4 x.b.Links) (k5:Sl S h FI v5 x.b.Towns) (k6:Sl S h C9 v6 x.b.Gauges) (k7:Sl S h FD v7 x.b.Roads) (k8:Sl S h B9 v8 x.b.Shelters) (k9:Sl S h AW.int v9 x.b.Room) (k10:AB x.b.Err) (k11:AB x.h.Hour) (k12:Sl S h AK v12 x.h.Vol) (k13:Sl S h BE v13 x.h.Queue) (k14:Sl S h Ab v14 x.h.Links) (k15:Sl S h AK v15 x.peaks):Rd S h JG (.agg #[.string x.b.Name,v1,.int .i64 x.b.Cells,v3,v4,v5,v6,v7,v8,v9,.int .i64 x.b.Err,.int .i64 x.h.Hour,v12,v13,v14,v15]) x:=⟨_,rfl,v1,v3,v4,v5,v6,v7,v8,v9,v12,v13,v14,v15,rfl,k0,k1,k2,k3,k4,k5,k6,k7,k8,k9,k10,k11,k12,k13,k14,k15⟩
structure I1 where
 Kind:Int
 Link:Int
instance:Inhabited I1:=⟨⟨default,default⟩⟩
@[reducible] def I1.v (x:I1):List Go.Value:=[.int .i64 x.Kind,.int .i64 x.Link]
def I1.ok (x:I1):Prop:=AB x.Kind∧AB x.Link
def H7:AW I1 where
 sz:=2
 ag:=true
 rd:=λ_ _ cs x=>cs=x.v∧x.ok
 len:=λ⟨h,_⟩=>by rw[h];rfl
 one:=λ{_ _ _ x} ⟨h,_⟩ v hv=>by
  rw[h] at hv
  simp only[I1.v,List.mem_cons,List.not_mem_nil,or_false] at hv
  rcases hv with rfl|rfl<;>rfl
 mono:=λh _ _=>h
theorem H7.ex {S h v}{x:I1}(k:Rd S h H7 v x):v= .agg #[.int .i64 x.Kind,.int .i64 x.Link]∧x.ok:=by obtain⟨_,rfl,rfl,h⟩:=k;exact⟨rfl,h⟩
theorem H7.mk {S h}{x:I1}(k:x.ok):Rd S h H7 (.agg #[.int .i64 x.Kind,.int .i64 x.Link]) x:=⟨x.v,rfl,rfl,k⟩
theorem I1.f_Kind:D8 H7 0 AW.int (·.Kind):=by
 rintro S h cs x ⟨rfl,⟨k0,k1⟩⟩
 exact⟨rfl,k0⟩
structure ND where
 Link:Int
 Target:Int
instance:Inhabited ND:=⟨⟨default,default⟩⟩
@[reducible] def ND.v (x:ND):List Go.Value:=[.int .i64 x.Link,.int .i64 x.Target]
def ND.ok (x:ND):Prop:=AB x.Link∧AB x.Target
def K5:AW ND where
 sz:=2
 ag:=true
 rd:=λ_ _ cs x=>cs=x.v∧x.ok
 len:=λ⟨h,_⟩=>by rw[h];rfl
 one:=λ{_ _ _ x} ⟨h,_⟩ v hv=>by
  rw[h] at hv
  simp only[ND.v,List.mem_cons,List.not_mem_nil,or_false] at hv
  rcases hv with rfl|rfl<;>rfl
 mono:=λh _ _=>h
theorem K5.ex {S h v}{x:ND}(k:Rd S h K5 v x):v= .agg #[.int .i64 x.Link,.int .i64 x.Target]∧x.ok:=by obtain⟨_,rfl,rfl,h⟩:=k;exact⟨rfl,h⟩
theorem K5.mk {S h}{x:ND}(k:x.ok):Rd S h K5 (.agg #[.int .i64 x.Link,.int .i64 x.Target]) x:=⟨x.v,rfl,rfl,k⟩
theorem ND.f_Target:D8 K5 1 AW.int (·.Target):=by
 rintro S h cs x ⟨rfl,⟨k0,k1⟩⟩
 exact⟨rfl,k1⟩
theorem ND.u_Target:MS K5 1 AW.int (λx y=>{ x with Target:=y}):=by
 refine⟨by decide,?_⟩
 rintro S h c x vs y ⟨rfl,⟨k0,k1⟩⟩ ⟨rfl,j1⟩
 exact⟨rfl,⟨k0,j1⟩⟩
structure Ht where
 Place:Int
 Owner:Int
 Litres:Int
 To:Int
instance:Inhabited Ht:=⟨⟨default,default,default,default⟩⟩
@[reducible] def Ht.v (x:Ht):List Go.Value:=[.int .i64 x.Place,.int .i64 x.Owner,.int .i64 x.Litres,.int .i64 x.To]
def Ht.ok (x:Ht):Prop:=AB x.Place∧AB x.Owner∧AB x.Litres∧AB x.To
def Ho:AW Ht where
 sz:=4
 ag:=true
 rd:=λ_ _ cs x=>cs=x.v∧x.ok
 len:=λ⟨h,_⟩=>by rw[h];rfl
 one:=λ{_ _ _ x} ⟨h,_⟩ v hv=>by
  rw[h] at hv
  simp only[Ht.v,List.mem_cons,List.not_mem_nil,or_false] at hv
  rcases hv with rfl|rfl|rfl|rfl<;>rfl
 mono:=λh _ _=>h
theorem Ho.ex {S h v}{x:Ht}(k:Rd S h Ho v x):v= .agg #[.int .i64 x.Place,.int .i64 x.Owner,.int .i64 x.Litres,.int .i64 x.To]∧x.ok:=by obtain⟨_,rfl,rfl,h⟩:=k;exact⟨rfl,h⟩
theorem Ho.mk {S h}{x:Ht}(k:x.ok):Rd S h Ho (.agg #[.int .i64 x.Place,.int .i64 x.Owner,.int .i64 x.Litres,.int .i64 x.To]) x:=⟨x.v,rfl,rfl,k⟩
theorem Ht.f_Litres:D8 Ho 2 AW.int (·.Litres):=by
 rintro S h cs x ⟨rfl,⟨k0,k1,k2,k3⟩⟩
 exact⟨rfl,k2⟩
theorem Ht.f_To:D8 Ho 3 AW.int (·.To):=by
 rintro S h cs x ⟨rfl,⟨k0,k1,k2,k3⟩⟩
 exact⟨rfl,k3⟩
structure KE where
 Place:Int
 From:Int
 To:Int
 Litres:Int
instance:Inhabited KE:=⟨⟨default,default,default,default⟩⟩
@[reducible] def KE.v (x:KE):List Go.Value:=[.int .i64 x.Place,.int .i64 x.From,.int .i64 x.To,.int .i64 x.Litres]
def KE.ok (x:KE):Prop:=AB x.Place∧AB x.From∧AB x.To∧AB x.Litres
def JR:AW KE where
 sz:=4
 ag:=true
 rd:=λ_ _ cs x=>cs=x.v∧x.ok
 len:=λ⟨h,_⟩=>by rw[h];rfl
 one:=λ{_ _ _ x} ⟨h,_⟩ v hv=>by
  rw[h] at hv
  simp only[KE.v,List.mem_cons,List.not_mem_nil,or_false] at hv
  rcases hv with rfl|rfl|rfl|rfl<;>rfl
 mono:=λh _ _=>h
theorem JR.ex {S h v}{x:KE}(k:Rd S h JR v x):v= .agg #[.int .i64 x.Place,.int .i64 x.From,.int .i64 x.To,.int .i64 x.Litres]∧x.ok:=by obtain⟨_,rfl,rfl,h⟩:=k;exact⟨rfl,h⟩
theorem JR.mk {S h}{x:KE}(k:x.ok):Rd S h JR (.agg #[.int .i64 x.Place,.int .i64 x.From,.int .i64 x.To,.int .i64 x.Litres]) x:=⟨x.v,rfl,rfl,k⟩
theorem KE.f_To:D8 JR 2 AW.int (·.To):=by
 rintro S h cs x ⟨rfl,⟨k0,k1,k2,k3⟩⟩
 exact⟨rfl,k2⟩
theorem KE.f_Litres:D8 JR 3 AW.int (·.Litres):=by
 rintro S h cs x ⟨rfl,⟨k0,k1,k2,k3⟩⟩
 exact⟨rfl,k3⟩
structure DF where
 Rain:(List Int)
 Faults:(List I1)
 Cmds:(List ND)
 Takes:(List Ht)
 Swaps:(List KE)
instance:Inhabited DF:=⟨⟨default,default,default,default,default⟩⟩
def GY:AW DF where
 sz:=5
 ag:=true
 rd:=λS h cs x=>∃v0 v1 v2 v3 v4:Value,cs=[v0,v1,v2,v3,v4]∧Sl S h AW.int v0 x.Rain∧Sl S h H7 v1 x.Faults∧Sl S h K5 v2 x.Cmds∧Sl S h Ho v3 x.Takes∧Sl S h JR v4 x.Swaps
 len:=λ⟨_,_,_,_,_,h,_⟩=>by rw[h];rfl
 one:=by
  rintro S h cs x ⟨v0,v1,v2,v3,v4,rfl,k0,k1,k2,k3,k4⟩ v hv
  simp only[List.mem_cons,List.not_mem_nil,or_false] at hv
  rcases hv with rfl|rfl|rfl|rfl|rfl<;>first|rfl|exact Sl.one ‹_› |exact(‹_∧_›).2|(obtain ⟨_,_,rfl,_⟩:=Rd.fn ‹_›;rfl)
 mono:=by
  rintro S S' h h' cs x ⟨v0,v1,v2,v3,v4,rfl,k0,k1,k2,k3,k4⟩ s e
  exact⟨v0,v1,v2,v3,v4,rfl,k0.mono s e,k1.mono s e,k2.mono s e,k3.mono s e,k4.mono s e⟩
theorem GY.ex {S h v}{x:DF}(k:Rd S h GY v x):∃v0 v1 v2 v3 v4:Value,v= .agg #[v0,v1,v2,v3,v4]∧Sl S h AW.int v0 x.Rain∧Sl S h H7 v1 x.Faults∧Sl S h K5 v2 x.Cmds∧Sl S h Ho v3 x.Takes∧Sl S h JR v4 x.Swaps:=by obtain⟨_,rfl,v0,v1,v2,v3,v4,rfl,k⟩:=k;exact⟨v0,v1,v2,v3,v4,rfl,k⟩
theorem GY.mk {S h}{x:DF}{v0 v1 v2 v3 v4:Value}(k0:Sl S h AW.int v0 x.Rain) (k1:Sl S h H7 v1 x.Faults) (k2:Sl S h K5 v2 x.Cmds) (k3:Sl S h Ho v3 x.Takes) (k4:Sl S h JR v4 x.Swaps):Rd S h GY (.agg #[v0,v1,v2,v3,v4]) x:=⟨_,rfl,v0,v1,v2,v3,v4,rfl,k0,k1,k2,k3,k4⟩
theorem DF.f_Rain:D8 GY 0 (AW.sl AW.int) (·.Rain):=by
 rintro S h cs x ⟨v0,v1,v2,v3,v4,rfl,k0,k1,k2,k3,k4⟩
 exact⟨_,rfl,k0⟩
theorem KG:D8 GY 1 (AW.sl H7) (·.Faults):=by
 rintro S h cs x ⟨v0,v1,v2,v3,v4,rfl,k0,k1,k2,k3,k4⟩
 exact⟨_,rfl,k1⟩
theorem Ld:D8 GY 2 (AW.sl K5) (·.Cmds):=by
 rintro S h cs x ⟨v0,v1,v2,v3,v4,rfl,k0,k1,k2,k3,k4⟩
 exact⟨_,rfl,k2⟩
theorem K7:D8 GY 3 (AW.sl Ho) (·.Takes):=by
 rintro S h cs x ⟨v0,v1,v2,v3,v4,rfl,k0,k1,k2,k3,k4⟩
 exact⟨_,rfl,k3⟩
theorem N2:D8 GY 4 (AW.sl JR) (·.Swaps):=by
 rintro S h cs x ⟨v0,v1,v2,v3,v4,rfl,k0,k1,k2,k3,k4⟩
 exact⟨_,rfl,k4⟩
structure AS where
 to_:Int
 delay:Int
 slack:Int
 asks:(Int→Option AF)
instance:Inhabited AS:=⟨⟨default,default,default,default⟩⟩
def BY:AW AS where
 sz:=4
 ag:=true
 rd:=λS h cs x=>∃v3:Value,cs=[.int .i64 x.to_,.int .i64 x.delay,.int .i64 x.slack,v3]∧AB x.to_∧AB x.delay∧AB x.slack∧Rd S h (AW.fn Tryz.prog (λx:Int=>([.int .i64 x]:List Value)) (λx:Int=>AB x) (λy:AF=> .agg #[.int .i64 y.Lo,.int .i64 y.Hi]) (λy:AF=>AF.ok y)) v3 x.asks
 len:=λ⟨_,h,_⟩=>by rw[h];rfl
 one:=by
  rintro S h cs x ⟨v3,rfl,k0,k1,k2,k3⟩ v hv
  simp only[List.mem_cons,List.not_mem_nil,or_false] at hv
  rcases hv with rfl|rfl|rfl|rfl<;>first|rfl|exact Sl.one ‹_› |exact(‹_∧_›).2|(obtain ⟨_,_,rfl,_⟩:=Rd.fn ‹_›;rfl)
 mono:=by
  rintro S S' h h' cs x ⟨v3,rfl,k0,k1,k2,k3⟩ s e
  exact⟨v3,rfl,k0,k1,k2,k3.mono'' s e⟩
theorem BY.ex {S h v}{x:AS}(k:Rd S h BY v x):∃v3:Value,v= .agg #[.int .i64 x.to_,.int .i64 x.delay,.int .i64 x.slack,v3]∧AB x.to_∧AB x.delay∧AB x.slack∧Rd S h (AW.fn Tryz.prog (λx:Int=>([.int .i64 x]:List Value)) (λx:Int=>AB x) (λy:AF=> .agg #[.int .i64 y.Lo,.int .i64 y.Hi]) (λy:AF=>AF.ok y)) v3 x.asks:=by obtain⟨_,rfl,v3,rfl,k⟩:=k;exact⟨v3,rfl,k⟩
theorem BY.mk {S h}{x:AS}{v3:Value}(k0:AB x.to_) (k1:AB x.delay) (k2:AB x.slack) (k3:Rd S h (AW.fn Tryz.prog (λx:Int=>([.int .i64 x]:List Value)) (λx:Int=>AB x) (λy:AF=> .agg #[.int .i64 y.Lo,.int .i64 y.Hi]) (λy:AF=>AF.ok y)) v3 x.asks):Rd S h BY (.agg #[.int .i64 x.to_,.int .i64 x.delay,.int .i64 x.slack,v3]) x:=⟨_,rfl,v3,rfl,k0,k1,k2,k3⟩
structure E0 where
 At:Int
 To:Int
 Part:(List Int)
instance:Inhabited E0:=⟨⟨default,default,default⟩⟩
def GD:AW E0 where
 sz:=3
 ag:=true
 rd:=λS h cs x=>∃v2:Value,cs=[.int .i64 x.At,.int .i64 x.To,v2]∧AB x.At∧AB x.To∧Sl S h AW.int v2 x.Part
 len:=λ⟨_,h,_⟩=>by rw[h];rfl
 one:=by
  rintro S h cs x ⟨v2,rfl,k0,k1,k2⟩ v hv
  simp only[List.mem_cons,List.not_mem_nil,or_false] at hv
  rcases hv with rfl|rfl|rfl<;>first|rfl|exact Sl.one ‹_› |exact(‹_∧_›).2|(obtain ⟨_,_,rfl,_⟩:=Rd.fn ‹_›;rfl)
 mono:=by
  rintro S S' h h' cs x ⟨v2,rfl,k0,k1,k2⟩ s e
  exact⟨v2,rfl,k0,k1,k2.mono s e⟩
theorem GD.ex {S h v}{x:E0}(k:Rd S h GD v x):∃v2:Value,v= .agg #[.int .i64 x.At,.int .i64 x.To,v2]∧AB x.At∧AB x.To∧Sl S h AW.int v2 x.Part:=by obtain⟨_,rfl,v2,rfl,k⟩:=k;exact⟨v2,rfl,k⟩
theorem GD.mk {S h}{x:E0}{v2:Value}(k0:AB x.At) (k1:AB x.To) (k2:Sl S h AW.int v2 x.Part):Rd S h GD (.agg #[.int .i64 x.At,.int .i64 x.To,v2]) x:=⟨_,rfl,v2,rfl,k0,k1,k2⟩
theorem E0.f_At:D8 GD 0 AW.int (·.At):=by
 rintro S h cs x ⟨v2,rfl,k0,k1,k2⟩
 exact⟨rfl,k0⟩
theorem E0.f_To:D8 GD 1 AW.int (·.To):=by
 rintro S h cs x ⟨v2,rfl,k0,k1,k2⟩
 exact⟨rfl,k1⟩
theorem PI:D8 GD 2 (AW.sl AW.int) (·.Part):=by
 rintro S h cs x ⟨v2,rfl,k0,k1,k2⟩
 exact⟨_,rfl,k2⟩
structure AV where
 Hour:Int
 Own:(List (List Int))
 Rem:(List Int)
 Queue:(List E0)
 Gates:(List BM)
 In:(List Int)
 Out:(List Int)
instance:Inhabited AV:=⟨⟨default,default,default,default,default,default,default⟩⟩
def CA:AW AV where
 sz:=7
 ag:=true
 rd:=λS h cs x=>∃v1 v2 v3 v4 v5 v6:Value,cs=[.int .i64 x.Hour,v1,v2,v3,v4,v5,v6]∧AB x.Hour∧Sl S h (AW.sl AW.int) v1 x.Own∧Sl S h AW.int v2 x.Rem∧Sl S h GD v3 x.Queue∧Sl S h DE v4 x.Gates∧Sl S h AW.int v5 x.In∧Sl S h AW.int v6 x.Out
 len:=λ⟨_,_,_,_,_,_,h,_⟩=>by rw[h];rfl
 one:=by
  rintro S h cs x ⟨v1,v2,v3,v4,v5,v6,rfl,k0,k1,k2,k3,k4,k5,k6⟩ v hv
  simp only[List.mem_cons,List.not_mem_nil,or_false] at hv
  rcases hv with rfl|rfl|rfl|rfl|rfl|rfl|rfl<;>first|rfl|exact Sl.one ‹_› |exact(‹_∧_›).2|(obtain ⟨_,_,rfl,_⟩:=Rd.fn ‹_›;rfl)
 mono:=by
  rintro S S' h h' cs x ⟨v1,v2,v3,v4,v5,v6,rfl,k0,k1,k2,k3,k4,k5,k6⟩ s e
  exact⟨v1,v2,v3,v4,v5,v6,rfl,k0,k1.mono s e,k2.mono s e,k3.mono s e,k4.mono s e,k5.mono s e,k6.mono s e⟩
theorem CA.ex {S h v}{x:AV}(k:Rd S h CA v x):∃v1 v2 v3 v4 v5 v6:Value,v= .agg #[.int .i64 x.Hour,v1,v2,v3,v4,v5,v6]∧AB x.Hour∧Sl S h (AW.sl AW.int) v1 x.Own∧Sl S h AW.int v2 x.Rem∧Sl S h GD v3 x.Queue∧Sl S h DE v4 x.Gates∧Sl S h AW.int v5 x.In∧Sl S h AW.int v6 x.Out:=by obtain⟨_,rfl,v1,v2,v3,v4,v5,v6,rfl,k⟩:=k;exact⟨v1,v2,v3,v4,v5,v6,rfl,k⟩
theorem CA.mk {S h}{x:AV}{v1 v2 v3 v4 v5 v6:Value}(k0:AB x.Hour) (k1:Sl S h (AW.sl AW.int) v1 x.Own) (k2:Sl S h AW.int v2 x.Rem) (k3:Sl S h GD v3 x.Queue) (k4:Sl S h DE v4 x.Gates) (k5:Sl S h AW.int v5 x.In) (k6:Sl S h AW.int v6 x.Out):Rd S h CA (.agg #[.int .i64 x.Hour,v1,v2,v3,v4,v5,v6]) x:=⟨_,rfl,v1,v2,v3,v4,v5,v6,rfl,k0,k1,k2,k3,k4,k5,k6⟩
theorem AV.f_Hour:D8 CA 0 AW.int (·.Hour):=by
 rintro S h cs x ⟨v1,v2,v3,v4,v5,v6,rfl,k0,k1,k2,k3,k4,k5,k6⟩
 exact⟨rfl,k0⟩
theorem GE:D8 CA 1 (AW.sl (AW.sl AW.int)) (·.Own):=by
 rintro S h cs x ⟨v1,v2,v3,v4,v5,v6,rfl,k0,k1,k2,k3,k4,k5,k6⟩
 exact⟨_,rfl,k1⟩
theorem J1:D8 CA 2 (AW.sl AW.int) (·.Rem):=by
 rintro S h cs x ⟨v1,v2,v3,v4,v5,v6,rfl,k0,k1,k2,k3,k4,k5,k6⟩
 exact⟨_,rfl,k2⟩
theorem AV.f_Queue:D8 CA 3 (AW.sl GD) (·.Queue):=by
 rintro S h cs x ⟨v1,v2,v3,v4,v5,v6,rfl,k0,k1,k2,k3,k4,k5,k6⟩
 exact⟨_,rfl,k3⟩
theorem Du:D8 CA 4 (AW.sl DE) (·.Gates):=by
 rintro S h cs x ⟨v1,v2,v3,v4,v5,v6,rfl,k0,k1,k2,k3,k4,k5,k6⟩
 exact⟨_,rfl,k4⟩
theorem M4:D8 CA 5 (AW.sl AW.int) (·.In):=by
 rintro S h cs x ⟨v1,v2,v3,v4,v5,v6,rfl,k0,k1,k2,k3,k4,k5,k6⟩
 exact⟨_,rfl,k5⟩
theorem MW:D8 CA 6 (AW.sl AW.int) (·.Out):=by
 rintro S h cs x ⟨v1,v2,v3,v4,v5,v6,rfl,k0,k1,k2,k3,k4,k5,k6⟩
 exact⟨_,rfl,k6⟩
structure AG where
 group:ByteArray
 name:ByteArray
instance:Inhabited AG:=⟨⟨default,default⟩⟩
@[reducible] def AG.v (x:AG):List Go.Value:=[.string x.group,.string x.name]
def AG.ok (x:AG):Prop:=x.group.size≤maxLen∧x.name.size≤maxLen
def Id:AW AG where
 sz:=2
 ag:=true
 rd:=λ_ _ cs x=>cs=x.v∧x.ok
 len:=λ⟨h,_⟩=>by rw[h];rfl
 one:=λ{_ _ _ x} ⟨h,_⟩ v hv=>by
  rw[h] at hv
  simp only[AG.v,List.mem_cons,List.not_mem_nil,or_false] at hv
  rcases hv with rfl|rfl<;>rfl
 mono:=λh _ _=>h
theorem Id.ex {S h v}{x:AG}(k:Rd S h Id v x):v= .agg #[.string x.group,.string x.name]∧x.ok:=by obtain⟨_,rfl,rfl,h⟩:=k;exact⟨rfl,h⟩
theorem Id.mk {S h}{x:AG}(k:x.ok):Rd S h Id (.agg #[.string x.group,.string x.name]) x:=⟨x.v,rfl,rfl,k⟩
structure AM where
 at_:Int
 to_:Int
instance:Inhabited AM:=⟨⟨default,default⟩⟩
@[reducible] def AM.v (x:AM):List Go.Value:=[.int .i64 x.at_,.int .i64 x.to_]
def AM.ok (x:AM):Prop:=AB x.at_∧AB x.to_
def Jy:AW AM where
 sz:=2
 ag:=true
 rd:=λ_ _ cs x=>cs=x.v∧x.ok
 len:=λ⟨h,_⟩=>by rw[h];rfl
 one:=λ{_ _ _ x} ⟨h,_⟩ v hv=>by
  rw[h] at hv
  simp only[AM.v,List.mem_cons,List.not_mem_nil,or_false] at hv
  rcases hv with rfl|rfl<;>rfl
 mono:=λh _ _=>h
theorem Jy.ex {S h v}{x:AM}(k:Rd S h Jy v x):v= .agg #[.int .i64 x.at_,.int .i64 x.to_]∧x.ok:=by obtain⟨_,rfl,rfl,h⟩:=k;exact⟨rfl,h⟩
theorem Jy.mk {S h}{x:AM}(k:x.ok):Rd S h Jy (.agg #[.int .i64 x.at_,.int .i64 x.to_]) x:=⟨x.v,rfl,rfl,k⟩
def JM:ByteArray:=ByteArray.mk #[0,1,2,2,3,3,3,3,4,4,4,4,4,4,4,4,5,5,5,5,5,5,5,5,5,5,5,5,5,5,5,5,6,6,6,6,6,6,6,6,6,6,6,6,6,6,6,6,6,6,6,6,6,6,6,6,6,6,6,6,6,6,6,6,7,7,7,7,7,7,7,7,7,7,7,7,7,7,7,7,7,7,7,7,7,7,7,7,7,7,7,7,7,7,7,7,7,7,7,7,7,7,7,7,7,7,7,7,7,7,7,7,7,7,7,7,7,7,7,7,7,7,7,7,7,7,7,7,8,8,8,8,8,8,8,8,8,8,8,8,8,8,8,8,8,8,8,8,8,8,8,8,8,8,8,8,8,8,8,8,8,8,8,8,8,8,8,8,8,8,8,8,8,8,8,8,8,8,8,8,8,8,8,8,8,8,8,8,8,8,8,8,8,8,8,8,8,8,8,8,8,8,8,8,8,8,8,8,8,8,8,8,8,8,8,8,8,8,8,8,8,8,8,8,8,8,8,8,8,8,8,8,8,8,8,8,8,8,8,8,8,8,8,8,8,8,8,8,8,8,8,8,8,8,8,8]
def B3:List Ce:=([(⟨(ByteArray.mk #[112]),0,2,120,([(⟨0,0⟩:BA)]:List BA),([100]:List Int),1,10,(-1),0,0,[]⟩:Ce)]:List Ce)
end Go.Proofs.YtibidnaedddfdaaGreat
