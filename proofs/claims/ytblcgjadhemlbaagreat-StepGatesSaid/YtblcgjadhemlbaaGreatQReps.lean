import Derived.Test.YtblcgjadhemlbaaGreatQSortD
import Derived.Test.YtblcgjadhemlbaaGreatRows
namespace Go.Proofs.YtblcgjadhemlbaaGreat
set_option linter.unusedSimpArgs false
open Go.RowKit
set_option linter.unusedVariables false
structure BI where
 X:Int
 Y:Int
instance:Inhabited BI:=⟨⟨default,default⟩⟩
@[reducible] def BI.v (x:BI):List Go.Value:=[.int .i64 x.X,.int .i64 x.Y]
def BI.ok (x:BI):Prop:=AI x.X∧AI x.Y
def Bm:AN BI where
 sz:=2
 ag:=true
 rd:=λ_ _ cs x=>cs=x.v∧x.ok
 len:=λ⟨h,_⟩=>by rw[h];rfl
 one:=λ{_ _ _ x} ⟨h,_⟩ v hv=>by
  rw[h] at hv
  simp only[BI.v,List.mem_cons,List.not_mem_nil,or_false] at hv
  rcases hv with rfl|rfl<;>rfl
 mono:=λh _ _=>h
theorem Bm.ex {S h v}{x:BI}(k:Rd S h Bm v x):v= .agg #[.int .i64 x.X,.int .i64 x.Y]∧x.ok:=by obtain⟨_,rfl,rfl,h⟩:=k;exact⟨rfl,h⟩
theorem Bm.mk {S h}{x:BI}(k:x.ok):Rd S h Bm (.agg #[.int .i64 x.X,.int .i64 x.Y]) x:=⟨x.v,rfl,rfl,k⟩
theorem KK:El Bm 0 AN.int (·.X):=by
 rintro S h cs x ⟨rfl,⟨k0,k1⟩⟩
 exact⟨rfl,k0⟩
theorem KJ:El Bm 1 AN.int (·.Y):=by
 rintro S h cs x ⟨rfl,⟨k0,k1⟩⟩
 exact⟨rfl,k1⟩
structure Ml where
 Index:Int
 Area:Int
instance:Inhabited Ml:=⟨⟨default,default⟩⟩
@[reducible] def Ml.v (x:Ml):List Go.Value:=[.int .i64 x.Index,.int .i64 x.Area]
def Ml.ok (x:Ml):Prop:=AI x.Index∧AI x.Area
def Jq:AN Ml where
 sz:=2
 ag:=true
 rd:=λ_ _ cs x=>cs=x.v∧x.ok
 len:=λ⟨h,_⟩=>by rw[h];rfl
 one:=λ{_ _ _ x} ⟨h,_⟩ v hv=>by
  rw[h] at hv
  simp only[Ml.v,List.mem_cons,List.not_mem_nil,or_false] at hv
  rcases hv with rfl|rfl<;>rfl
 mono:=λh _ _=>h
theorem Jq.ex {S h v}{x:Ml}(k:Rd S h Jq v x):v= .agg #[.int .i64 x.Index,.int .i64 x.Area]∧x.ok:=by obtain⟨_,rfl,rfl,h⟩:=k;exact⟨rfl,h⟩
theorem Jq.mk {S h}{x:Ml}(k:x.ok):Rd S h Jq (.agg #[.int .i64 x.Index,.int .i64 x.Area]) x:=⟨x.v,rfl,rfl,k⟩
structure Dh where
 Name:ByteArray
 Kind:Int
 Office:Int
 Cap:Int
 Level:(List BI)
 Start:(List Int)
 Num:Int
 Den:Int
 Down:Int
 Delay:Int
 Floor:Int
 Rain:(List Ml)
instance:Inhabited Dh:=⟨⟨default,default,default,default,default,default,default,default,default,default,default,default⟩⟩
def Br:AN Dh where
 sz:=12
 ag:=true
 rd:=λS h cs x=>∃v4 v5 v11:Value,cs=[.string x.Name,.int .i64 x.Kind,.int .i64 x.Office,.int .i64 x.Cap,v4,v5,.int .i64 x.Num,.int .i64 x.Den,.int .i64 x.Down,.int .i64 x.Delay,.int .i64 x.Floor,v11]∧x.Name.size≤maxLen∧AI x.Kind∧AI x.Office∧AI x.Cap∧Sl S h Bm v4 x.Level∧Sl S h AN.int v5 x.Start∧AI x.Num∧AI x.Den∧AI x.Down∧AI x.Delay∧AI x.Floor∧Sl S h Jq v11 x.Rain
 len:=λ⟨_,_,_,h,_⟩=>by rw[h];rfl
 one:=by
  rintro S h cs x ⟨v4,v5,v11,rfl,k0,k1,k2,k3,k4,k5,k6,k7,k8,k9,k10,k11⟩ v hv
  simp only[List.mem_cons,List.not_mem_nil,or_false] at hv
  rcases hv with rfl|rfl|rfl|rfl|rfl|rfl|rfl|rfl|rfl|rfl|rfl|rfl<;>first|rfl|exact Sl.one ‹_› |exact(‹_∧_›).2|(obtain ⟨_,_,rfl,_⟩:=Rd.fn ‹_›;rfl)|(obtain ⟨_,_,rfl,_⟩:=Rd.fnr ‹_›;rfl)
 mono:=by
  rintro S S' h h' cs x ⟨v4,v5,v11,rfl,k0,k1,k2,k3,k4,k5,k6,k7,k8,k9,k10,k11⟩ s e
  exact⟨v4,v5,v11,rfl,k0,k1,k2,k3,k4.mono s e,k5.mono s e,k6,k7,k8,k9,k10,k11.mono s e⟩
theorem Br.ex {S h v}{x:Dh}(k:Rd S h Br v x):∃v4 v5 v11:Value,v= .agg #[.string x.Name,.int .i64 x.Kind,.int .i64 x.Office,.int .i64 x.Cap,v4,v5,.int .i64 x.Num,.int .i64 x.Den,.int .i64 x.Down,.int .i64 x.Delay,.int .i64 x.Floor,v11]∧x.Name.size≤maxLen∧AI x.Kind∧AI x.Office∧AI x.Cap∧Sl S h Bm v4 x.Level∧Sl S h AN.int v5 x.Start∧AI x.Num∧AI x.Den∧AI x.Down∧AI x.Delay∧AI x.Floor∧Sl S h Jq v11 x.Rain:=by obtain⟨_,rfl,v4,v5,v11,rfl,k⟩:=k;exact⟨v4,v5,v11,rfl,k⟩
theorem Br.mk {S h}{x:Dh}{v4 v5 v11:Value}(k0:x.Name.size≤maxLen) (k1:AI x.Kind) (k2:AI x.Office) (k3:AI x.Cap) (k4:Sl S h Bm v4 x.Level) (k5:Sl S h AN.int v5 x.Start) (k6:AI x.Num) (k7:AI x.Den) (k8:AI x.Down) (k9:AI x.Delay) (k10:AI x.Floor) (k11:Sl S h Jq v11 x.Rain):Rd S h Br (.agg #[.string x.Name,.int .i64 x.Kind,.int .i64 x.Office,.int .i64 x.Cap,v4,v5,.int .i64 x.Num,.int .i64 x.Den,.int .i64 x.Down,.int .i64 x.Delay,.int .i64 x.Floor,v11]) x:=⟨_,rfl,v4,v5,v11,rfl,k0,k1,k2,k3,k4,k5,k6,k7,k8,k9,k10,k11⟩
theorem Dh.f_Name:El Br 0 AN.str (·.Name):=by
 rintro S h cs x ⟨v4,v5,v11,rfl,k0,k1,k2,k3,k4,k5,k6,k7,k8,k9,k10,k11⟩
 exact⟨rfl,k0⟩
theorem Dh.f_Kind:El Br 1 AN.int (·.Kind):=by
 rintro S h cs x ⟨v4,v5,v11,rfl,k0,k1,k2,k3,k4,k5,k6,k7,k8,k9,k10,k11⟩
 exact⟨rfl,k1⟩
theorem Hk:El Br 2 AN.int (·.Office):=by
 rintro S h cs x ⟨v4,v5,v11,rfl,k0,k1,k2,k3,k4,k5,k6,k7,k8,k9,k10,k11⟩
 exact⟨rfl,k2⟩
theorem Dh.f_Num:El Br 6 AN.int (·.Num):=by
 rintro S h cs x ⟨v4,v5,v11,rfl,k0,k1,k2,k3,k4,k5,k6,k7,k8,k9,k10,k11⟩
 exact⟨rfl,k6⟩
theorem Dh.f_Den:El Br 7 AN.int (·.Den):=by
 rintro S h cs x ⟨v4,v5,v11,rfl,k0,k1,k2,k3,k4,k5,k6,k7,k8,k9,k10,k11⟩
 exact⟨rfl,k7⟩
theorem Dh.f_Rain:El Br 11 (AN.sl Jq) (·.Rain):=by
 rintro S h cs x ⟨v4,v5,v11,rfl,k0,k1,k2,k3,k4,k5,k6,k7,k8,k9,k10,k11⟩
 exact⟨_,rfl,k11⟩
structure Ky where
 Lo:(List BI)
 Hi:(List BI)
instance:Inhabited Ky:=⟨⟨default,default⟩⟩
def LH:AN Ky where
 sz:=2
 ag:=true
 rd:=λS h cs x=>∃v0 v1:Value,cs=[v0,v1]∧Sl S h Bm v0 x.Lo∧Sl S h Bm v1 x.Hi
 len:=λ⟨_,_,h,_⟩=>by rw[h];rfl
 one:=by
  rintro S h cs x ⟨v0,v1,rfl,k0,k1⟩ v hv
  simp only[List.mem_cons,List.not_mem_nil,or_false] at hv
  rcases hv with rfl|rfl<;>first|rfl|exact Sl.one ‹_› |exact(‹_∧_›).2|(obtain ⟨_,_,rfl,_⟩:=Rd.fn ‹_›;rfl)|(obtain ⟨_,_,rfl,_⟩:=Rd.fnr ‹_›;rfl)
 mono:=by
  rintro S S' h h' cs x ⟨v0,v1,rfl,k0,k1⟩ s e
  exact⟨v0,v1,rfl,k0.mono s e,k1.mono s e⟩
theorem LH.ex {S h v}{x:Ky}(k:Rd S h LH v x):∃v0 v1:Value,v= .agg #[v0,v1]∧Sl S h Bm v0 x.Lo∧Sl S h Bm v1 x.Hi:=by obtain⟨_,rfl,v0,v1,rfl,k⟩:=k;exact⟨v0,v1,rfl,k⟩
theorem LH.mk {S h}{x:Ky}{v0 v1:Value}(k0:Sl S h Bm v0 x.Lo) (k1:Sl S h Bm v1 x.Hi):Rd S h LH (.agg #[v0,v1]) x:=⟨_,rfl,v0,v1,rfl,k0,k1⟩
theorem My:El LH 0 (AN.sl Bm) (·.Lo):=by
 rintro S h cs x ⟨v0,v1,rfl,k0,k1⟩
 exact⟨_,rfl,k0⟩
theorem Mz:El LH 1 (AN.sl Bm) (·.Hi):=by
 rintro S h cs x ⟨v0,v1,rfl,k0,k1⟩
 exact⟨_,rfl,k1⟩
structure Au where
 Name:ByteArray
 Kind:Int
 From:Int
 To:Int
 Rate:(List BI)
 Band:Ky
 Positions:Int
 Speed:Int
 Leak:Int
 Crest:Int
 Num:Int
 Den:Int
 Prime:Int
 Break:Int
 BackNum:Int
 BackDen:Int
 Delay:Int
instance:Inhabited Au:=⟨⟨default,default,default,default,default,default,default,default,default,default,default,default,default,default,default,default,default⟩⟩
def Bh:AN Au where
 sz:=18
 ag:=true
 rd:=λS h cs x=>∃v4 v5 v6:Value,cs=[.string x.Name,.int .i64 x.Kind,.int .i64 x.From,.int .i64 x.To,v4,v5,v6,.int .i64 x.Positions,.int .i64 x.Speed,.int .i64 x.Leak,.int .i64 x.Crest,.int .i64 x.Num,.int .i64 x.Den,.int .i64 x.Prime,.int .i64 x.Break,.int .i64 x.BackNum,.int .i64 x.BackDen,.int .i64 x.Delay]∧x.Name.size≤maxLen∧AI x.Kind∧AI x.From∧AI x.To∧Sl S h Bm v4 x.Rate∧Sl S h Bm v5 x.Band.Lo∧Sl S h Bm v6 x.Band.Hi∧AI x.Positions∧AI x.Speed∧AI x.Leak∧AI x.Crest∧AI x.Num∧AI x.Den∧AI x.Prime∧AI x.Break∧AI x.BackNum∧AI x.BackDen∧AI x.Delay
 len:=λ⟨_,_,_,h,_⟩=>by rw[h];rfl
 one:=by
  rintro S h cs x ⟨v4,v5,v6,rfl,k0,k1,k2,k3,k4,k5,k6,k7,k8,k9,k10,k11,k12,k13,k14,k15,k16,k17⟩ v hv
  simp only[List.mem_cons,List.not_mem_nil,or_false] at hv
  rcases hv with rfl|rfl|rfl|rfl|rfl|rfl|rfl|rfl|rfl|rfl|rfl|rfl|rfl|rfl|rfl|rfl|rfl|rfl<;>first|rfl|exact Sl.one ‹_› |exact(‹_∧_›).2|(obtain ⟨_,_,rfl,_⟩:=Rd.fn ‹_›;rfl)|(obtain ⟨_,_,rfl,_⟩:=Rd.fnr ‹_›;rfl)
 mono:=by
  rintro S S' h h' cs x ⟨v4,v5,v6,rfl,k0,k1,k2,k3,k4,k5,k6,k7,k8,k9,k10,k11,k12,k13,k14,k15,k16,k17⟩ s e
  exact⟨v4,v5,v6,rfl,k0,k1,k2,k3,k4.mono s e,k5.mono s e,k6.mono s e,k7,k8,k9,k10,k11,k12,k13,k14,k15,k16,k17⟩
theorem Bh.ex {S h v}{x:Au}(k:Rd S h Bh v x):∃v4 v5 v6:Value,v= .agg #[.string x.Name,.int .i64 x.Kind,.int .i64 x.From,.int .i64 x.To,v4,v5,v6,.int .i64 x.Positions,.int .i64 x.Speed,.int .i64 x.Leak,.int .i64 x.Crest,.int .i64 x.Num,.int .i64 x.Den,.int .i64 x.Prime,.int .i64 x.Break,.int .i64 x.BackNum,.int .i64 x.BackDen,.int .i64 x.Delay]∧x.Name.size≤maxLen∧AI x.Kind∧AI x.From∧AI x.To∧Sl S h Bm v4 x.Rate∧Sl S h Bm v5 x.Band.Lo∧Sl S h Bm v6 x.Band.Hi∧AI x.Positions∧AI x.Speed∧AI x.Leak∧AI x.Crest∧AI x.Num∧AI x.Den∧AI x.Prime∧AI x.Break∧AI x.BackNum∧AI x.BackDen∧AI x.Delay:=by obtain⟨_,rfl,v4,v5,v6,rfl,k⟩:=k;exact⟨v4,v5,v6,rfl,k⟩
theorem Bh.mk {S h}{x:Au}{v4 v5 v6:Value}(k0:x.Name.size≤maxLen) (k1:AI x.Kind) (k2:AI x.From) (k3:AI x.To) (k4:Sl S h Bm v4 x.Rate) (k5:Sl S h Bm v5 x.Band.Lo) (k6:Sl S h Bm v6 x.Band.Hi) (k7:AI x.Positions) (k8:AI x.Speed) (k9:AI x.Leak) (k10:AI x.Crest) (k11:AI x.Num) (k12:AI x.Den) (k13:AI x.Prime) (k14:AI x.Break) (k15:AI x.BackNum) (k16:AI x.BackDen) (k17:AI x.Delay):Rd S h Bh (.agg #[.string x.Name,.int .i64 x.Kind,.int .i64 x.From,.int .i64 x.To,v4,v5,v6,.int .i64 x.Positions,.int .i64 x.Speed,.int .i64 x.Leak,.int .i64 x.Crest,.int .i64 x.Num,.int .i64 x.Den,.int .i64 x.Prime,.int .i64 x.Break,.int .i64 x.BackNum,.int .i64 x.BackDen,.int .i64 x.Delay]) x:=⟨_,rfl,v4,v5,v6,rfl,k0,k1,k2,k3,k4,k5,k6,k7,k8,k9,k10,k11,k12,k13,k14,k15,k16,k17⟩
theorem Au.f_Name:El Bh 0 AN.str (·.Name):=by
 rintro S h cs x ⟨v4,v5,v6,rfl,k0,k1,k2,k3,k4,k5,k6,k7,k8,k9,k10,k11,k12,k13,k14,k15,k16,k17⟩
 exact⟨rfl,k0⟩
theorem Au.f_Kind:El Bh 1 AN.int (·.Kind):=by
 rintro S h cs x ⟨v4,v5,v6,rfl,k0,k1,k2,k3,k4,k5,k6,k7,k8,k9,k10,k11,k12,k13,k14,k15,k16,k17⟩
 exact⟨rfl,k1⟩
theorem Au.f_To:El Bh 3 AN.int (·.To):=by
 rintro S h cs x ⟨v4,v5,v6,rfl,k0,k1,k2,k3,k4,k5,k6,k7,k8,k9,k10,k11,k12,k13,k14,k15,k16,k17⟩
 exact⟨rfl,k3⟩
theorem JB:El Bh 4 (AN.sl Bm) (·.Rate):=by
 rintro S h cs x ⟨v4,v5,v6,rfl,k0,k1,k2,k3,k4,k5,k6,k7,k8,k9,k10,k11,k12,k13,k14,k15,k16,k17⟩
 exact⟨_,rfl,k4⟩
theorem IK:El Bh 5 LH (·.Band):=by
 rintro S h cs x ⟨v4,v5,v6,rfl,k0,k1,k2,k3,k4,k5,k6,k7,k8,k9,k10,k11,k12,k13,k14,k15,k16,k17⟩
 exact⟨_,_,rfl,k5,k6⟩
theorem Dz:El Bh 7 AN.int (·.Positions):=by
 rintro S h cs x ⟨v4,v5,v6,rfl,k0,k1,k2,k3,k4,k5,k6,k7,k8,k9,k10,k11,k12,k13,k14,k15,k16,k17⟩
 exact⟨rfl,k7⟩
theorem Ib:El Bh 8 AN.int (·.Speed):=by
 rintro S h cs x ⟨v4,v5,v6,rfl,k0,k1,k2,k3,k4,k5,k6,k7,k8,k9,k10,k11,k12,k13,k14,k15,k16,k17⟩
 exact⟨rfl,k8⟩
theorem LK:El Bh 9 AN.int (·.Leak):=by
 rintro S h cs x ⟨v4,v5,v6,rfl,k0,k1,k2,k3,k4,k5,k6,k7,k8,k9,k10,k11,k12,k13,k14,k15,k16,k17⟩
 exact⟨rfl,k9⟩
theorem Ki:El Bh 10 AN.int (·.Crest):=by
 rintro S h cs x ⟨v4,v5,v6,rfl,k0,k1,k2,k3,k4,k5,k6,k7,k8,k9,k10,k11,k12,k13,k14,k15,k16,k17⟩
 exact⟨rfl,k10⟩
theorem Au.f_Num:El Bh 11 AN.int (·.Num):=by
 rintro S h cs x ⟨v4,v5,v6,rfl,k0,k1,k2,k3,k4,k5,k6,k7,k8,k9,k10,k11,k12,k13,k14,k15,k16,k17⟩
 exact⟨rfl,k11⟩
theorem Au.f_Den:El Bh 12 AN.int (·.Den):=by
 rintro S h cs x ⟨v4,v5,v6,rfl,k0,k1,k2,k3,k4,k5,k6,k7,k8,k9,k10,k11,k12,k13,k14,k15,k16,k17⟩
 exact⟨rfl,k12⟩
theorem JW:El Bh 13 AN.int (·.Prime):=by
 rintro S h cs x ⟨v4,v5,v6,rfl,k0,k1,k2,k3,k4,k5,k6,k7,k8,k9,k10,k11,k12,k13,k14,k15,k16,k17⟩
 exact⟨rfl,k13⟩
theorem JX:El Bh 14 AN.int (·.Break):=by
 rintro S h cs x ⟨v4,v5,v6,rfl,k0,k1,k2,k3,k4,k5,k6,k7,k8,k9,k10,k11,k12,k13,k14,k15,k16,k17⟩
 exact⟨rfl,k14⟩
theorem Hl:El Bh 15 AN.int (·.BackNum):=by
 rintro S h cs x ⟨v4,v5,v6,rfl,k0,k1,k2,k3,k4,k5,k6,k7,k8,k9,k10,k11,k12,k13,k14,k15,k16,k17⟩
 exact⟨rfl,k15⟩
theorem Gm:El Bh 16 AN.int (·.BackDen):=by
 rintro S h cs x ⟨v4,v5,v6,rfl,k0,k1,k2,k3,k4,k5,k6,k7,k8,k9,k10,k11,k12,k13,k14,k15,k16,k17⟩
 exact⟨rfl,k16⟩
structure LQ where
 Name:ByteArray
 Place:Int
 Flood:Int
 Lead:Int
 People:Int
 Watch:Int
 Quorum:Int
instance:Inhabited LQ:=⟨⟨default,default,default,default,default,default,default⟩⟩
@[reducible] def LQ.v (x:LQ):List Go.Value:=[.string x.Name,.int .i64 x.Place,.int .i64 x.Flood,.int .i64 x.Lead,.int .i64 x.People,.int .i64 x.Watch,.int .i64 x.Quorum]
def LQ.ok (x:LQ):Prop:=x.Name.size≤maxLen∧AI x.Place∧AI x.Flood∧AI x.Lead∧AI x.People∧AI x.Watch∧AI x.Quorum
def F6:AN LQ where
 sz:=7
 ag:=true
 rd:=λ_ _ cs x=>cs=x.v∧x.ok
 len:=λ⟨h,_⟩=>by rw[h];rfl
 one:=λ{_ _ _ x} ⟨h,_⟩ v hv=>by
  rw[h] at hv
  simp only[LQ.v,List.mem_cons,List.not_mem_nil,or_false] at hv
  rcases hv with rfl|rfl|rfl|rfl|rfl|rfl|rfl<;>rfl
 mono:=λh _ _=>h
theorem F6.ex {S h v}{x:LQ}(k:Rd S h F6 v x):v= .agg #[.string x.Name,.int .i64 x.Place,.int .i64 x.Flood,.int .i64 x.Lead,.int .i64 x.People,.int .i64 x.Watch,.int .i64 x.Quorum]∧x.ok:=by obtain⟨_,rfl,rfl,h⟩:=k;exact⟨rfl,h⟩
theorem F6.mk {S h}{x:LQ}(k:x.ok):Rd S h F6 (.agg #[.string x.Name,.int .i64 x.Place,.int .i64 x.Flood,.int .i64 x.Lead,.int .i64 x.People,.int .i64 x.Watch,.int .i64 x.Quorum]) x:=⟨x.v,rfl,rfl,k⟩
theorem LQ.f_Name:El F6 0 AN.str (·.Name):=by
 rintro S h cs x ⟨rfl,⟨k0,k1,k2,k3,k4,k5,k6⟩⟩
 exact⟨rfl,k0⟩
structure JC where
 Name:ByteArray
 Kind:Int
 Target:Int
 Err:Int
 Drift:Int
instance:Inhabited JC:=⟨⟨default,default,default,default,default⟩⟩
@[reducible] def JC.v (x:JC):List Go.Value:=[.string x.Name,.int .i64 x.Kind,.int .i64 x.Target,.int .i64 x.Err,.int .i64 x.Drift]
def JC.ok (x:JC):Prop:=x.Name.size≤maxLen∧AI x.Kind∧AI x.Target∧AI x.Err∧AI x.Drift
def D4:AN JC where
 sz:=5
 ag:=true
 rd:=λ_ _ cs x=>cs=x.v∧x.ok
 len:=λ⟨h,_⟩=>by rw[h];rfl
 one:=λ{_ _ _ x} ⟨h,_⟩ v hv=>by
  rw[h] at hv
  simp only[JC.v,List.mem_cons,List.not_mem_nil,or_false] at hv
  rcases hv with rfl|rfl|rfl|rfl|rfl<;>rfl
 mono:=λh _ _=>h
theorem D4.ex {S h v}{x:JC}(k:Rd S h D4 v x):v= .agg #[.string x.Name,.int .i64 x.Kind,.int .i64 x.Target,.int .i64 x.Err,.int .i64 x.Drift]∧x.ok:=by obtain⟨_,rfl,rfl,h⟩:=k;exact⟨rfl,h⟩
theorem D4.mk {S h}{x:JC}(k:x.ok):Rd S h D4 (.agg #[.string x.Name,.int .i64 x.Kind,.int .i64 x.Target,.int .i64 x.Err,.int .i64 x.Drift]) x:=⟨x.v,rfl,rfl,k⟩
theorem JC.f_Name:El D4 0 AN.str (·.Name):=by
 rintro S h cs x ⟨rfl,⟨k0,k1,k2,k3,k4⟩⟩
 exact⟨rfl,k0⟩
theorem JC.f_Kind:El D4 1 AN.int (·.Kind):=by
 rintro S h cs x ⟨rfl,⟨k0,k1,k2,k3,k4⟩⟩
 exact⟨rfl,k1⟩
theorem JC.f_Target:El D4 2 AN.int (·.Target):=by
 rintro S h cs x ⟨rfl,⟨k0,k1,k2,k3,k4⟩⟩
 exact⟨rfl,k2⟩
theorem JC.f_Err:El D4 3 AN.int (·.Err):=by
 rintro S h cs x ⟨rfl,⟨k0,k1,k2,k3,k4⟩⟩
 exact⟨rfl,k3⟩
structure LS where
 Name:ByteArray
 From:Int
 To:Int
 Hours:Int
 Flow:Int
 By:Int
 Limit:Int
instance:Inhabited LS:=⟨⟨default,default,default,default,default,default,default⟩⟩
@[reducible] def LS.v (x:LS):List Go.Value:=[.string x.Name,.int .i64 x.From,.int .i64 x.To,.int .i64 x.Hours,.int .i64 x.Flow,.int .i64 x.By,.int .i64 x.Limit]
def LS.ok (x:LS):Prop:=x.Name.size≤maxLen∧AI x.From∧AI x.To∧AI x.Hours∧AI x.Flow∧AI x.By∧AI x.Limit
def Fo:AN LS where
 sz:=7
 ag:=true
 rd:=λ_ _ cs x=>cs=x.v∧x.ok
 len:=λ⟨h,_⟩=>by rw[h];rfl
 one:=λ{_ _ _ x} ⟨h,_⟩ v hv=>by
  rw[h] at hv
  simp only[LS.v,List.mem_cons,List.not_mem_nil,or_false] at hv
  rcases hv with rfl|rfl|rfl|rfl|rfl|rfl|rfl<;>rfl
 mono:=λh _ _=>h
theorem Fo.ex {S h v}{x:LS}(k:Rd S h Fo v x):v= .agg #[.string x.Name,.int .i64 x.From,.int .i64 x.To,.int .i64 x.Hours,.int .i64 x.Flow,.int .i64 x.By,.int .i64 x.Limit]∧x.ok:=by obtain⟨_,rfl,rfl,h⟩:=k;exact⟨rfl,h⟩
theorem Fo.mk {S h}{x:LS}(k:x.ok):Rd S h Fo (.agg #[.string x.Name,.int .i64 x.From,.int .i64 x.To,.int .i64 x.Hours,.int .i64 x.Flow,.int .i64 x.By,.int .i64 x.Limit]) x:=⟨x.v,rfl,rfl,k⟩
theorem LS.f_Name:El Fo 0 AN.str (·.Name):=by
 rintro S h cs x ⟨rfl,⟨k0,k1,k2,k3,k4,k5,k6⟩⟩
 exact⟨rfl,k0⟩
theorem LS.f_To:El Fo 2 AN.int (·.To):=by
 rintro S h cs x ⟨rfl,⟨k0,k1,k2,k3,k4,k5,k6⟩⟩
 exact⟨rfl,k2⟩
structure Hj where
 Name:ByteArray
 Room:Int
instance:Inhabited Hj:=⟨⟨default,default⟩⟩
@[reducible] def Hj.v (x:Hj):List Go.Value:=[.string x.Name,.int .i64 x.Room]
def Hj.ok (x:Hj):Prop:=x.Name.size≤maxLen∧AI x.Room
def Cw:AN Hj where
 sz:=2
 ag:=true
 rd:=λ_ _ cs x=>cs=x.v∧x.ok
 len:=λ⟨h,_⟩=>by rw[h];rfl
 one:=λ{_ _ _ x} ⟨h,_⟩ v hv=>by
  rw[h] at hv
  simp only[Hj.v,List.mem_cons,List.not_mem_nil,or_false] at hv
  rcases hv with rfl|rfl<;>rfl
 mono:=λh _ _=>h
theorem Cw.ex {S h v}{x:Hj}(k:Rd S h Cw v x):v= .agg #[.string x.Name,.int .i64 x.Room]∧x.ok:=by obtain⟨_,rfl,rfl,h⟩:=k;exact⟨rfl,h⟩
theorem Cw.mk {S h}{x:Hj}(k:x.ok):Rd S h Cw (.agg #[.string x.Name,.int .i64 x.Room]) x:=⟨x.v,rfl,rfl,k⟩
theorem Hj.f_Name:El Cw 0 AN.str (·.Name):=by
 rintro S h cs x ⟨rfl,⟨k0,k1⟩⟩
 exact⟨rfl,k0⟩
theorem Hj.f_Room:El Cw 1 AN.int (·.Room):=by
 rintro S h cs x ⟨rfl,⟨k0,k1⟩⟩
 exact⟨rfl,k1⟩
structure AZ where
 Name:ByteArray
 Owners:(List ByteArray)
 Cells:Int
 Places:(List Dh)
 Links:(List Au)
 Towns:(List LQ)
 Gauges:(List JC)
 Roads:(List LS)
 Shelters:(List Hj)
 Room:(List Int)
 Err:Int
instance:Inhabited AZ:=⟨⟨default,default,default,default,default,default,default,default,default,default,default⟩⟩
def B0:AN AZ where
 sz:=11
 ag:=true
 rd:=λS h cs x=>∃v1 v3 v4 v5 v6 v7 v8 v9:Value,cs=[.string x.Name,v1,.int .i64 x.Cells,v3,v4,v5,v6,v7,v8,v9,.int .i64 x.Err]∧x.Name.size≤maxLen∧Sl S h AN.str v1 x.Owners∧AI x.Cells∧Sl S h Br v3 x.Places∧Sl S h Bh v4 x.Links∧Sl S h F6 v5 x.Towns∧Sl S h D4 v6 x.Gauges∧Sl S h Fo v7 x.Roads∧Sl S h Cw v8 x.Shelters∧Sl S h AN.int v9 x.Room∧AI x.Err
 len:=λ⟨_,_,_,_,_,_,_,_,h,_⟩=>by rw[h];rfl
 one:=by
  rintro S h cs x ⟨v1,v3,v4,v5,v6,v7,v8,v9,rfl,k0,k1,k2,k3,k4,k5,k6,k7,k8,k9,k10⟩ v hv
  simp only[List.mem_cons,List.not_mem_nil,or_false] at hv
  rcases hv with rfl|rfl|rfl|rfl|rfl|rfl|rfl|rfl|rfl|rfl|rfl<;>first|rfl|exact Sl.one ‹_› |exact(‹_∧_›).2|(obtain ⟨_,_,rfl,_⟩:=Rd.fn ‹_›;rfl)|(obtain ⟨_,_,rfl,_⟩:=Rd.fnr ‹_›;rfl)
 mono:=by
  rintro S S' h h' cs x ⟨v1,v3,v4,v5,v6,v7,v8,v9,rfl,k0,k1,k2,k3,k4,k5,k6,k7,k8,k9,k10⟩ s e
  exact⟨v1,v3,v4,v5,v6,v7,v8,v9,rfl,k0,k1.mono s e,k2,k3.mono s e,k4.mono s e,k5.mono s e,k6.mono s e,k7.mono s e,k8.mono s e,k9.mono s e,k10⟩
theorem B0.ex {S h v}{x:AZ}(k:Rd S h B0 v x):∃v1 v3 v4 v5 v6 v7 v8 v9:Value,v= .agg #[.string x.Name,v1,.int .i64 x.Cells,v3,v4,v5,v6,v7,v8,v9,.int .i64 x.Err]∧x.Name.size≤maxLen∧Sl S h AN.str v1 x.Owners∧AI x.Cells∧Sl S h Br v3 x.Places∧Sl S h Bh v4 x.Links∧Sl S h F6 v5 x.Towns∧Sl S h D4 v6 x.Gauges∧Sl S h Fo v7 x.Roads∧Sl S h Cw v8 x.Shelters∧Sl S h AN.int v9 x.Room∧AI x.Err:=by obtain⟨_,rfl,v1,v3,v4,v5,v6,v7,v8,v9,rfl,k⟩:=k;exact⟨v1,v3,v4,v5,v6,v7,v8,v9,rfl,k⟩
theorem B0.mk {S h}{x:AZ}{v1 v3 v4 v5 v6 v7 v8 v9:Value}(k0:x.Name.size≤maxLen) (k1:Sl S h AN.str v1 x.Owners) (k2:AI x.Cells) (k3:Sl S h Br v3 x.Places) (k4:Sl S h Bh v4 x.Links) (k5:Sl S h F6 v5 x.Towns) (k6:Sl S h D4 v6 x.Gauges) (k7:Sl S h Fo v7 x.Roads) (k8:Sl S h Cw v8 x.Shelters) (k9:Sl S h AN.int v9 x.Room) (k10:AI x.Err):Rd S h B0 (.agg #[.string x.Name,v1,.int .i64 x.Cells,v3,v4,v5,v6,v7,v8,v9,.int .i64 x.Err]) x:=⟨_,rfl,v1,v3,v4,v5,v6,v7,v8,v9,rfl,k0,k1,k2,k3,k4,k5,k6,k7,k8,k9,k10⟩
theorem AZ.f_Name:El B0 0 AN.str (·.Name):=by
 rintro S h cs x ⟨v1,v3,v4,v5,v6,v7,v8,v9,rfl,k0,k1,k2,k3,k4,k5,k6,k7,k8,k9,k10⟩
 exact⟨rfl,k0⟩
theorem EB:El B0 1 (AN.sl AN.str) (·.Owners):=by
 rintro S h cs x ⟨v1,v3,v4,v5,v6,v7,v8,v9,rfl,k0,k1,k2,k3,k4,k5,k6,k7,k8,k9,k10⟩
 exact⟨_,rfl,k1⟩
theorem KM:El B0 2 AN.int (·.Cells):=by
 rintro S h cs x ⟨v1,v3,v4,v5,v6,v7,v8,v9,rfl,k0,k1,k2,k3,k4,k5,k6,k7,k8,k9,k10⟩
 exact⟨rfl,k2⟩
theorem BS:El B0 3 (AN.sl Br) (·.Places):=by
 rintro S h cs x ⟨v1,v3,v4,v5,v6,v7,v8,v9,rfl,k0,k1,k2,k3,k4,k5,k6,k7,k8,k9,k10⟩
 exact⟨_,rfl,k3⟩
theorem DU:El B0 4 (AN.sl Bh) (·.Links):=by
 rintro S h cs x ⟨v1,v3,v4,v5,v6,v7,v8,v9,rfl,k0,k1,k2,k3,k4,k5,k6,k7,k8,k9,k10⟩
 exact⟨_,rfl,k4⟩
theorem IC:El B0 5 (AN.sl F6) (·.Towns):=by
 rintro S h cs x ⟨v1,v3,v4,v5,v6,v7,v8,v9,rfl,k0,k1,k2,k3,k4,k5,k6,k7,k8,k9,k10⟩
 exact⟨_,rfl,k5⟩
theorem Jr:El B0 6 (AN.sl D4) (·.Gauges):=by
 rintro S h cs x ⟨v1,v3,v4,v5,v6,v7,v8,v9,rfl,k0,k1,k2,k3,k4,k5,k6,k7,k8,k9,k10⟩
 exact⟨_,rfl,k6⟩
theorem KL:El B0 7 (AN.sl Fo) (·.Roads):=by
 rintro S h cs x ⟨v1,v3,v4,v5,v6,v7,v8,v9,rfl,k0,k1,k2,k3,k4,k5,k6,k7,k8,k9,k10⟩
 exact⟨_,rfl,k7⟩
theorem Hx:El B0 8 (AN.sl Cw) (·.Shelters):=by
 rintro S h cs x ⟨v1,v3,v4,v5,v6,v7,v8,v9,rfl,k0,k1,k2,k3,k4,k5,k6,k7,k8,k9,k10⟩
 exact⟨_,rfl,k8⟩
theorem AZ.f_Room:El B0 9 (AN.sl AN.int) (·.Room):=by
 rintro S h cs x ⟨v1,v3,v4,v5,v6,v7,v8,v9,rfl,k0,k1,k2,k3,k4,k5,k6,k7,k8,k9,k10⟩
 exact⟨_,rfl,k9⟩
theorem AZ.f_Err:El B0 10 AN.int (·.Err):=by
 rintro S h cs x ⟨v1,v3,v4,v5,v6,v7,v8,v9,rfl,k0,k1,k2,k3,k4,k5,k6,k7,k8,k9,k10⟩
 exact⟨rfl,k10⟩
structure Az where
 At:Int
 To:Int
 Part:(List Int)
instance:Inhabited Az:=⟨⟨default,default,default⟩⟩
def An:AN Az where
 sz:=3
 ag:=true
 rd:=λS h cs x=>∃v2:Value,cs=[.int .i64 x.At,.int .i64 x.To,v2]∧AI x.At∧AI x.To∧Sl S h AN.int v2 x.Part
 len:=λ⟨_,h,_⟩=>by rw[h];rfl
 one:=by
  rintro S h cs x ⟨v2,rfl,k0,k1,k2⟩ v hv
  simp only[List.mem_cons,List.not_mem_nil,or_false] at hv
  rcases hv with rfl|rfl|rfl<;>first|rfl|exact Sl.one ‹_› |exact(‹_∧_›).2|(obtain ⟨_,_,rfl,_⟩:=Rd.fn ‹_›;rfl)|(obtain ⟨_,_,rfl,_⟩:=Rd.fnr ‹_›;rfl)
 mono:=by
  rintro S S' h h' cs x ⟨v2,rfl,k0,k1,k2⟩ s e
  exact⟨v2,rfl,k0,k1,k2.mono s e⟩
theorem An.ex {S h v}{x:Az}(k:Rd S h An v x):∃v2:Value,v= .agg #[.int .i64 x.At,.int .i64 x.To,v2]∧AI x.At∧AI x.To∧Sl S h AN.int v2 x.Part:=by obtain⟨_,rfl,v2,rfl,k⟩:=k;exact⟨v2,rfl,k⟩
theorem An.mk {S h}{x:Az}{v2:Value}(k0:AI x.At) (k1:AI x.To) (k2:Sl S h AN.int v2 x.Part):Rd S h An (.agg #[.int .i64 x.At,.int .i64 x.To,v2]) x:=⟨_,rfl,v2,rfl,k0,k1,k2⟩
theorem PK:El An 0 AN.int (·.At):=by
 rintro S h cs x ⟨v2,rfl,k0,k1,k2⟩
 exact⟨rfl,k0⟩
theorem Az.f_To:El An 1 AN.int (·.To):=by
 rintro S h cs x ⟨v2,rfl,k0,k1,k2⟩
 exact⟨rfl,k1⟩
theorem Az.f_Part:El An 2 (AN.sl AN.int) (·.Part):=by
 rintro S h cs x ⟨v2,rfl,k0,k1,k2⟩
 exact⟨_,rfl,k2⟩
structure Ak where
 Pos:Int
 Target:Int
 Stuck:Bool
 Open:Bool
instance:Inhabited Ak:=⟨⟨default,default,default,default⟩⟩
@[reducible] def Ak.v (x:Ak):List Go.Value:=[.int .i64 x.Pos,.int .i64 x.Target,.bool x.Stuck,.bool x.Open]
def Ak.ok (x:Ak):Prop:=AI x.Pos∧AI x.Target
def A4:AN Ak where
 sz:=4
 ag:=true
 rd:=λ_ _ cs x=>cs=x.v∧x.ok
 len:=λ⟨h,_⟩=>by rw[h];rfl
 one:=λ{_ _ _ x} ⟨h,_⟩ v hv=>by
  rw[h] at hv
  simp only[Ak.v,List.mem_cons,List.not_mem_nil,or_false] at hv
  rcases hv with rfl|rfl|rfl|rfl<;>rfl
 mono:=λh _ _=>h
theorem A4.ex {S h v}{x:Ak}(k:Rd S h A4 v x):v= .agg #[.int .i64 x.Pos,.int .i64 x.Target,.bool x.Stuck,.bool x.Open]∧x.ok:=by obtain⟨_,rfl,rfl,h⟩:=k;exact⟨rfl,h⟩
theorem A4.mk {S h}{x:Ak}(k:x.ok):Rd S h A4 (.agg #[.int .i64 x.Pos,.int .i64 x.Target,.bool x.Stuck,.bool x.Open]) x:=⟨x.v,rfl,rfl,k⟩
theorem ME:El A4 0 AN.int (·.Pos):=by
 rintro S h cs x ⟨rfl,⟨k0,k1⟩⟩
 exact⟨rfl,k0⟩
theorem Ak.f_Target:El A4 1 AN.int (·.Target):=by
 rintro S h cs x ⟨rfl,⟨k0,k1⟩⟩
 exact⟨rfl,k1⟩
theorem Pc:El A4 2 AN.bool (·.Stuck):=by
 rintro S h cs x ⟨rfl,⟨k0,k1⟩⟩
 exact rfl
theorem Qw:El A4 3 AN.bool (·.Open):=by
 rintro S h cs x ⟨rfl,⟨k0,k1⟩⟩
 exact rfl
structure Al where
 Hour:Int
 Own:(List (List Int))
 Rem:(List Int)
 Queue:(List Az)
 Gates:(List Ak)
 In:(List Int)
 Out:(List Int)
instance:Inhabited Al:=⟨⟨default,default,default,default,default,default,default⟩⟩
def CL:AN Al where
 sz:=7
 ag:=true
 rd:=λS h cs x=>∃v1 v2 v3 v4 v5 v6:Value,cs=[.int .i64 x.Hour,v1,v2,v3,v4,v5,v6]∧AI x.Hour∧Sl S h (AN.sl AN.int) v1 x.Own∧Sl S h AN.int v2 x.Rem∧Sl S h An v3 x.Queue∧Sl S h A4 v4 x.Gates∧Sl S h AN.int v5 x.In∧Sl S h AN.int v6 x.Out
 len:=λ⟨_,_,_,_,_,_,h,_⟩=>by rw[h];rfl
 one:=by
  rintro S h cs x ⟨v1,v2,v3,v4,v5,v6,rfl,k0,k1,k2,k3,k4,k5,k6⟩ v hv
  simp only[List.mem_cons,List.not_mem_nil,or_false] at hv
  rcases hv with rfl|rfl|rfl|rfl|rfl|rfl|rfl<;>first|rfl|exact Sl.one ‹_› |exact(‹_∧_›).2|(obtain ⟨_,_,rfl,_⟩:=Rd.fn ‹_›;rfl)|(obtain ⟨_,_,rfl,_⟩:=Rd.fnr ‹_›;rfl)
 mono:=by
  rintro S S' h h' cs x ⟨v1,v2,v3,v4,v5,v6,rfl,k0,k1,k2,k3,k4,k5,k6⟩ s e
  exact⟨v1,v2,v3,v4,v5,v6,rfl,k0,k1.mono s e,k2.mono s e,k3.mono s e,k4.mono s e,k5.mono s e,k6.mono s e⟩
theorem CL.ex {S h v}{x:Al}(k:Rd S h CL v x):∃v1 v2 v3 v4 v5 v6:Value,v= .agg #[.int .i64 x.Hour,v1,v2,v3,v4,v5,v6]∧AI x.Hour∧Sl S h (AN.sl AN.int) v1 x.Own∧Sl S h AN.int v2 x.Rem∧Sl S h An v3 x.Queue∧Sl S h A4 v4 x.Gates∧Sl S h AN.int v5 x.In∧Sl S h AN.int v6 x.Out:=by obtain⟨_,rfl,v1,v2,v3,v4,v5,v6,rfl,k⟩:=k;exact⟨v1,v2,v3,v4,v5,v6,rfl,k⟩
theorem CL.mk {S h}{x:Al}{v1 v2 v3 v4 v5 v6:Value}(k0:AI x.Hour) (k1:Sl S h (AN.sl AN.int) v1 x.Own) (k2:Sl S h AN.int v2 x.Rem) (k3:Sl S h An v3 x.Queue) (k4:Sl S h A4 v4 x.Gates) (k5:Sl S h AN.int v5 x.In) (k6:Sl S h AN.int v6 x.Out):Rd S h CL (.agg #[.int .i64 x.Hour,v1,v2,v3,v4,v5,v6]) x:=⟨_,rfl,v1,v2,v3,v4,v5,v6,rfl,k0,k1,k2,k3,k4,k5,k6⟩
theorem Al.f_Hour:El CL 0 AN.int (·.Hour):=by
 rintro S h cs x ⟨v1,v2,v3,v4,v5,v6,rfl,k0,k1,k2,k3,k4,k5,k6⟩
 exact⟨rfl,k0⟩
theorem JA:El CL 1 (AN.sl (AN.sl AN.int)) (·.Own):=by
 rintro S h cs x ⟨v1,v2,v3,v4,v5,v6,rfl,k0,k1,k2,k3,k4,k5,k6⟩
 exact⟨_,rfl,k1⟩
theorem I9:El CL 2 (AN.sl AN.int) (·.Rem):=by
 rintro S h cs x ⟨v1,v2,v3,v4,v5,v6,rfl,k0,k1,k2,k3,k4,k5,k6⟩
 exact⟨_,rfl,k2⟩
theorem IA:El CL 3 (AN.sl An) (·.Queue):=by
 rintro S h cs x ⟨v1,v2,v3,v4,v5,v6,rfl,k0,k1,k2,k3,k4,k5,k6⟩
 exact⟨_,rfl,k3⟩
theorem GY:El CL 4 (AN.sl A4) (·.Gates):=by
 rintro S h cs x ⟨v1,v2,v3,v4,v5,v6,rfl,k0,k1,k2,k3,k4,k5,k6⟩
 exact⟨_,rfl,k4⟩
theorem Jk:El CL 5 (AN.sl AN.int) (·.In):=by
 rintro S h cs x ⟨v1,v2,v3,v4,v5,v6,rfl,k0,k1,k2,k3,k4,k5,k6⟩
 exact⟨_,rfl,k5⟩
theorem J2:El CL 6 (AN.sl AN.int) (·.Out):=by
 rintro S h cs x ⟨v1,v2,v3,v4,v5,v6,rfl,k0,k1,k2,k3,k4,k5,k6⟩
 exact⟨_,rfl,k6⟩
structure AQ where
 group:ByteArray
 name:ByteArray
instance:Inhabited AQ:=⟨⟨default,default⟩⟩
@[reducible] def AQ.v (x:AQ):List Go.Value:=[.string x.group,.string x.name]
def AQ.ok (x:AQ):Prop:=x.group.size≤maxLen∧x.name.size≤maxLen
def J0:AN AQ where
 sz:=2
 ag:=true
 rd:=λ_ _ cs x=>cs=x.v∧x.ok
 len:=λ⟨h,_⟩=>by rw[h];rfl
 one:=λ{_ _ _ x} ⟨h,_⟩ v hv=>by
  rw[h] at hv
  simp only[AQ.v,List.mem_cons,List.not_mem_nil,or_false] at hv
  rcases hv with rfl|rfl<;>rfl
 mono:=λh _ _=>h
theorem J0.ex {S h v}{x:AQ}(k:Rd S h J0 v x):v= .agg #[.string x.group,.string x.name]∧x.ok:=by obtain⟨_,rfl,rfl,h⟩:=k;exact⟨rfl,h⟩
theorem J0.mk {S h}{x:AQ}(k:x.ok):Rd S h J0 (.agg #[.string x.group,.string x.name]) x:=⟨x.v,rfl,rfl,k⟩
structure IB where
 Kind:Int
 Link:Int
instance:Inhabited IB:=⟨⟨default,default⟩⟩
@[reducible] def IB.v (x:IB):List Go.Value:=[.int .i64 x.Kind,.int .i64 x.Link]
def IB.ok (x:IB):Prop:=AI x.Kind∧AI x.Link
def Ek:AN IB where
 sz:=2
 ag:=true
 rd:=λ_ _ cs x=>cs=x.v∧x.ok
 len:=λ⟨h,_⟩=>by rw[h];rfl
 one:=λ{_ _ _ x} ⟨h,_⟩ v hv=>by
  rw[h] at hv
  simp only[IB.v,List.mem_cons,List.not_mem_nil,or_false] at hv
  rcases hv with rfl|rfl<;>rfl
 mono:=λh _ _=>h
theorem Ek.ex {S h v}{x:IB}(k:Rd S h Ek v x):v= .agg #[.int .i64 x.Kind,.int .i64 x.Link]∧x.ok:=by obtain⟨_,rfl,rfl,h⟩:=k;exact⟨rfl,h⟩
theorem Ek.mk {S h}{x:IB}(k:x.ok):Rd S h Ek (.agg #[.int .i64 x.Kind,.int .i64 x.Link]) x:=⟨x.v,rfl,rfl,k⟩
theorem IB.f_Kind:El Ek 0 AN.int (·.Kind):=by
 rintro S h cs x ⟨rfl,⟨k0,k1⟩⟩
 exact⟨rfl,k0⟩
theorem IB.f_Link:El Ek 1 AN.int (·.Link):=by
 rintro S h cs x ⟨rfl,⟨k0,k1⟩⟩
 exact⟨rfl,k1⟩
structure MF where
 Link:Int
 Target:Int
instance:Inhabited MF:=⟨⟨default,default⟩⟩
@[reducible] def MF.v (x:MF):List Go.Value:=[.int .i64 x.Link,.int .i64 x.Target]
def MF.ok (x:MF):Prop:=AI x.Link∧AI x.Target
def Hg:AN MF where
 sz:=2
 ag:=true
 rd:=λ_ _ cs x=>cs=x.v∧x.ok
 len:=λ⟨h,_⟩=>by rw[h];rfl
 one:=λ{_ _ _ x} ⟨h,_⟩ v hv=>by
  rw[h] at hv
  simp only[MF.v,List.mem_cons,List.not_mem_nil,or_false] at hv
  rcases hv with rfl|rfl<;>rfl
 mono:=λh _ _=>h
theorem Hg.ex {S h v}{x:MF}(k:Rd S h Hg v x):v= .agg #[.int .i64 x.Link,.int .i64 x.Target]∧x.ok:=by obtain⟨_,rfl,rfl,h⟩:=k;exact⟨rfl,h⟩
theorem Hg.mk {S h}{x:MF}(k:x.ok):Rd S h Hg (.agg #[.int .i64 x.Link,.int .i64 x.Target]) x:=⟨x.v,rfl,rfl,k⟩
theorem MF.f_Link:El Hg 0 AN.int (·.Link):=by
 rintro S h cs x ⟨rfl,⟨k0,k1⟩⟩
 exact⟨rfl,k0⟩
theorem MF.f_Target:El Hg 1 AN.int (·.Target):=by
 rintro S h cs x ⟨rfl,⟨k0,k1⟩⟩
 exact⟨rfl,k1⟩
structure Hw where
 Place:Int
 Owner:Int
 Litres:Int
 To:Int
instance:Inhabited Hw:=⟨⟨default,default,default,default⟩⟩
@[reducible] def Hw.v (x:Hw):List Go.Value:=[.int .i64 x.Place,.int .i64 x.Owner,.int .i64 x.Litres,.int .i64 x.To]
def Hw.ok (x:Hw):Prop:=AI x.Place∧AI x.Owner∧AI x.Litres∧AI x.To
def FJ:AN Hw where
 sz:=4
 ag:=true
 rd:=λ_ _ cs x=>cs=x.v∧x.ok
 len:=λ⟨h,_⟩=>by rw[h];rfl
 one:=λ{_ _ _ x} ⟨h,_⟩ v hv=>by
  rw[h] at hv
  simp only[Hw.v,List.mem_cons,List.not_mem_nil,or_false] at hv
  rcases hv with rfl|rfl|rfl|rfl<;>rfl
 mono:=λh _ _=>h
theorem FJ.ex {S h v}{x:Hw}(k:Rd S h FJ v x):v= .agg #[.int .i64 x.Place,.int .i64 x.Owner,.int .i64 x.Litres,.int .i64 x.To]∧x.ok:=by obtain⟨_,rfl,rfl,h⟩:=k;exact⟨rfl,h⟩
theorem FJ.mk {S h}{x:Hw}(k:x.ok):Rd S h FJ (.agg #[.int .i64 x.Place,.int .i64 x.Owner,.int .i64 x.Litres,.int .i64 x.To]) x:=⟨x.v,rfl,rfl,k⟩
theorem Pb:El FJ 1 AN.int (·.Owner):=by
 rintro S h cs x ⟨rfl,⟨k0,k1,k2,k3⟩⟩
 exact⟨rfl,k1⟩
theorem Hw.f_Litres:El FJ 2 AN.int (·.Litres):=by
 rintro S h cs x ⟨rfl,⟨k0,k1,k2,k3⟩⟩
 exact⟨rfl,k2⟩
theorem Hw.f_To:El FJ 3 AN.int (·.To):=by
 rintro S h cs x ⟨rfl,⟨k0,k1,k2,k3⟩⟩
 exact⟨rfl,k3⟩
structure LR where
 Place:Int
 From:Int
 To:Int
 Litres:Int
instance:Inhabited LR:=⟨⟨default,default,default,default⟩⟩
@[reducible] def LR.v (x:LR):List Go.Value:=[.int .i64 x.Place,.int .i64 x.From,.int .i64 x.To,.int .i64 x.Litres]
def LR.ok (x:LR):Prop:=AI x.Place∧AI x.From∧AI x.To∧AI x.Litres
def F7:AN LR where
 sz:=4
 ag:=true
 rd:=λ_ _ cs x=>cs=x.v∧x.ok
 len:=λ⟨h,_⟩=>by rw[h];rfl
 one:=λ{_ _ _ x} ⟨h,_⟩ v hv=>by
  rw[h] at hv
  simp only[LR.v,List.mem_cons,List.not_mem_nil,or_false] at hv
  rcases hv with rfl|rfl|rfl|rfl<;>rfl
 mono:=λh _ _=>h
theorem F7.ex {S h v}{x:LR}(k:Rd S h F7 v x):v= .agg #[.int .i64 x.Place,.int .i64 x.From,.int .i64 x.To,.int .i64 x.Litres]∧x.ok:=by obtain⟨_,rfl,rfl,h⟩:=k;exact⟨rfl,h⟩
theorem F7.mk {S h}{x:LR}(k:x.ok):Rd S h F7 (.agg #[.int .i64 x.Place,.int .i64 x.From,.int .i64 x.To,.int .i64 x.Litres]) x:=⟨x.v,rfl,rfl,k⟩
theorem LR.f_To:El F7 2 AN.int (·.To):=by
 rintro S h cs x ⟨rfl,⟨k0,k1,k2,k3⟩⟩
 exact⟨rfl,k2⟩
theorem LR.f_Litres:El F7 3 AN.int (·.Litres):=by
 rintro S h cs x ⟨rfl,⟨k0,k1,k2,k3⟩⟩
 exact⟨rfl,k3⟩
structure Ca where
 Rain:(List Int)
 Faults:(List IB)
 Cmds:(List MF)
 Takes:(List Hw)
 Swaps:(List LR)
instance:Inhabited Ca:=⟨⟨default,default,default,default,default⟩⟩
def FV:AN Ca where
 sz:=5
 ag:=true
 rd:=λS h cs x=>∃v0 v1 v2 v3 v4:Value,cs=[v0,v1,v2,v3,v4]∧Sl S h AN.int v0 x.Rain∧Sl S h Ek v1 x.Faults∧Sl S h Hg v2 x.Cmds∧Sl S h FJ v3 x.Takes∧Sl S h F7 v4 x.Swaps
 len:=λ⟨_,_,_,_,_,h,_⟩=>by rw[h];rfl
 one:=by
  rintro S h cs x ⟨v0,v1,v2,v3,v4,rfl,k0,k1,k2,k3,k4⟩ v hv
  simp only[List.mem_cons,List.not_mem_nil,or_false] at hv
  rcases hv with rfl|rfl|rfl|rfl|rfl<;>first|rfl|exact Sl.one ‹_› |exact(‹_∧_›).2|(obtain ⟨_,_,rfl,_⟩:=Rd.fn ‹_›;rfl)|(obtain ⟨_,_,rfl,_⟩:=Rd.fnr ‹_›;rfl)
 mono:=by
  rintro S S' h h' cs x ⟨v0,v1,v2,v3,v4,rfl,k0,k1,k2,k3,k4⟩ s e
  exact⟨v0,v1,v2,v3,v4,rfl,k0.mono s e,k1.mono s e,k2.mono s e,k3.mono s e,k4.mono s e⟩
theorem FV.ex {S h v}{x:Ca}(k:Rd S h FV v x):∃v0 v1 v2 v3 v4:Value,v= .agg #[v0,v1,v2,v3,v4]∧Sl S h AN.int v0 x.Rain∧Sl S h Ek v1 x.Faults∧Sl S h Hg v2 x.Cmds∧Sl S h FJ v3 x.Takes∧Sl S h F7 v4 x.Swaps:=by obtain⟨_,rfl,v0,v1,v2,v3,v4,rfl,k⟩:=k;exact⟨v0,v1,v2,v3,v4,rfl,k⟩
theorem FV.mk {S h}{x:Ca}{v0 v1 v2 v3 v4:Value}(k0:Sl S h AN.int v0 x.Rain) (k1:Sl S h Ek v1 x.Faults) (k2:Sl S h Hg v2 x.Cmds) (k3:Sl S h FJ v3 x.Takes) (k4:Sl S h F7 v4 x.Swaps):Rd S h FV (.agg #[v0,v1,v2,v3,v4]) x:=⟨_,rfl,v0,v1,v2,v3,v4,rfl,k0,k1,k2,k3,k4⟩
theorem Ca.f_Rain:El FV 0 (AN.sl AN.int) (·.Rain):=by
 rintro S h cs x ⟨v0,v1,v2,v3,v4,rfl,k0,k1,k2,k3,k4⟩
 exact⟨_,rfl,k0⟩
theorem Hm:El FV 1 (AN.sl Ek) (·.Faults):=by
 rintro S h cs x ⟨v0,v1,v2,v3,v4,rfl,k0,k1,k2,k3,k4⟩
 exact⟨_,rfl,k1⟩
theorem JY:El FV 2 (AN.sl Hg) (·.Cmds):=by
 rintro S h cs x ⟨v0,v1,v2,v3,v4,rfl,k0,k1,k2,k3,k4⟩
 exact⟨_,rfl,k2⟩
theorem PL:El FV 3 (AN.sl FJ) (·.Takes):=by
 rintro S h cs x ⟨v0,v1,v2,v3,v4,rfl,k0,k1,k2,k3,k4⟩
 exact⟨_,rfl,k3⟩
theorem PM:El FV 4 (AN.sl F7) (·.Swaps):=by
 rintro S h cs x ⟨v0,v1,v2,v3,v4,rfl,k0,k1,k2,k3,k4⟩
 exact⟨_,rfl,k4⟩
structure Av where
 Hour:Int
 From:Int
 To:Int
 Way:Int
 Part:(List Int)
instance:Inhabited Av:=⟨⟨default,default,default,default,default⟩⟩
def BT:AN Av where
 sz:=5
 ag:=true
 rd:=λS h cs x=>∃v4:Value,cs=[.int .i64 x.Hour,.int .i64 x.From,.int .i64 x.To,.int .i64 x.Way,v4]∧AI x.Hour∧AI x.From∧AI x.To∧AI x.Way∧Sl S h AN.int v4 x.Part
 len:=λ⟨_,h,_⟩=>by rw[h];rfl
 one:=by
  rintro S h cs x ⟨v4,rfl,k0,k1,k2,k3,k4⟩ v hv
  simp only[List.mem_cons,List.not_mem_nil,or_false] at hv
  rcases hv with rfl|rfl|rfl|rfl|rfl<;>first|rfl|exact Sl.one ‹_› |exact(‹_∧_›).2|(obtain ⟨_,_,rfl,_⟩:=Rd.fn ‹_›;rfl)|(obtain ⟨_,_,rfl,_⟩:=Rd.fnr ‹_›;rfl)
 mono:=by
  rintro S S' h h' cs x ⟨v4,rfl,k0,k1,k2,k3,k4⟩ s e
  exact⟨v4,rfl,k0,k1,k2,k3,k4.mono s e⟩
theorem BT.ex {S h v}{x:Av}(k:Rd S h BT v x):∃v4:Value,v= .agg #[.int .i64 x.Hour,.int .i64 x.From,.int .i64 x.To,.int .i64 x.Way,v4]∧AI x.Hour∧AI x.From∧AI x.To∧AI x.Way∧Sl S h AN.int v4 x.Part:=by obtain⟨_,rfl,v4,rfl,k⟩:=k;exact⟨v4,rfl,k⟩
theorem BT.mk {S h}{x:Av}{v4:Value}(k0:AI x.Hour) (k1:AI x.From) (k2:AI x.To) (k3:AI x.Way) (k4:Sl S h AN.int v4 x.Part):Rd S h BT (.agg #[.int .i64 x.Hour,.int .i64 x.From,.int .i64 x.To,.int .i64 x.Way,v4]) x:=⟨_,rfl,v4,rfl,k0,k1,k2,k3,k4⟩
theorem Av.f_Hour:El BT 0 AN.int (·.Hour):=by
 rintro S h cs x ⟨v4,rfl,k0,k1,k2,k3,k4⟩
 exact⟨rfl,k0⟩
theorem Av.f_To:El BT 2 AN.int (·.To):=by
 rintro S h cs x ⟨v4,rfl,k0,k1,k2,k3,k4⟩
 exact⟨rfl,k2⟩
theorem FT:El BT 3 AN.int (·.Way):=by
 rintro S h cs x ⟨v4,rfl,k0,k1,k2,k3,k4⟩
 exact⟨rfl,k3⟩
theorem Av.f_Part:El BT 4 (AN.sl AN.int) (·.Part):=by
 rintro S h cs x ⟨v4,rfl,k0,k1,k2,k3,k4⟩
 exact⟨_,rfl,k4⟩
structure Ai where
 b:AZ
 in_:Ca
 s:Al
 moves:(List Av)
 peaks:(List Int)
 sent:(List Az)
instance:Inhabited Ai:=⟨⟨default,default,default,default,default,default⟩⟩
def Kb:AN Ai where
 sz:=26
 ag:=true
 rd:=λS h cs x=>∃v1 v3 v4 v5 v6 v7 v8 v9 v11 v12 v13 v14 v15 v17 v18 v19 v20 v21 v22 v23 v24 v25:Value,cs=[.string x.b.Name,v1,.int .i64 x.b.Cells,v3,v4,v5,v6,v7,v8,v9,.int .i64 x.b.Err,v11,v12,v13,v14,v15,.int .i64 x.s.Hour,v17,v18,v19,v20,v21,v22,v23,v24,v25]∧x.b.Name.size≤maxLen∧Sl S h AN.str v1 x.b.Owners∧AI x.b.Cells∧Sl S h Br v3 x.b.Places∧Sl S h Bh v4 x.b.Links∧Sl S h F6 v5 x.b.Towns∧Sl S h D4 v6 x.b.Gauges∧Sl S h Fo v7 x.b.Roads∧Sl S h Cw v8 x.b.Shelters∧Sl S h AN.int v9 x.b.Room∧AI x.b.Err∧Sl S h AN.int v11 x.in_.Rain∧Sl S h Ek v12 x.in_.Faults∧Sl S h Hg v13 x.in_.Cmds∧Sl S h FJ v14 x.in_.Takes∧Sl S h F7 v15 x.in_.Swaps∧AI x.s.Hour∧Sl S h (AN.sl AN.int) v17 x.s.Own∧Sl S h AN.int v18 x.s.Rem∧Sl S h An v19 x.s.Queue∧Sl S h A4 v20 x.s.Gates∧Sl S h AN.int v21 x.s.In∧Sl S h AN.int v22 x.s.Out∧Sl S h BT v23 x.moves∧Sl S h AN.int v24 x.peaks∧Sl S h An v25 x.sent
 len:=λ⟨_,_,_,_,_,_,_,_,_,_,_,_,_,_,_,_,_,_,_,_,_,_,h,_⟩=>by rw[h];rfl
 one:=by
  rintro S h cs x ⟨v1,v3,v4,v5,v6,v7,v8,v9,v11,v12,v13,v14,v15,v17,v18,v19,v20,v21,v22,v23,v24,v25,rfl,k0,k1,k2,k3,k4,k5,k6,k7,k8,k9,k10,k11,k12,k13,k14,k15,k16,k17,k18,k19,k20,k21,k22,k23,k24,k25⟩ v hv
  simp only[List.mem_cons,List.not_mem_nil,or_false] at hv
  rcases hv with rfl|rfl|rfl|rfl|rfl|rfl|rfl|rfl|rfl|rfl|rfl|rfl|rfl|rfl|rfl|rfl|rfl|rfl|rfl|rfl|rfl|rfl|rfl|rfl|rfl|rfl<;>first|rfl|exact Sl.one ‹_› |exact(‹_∧_›).2|(obtain ⟨_,_,rfl,_⟩:=Rd.fn ‹_›;rfl)|(obtain ⟨_,_,rfl,_⟩:=Rd.fnr ‹_›;rfl)
 mono:=by
  rintro S S' h h' cs x ⟨v1,v3,v4,v5,v6,v7,v8,v9,v11,v12,v13,v14,v15,v17,v18,v19,v20,v21,v22,v23,v24,v25,rfl,k0,k1,k2,k3,k4,k5,k6,k7,k8,k9,k10,k11,k12,k13,k14,k15,k16,k17,k18,k19,k20,k21,k22,k23,k24,k25⟩ s e
  exact⟨v1,v3,v4,v5,v6,v7,v8,v9,v11,v12,v13,v14,v15,v17,v18,v19,v20,v21,v22,v23,v24,v25,rfl,k0,k1.mono s e,k2,k3.mono s e,k4.mono s e,k5.mono s e,k6.mono s e,k7.mono s e,k8.mono s e,k9.mono s e,k10,k11.mono s e,k12.mono s e,k13.mono s e,k14.mono s e,k15.mono s e,k16,k17.mono s e,k18.mono s e,k19.mono s e,k20.mono s e,k21.mono s e,k22.mono s e,k23.mono s e,k24.mono s e,k25.mono s e⟩
theorem Kb.ex {S h v}{x:Ai}(k:Rd S h Kb v x):∃v1 v3 v4 v5 v6 v7 v8 v9 v11 v12 v13 v14 v15 v17 v18 v19 v20 v21 v22 v23 v24 v25:Value,v= .agg #[.string x.b.Name,v1,.int .i64 x.b.Cells,v3,v4,v5,v6,v7,v8,v9,.int .i64 x.b.Err,v11,v12,v13,v14,v15,.int .i64 x.s.Hour,v17,v18,v19,v20,v21,v22,v23,v24,v25]∧x.b.Name.size≤maxLen∧Sl S h AN.str v1 x.b.Owners∧AI x.b.Cells∧Sl S h Br v3 x.b.Places∧Sl S h Bh v4 x.b.Links∧Sl S h F6 v5 x.b.Towns∧Sl S h D4 v6 x.b.Gauges∧Sl S h Fo v7 x.b.Roads∧Sl S h Cw v8 x.b.Shelters∧Sl S h AN.int v9 x.b.Room∧AI x.b.Err∧Sl S h AN.int v11 x.in_.Rain∧Sl S h Ek v12 x.in_.Faults∧Sl S h Hg v13 x.in_.Cmds∧Sl S h FJ v14 x.in_.Takes∧Sl S h F7 v15 x.in_.Swaps∧AI x.s.Hour∧Sl S h (AN.sl AN.int) v17 x.s.Own∧Sl S h AN.int v18 x.s.Rem∧Sl S h An v19 x.s.Queue∧Sl S h A4 v20 x.s.Gates∧Sl S h AN.int v21 x.s.In∧Sl S h AN.int v22 x.s.Out∧Sl S h BT v23 x.moves∧Sl S h AN.int v24 x.peaks∧Sl S h An v25 x.sent:=by obtain⟨_,rfl,v1,v3,v4,v5,v6,v7,v8,v9,v11,v12,v13,v14,v15,v17,v18,v19,v20,v21,v22,v23,v24,v25,rfl,k⟩:=k;exact⟨v1,v3,v4,v5,v6,v7,v8,v9,v11,v12,v13,v14,v15,v17,v18,v19,v20,v21,v22,v23,v24,v25,rfl,k⟩
theorem Kb.mk {S h}{x:Ai}{v1 v3 v4 v5 v6 v7 v8 v9 v11 v12 v13 v14 v15 v17 v18 v19 v20 v21 v22 v23 v24 v25:Value}(k0:x.b.Name.size≤maxLen) (k1:Sl S h AN.str v1 x.b.Owners) (k2:AI x.b.Cells) (k3:Sl S h Br v3 x.b.Places) (k4:Sl S h Bh v4 x.b.Links) (k5:Sl S h F6 v5 x.b.Towns) (k6:Sl S h D4 v6 x.b.Gauges) (k7:Sl S h Fo v7 x.b.Roads) (k8:Sl S h Cw v8 x.b.Shelters) (k9:Sl S h AN.int v9 x.b.Room) (k10:AI x.b.Err) (k11:Sl S h AN.int v11 x.in_.Rain) (k12:Sl S h Ek v12 x.in_.Faults) (k13:Sl S h Hg v13 x.in_.Cmds) (k14:Sl S h FJ v14 x.in_.Takes) (k15:Sl S h F7 v15 x.in_.Swaps) (k16:AI x.s.Hour) (k17:Sl S h (AN.sl AN.int) v17 x.s.Own) (k18:Sl S h AN.int v18 x.s.Rem) (k19:Sl S h An v19 x.s.Queue) (k20:Sl S h A4 v20 x.s.Gates) (k21:Sl S h AN.int v21 x.s.In) (k22:Sl S h AN.int v22 x.s.Out) (k23:Sl S h BT v23 x.moves) (k24:Sl S h AN.int v24 x.peaks) (k25:Sl S h An v25 x.sent):Rd S h Kb (.agg #[.string x.b.Name,v1,.int .i64 x.b.Cells,v3,v4,v5,v6,v7,v8,v9,.int .i64 x.b.Err,v11,v12,v13,v14,v15,.int .i64 x.s.Hour,v17,v18,v19,v20,v21,v22,v23,v24,v25]) x:=⟨_,rfl,v1,v3,v4,v5,v6,v7,v8,v9,v11,v12,v13,v14,v15,v17,v18,v19,v20,v21,v22,v23,v24,v25,rfl,k0,k1,k2,k3,k4,k5,k6,k7,k8,k9,k10,k11,k12,k13,k14,k15,k16,k17,k18,k19,k20,k21,k22,k23,k24,k25⟩
structure AM where
 to_:Int
 delay:Int
 way:Int
 take:((List Int)→Option ((List Int)×(List Int)))
instance:Inhabited AM:=⟨⟨default,default,default,default⟩⟩
def Ao:AN AM where
 sz:=4
 ag:=true
 rd:=λS h cs x=>∃v3:Value,cs=[.int .i64 x.to_,.int .i64 x.delay,.int .i64 x.way,v3]∧AI x.to_∧AI x.delay∧AI x.way∧Rd S h (AN.fnr Tryz.prog (λS h vs (x:(List Int))=>∃w0:Value,vs=[w0]∧Sl S h AN.int w0 x) (λS h v (y:((List Int)×(List Int)))=>∃w0 w1:Value,v= .tuple #[w0,w1]∧Sl S h AN.int w0 y.1∧Sl S h AN.int w1 y.2)) v3 x.take
 len:=λ⟨_,h,_⟩=>by rw[h];rfl
 one:=by
  rintro S h cs x ⟨v3,rfl,k0,k1,k2,k3⟩ v hv
  simp only[List.mem_cons,List.not_mem_nil,or_false] at hv
  rcases hv with rfl|rfl|rfl|rfl<;>first|rfl|exact Sl.one ‹_› |exact(‹_∧_›).2|(obtain ⟨_,_,rfl,_⟩:=Rd.fn ‹_›;rfl)|(obtain ⟨_,_,rfl,_⟩:=Rd.fnr ‹_›;rfl)
 mono:=by
  rintro S S' h h' cs x ⟨v3,rfl,k0,k1,k2,k3⟩ s e
  exact⟨v3,rfl,k0,k1,k2,k3.mono'' s e⟩
theorem Ao.ex {S h v}{x:AM}(k:Rd S h Ao v x):∃v3:Value,v= .agg #[.int .i64 x.to_,.int .i64 x.delay,.int .i64 x.way,v3]∧AI x.to_∧AI x.delay∧AI x.way∧Rd S h (AN.fnr Tryz.prog (λS h vs (x:(List Int))=>∃w0:Value,vs=[w0]∧Sl S h AN.int w0 x) (λS h v (y:((List Int)×(List Int)))=>∃w0 w1:Value,v= .tuple #[w0,w1]∧Sl S h AN.int w0 y.1∧Sl S h AN.int w1 y.2)) v3 x.take:=by obtain⟨_,rfl,v3,rfl,k⟩:=k;exact⟨v3,rfl,k⟩
theorem Ao.mk {S h}{x:AM}{v3:Value}(k0:AI x.to_) (k1:AI x.delay) (k2:AI x.way) (k3:Rd S h (AN.fnr Tryz.prog (λS h vs (x:(List Int))=>∃w0:Value,vs=[w0]∧Sl S h AN.int w0 x) (λS h v (y:((List Int)×(List Int)))=>∃w0 w1:Value,v= .tuple #[w0,w1]∧Sl S h AN.int w0 y.1∧Sl S h AN.int w1 y.2)) v3 x.take):Rd S h Ao (.agg #[.int .i64 x.to_,.int .i64 x.delay,.int .i64 x.way,v3]) x:=⟨_,rfl,v3,rfl,k0,k1,k2,k3⟩
theorem JN:El Ao 0 AN.int (·.to_):=by
 rintro S h cs x ⟨v3,rfl,k0,k1,k2,k3⟩
 exact⟨rfl,k0⟩
theorem Mx:El Ao 1 AN.int (·.delay):=by
 rintro S h cs x ⟨v3,rfl,k0,k1,k2,k3⟩
 exact⟨rfl,k1⟩
theorem Nt:El Ao 2 AN.int (·.way):=by
 rintro S h cs x ⟨v3,rfl,k0,k1,k2,k3⟩
 exact⟨rfl,k2⟩
theorem Na:El Ao 3 (AN.fnr Tryz.prog (λS h vs (x:(List Int))=>∃w0:Value,vs=[w0]∧Sl S h AN.int w0 x) (λS h v (y:((List Int)×(List Int)))=>∃w0 w1:Value,v= .tuple #[w0,w1]∧Sl S h AN.int w0 y.1∧Sl S h AN.int w1 y.2)) (·.take):=by
 rintro S h cs x ⟨v3,rfl,k0,k1,k2,k3⟩
 obtain⟨_,rfl,f_,c_,rfl,q_⟩:=k3
 exact⟨f_,c_,rfl,q_⟩
def Ke:ByteArray:=ByteArray.mk #[0,1,2,2,3,3,3,3,4,4,4,4,4,4,4,4,5,5,5,5,5,5,5,5,5,5,5,5,5,5,5,5,6,6,6,6,6,6,6,6,6,6,6,6,6,6,6,6,6,6,6,6,6,6,6,6,6,6,6,6,6,6,6,6,7,7,7,7,7,7,7,7,7,7,7,7,7,7,7,7,7,7,7,7,7,7,7,7,7,7,7,7,7,7,7,7,7,7,7,7,7,7,7,7,7,7,7,7,7,7,7,7,7,7,7,7,7,7,7,7,7,7,7,7,7,7,7,7,8,8,8,8,8,8,8,8,8,8,8,8,8,8,8,8,8,8,8,8,8,8,8,8,8,8,8,8,8,8,8,8,8,8,8,8,8,8,8,8,8,8,8,8,8,8,8,8,8,8,8,8,8,8,8,8,8,8,8,8,8,8,8,8,8,8,8,8,8,8,8,8,8,8,8,8,8,8,8,8,8,8,8,8,8,8,8,8,8,8,8,8,8,8,8,8,8,8,8,8,8,8,8,8,8,8,8,8,8,8,8,8,8,8,8,8,8,8,8,8,8,8,8,8,8,8,8,8]
def MJ:List ByteArray:=([(ByteArray.mk #[97]),(ByteArray.mk #[99])]:List ByteArray)
def MK:List Dh:=([(⟨(ByteArray.mk #[112]),0,2,120,([(⟨0,0⟩:BI)]:List BI),([100,50]:List Int),1,10,(-1),0,0,[]⟩:Dh)]:List Dh)
end Go.Proofs.YtblcgjadhemlbaaGreat
