import Derived.Test.YtibidnaedddfdaaGreatBCore21
import Derived.Test.YtibidnaedddfdaaGreatRows
namespace Go.Proofs.YtibidnaedddfdaaGreat
set_option linter.unusedSimpArgs false
open Go.RowKit
set_option linter.unusedVariables false
structure AF where
 Lo:Int
 Hi:Int
instance:Inhabited AF:=⟨⟨default,default⟩⟩
@[reducible] def AF.v (x:AF):List Go.Value:=[.int .i64 x.Lo,.int .i64 x.Hi]
def AF.ok (x:AF):Prop:=AB x.Lo∧AB x.Hi
def AH:AW AF where
 sz:=2
 ag:=true
 rd:=λ_ _ cs x=>cs=x.v∧x.ok
 len:=λ⟨h,_⟩=>by rw[h];rfl
 one:=λ{_ _ _ x} ⟨h,_⟩ v hv=>by
  rw[h] at hv
  simp only[AF.v,List.mem_cons,List.not_mem_nil,or_false] at hv
  rcases hv with rfl|rfl<;>rfl
 mono:=λh _ _=>h
theorem AH.ex {S h v}{x:AF}(k:Rd S h AH v x):v= .agg #[.int .i64 x.Lo,.int .i64 x.Hi]∧x.ok:=by obtain⟨_,rfl,rfl,h⟩:=k;exact⟨rfl,h⟩
theorem AH.mk {S h}{x:AF}(k:x.ok):Rd S h AH (.agg #[.int .i64 x.Lo,.int .i64 x.Hi]) x:=⟨x.v,rfl,rfl,k⟩
theorem AF.f_Lo:ED AH 0 AW.int (·.Lo):=by
 rintro S h cs x ⟨rfl,⟨k0,k1⟩⟩
 exact⟨rfl,k0⟩
theorem AF.f_Hi:ED AH 1 AW.int (·.Hi):=by
 rintro S h cs x ⟨rfl,⟨k0,k1⟩⟩
 exact⟨rfl,k1⟩
structure AS where
 Pos:AF
 Target:Int
 Open:AF
instance:Inhabited AS:=⟨⟨default,default,default⟩⟩
@[reducible] def AS.v (x:AS):List Go.Value:=[.int .i64 x.Pos.Lo,.int .i64 x.Pos.Hi,.int .i64 x.Target,.int .i64 x.Open.Lo,.int .i64 x.Open.Hi]
def AS.ok (x:AS):Prop:=AB x.Pos.Lo∧AB x.Pos.Hi∧AB x.Target∧AB x.Open.Lo∧AB x.Open.Hi
def Aa:AW AS where
 sz:=5
 ag:=true
 rd:=λ_ _ cs x=>cs=x.v∧x.ok
 len:=λ⟨h,_⟩=>by rw[h];rfl
 one:=λ{_ _ _ x} ⟨h,_⟩ v hv=>by
  rw[h] at hv
  simp only[AS.v,List.mem_cons,List.not_mem_nil,or_false] at hv
  rcases hv with rfl|rfl|rfl|rfl|rfl<;>rfl
 mono:=λh _ _=>h
theorem Aa.ex {S h v}{x:AS}(k:Rd S h Aa v x):v= .agg #[.int .i64 x.Pos.Lo,.int .i64 x.Pos.Hi,.int .i64 x.Target,.int .i64 x.Open.Lo,.int .i64 x.Open.Hi]∧x.ok:=by obtain⟨_,rfl,rfl,h⟩:=k;exact⟨rfl,h⟩
theorem Aa.mk {S h}{x:AS}(k:x.ok):Rd S h Aa (.agg #[.int .i64 x.Pos.Lo,.int .i64 x.Pos.Hi,.int .i64 x.Target,.int .i64 x.Open.Lo,.int .i64 x.Open.Hi]) x:=⟨x.v,rfl,rfl,k⟩
theorem AS.f_Pos:ED Aa 0 AH (·.Pos):=by
 rintro S h cs x ⟨rfl,⟨k0,k1,k2,k3,k4⟩⟩
 exact⟨rfl,⟨k0,k1⟩⟩
theorem AS.f_Target:ED Aa 2 AW.int (·.Target):=by
 rintro S h cs x ⟨rfl,⟨k0,k1,k2,k3,k4⟩⟩
 exact⟨rfl,k2⟩
theorem AS.f_Open:ED Aa 3 AH (·.Open):=by
 rintro S h cs x ⟨rfl,⟨k0,k1,k2,k3,k4⟩⟩
 exact⟨rfl,⟨k3,k4⟩⟩
theorem AS.u_Target:L0 Aa 2 AW.int (λx y=>{ x with Target:=y}):=by
 refine⟨by decide,?_⟩
 rintro S h c x vs y ⟨rfl,⟨k0,k1,k2,k3,k4⟩⟩ ⟨rfl,j2⟩
 exact⟨rfl,⟨k0,k1,j2,k3,k4⟩⟩
theorem AS.u_Open:L0 Aa 3 AH (λx y=>{ x with Open:=y}):=by
 refine⟨by decide,?_⟩
 rintro S h c x vs y ⟨rfl,⟨k0,k1,k2,k3,k4⟩⟩ ⟨rfl,⟨j3,j4⟩⟩
 exact⟨rfl,⟨k0,k1,k2,j3,j4⟩⟩
structure AX where
 X:Int
 Y:Int
instance:Inhabited AX:=⟨⟨default,default⟩⟩
@[reducible] def AX.v (x:AX):List Go.Value:=[.int .i64 x.X,.int .i64 x.Y]
def AX.ok (x:AX):Prop:=AB x.X∧AB x.Y
def BH:AW AX where
 sz:=2
 ag:=true
 rd:=λ_ _ cs x=>cs=x.v∧x.ok
 len:=λ⟨h,_⟩=>by rw[h];rfl
 one:=λ{_ _ _ x} ⟨h,_⟩ v hv=>by
  rw[h] at hv
  simp only[AX.v,List.mem_cons,List.not_mem_nil,or_false] at hv
  rcases hv with rfl|rfl<;>rfl
 mono:=λh _ _=>h
theorem BH.ex {S h v}{x:AX}(k:Rd S h BH v x):v= .agg #[.int .i64 x.X,.int .i64 x.Y]∧x.ok:=by obtain⟨_,rfl,rfl,h⟩:=k;exact⟨rfl,h⟩
theorem BH.mk {S h}{x:AX}(k:x.ok):Rd S h BH (.agg #[.int .i64 x.X,.int .i64 x.Y]) x:=⟨x.v,rfl,rfl,k⟩
theorem Ic:ED BH 0 AW.int (·.X):=by
 rintro S h cs x ⟨rfl,⟨k0,k1⟩⟩
 exact⟨rfl,k0⟩
theorem Ib:ED BH 1 AW.int (·.Y):=by
 rintro S h cs x ⟨rfl,⟨k0,k1⟩⟩
 exact⟨rfl,k1⟩
structure Ig where
 Lo:(List AX)
 Hi:(List AX)
instance:Inhabited Ig:=⟨⟨default,default⟩⟩
def Jb:AW Ig where
 sz:=2
 ag:=true
 rd:=λS h cs x=>∃v0 v1:Value,cs=[v0,v1]∧Sl S h BH v0 x.Lo∧Sl S h BH v1 x.Hi
 len:=λ⟨_,_,h,_⟩=>by rw[h];rfl
 one:=by
  rintro S h cs x ⟨v0,v1,rfl,k0,k1⟩ v hv
  simp only[List.mem_cons,List.not_mem_nil,or_false] at hv
  rcases hv with rfl|rfl<;>first|rfl|exact Sl.one ‹_› |exact(‹_∧_›).2|(obtain ⟨_,_,rfl,_⟩:=Rd.fn ‹_›;rfl)
 mono:=by
  rintro S S' h h' cs x ⟨v0,v1,rfl,k0,k1⟩ s e
  exact⟨v0,v1,rfl,k0.mono s e,k1.mono s e⟩
theorem Jb.ex {S h v}{x:Ig}(k:Rd S h Jb v x):∃v0 v1:Value,v= .agg #[v0,v1]∧Sl S h BH v0 x.Lo∧Sl S h BH v1 x.Hi:=by obtain⟨_,rfl,v0,v1,rfl,k⟩:=k;exact⟨v0,v1,rfl,k⟩
theorem Jb.mk {S h}{x:Ig}{v0 v1:Value}(k0:Sl S h BH v0 x.Lo) (k1:Sl S h BH v1 x.Hi):Rd S h Jb (.agg #[v0,v1]) x:=⟨_,rfl,v0,v1,rfl,k0,k1⟩
theorem Ig.f_Lo:ED Jb 0 (AW.sl BH) (·.Lo):=by
 rintro S h cs x ⟨v0,v1,rfl,k0,k1⟩
 exact⟨_,rfl,k0⟩
theorem Ig.f_Hi:ED Jb 1 (AW.sl BH) (·.Hi):=by
 rintro S h cs x ⟨v0,v1,rfl,k0,k1⟩
 exact⟨_,rfl,k1⟩
structure AT where
 Name:ByteArray
 Kind:Int
 From:Int
 To:Int
 Rate:(List AX)
 Band:Ig
 Positions:Int
 Speed:Int
 Leak:Int
 Crest:Int
 Num:Int
 Den:Int
 Prime:Int
 Break:Int
 BackNum:Int
 BackDen:Int
 Delay:Int
instance:Inhabited AT:=⟨⟨default,default,default,default,default,default,default,default,default,default,default,default,default,default,default,default,default⟩⟩
def A9:AW AT where
 sz:=18
 ag:=true
 rd:=λS h cs x=>∃v4 v5 v6:Value,cs=[.string x.Name,.int .i64 x.Kind,.int .i64 x.From,.int .i64 x.To,v4,v5,v6,.int .i64 x.Positions,.int .i64 x.Speed,.int .i64 x.Leak,.int .i64 x.Crest,.int .i64 x.Num,.int .i64 x.Den,.int .i64 x.Prime,.int .i64 x.Break,.int .i64 x.BackNum,.int .i64 x.BackDen,.int .i64 x.Delay]∧x.Name.size≤maxLen∧AB x.Kind∧AB x.From∧AB x.To∧Sl S h BH v4 x.Rate∧Sl S h BH v5 x.Band.Lo∧Sl S h BH v6 x.Band.Hi∧AB x.Positions∧AB x.Speed∧AB x.Leak∧AB x.Crest∧AB x.Num∧AB x.Den∧AB x.Prime∧AB x.Break∧AB x.BackNum∧AB x.BackDen∧AB x.Delay
 len:=λ⟨_,_,_,h,_⟩=>by rw[h];rfl
 one:=by
  rintro S h cs x ⟨v4,v5,v6,rfl,k0,k1,k2,k3,k4,k5,k6,k7,k8,k9,k10,k11,k12,k13,k14,k15,k16,k17⟩ v hv
  simp only[List.mem_cons,List.not_mem_nil,or_false] at hv
  rcases hv with rfl|rfl|rfl|rfl|rfl|rfl|rfl|rfl|rfl|rfl|rfl|rfl|rfl|rfl|rfl|rfl|rfl|rfl<;>first|rfl|exact Sl.one ‹_› |exact(‹_∧_›).2|(obtain ⟨_,_,rfl,_⟩:=Rd.fn ‹_›;rfl)
 mono:=by
  rintro S S' h h' cs x ⟨v4,v5,v6,rfl,k0,k1,k2,k3,k4,k5,k6,k7,k8,k9,k10,k11,k12,k13,k14,k15,k16,k17⟩ s e
  exact⟨v4,v5,v6,rfl,k0,k1,k2,k3,k4.mono s e,k5.mono s e,k6.mono s e,k7,k8,k9,k10,k11,k12,k13,k14,k15,k16,k17⟩
theorem A9.ex {S h v}{x:AT}(k:Rd S h A9 v x):∃v4 v5 v6:Value,v= .agg #[.string x.Name,.int .i64 x.Kind,.int .i64 x.From,.int .i64 x.To,v4,v5,v6,.int .i64 x.Positions,.int .i64 x.Speed,.int .i64 x.Leak,.int .i64 x.Crest,.int .i64 x.Num,.int .i64 x.Den,.int .i64 x.Prime,.int .i64 x.Break,.int .i64 x.BackNum,.int .i64 x.BackDen,.int .i64 x.Delay]∧x.Name.size≤maxLen∧AB x.Kind∧AB x.From∧AB x.To∧Sl S h BH v4 x.Rate∧Sl S h BH v5 x.Band.Lo∧Sl S h BH v6 x.Band.Hi∧AB x.Positions∧AB x.Speed∧AB x.Leak∧AB x.Crest∧AB x.Num∧AB x.Den∧AB x.Prime∧AB x.Break∧AB x.BackNum∧AB x.BackDen∧AB x.Delay:=by obtain⟨_,rfl,v4,v5,v6,rfl,k⟩:=k;exact⟨v4,v5,v6,rfl,k⟩
theorem A9.mk {S h}{x:AT}{v4 v5 v6:Value}(k0:x.Name.size≤maxLen) (k1:AB x.Kind) (k2:AB x.From) (k3:AB x.To) (k4:Sl S h BH v4 x.Rate) (k5:Sl S h BH v5 x.Band.Lo) (k6:Sl S h BH v6 x.Band.Hi) (k7:AB x.Positions) (k8:AB x.Speed) (k9:AB x.Leak) (k10:AB x.Crest) (k11:AB x.Num) (k12:AB x.Den) (k13:AB x.Prime) (k14:AB x.Break) (k15:AB x.BackNum) (k16:AB x.BackDen) (k17:AB x.Delay):Rd S h A9 (.agg #[.string x.Name,.int .i64 x.Kind,.int .i64 x.From,.int .i64 x.To,v4,v5,v6,.int .i64 x.Positions,.int .i64 x.Speed,.int .i64 x.Leak,.int .i64 x.Crest,.int .i64 x.Num,.int .i64 x.Den,.int .i64 x.Prime,.int .i64 x.Break,.int .i64 x.BackNum,.int .i64 x.BackDen,.int .i64 x.Delay]) x:=⟨_,rfl,v4,v5,v6,rfl,k0,k1,k2,k3,k4,k5,k6,k7,k8,k9,k10,k11,k12,k13,k14,k15,k16,k17⟩
theorem AT.f_Name:ED A9 0 AW.str (·.Name):=by
 rintro S h cs x ⟨v4,v5,v6,rfl,k0,k1,k2,k3,k4,k5,k6,k7,k8,k9,k10,k11,k12,k13,k14,k15,k16,k17⟩
 exact⟨rfl,k0⟩
theorem AT.f_Kind:ED A9 1 AW.int (·.Kind):=by
 rintro S h cs x ⟨v4,v5,v6,rfl,k0,k1,k2,k3,k4,k5,k6,k7,k8,k9,k10,k11,k12,k13,k14,k15,k16,k17⟩
 exact⟨rfl,k1⟩
theorem AT.f_To:ED A9 3 AW.int (·.To):=by
 rintro S h cs x ⟨v4,v5,v6,rfl,k0,k1,k2,k3,k4,k5,k6,k7,k8,k9,k10,k11,k12,k13,k14,k15,k16,k17⟩
 exact⟨rfl,k3⟩
theorem II:ED A9 4 (AW.sl BH) (·.Rate):=by
 rintro S h cs x ⟨v4,v5,v6,rfl,k0,k1,k2,k3,k4,k5,k6,k7,k8,k9,k10,k11,k12,k13,k14,k15,k16,k17⟩
 exact⟨_,rfl,k4⟩
theorem FR:ED A9 5 Jb (·.Band):=by
 rintro S h cs x ⟨v4,v5,v6,rfl,k0,k1,k2,k3,k4,k5,k6,k7,k8,k9,k10,k11,k12,k13,k14,k15,k16,k17⟩
 exact⟨_,_,rfl,k5,k6⟩
theorem B1:ED A9 7 AW.int (·.Positions):=by
 rintro S h cs x ⟨v4,v5,v6,rfl,k0,k1,k2,k3,k4,k5,k6,k7,k8,k9,k10,k11,k12,k13,k14,k15,k16,k17⟩
 exact⟨rfl,k7⟩
theorem FT:ED A9 8 AW.int (·.Speed):=by
 rintro S h cs x ⟨v4,v5,v6,rfl,k0,k1,k2,k3,k4,k5,k6,k7,k8,k9,k10,k11,k12,k13,k14,k15,k16,k17⟩
 exact⟨rfl,k8⟩
theorem Jd:ED A9 9 AW.int (·.Leak):=by
 rintro S h cs x ⟨v4,v5,v6,rfl,k0,k1,k2,k3,k4,k5,k6,k7,k8,k9,k10,k11,k12,k13,k14,k15,k16,k17⟩
 exact⟨rfl,k9⟩
theorem I3:ED A9 10 AW.int (·.Crest):=by
 rintro S h cs x ⟨v4,v5,v6,rfl,k0,k1,k2,k3,k4,k5,k6,k7,k8,k9,k10,k11,k12,k13,k14,k15,k16,k17⟩
 exact⟨rfl,k10⟩
theorem AT.f_Num:ED A9 11 AW.int (·.Num):=by
 rintro S h cs x ⟨v4,v5,v6,rfl,k0,k1,k2,k3,k4,k5,k6,k7,k8,k9,k10,k11,k12,k13,k14,k15,k16,k17⟩
 exact⟨rfl,k11⟩
theorem AT.f_Den:ED A9 12 AW.int (·.Den):=by
 rintro S h cs x ⟨v4,v5,v6,rfl,k0,k1,k2,k3,k4,k5,k6,k7,k8,k9,k10,k11,k12,k13,k14,k15,k16,k17⟩
 exact⟨rfl,k12⟩
theorem Ho:ED A9 13 AW.int (·.Prime):=by
 rintro S h cs x ⟨v4,v5,v6,rfl,k0,k1,k2,k3,k4,k5,k6,k7,k8,k9,k10,k11,k12,k13,k14,k15,k16,k17⟩
 exact⟨rfl,k13⟩
theorem FU:ED A9 14 AW.int (·.Break):=by
 rintro S h cs x ⟨v4,v5,v6,rfl,k0,k1,k2,k3,k4,k5,k6,k7,k8,k9,k10,k11,k12,k13,k14,k15,k16,k17⟩
 exact⟨rfl,k14⟩
theorem F9:ED A9 15 AW.int (·.BackNum):=by
 rintro S h cs x ⟨v4,v5,v6,rfl,k0,k1,k2,k3,k4,k5,k6,k7,k8,k9,k10,k11,k12,k13,k14,k15,k16,k17⟩
 exact⟨rfl,k15⟩
theorem FC:ED A9 16 AW.int (·.BackDen):=by
 rintro S h cs x ⟨v4,v5,v6,rfl,k0,k1,k2,k3,k4,k5,k6,k7,k8,k9,k10,k11,k12,k13,k14,k15,k16,k17⟩
 exact⟨rfl,k16⟩
structure Be where
 Pos:Int
 Target:Int
 Stuck:Bool
 Open:Bool
instance:Inhabited Be:=⟨⟨default,default,default,default⟩⟩
@[reducible] def Be.v (x:Be):List Go.Value:=[.int .i64 x.Pos,.int .i64 x.Target,.bool x.Stuck,.bool x.Open]
def Be.ok (x:Be):Prop:=AB x.Pos∧AB x.Target
def D9:AW Be where
 sz:=4
 ag:=true
 rd:=λ_ _ cs x=>cs=x.v∧x.ok
 len:=λ⟨h,_⟩=>by rw[h];rfl
 one:=λ{_ _ _ x} ⟨h,_⟩ v hv=>by
  rw[h] at hv
  simp only[Be.v,List.mem_cons,List.not_mem_nil,or_false] at hv
  rcases hv with rfl|rfl|rfl|rfl<;>rfl
 mono:=λh _ _=>h
theorem D9.ex {S h v}{x:Be}(k:Rd S h D9 v x):v= .agg #[.int .i64 x.Pos,.int .i64 x.Target,.bool x.Stuck,.bool x.Open]∧x.ok:=by obtain⟨_,rfl,rfl,h⟩:=k;exact⟨rfl,h⟩
theorem D9.mk {S h}{x:Be}(k:x.ok):Rd S h D9 (.agg #[.int .i64 x.Pos,.int .i64 x.Target,.bool x.Stuck,.bool x.Open]) x:=⟨x.v,rfl,rfl,k⟩
theorem Be.f_Pos:ED D9 0 AW.int (·.Pos):=by
 rintro S h cs x ⟨rfl,⟨k0,k1⟩⟩
 exact⟨rfl,k0⟩
theorem Be.f_Target:ED D9 1 AW.int (·.Target):=by
 rintro S h cs x ⟨rfl,⟨k0,k1⟩⟩
 exact⟨rfl,k1⟩
theorem Be.f_Open:ED D9 3 AW.bool (·.Open):=by
 rintro S h cs x ⟨rfl,⟨k0,k1⟩⟩
 exact rfl
theorem Be.u_Target:L0 D9 1 AW.int (λx y=>{ x with Target:=y}):=by
 refine⟨by decide,?_⟩
 rintro S h c x vs y ⟨rfl,⟨k0,k1⟩⟩ ⟨rfl,j1⟩
 exact⟨rfl,⟨k0,j1⟩⟩
theorem Be.u_Open:L0 D9 3 AW.bool (λx y=>{ x with Open:=y}):=by
 refine⟨by decide,?_⟩
 rintro S h c x vs y ⟨rfl,⟨k0,k1⟩⟩ rfl
 exact⟨rfl,⟨k0,k1⟩⟩
structure LD where
 Index:Int
 Area:Int
instance:Inhabited LD:=⟨⟨default,default⟩⟩
@[reducible] def LD.v (x:LD):List Go.Value:=[.int .i64 x.Index,.int .i64 x.Area]
def LD.ok (x:LD):Prop:=AB x.Index∧AB x.Area
def H2:AW LD where
 sz:=2
 ag:=true
 rd:=λ_ _ cs x=>cs=x.v∧x.ok
 len:=λ⟨h,_⟩=>by rw[h];rfl
 one:=λ{_ _ _ x} ⟨h,_⟩ v hv=>by
  rw[h] at hv
  simp only[LD.v,List.mem_cons,List.not_mem_nil,or_false] at hv
  rcases hv with rfl|rfl<;>rfl
 mono:=λh _ _=>h
theorem H2.ex {S h v}{x:LD}(k:Rd S h H2 v x):v= .agg #[.int .i64 x.Index,.int .i64 x.Area]∧x.ok:=by obtain⟨_,rfl,rfl,h⟩:=k;exact⟨rfl,h⟩
theorem H2.mk {S h}{x:LD}(k:x.ok):Rd S h H2 (.agg #[.int .i64 x.Index,.int .i64 x.Area]) x:=⟨x.v,rfl,rfl,k⟩
structure Ce where
 Name:ByteArray
 Kind:Int
 Office:Int
 Cap:Int
 Level:(List AX)
 Start:(List Int)
 Num:Int
 Den:Int
 Down:Int
 Delay:Int
 Floor:Int
 Rain:(List LD)
instance:Inhabited Ce:=⟨⟨default,default,default,default,default,default,default,default,default,default,default,default⟩⟩
def BF:AW Ce where
 sz:=12
 ag:=true
 rd:=λS h cs x=>∃v4 v5 v11:Value,cs=[.string x.Name,.int .i64 x.Kind,.int .i64 x.Office,.int .i64 x.Cap,v4,v5,.int .i64 x.Num,.int .i64 x.Den,.int .i64 x.Down,.int .i64 x.Delay,.int .i64 x.Floor,v11]∧x.Name.size≤maxLen∧AB x.Kind∧AB x.Office∧AB x.Cap∧Sl S h BH v4 x.Level∧Sl S h AW.int v5 x.Start∧AB x.Num∧AB x.Den∧AB x.Down∧AB x.Delay∧AB x.Floor∧Sl S h H2 v11 x.Rain
 len:=λ⟨_,_,_,h,_⟩=>by rw[h];rfl
 one:=by
  rintro S h cs x ⟨v4,v5,v11,rfl,k0,k1,k2,k3,k4,k5,k6,k7,k8,k9,k10,k11⟩ v hv
  simp only[List.mem_cons,List.not_mem_nil,or_false] at hv
  rcases hv with rfl|rfl|rfl|rfl|rfl|rfl|rfl|rfl|rfl|rfl|rfl|rfl<;>first|rfl|exact Sl.one ‹_› |exact(‹_∧_›).2|(obtain ⟨_,_,rfl,_⟩:=Rd.fn ‹_›;rfl)
 mono:=by
  rintro S S' h h' cs x ⟨v4,v5,v11,rfl,k0,k1,k2,k3,k4,k5,k6,k7,k8,k9,k10,k11⟩ s e
  exact⟨v4,v5,v11,rfl,k0,k1,k2,k3,k4.mono s e,k5.mono s e,k6,k7,k8,k9,k10,k11.mono s e⟩
theorem BF.ex {S h v}{x:Ce}(k:Rd S h BF v x):∃v4 v5 v11:Value,v= .agg #[.string x.Name,.int .i64 x.Kind,.int .i64 x.Office,.int .i64 x.Cap,v4,v5,.int .i64 x.Num,.int .i64 x.Den,.int .i64 x.Down,.int .i64 x.Delay,.int .i64 x.Floor,v11]∧x.Name.size≤maxLen∧AB x.Kind∧AB x.Office∧AB x.Cap∧Sl S h BH v4 x.Level∧Sl S h AW.int v5 x.Start∧AB x.Num∧AB x.Den∧AB x.Down∧AB x.Delay∧AB x.Floor∧Sl S h H2 v11 x.Rain:=by obtain⟨_,rfl,v4,v5,v11,rfl,k⟩:=k;exact⟨v4,v5,v11,rfl,k⟩
theorem BF.mk {S h}{x:Ce}{v4 v5 v11:Value}(k0:x.Name.size≤maxLen) (k1:AB x.Kind) (k2:AB x.Office) (k3:AB x.Cap) (k4:Sl S h BH v4 x.Level) (k5:Sl S h AW.int v5 x.Start) (k6:AB x.Num) (k7:AB x.Den) (k8:AB x.Down) (k9:AB x.Delay) (k10:AB x.Floor) (k11:Sl S h H2 v11 x.Rain):Rd S h BF (.agg #[.string x.Name,.int .i64 x.Kind,.int .i64 x.Office,.int .i64 x.Cap,v4,v5,.int .i64 x.Num,.int .i64 x.Den,.int .i64 x.Down,.int .i64 x.Delay,.int .i64 x.Floor,v11]) x:=⟨_,rfl,v4,v5,v11,rfl,k0,k1,k2,k3,k4,k5,k6,k7,k8,k9,k10,k11⟩
theorem Ce.f_Name:ED BF 0 AW.str (·.Name):=by
 rintro S h cs x ⟨v4,v5,v11,rfl,k0,k1,k2,k3,k4,k5,k6,k7,k8,k9,k10,k11⟩
 exact⟨rfl,k0⟩
theorem Ce.f_Kind:ED BF 1 AW.int (·.Kind):=by
 rintro S h cs x ⟨v4,v5,v11,rfl,k0,k1,k2,k3,k4,k5,k6,k7,k8,k9,k10,k11⟩
 exact⟨rfl,k1⟩
theorem F8:ED BF 2 AW.int (·.Office):=by
 rintro S h cs x ⟨v4,v5,v11,rfl,k0,k1,k2,k3,k4,k5,k6,k7,k8,k9,k10,k11⟩
 exact⟨rfl,k2⟩
theorem PE:ED BF 3 AW.int (·.Cap):=by
 rintro S h cs x ⟨v4,v5,v11,rfl,k0,k1,k2,k3,k4,k5,k6,k7,k8,k9,k10,k11⟩
 exact⟨rfl,k3⟩
theorem Ce.f_Num:ED BF 6 AW.int (·.Num):=by
 rintro S h cs x ⟨v4,v5,v11,rfl,k0,k1,k2,k3,k4,k5,k6,k7,k8,k9,k10,k11⟩
 exact⟨rfl,k6⟩
theorem Ce.f_Den:ED BF 7 AW.int (·.Den):=by
 rintro S h cs x ⟨v4,v5,v11,rfl,k0,k1,k2,k3,k4,k5,k6,k7,k8,k9,k10,k11⟩
 exact⟨rfl,k7⟩
theorem Ce.f_Rain:ED BF 11 (AW.sl H2) (·.Rain):=by
 rintro S h cs x ⟨v4,v5,v11,rfl,k0,k1,k2,k3,k4,k5,k6,k7,k8,k9,k10,k11⟩
 exact⟨_,rfl,k11⟩
structure Jn where
 Name:ByteArray
 Place:Int
 Flood:Int
 Lead:Int
 People:Int
 Watch:Int
 Quorum:Int
instance:Inhabited Jn:=⟨⟨default,default,default,default,default,default,default⟩⟩
@[reducible] def Jn.v (x:Jn):List Go.Value:=[.string x.Name,.int .i64 x.Place,.int .i64 x.Flood,.int .i64 x.Lead,.int .i64 x.People,.int .i64 x.Watch,.int .i64 x.Quorum]
def Jn.ok (x:Jn):Prop:=x.Name.size≤maxLen∧AB x.Place∧AB x.Flood∧AB x.Lead∧AB x.People∧AB x.Watch∧AB x.Quorum
def E7:AW Jn where
 sz:=7
 ag:=true
 rd:=λ_ _ cs x=>cs=x.v∧x.ok
 len:=λ⟨h,_⟩=>by rw[h];rfl
 one:=λ{_ _ _ x} ⟨h,_⟩ v hv=>by
  rw[h] at hv
  simp only[Jn.v,List.mem_cons,List.not_mem_nil,or_false] at hv
  rcases hv with rfl|rfl|rfl|rfl|rfl|rfl|rfl<;>rfl
 mono:=λh _ _=>h
theorem E7.ex {S h v}{x:Jn}(k:Rd S h E7 v x):v= .agg #[.string x.Name,.int .i64 x.Place,.int .i64 x.Flood,.int .i64 x.Lead,.int .i64 x.People,.int .i64 x.Watch,.int .i64 x.Quorum]∧x.ok:=by obtain⟨_,rfl,rfl,h⟩:=k;exact⟨rfl,h⟩
theorem E7.mk {S h}{x:Jn}(k:x.ok):Rd S h E7 (.agg #[.string x.Name,.int .i64 x.Place,.int .i64 x.Flood,.int .i64 x.Lead,.int .i64 x.People,.int .i64 x.Watch,.int .i64 x.Quorum]) x:=⟨x.v,rfl,rfl,k⟩
theorem Jn.f_Name:ED E7 0 AW.str (·.Name):=by
 rintro S h cs x ⟨rfl,⟨k0,k1,k2,k3,k4,k5,k6⟩⟩
 exact⟨rfl,k0⟩
structure G3 where
 Name:ByteArray
 Kind:Int
 Target:Int
 Err:Int
 Drift:Int
instance:Inhabited G3:=⟨⟨default,default,default,default,default⟩⟩
@[reducible] def G3.v (x:G3):List Go.Value:=[.string x.Name,.int .i64 x.Kind,.int .i64 x.Target,.int .i64 x.Err,.int .i64 x.Drift]
def G3.ok (x:G3):Prop:=x.Name.size≤maxLen∧AB x.Kind∧AB x.Target∧AB x.Err∧AB x.Drift
def De:AW G3 where
 sz:=5
 ag:=true
 rd:=λ_ _ cs x=>cs=x.v∧x.ok
 len:=λ⟨h,_⟩=>by rw[h];rfl
 one:=λ{_ _ _ x} ⟨h,_⟩ v hv=>by
  rw[h] at hv
  simp only[G3.v,List.mem_cons,List.not_mem_nil,or_false] at hv
  rcases hv with rfl|rfl|rfl|rfl|rfl<;>rfl
 mono:=λh _ _=>h
theorem De.ex {S h v}{x:G3}(k:Rd S h De v x):v= .agg #[.string x.Name,.int .i64 x.Kind,.int .i64 x.Target,.int .i64 x.Err,.int .i64 x.Drift]∧x.ok:=by obtain⟨_,rfl,rfl,h⟩:=k;exact⟨rfl,h⟩
theorem De.mk {S h}{x:G3}(k:x.ok):Rd S h De (.agg #[.string x.Name,.int .i64 x.Kind,.int .i64 x.Target,.int .i64 x.Err,.int .i64 x.Drift]) x:=⟨x.v,rfl,rfl,k⟩
theorem G3.f_Name:ED De 0 AW.str (·.Name):=by
 rintro S h cs x ⟨rfl,⟨k0,k1,k2,k3,k4⟩⟩
 exact⟨rfl,k0⟩
theorem G3.f_Kind:ED De 1 AW.int (·.Kind):=by
 rintro S h cs x ⟨rfl,⟨k0,k1,k2,k3,k4⟩⟩
 exact⟨rfl,k1⟩
theorem G3.f_Target:ED De 2 AW.int (·.Target):=by
 rintro S h cs x ⟨rfl,⟨k0,k1,k2,k3,k4⟩⟩
 exact⟨rfl,k2⟩
theorem G3.f_Err:ED De 3 AW.int (·.Err):=by
 rintro S h cs x ⟨rfl,⟨k0,k1,k2,k3,k4⟩⟩
 exact⟨rfl,k3⟩
theorem G3.u_Target:L0 De 2 AW.int (λx y=>{ x with Target:=y}):=by
 refine⟨by decide,?_⟩
 rintro S h c x vs y ⟨rfl,⟨k0,k1,k2,k3,k4⟩⟩ ⟨rfl,j2⟩
 exact⟨rfl,⟨k0,k1,j2,k3,k4⟩⟩
structure Jp where
 Name:ByteArray
 From:Int
 To:Int
 Hours:Int
 Flow:Int
 By:Int
 Limit:Int
instance:Inhabited Jp:=⟨⟨default,default,default,default,default,default,default⟩⟩
@[reducible] def Jp.v (x:Jp):List Go.Value:=[.string x.Name,.int .i64 x.From,.int .i64 x.To,.int .i64 x.Hours,.int .i64 x.Flow,.int .i64 x.By,.int .i64 x.Limit]
def Jp.ok (x:Jp):Prop:=x.Name.size≤maxLen∧AB x.From∧AB x.To∧AB x.Hours∧AB x.Flow∧AB x.By∧AB x.Limit
def Ex:AW Jp where
 sz:=7
 ag:=true
 rd:=λ_ _ cs x=>cs=x.v∧x.ok
 len:=λ⟨h,_⟩=>by rw[h];rfl
 one:=λ{_ _ _ x} ⟨h,_⟩ v hv=>by
  rw[h] at hv
  simp only[Jp.v,List.mem_cons,List.not_mem_nil,or_false] at hv
  rcases hv with rfl|rfl|rfl|rfl|rfl|rfl|rfl<;>rfl
 mono:=λh _ _=>h
theorem Ex.ex {S h v}{x:Jp}(k:Rd S h Ex v x):v= .agg #[.string x.Name,.int .i64 x.From,.int .i64 x.To,.int .i64 x.Hours,.int .i64 x.Flow,.int .i64 x.By,.int .i64 x.Limit]∧x.ok:=by obtain⟨_,rfl,rfl,h⟩:=k;exact⟨rfl,h⟩
theorem Ex.mk {S h}{x:Jp}(k:x.ok):Rd S h Ex (.agg #[.string x.Name,.int .i64 x.From,.int .i64 x.To,.int .i64 x.Hours,.int .i64 x.Flow,.int .i64 x.By,.int .i64 x.Limit]) x:=⟨x.v,rfl,rfl,k⟩
theorem Jp.f_Name:ED Ex 0 AW.str (·.Name):=by
 rintro S h cs x ⟨rfl,⟨k0,k1,k2,k3,k4,k5,k6⟩⟩
 exact⟨rfl,k0⟩
theorem Jp.f_To:ED Ex 2 AW.int (·.To):=by
 rintro S h cs x ⟨rfl,⟨k0,k1,k2,k3,k4,k5,k6⟩⟩
 exact⟨rfl,k2⟩
structure F7 where
 Name:ByteArray
 Room:Int
instance:Inhabited F7:=⟨⟨default,default⟩⟩
@[reducible] def F7.v (x:F7):List Go.Value:=[.string x.Name,.int .i64 x.Room]
def F7.ok (x:F7):Prop:=x.Name.size≤maxLen∧AB x.Room
def Cd:AW F7 where
 sz:=2
 ag:=true
 rd:=λ_ _ cs x=>cs=x.v∧x.ok
 len:=λ⟨h,_⟩=>by rw[h];rfl
 one:=λ{_ _ _ x} ⟨h,_⟩ v hv=>by
  rw[h] at hv
  simp only[F7.v,List.mem_cons,List.not_mem_nil,or_false] at hv
  rcases hv with rfl|rfl<;>rfl
 mono:=λh _ _=>h
theorem Cd.ex {S h v}{x:F7}(k:Rd S h Cd v x):v= .agg #[.string x.Name,.int .i64 x.Room]∧x.ok:=by obtain⟨_,rfl,rfl,h⟩:=k;exact⟨rfl,h⟩
theorem Cd.mk {S h}{x:F7}(k:x.ok):Rd S h Cd (.agg #[.string x.Name,.int .i64 x.Room]) x:=⟨x.v,rfl,rfl,k⟩
theorem F7.f_Name:ED Cd 0 AW.str (·.Name):=by
 rintro S h cs x ⟨rfl,⟨k0,k1⟩⟩
 exact⟨rfl,k0⟩
theorem F7.f_Room:ED Cd 1 AW.int (·.Room):=by
 rintro S h cs x ⟨rfl,⟨k0,k1⟩⟩
 exact⟨rfl,k1⟩
structure AK where
 Name:ByteArray
 Owners:(List ByteArray)
 Cells:Int
 Places:(List Ce)
 Links:(List AT)
 Towns:(List Jn)
 Gauges:(List G3)
 Roads:(List Jp)
 Shelters:(List F7)
 Room:(List Int)
 Err:Int
instance:Inhabited AK:=⟨⟨default,default,default,default,default,default,default,default,default,default,default⟩⟩
def BG:AW AK where
 sz:=11
 ag:=true
 rd:=λS h cs x=>∃v1 v3 v4 v5 v6 v7 v8 v9:Value,cs=[.string x.Name,v1,.int .i64 x.Cells,v3,v4,v5,v6,v7,v8,v9,.int .i64 x.Err]∧x.Name.size≤maxLen∧Sl S h AW.str v1 x.Owners∧AB x.Cells∧Sl S h BF v3 x.Places∧Sl S h A9 v4 x.Links∧Sl S h E7 v5 x.Towns∧Sl S h De v6 x.Gauges∧Sl S h Ex v7 x.Roads∧Sl S h Cd v8 x.Shelters∧Sl S h AW.int v9 x.Room∧AB x.Err
 len:=λ⟨_,_,_,_,_,_,_,_,h,_⟩=>by rw[h];rfl
 one:=by
  rintro S h cs x ⟨v1,v3,v4,v5,v6,v7,v8,v9,rfl,k0,k1,k2,k3,k4,k5,k6,k7,k8,k9,k10⟩ v hv
  simp only[List.mem_cons,List.not_mem_nil,or_false] at hv
  rcases hv with rfl|rfl|rfl|rfl|rfl|rfl|rfl|rfl|rfl|rfl|rfl<;>first|rfl|exact Sl.one ‹_› |exact(‹_∧_›).2|(obtain ⟨_,_,rfl,_⟩:=Rd.fn ‹_›;rfl)
 mono:=by
  rintro S S' h h' cs x ⟨v1,v3,v4,v5,v6,v7,v8,v9,rfl,k0,k1,k2,k3,k4,k5,k6,k7,k8,k9,k10⟩ s e
  exact⟨v1,v3,v4,v5,v6,v7,v8,v9,rfl,k0,k1.mono s e,k2,k3.mono s e,k4.mono s e,k5.mono s e,k6.mono s e,k7.mono s e,k8.mono s e,k9.mono s e,k10⟩
theorem BG.ex {S h v}{x:AK}(k:Rd S h BG v x):∃v1 v3 v4 v5 v6 v7 v8 v9:Value,v= .agg #[.string x.Name,v1,.int .i64 x.Cells,v3,v4,v5,v6,v7,v8,v9,.int .i64 x.Err]∧x.Name.size≤maxLen∧Sl S h AW.str v1 x.Owners∧AB x.Cells∧Sl S h BF v3 x.Places∧Sl S h A9 v4 x.Links∧Sl S h E7 v5 x.Towns∧Sl S h De v6 x.Gauges∧Sl S h Ex v7 x.Roads∧Sl S h Cd v8 x.Shelters∧Sl S h AW.int v9 x.Room∧AB x.Err:=by obtain⟨_,rfl,v1,v3,v4,v5,v6,v7,v8,v9,rfl,k⟩:=k;exact⟨v1,v3,v4,v5,v6,v7,v8,v9,rfl,k⟩
theorem BG.mk {S h}{x:AK}{v1 v3 v4 v5 v6 v7 v8 v9:Value}(k0:x.Name.size≤maxLen) (k1:Sl S h AW.str v1 x.Owners) (k2:AB x.Cells) (k3:Sl S h BF v3 x.Places) (k4:Sl S h A9 v4 x.Links) (k5:Sl S h E7 v5 x.Towns) (k6:Sl S h De v6 x.Gauges) (k7:Sl S h Ex v7 x.Roads) (k8:Sl S h Cd v8 x.Shelters) (k9:Sl S h AW.int v9 x.Room) (k10:AB x.Err):Rd S h BG (.agg #[.string x.Name,v1,.int .i64 x.Cells,v3,v4,v5,v6,v7,v8,v9,.int .i64 x.Err]) x:=⟨_,rfl,v1,v3,v4,v5,v6,v7,v8,v9,rfl,k0,k1,k2,k3,k4,k5,k6,k7,k8,k9,k10⟩
theorem AK.f_Name:ED BG 0 AW.str (·.Name):=by
 rintro S h cs x ⟨v1,v3,v4,v5,v6,v7,v8,v9,rfl,k0,k1,k2,k3,k4,k5,k6,k7,k8,k9,k10⟩
 exact⟨rfl,k0⟩
theorem FD:ED BG 1 (AW.sl AW.str) (·.Owners):=by
 rintro S h cs x ⟨v1,v3,v4,v5,v6,v7,v8,v9,rfl,k0,k1,k2,k3,k4,k5,k6,k7,k8,k9,k10⟩
 exact⟨_,rfl,k1⟩
theorem If:ED BG 2 AW.int (·.Cells):=by
 rintro S h cs x ⟨v1,v3,v4,v5,v6,v7,v8,v9,rfl,k0,k1,k2,k3,k4,k5,k6,k7,k8,k9,k10⟩
 exact⟨rfl,k2⟩
theorem Aj:ED BG 3 (AW.sl BF) (·.Places):=by
 rintro S h cs x ⟨v1,v3,v4,v5,v6,v7,v8,v9,rfl,k0,k1,k2,k3,k4,k5,k6,k7,k8,k9,k10⟩
 exact⟨_,rfl,k3⟩
theorem AK.f_Links:ED BG 4 (AW.sl A9) (·.Links):=by
 rintro S h cs x ⟨v1,v3,v4,v5,v6,v7,v8,v9,rfl,k0,k1,k2,k3,k4,k5,k6,k7,k8,k9,k10⟩
 exact⟨_,rfl,k4⟩
theorem GZ:ED BG 5 (AW.sl E7) (·.Towns):=by
 rintro S h cs x ⟨v1,v3,v4,v5,v6,v7,v8,v9,rfl,k0,k1,k2,k3,k4,k5,k6,k7,k8,k9,k10⟩
 exact⟨_,rfl,k5⟩
theorem H4:ED BG 6 (AW.sl De) (·.Gauges):=by
 rintro S h cs x ⟨v1,v3,v4,v5,v6,v7,v8,v9,rfl,k0,k1,k2,k3,k4,k5,k6,k7,k8,k9,k10⟩
 exact⟨_,rfl,k6⟩
theorem Ie:ED BG 7 (AW.sl Ex) (·.Roads):=by
 rintro S h cs x ⟨v1,v3,v4,v5,v6,v7,v8,v9,rfl,k0,k1,k2,k3,k4,k5,k6,k7,k8,k9,k10⟩
 exact⟨_,rfl,k7⟩
theorem GM:ED BG 8 (AW.sl Cd) (·.Shelters):=by
 rintro S h cs x ⟨v1,v3,v4,v5,v6,v7,v8,v9,rfl,k0,k1,k2,k3,k4,k5,k6,k7,k8,k9,k10⟩
 exact⟨_,rfl,k8⟩
theorem AK.f_Room:ED BG 9 (AW.sl AW.int) (·.Room):=by
 rintro S h cs x ⟨v1,v3,v4,v5,v6,v7,v8,v9,rfl,k0,k1,k2,k3,k4,k5,k6,k7,k8,k9,k10⟩
 exact⟨_,rfl,k9⟩
theorem AK.f_Err:ED BG 10 AW.int (·.Err):=by
 rintro S h cs x ⟨v1,v3,v4,v5,v6,v7,v8,v9,rfl,k0,k1,k2,k3,k4,k5,k6,k7,k8,k9,k10⟩
 exact⟨rfl,k10⟩
structure A4 where
 At:Int
 To:Int
 Vol:AF
instance:Inhabited A4:=⟨⟨default,default,default⟩⟩
@[reducible] def A4.v (x:A4):List Go.Value:=[.int .i64 x.At,.int .i64 x.To,.int .i64 x.Vol.Lo,.int .i64 x.Vol.Hi]
def A4.ok (x:A4):Prop:=AB x.At∧AB x.To∧AB x.Vol.Lo∧AB x.Vol.Hi
def BO:AW A4 where
 sz:=4
 ag:=true
 rd:=λ_ _ cs x=>cs=x.v∧x.ok
 len:=λ⟨h,_⟩=>by rw[h];rfl
 one:=λ{_ _ _ x} ⟨h,_⟩ v hv=>by
  rw[h] at hv
  simp only[A4.v,List.mem_cons,List.not_mem_nil,or_false] at hv
  rcases hv with rfl|rfl|rfl|rfl<;>rfl
 mono:=λh _ _=>h
theorem BO.ex {S h v}{x:A4}(k:Rd S h BO v x):v= .agg #[.int .i64 x.At,.int .i64 x.To,.int .i64 x.Vol.Lo,.int .i64 x.Vol.Hi]∧x.ok:=by obtain⟨_,rfl,rfl,h⟩:=k;exact⟨rfl,h⟩
theorem BO.mk {S h}{x:A4}(k:x.ok):Rd S h BO (.agg #[.int .i64 x.At,.int .i64 x.To,.int .i64 x.Vol.Lo,.int .i64 x.Vol.Hi]) x:=⟨x.v,rfl,rfl,k⟩
theorem A4.f_At:ED BO 0 AW.int (·.At):=by
 rintro S h cs x ⟨rfl,⟨k0,k1,k2,k3⟩⟩
 exact⟨rfl,k0⟩
theorem A4.f_To:ED BO 1 AW.int (·.To):=by
 rintro S h cs x ⟨rfl,⟨k0,k1,k2,k3⟩⟩
 exact⟨rfl,k1⟩
theorem A4.f_Vol:ED BO 2 AH (·.Vol):=by
 rintro S h cs x ⟨rfl,⟨k0,k1,k2,k3⟩⟩
 exact⟨rfl,⟨k2,k3⟩⟩
theorem A4.u_Vol:L0 BO 2 AH (λx y=>{ x with Vol:=y}):=by
 refine⟨by decide,?_⟩
 rintro S h c x vs y ⟨rfl,⟨k0,k1,k2,k3⟩⟩ ⟨rfl,⟨j2,j3⟩⟩
 exact⟨rfl,⟨k0,k1,j2,j3⟩⟩
structure Al where
 Hour:Int
 Vol:(List AF)
 Queue:(List A4)
 Links:(List AS)
instance:Inhabited Al:=⟨⟨default,default,default,default⟩⟩
def CE:AW Al where
 sz:=4
 ag:=true
 rd:=λS h cs x=>∃v1 v2 v3:Value,cs=[.int .i64 x.Hour,v1,v2,v3]∧AB x.Hour∧Sl S h AH v1 x.Vol∧Sl S h BO v2 x.Queue∧Sl S h Aa v3 x.Links
 len:=λ⟨_,_,_,h,_⟩=>by rw[h];rfl
 one:=by
  rintro S h cs x ⟨v1,v2,v3,rfl,k0,k1,k2,k3⟩ v hv
  simp only[List.mem_cons,List.not_mem_nil,or_false] at hv
  rcases hv with rfl|rfl|rfl|rfl<;>first|rfl|exact Sl.one ‹_› |exact(‹_∧_›).2|(obtain ⟨_,_,rfl,_⟩:=Rd.fn ‹_›;rfl)
 mono:=by
  rintro S S' h h' cs x ⟨v1,v2,v3,rfl,k0,k1,k2,k3⟩ s e
  exact⟨v1,v2,v3,rfl,k0,k1.mono s e,k2.mono s e,k3.mono s e⟩
theorem CE.ex {S h v}{x:Al}(k:Rd S h CE v x):∃v1 v2 v3:Value,v= .agg #[.int .i64 x.Hour,v1,v2,v3]∧AB x.Hour∧Sl S h AH v1 x.Vol∧Sl S h BO v2 x.Queue∧Sl S h Aa v3 x.Links:=by obtain⟨_,rfl,v1,v2,v3,rfl,k⟩:=k;exact⟨v1,v2,v3,rfl,k⟩
theorem CE.mk {S h}{x:Al}{v1 v2 v3:Value}(k0:AB x.Hour) (k1:Sl S h AH v1 x.Vol) (k2:Sl S h BO v2 x.Queue) (k3:Sl S h Aa v3 x.Links):Rd S h CE (.agg #[.int .i64 x.Hour,v1,v2,v3]) x:=⟨_,rfl,v1,v2,v3,rfl,k0,k1,k2,k3⟩
theorem Al.f_Hour:ED CE 0 AW.int (·.Hour):=by
 rintro S h cs x ⟨v1,v2,v3,rfl,k0,k1,k2,k3⟩
 exact⟨rfl,k0⟩
theorem Al.f_Vol:ED CE 1 (AW.sl AH) (·.Vol):=by
 rintro S h cs x ⟨v1,v2,v3,rfl,k0,k1,k2,k3⟩
 exact⟨_,rfl,k1⟩
theorem Al.f_Queue:ED CE 2 (AW.sl BO) (·.Queue):=by
 rintro S h cs x ⟨v1,v2,v3,rfl,k0,k1,k2,k3⟩
 exact⟨_,rfl,k2⟩
theorem Al.f_Links:ED CE 3 (AW.sl Aa) (·.Links):=by
 rintro S h cs x ⟨v1,v2,v3,rfl,k0,k1,k2,k3⟩
 exact⟨_,rfl,k3⟩
theorem Al.u_Vol:L0 CE 1 (AW.sl AH) (λx y=>{ x with Vol:=y}):=by
 refine⟨by decide,?_⟩
 rintro S h c x vs y ⟨w0,w1,w2,rfl,k0,k1,k2,k3⟩ ⟨u1,rfl,j1⟩
 exact⟨u1,w1,w2,rfl,k0,j1,k2,k3⟩
structure Ah where
 b:AK
 h:Al
 peaks:(List AF)
instance:Inhabited Ah:=⟨⟨default,default,default⟩⟩
def Iu:AW Ah where
 sz:=16
 ag:=true
 rd:=λS h cs x=>∃v1 v3 v4 v5 v6 v7 v8 v9 v12 v13 v14 v15:Value,cs=[.string x.b.Name,v1,.int .i64 x.b.Cells,v3,v4,v5,v6,v7,v8,v9,.int .i64 x.b.Err,.int .i64 x.h.Hour,v12,v13,v14,v15]∧x.b.Name.size≤maxLen∧Sl S h AW.str v1 x.b.Owners∧AB x.b.Cells∧Sl S h BF v3 x.b.Places∧Sl S h A9 v4 x.b.Links∧Sl S h E7 v5 x.b.Towns∧Sl S h De v6 x.b.Gauges∧Sl S h Ex v7 x.b.Roads∧Sl S h Cd v8 x.b.Shelters∧Sl S h AW.int v9 x.b.Room∧AB x.b.Err∧AB x.h.Hour∧Sl S h AH v12 x.h.Vol∧Sl S h BO v13 x.h.Queue∧Sl S h Aa v14 x.h.Links∧Sl S h AH v15 x.peaks
 len:=λ⟨_,_,_,_,_,_,_,_,_,_,_,_,h,_⟩=>by rw[h];rfl
 one:=by
  rintro S h cs x ⟨v1,v3,v4,v5,v6,v7,v8,v9,v12,v13,v14,v15,rfl,k0,k1,k2,k3,k4,k5,k6,k7,k8,k9,k10,k11,k12,k13,k14,k15⟩ v hv
  simp only[List.mem_cons,List.not_mem_nil,or_false] at hv
  rcases hv with rfl|rfl|rfl|rfl|rfl|rfl|rfl|rfl|rfl|rfl|rfl|rfl|rfl|rfl|rfl|rfl<;>first|rfl|exact Sl.one ‹_› |exact(‹_∧_›).2|(obtain ⟨_,_,rfl,_⟩:=Rd.fn ‹_›;rfl)
 mono:=by
  rintro S S' h h' cs x ⟨v1,v3,v4,v5,v6,v7,v8,v9,v12,v13,v14,v15,rfl,k0,k1,k2,k3,k4,k5,k6,k7,k8,k9,k10,k11,k12,k13,k14,k15⟩ s e
  exact⟨v1,v3,v4,v5,v6,v7,v8,v9,v12,v13,v14,v15,rfl,k0,k1.mono s e,k2,k3.mono s e,k4.mono s e,k5.mono s e,k6.mono s e,k7.mono s e,k8.mono s e,k9.mono s e,k10,k11,k12.mono s e,k13.mono s e,k14.mono s e,k15.mono s e⟩
theorem Iu.ex {S h v}{x:Ah}(k:Rd S h Iu v x):∃v1 v3 v4 v5 v6 v7 v8 v9 v12 v13 v14 v15:Value,v= .agg #[.string x.b.Name,v1,.int .i64 x.b.Cells,v3,v4,v5,v6,v7,v8,v9,.int .i64 x.b.Err,.int .i64 x.h.Hour,v12,v13,v14,v15]∧x.b.Name.size≤maxLen∧Sl S h AW.str v1 x.b.Owners∧AB x.b.Cells∧Sl S h BF v3 x.b.Places∧Sl S h A9 v4 x.b.Links∧Sl S h E7 v5 x.b.Towns∧Sl S h De v6 x.b.Gauges∧Sl S h Ex v7 x.b.Roads∧Sl S h Cd v8 x.b.Shelters∧Sl S h AW.int v9 x.b.Room∧AB x.b.Err∧AB x.h.Hour∧Sl S h AH v12 x.h.Vol∧Sl S h BO v13 x.h.Queue∧Sl S h Aa v14 x.h.Links∧Sl S h AH v15 x.peaks:=by obtain⟨_,rfl,v1,v3,v4,v5,v6,v7,v8,v9,v12,v13,v14,v15,rfl,k⟩:=k;exact⟨v1,v3,v4,v5,v6,v7,v8,v9,v12,v13,v14,v15,rfl,k⟩
theorem Iu.mk {S h}{x:Ah}{v1 v3 v4 v5 v6 v7 v8 v9 v12 v13 v14 v15:Value}(k0:x.b.Name.size≤maxLen) (k1:Sl S h AW.str v1 x.b.Owners) (k2:AB x.b.Cells) (k3:Sl S h BF v3 x.b.Places) (k4:Sl S h A9 v4 x.b.Links) (k5:Sl S h E7 v5 x.b.Towns) (k6:Sl S h De v6 x.b.Gauges) (k7:Sl S h Ex v7 x.b.Roads) (k8:Sl S h Cd v8 x.b.Shelters) (k9:Sl S h AW.int v9 x.b.Room) (k10:AB x.b.Err) (k11:AB x.h.Hour) (k12:Sl S h AH v12 x.h.Vol) (k13:Sl S h BO v13 x.h.Queue) (k14:Sl S h Aa v14 x.h.Links) (k15:Sl S h AH v15 x.peaks):Rd S h Iu (.agg #[.string x.b.Name,v1,.int .i64 x.b.Cells,v3,v4,v5,v6,v7,v8,v9,.int .i64 x.b.Err,.int .i64 x.h.Hour,v12,v13,v14,v15]) x:=⟨_,rfl,v1,v3,v4,v5,v6,v7,v8,v9,v12,v13,v14,v15,rfl,k0,k1,k2,k3,k4,k5,k6,k7,k8,k9,k10,k11,k12,k13,k14,k15⟩
structure Id where
 Kind:Int
 Link:Int
instance:Inhabited Id:=⟨⟨default,default⟩⟩
@[reducible] def Id.v (x:Id):List Go.Value:=[.int .i64 x.Kind,.int .i64 x.Link]
def Id.ok (x:Id):Prop:=AB x.Kind∧AB x.Link
def Gg:AW Id where
 sz:=2
 ag:=true
 rd:=λ_ _ cs x=>cs=x.v∧x.ok
 len:=λ⟨h,_⟩=>by rw[h];rfl
 one:=λ{_ _ _ x} ⟨h,_⟩ v hv=>by
  rw[h] at hv
  simp only[Id.v,List.mem_cons,List.not_mem_nil,or_false] at hv
  rcases hv with rfl|rfl<;>rfl
 mono:=λh _ _=>h
theorem Gg.ex {S h v}{x:Id}(k:Rd S h Gg v x):v= .agg #[.int .i64 x.Kind,.int .i64 x.Link]∧x.ok:=by obtain⟨_,rfl,rfl,h⟩:=k;exact⟨rfl,h⟩
theorem Gg.mk {S h}{x:Id}(k:x.ok):Rd S h Gg (.agg #[.int .i64 x.Kind,.int .i64 x.Link]) x:=⟨x.v,rfl,rfl,k⟩
theorem Id.f_Kind:ED Gg 0 AW.int (·.Kind):=by
 rintro S h cs x ⟨rfl,⟨k0,k1⟩⟩
 exact⟨rfl,k0⟩
structure Mv where
 Link:Int
 Target:Int
instance:Inhabited Mv:=⟨⟨default,default⟩⟩
@[reducible] def Mv.v (x:Mv):List Go.Value:=[.int .i64 x.Link,.int .i64 x.Target]
def Mv.ok (x:Mv):Prop:=AB x.Link∧AB x.Target
def Iv:AW Mv where
 sz:=2
 ag:=true
 rd:=λ_ _ cs x=>cs=x.v∧x.ok
 len:=λ⟨h,_⟩=>by rw[h];rfl
 one:=λ{_ _ _ x} ⟨h,_⟩ v hv=>by
  rw[h] at hv
  simp only[Mv.v,List.mem_cons,List.not_mem_nil,or_false] at hv
  rcases hv with rfl|rfl<;>rfl
 mono:=λh _ _=>h
theorem Iv.ex {S h v}{x:Mv}(k:Rd S h Iv v x):v= .agg #[.int .i64 x.Link,.int .i64 x.Target]∧x.ok:=by obtain⟨_,rfl,rfl,h⟩:=k;exact⟨rfl,h⟩
theorem Iv.mk {S h}{x:Mv}(k:x.ok):Rd S h Iv (.agg #[.int .i64 x.Link,.int .i64 x.Target]) x:=⟨x.v,rfl,rfl,k⟩
theorem Mv.f_Target:ED Iv 1 AW.int (·.Target):=by
 rintro S h cs x ⟨rfl,⟨k0,k1⟩⟩
 exact⟨rfl,k1⟩
theorem Mv.u_Target:L0 Iv 1 AW.int (λx y=>{ x with Target:=y}):=by
 refine⟨by decide,?_⟩
 rintro S h c x vs y ⟨rfl,⟨k0,k1⟩⟩ ⟨rfl,j1⟩
 exact⟨rfl,⟨k0,j1⟩⟩
structure HB where
 Place:Int
 Owner:Int
 Litres:Int
 To:Int
instance:Inhabited HB:=⟨⟨default,default,default,default⟩⟩
@[reducible] def HB.v (x:HB):List Go.Value:=[.int .i64 x.Place,.int .i64 x.Owner,.int .i64 x.Litres,.int .i64 x.To]
def HB.ok (x:HB):Prop:=AB x.Place∧AB x.Owner∧AB x.Litres∧AB x.To
def GX:AW HB where
 sz:=4
 ag:=true
 rd:=λ_ _ cs x=>cs=x.v∧x.ok
 len:=λ⟨h,_⟩=>by rw[h];rfl
 one:=λ{_ _ _ x} ⟨h,_⟩ v hv=>by
  rw[h] at hv
  simp only[HB.v,List.mem_cons,List.not_mem_nil,or_false] at hv
  rcases hv with rfl|rfl|rfl|rfl<;>rfl
 mono:=λh _ _=>h
theorem GX.ex {S h v}{x:HB}(k:Rd S h GX v x):v= .agg #[.int .i64 x.Place,.int .i64 x.Owner,.int .i64 x.Litres,.int .i64 x.To]∧x.ok:=by obtain⟨_,rfl,rfl,h⟩:=k;exact⟨rfl,h⟩
theorem GX.mk {S h}{x:HB}(k:x.ok):Rd S h GX (.agg #[.int .i64 x.Place,.int .i64 x.Owner,.int .i64 x.Litres,.int .i64 x.To]) x:=⟨x.v,rfl,rfl,k⟩
theorem HB.f_Litres:ED GX 2 AW.int (·.Litres):=by
 rintro S h cs x ⟨rfl,⟨k0,k1,k2,k3⟩⟩
 exact⟨rfl,k2⟩
theorem HB.f_To:ED GX 3 AW.int (·.To):=by
 rintro S h cs x ⟨rfl,⟨k0,k1,k2,k3⟩⟩
 exact⟨rfl,k3⟩
structure Jo where
 Place:Int
 From:Int
 To:Int
 Litres:Int
instance:Inhabited Jo:=⟨⟨default,default,default,default⟩⟩
@[reducible] def Jo.v (x:Jo):List Go.Value:=[.int .i64 x.Place,.int .i64 x.From,.int .i64 x.To,.int .i64 x.Litres]
def Jo.ok (x:Jo):Prop:=AB x.Place∧AB x.From∧AB x.To∧AB x.Litres
def Hh:AW Jo where
 sz:=4
 ag:=true
 rd:=λ_ _ cs x=>cs=x.v∧x.ok
 len:=λ⟨h,_⟩=>by rw[h];rfl
 one:=λ{_ _ _ x} ⟨h,_⟩ v hv=>by
  rw[h] at hv
  simp only[Jo.v,List.mem_cons,List.not_mem_nil,or_false] at hv
  rcases hv with rfl|rfl|rfl|rfl<;>rfl
 mono:=λh _ _=>h
theorem Hh.ex {S h v}{x:Jo}(k:Rd S h Hh v x):v= .agg #[.int .i64 x.Place,.int .i64 x.From,.int .i64 x.To,.int .i64 x.Litres]∧x.ok:=by obtain⟨_,rfl,rfl,h⟩:=k;exact⟨rfl,h⟩
theorem Hh.mk {S h}{x:Jo}(k:x.ok):Rd S h Hh (.agg #[.int .i64 x.Place,.int .i64 x.From,.int .i64 x.To,.int .i64 x.Litres]) x:=⟨x.v,rfl,rfl,k⟩
theorem Jo.f_To:ED Hh 2 AW.int (·.To):=by
 rintro S h cs x ⟨rfl,⟨k0,k1,k2,k3⟩⟩
 exact⟨rfl,k2⟩
theorem Jo.f_Litres:ED Hh 3 AW.int (·.Litres):=by
 rintro S h cs x ⟨rfl,⟨k0,k1,k2,k3⟩⟩
 exact⟨rfl,k3⟩
structure C7 where
 Rain:(List Int)
 Faults:(List Id)
 Cmds:(List Mv)
 Takes:(List HB)
 Swaps:(List Jo)
instance:Inhabited C7:=⟨⟨default,default,default,default,default⟩⟩
def E0:AW C7 where
 sz:=5
 ag:=true
 rd:=λS h cs x=>∃v0 v1 v2 v3 v4:Value,cs=[v0,v1,v2,v3,v4]∧Sl S h AW.int v0 x.Rain∧Sl S h Gg v1 x.Faults∧Sl S h Iv v2 x.Cmds∧Sl S h GX v3 x.Takes∧Sl S h Hh v4 x.Swaps
 len:=λ⟨_,_,_,_,_,h,_⟩=>by rw[h];rfl
 one:=by
  rintro S h cs x ⟨v0,v1,v2,v3,v4,rfl,k0,k1,k2,k3,k4⟩ v hv
  simp only[List.mem_cons,List.not_mem_nil,or_false] at hv
  rcases hv with rfl|rfl|rfl|rfl|rfl<;>first|rfl|exact Sl.one ‹_› |exact(‹_∧_›).2|(obtain ⟨_,_,rfl,_⟩:=Rd.fn ‹_›;rfl)
 mono:=by
  rintro S S' h h' cs x ⟨v0,v1,v2,v3,v4,rfl,k0,k1,k2,k3,k4⟩ s e
  exact⟨v0,v1,v2,v3,v4,rfl,k0.mono s e,k1.mono s e,k2.mono s e,k3.mono s e,k4.mono s e⟩
theorem E0.ex {S h v}{x:C7}(k:Rd S h E0 v x):∃v0 v1 v2 v3 v4:Value,v= .agg #[v0,v1,v2,v3,v4]∧Sl S h AW.int v0 x.Rain∧Sl S h Gg v1 x.Faults∧Sl S h Iv v2 x.Cmds∧Sl S h GX v3 x.Takes∧Sl S h Hh v4 x.Swaps:=by obtain⟨_,rfl,v0,v1,v2,v3,v4,rfl,k⟩:=k;exact⟨v0,v1,v2,v3,v4,rfl,k⟩
theorem E0.mk {S h}{x:C7}{v0 v1 v2 v3 v4:Value}(k0:Sl S h AW.int v0 x.Rain) (k1:Sl S h Gg v1 x.Faults) (k2:Sl S h Iv v2 x.Cmds) (k3:Sl S h GX v3 x.Takes) (k4:Sl S h Hh v4 x.Swaps):Rd S h E0 (.agg #[v0,v1,v2,v3,v4]) x:=⟨_,rfl,v0,v1,v2,v3,v4,rfl,k0,k1,k2,k3,k4⟩
theorem C7.f_Rain:ED E0 0 (AW.sl AW.int) (·.Rain):=by
 rintro S h cs x ⟨v0,v1,v2,v3,v4,rfl,k0,k1,k2,k3,k4⟩
 exact⟨_,rfl,k0⟩
theorem Jq:ED E0 1 (AW.sl Gg) (·.Faults):=by
 rintro S h cs x ⟨v0,v1,v2,v3,v4,rfl,k0,k1,k2,k3,k4⟩
 exact⟨_,rfl,k1⟩
theorem LC:ED E0 2 (AW.sl Iv) (·.Cmds):=by
 rintro S h cs x ⟨v0,v1,v2,v3,v4,rfl,k0,k1,k2,k3,k4⟩
 exact⟨_,rfl,k2⟩
theorem Ke:ED E0 3 (AW.sl GX) (·.Takes):=by
 rintro S h cs x ⟨v0,v1,v2,v3,v4,rfl,k0,k1,k2,k3,k4⟩
 exact⟨_,rfl,k3⟩
theorem Ns:ED E0 4 (AW.sl Hh) (·.Swaps):=by
 rintro S h cs x ⟨v0,v1,v2,v3,v4,rfl,k0,k1,k2,k3,k4⟩
 exact⟨_,rfl,k4⟩
structure AO where
 to_:Int
 delay:Int
 slack:Int
 asks:(Int→Option AF)
instance:Inhabited AO:=⟨⟨default,default,default,default⟩⟩
def Bw:AW AO where
 sz:=4
 ag:=true
 rd:=λS h cs x=>∃v3:Value,cs=[.int .i64 x.to_,.int .i64 x.delay,.int .i64 x.slack,v3]∧AB x.to_∧AB x.delay∧AB x.slack∧Rd S h (AW.fn Tryz.prog (λx:Int=>([.int .i64 x]:List Value)) (λx:Int=>AB x) (λy:AF=> .agg #[.int .i64 y.Lo,.int .i64 y.Hi]) (λy:AF=>AF.ok y)) v3 x.asks
 len:=λ⟨_,h,_⟩=>by rw[h];rfl
 one:=by
  rintro S h cs x ⟨v3,rfl,k0,k1,k2,k3⟩ v hv
  simp only[List.mem_cons,List.not_mem_nil,or_false] at hv
  rcases hv with rfl|rfl|rfl|rfl<;>first|rfl|exact Sl.one ‹_› |exact(‹_∧_›).2|(obtain ⟨_,_,rfl,_⟩:=Rd.fn ‹_›;rfl)
 mono:=by
  rintro S S' h h' cs x ⟨v3,rfl,k0,k1,k2,k3⟩ s e
  exact⟨v3,rfl,k0,k1,k2,k3.mono'' s e⟩
theorem Bw.ex {S h v}{x:AO}(k:Rd S h Bw v x):∃v3:Value,v= .agg #[.int .i64 x.to_,.int .i64 x.delay,.int .i64 x.slack,v3]∧AB x.to_∧AB x.delay∧AB x.slack∧Rd S h (AW.fn Tryz.prog (λx:Int=>([.int .i64 x]:List Value)) (λx:Int=>AB x) (λy:AF=> .agg #[.int .i64 y.Lo,.int .i64 y.Hi]) (λy:AF=>AF.ok y)) v3 x.asks:=by obtain⟨_,rfl,v3,rfl,k⟩:=k;exact⟨v3,rfl,k⟩
theorem Bw.mk {S h}{x:AO}{v3:Value}(k0:AB x.to_) (k1:AB x.delay) (k2:AB x.slack) (k3:Rd S h (AW.fn Tryz.prog (λx:Int=>([.int .i64 x]:List Value)) (λx:Int=>AB x) (λy:AF=> .agg #[.int .i64 y.Lo,.int .i64 y.Hi]) (λy:AF=>AF.ok y)) v3 x.asks):Rd S h Bw (.agg #[.int .i64 x.to_,.int .i64 x.delay,.int .i64 x.slack,v3]) x:=⟨_,rfl,v3,rfl,k0,k1,k2,k3⟩
structure Nq where
 At:Int
 To:Int
 Part:(List Int)
instance:Inhabited Nq:=⟨⟨default,default,default⟩⟩
def H1:AW Nq where
 sz:=3
 ag:=true
 rd:=λS h cs x=>∃v2:Value,cs=[.int .i64 x.At,.int .i64 x.To,v2]∧AB x.At∧AB x.To∧Sl S h AW.int v2 x.Part
 len:=λ⟨_,h,_⟩=>by rw[h];rfl
 one:=by
  rintro S h cs x ⟨v2,rfl,k0,k1,k2⟩ v hv
  simp only[List.mem_cons,List.not_mem_nil,or_false] at hv
  rcases hv with rfl|rfl|rfl<;>first|rfl|exact Sl.one ‹_› |exact(‹_∧_›).2|(obtain ⟨_,_,rfl,_⟩:=Rd.fn ‹_›;rfl)
 mono:=by
  rintro S S' h h' cs x ⟨v2,rfl,k0,k1,k2⟩ s e
  exact⟨v2,rfl,k0,k1,k2.mono s e⟩
theorem H1.ex {S h v}{x:Nq}(k:Rd S h H1 v x):∃v2:Value,v= .agg #[.int .i64 x.At,.int .i64 x.To,v2]∧AB x.At∧AB x.To∧Sl S h AW.int v2 x.Part:=by obtain⟨_,rfl,v2,rfl,k⟩:=k;exact⟨v2,rfl,k⟩
theorem H1.mk {S h}{x:Nq}{v2:Value}(k0:AB x.At) (k1:AB x.To) (k2:Sl S h AW.int v2 x.Part):Rd S h H1 (.agg #[.int .i64 x.At,.int .i64 x.To,v2]) x:=⟨_,rfl,v2,rfl,k0,k1,k2⟩
theorem Nq.f_At:ED H1 0 AW.int (·.At):=by
 rintro S h cs x ⟨v2,rfl,k0,k1,k2⟩
 exact⟨rfl,k0⟩
theorem Nq.f_To:ED H1 1 AW.int (·.To):=by
 rintro S h cs x ⟨v2,rfl,k0,k1,k2⟩
 exact⟨rfl,k1⟩
structure CQ where
 Hour:Int
 Own:(List (List Int))
 Rem:(List Int)
 Queue:(List Nq)
 Gates:(List Be)
 In:(List Int)
 Out:(List Int)
instance:Inhabited CQ:=⟨⟨default,default,default,default,default,default,default⟩⟩
def EM:AW CQ where
 sz:=7
 ag:=true
 rd:=λS h cs x=>∃v1 v2 v3 v4 v5 v6:Value,cs=[.int .i64 x.Hour,v1,v2,v3,v4,v5,v6]∧AB x.Hour∧Sl S h (AW.sl AW.int) v1 x.Own∧Sl S h AW.int v2 x.Rem∧Sl S h H1 v3 x.Queue∧Sl S h D9 v4 x.Gates∧Sl S h AW.int v5 x.In∧Sl S h AW.int v6 x.Out
 len:=λ⟨_,_,_,_,_,_,h,_⟩=>by rw[h];rfl
 one:=by
  rintro S h cs x ⟨v1,v2,v3,v4,v5,v6,rfl,k0,k1,k2,k3,k4,k5,k6⟩ v hv
  simp only[List.mem_cons,List.not_mem_nil,or_false] at hv
  rcases hv with rfl|rfl|rfl|rfl|rfl|rfl|rfl<;>first|rfl|exact Sl.one ‹_› |exact(‹_∧_›).2|(obtain ⟨_,_,rfl,_⟩:=Rd.fn ‹_›;rfl)
 mono:=by
  rintro S S' h h' cs x ⟨v1,v2,v3,v4,v5,v6,rfl,k0,k1,k2,k3,k4,k5,k6⟩ s e
  exact⟨v1,v2,v3,v4,v5,v6,rfl,k0,k1.mono s e,k2.mono s e,k3.mono s e,k4.mono s e,k5.mono s e,k6.mono s e⟩
theorem EM.ex {S h v}{x:CQ}(k:Rd S h EM v x):∃v1 v2 v3 v4 v5 v6:Value,v= .agg #[.int .i64 x.Hour,v1,v2,v3,v4,v5,v6]∧AB x.Hour∧Sl S h (AW.sl AW.int) v1 x.Own∧Sl S h AW.int v2 x.Rem∧Sl S h H1 v3 x.Queue∧Sl S h D9 v4 x.Gates∧Sl S h AW.int v5 x.In∧Sl S h AW.int v6 x.Out:=by obtain⟨_,rfl,v1,v2,v3,v4,v5,v6,rfl,k⟩:=k;exact⟨v1,v2,v3,v4,v5,v6,rfl,k⟩
theorem EM.mk {S h}{x:CQ}{v1 v2 v3 v4 v5 v6:Value}(k0:AB x.Hour) (k1:Sl S h (AW.sl AW.int) v1 x.Own) (k2:Sl S h AW.int v2 x.Rem) (k3:Sl S h H1 v3 x.Queue) (k4:Sl S h D9 v4 x.Gates) (k5:Sl S h AW.int v5 x.In) (k6:Sl S h AW.int v6 x.Out):Rd S h EM (.agg #[.int .i64 x.Hour,v1,v2,v3,v4,v5,v6]) x:=⟨_,rfl,v1,v2,v3,v4,v5,v6,rfl,k0,k1,k2,k3,k4,k5,k6⟩
theorem CQ.f_Hour:ED EM 0 AW.int (·.Hour):=by
 rintro S h cs x ⟨v1,v2,v3,v4,v5,v6,rfl,k0,k1,k2,k3,k4,k5,k6⟩
 exact⟨rfl,k0⟩
theorem Jc:ED EM 1 (AW.sl (AW.sl AW.int)) (·.Own):=by
 rintro S h cs x ⟨v1,v2,v3,v4,v5,v6,rfl,k0,k1,k2,k3,k4,k5,k6⟩
 exact⟨_,rfl,k1⟩
theorem CQ.f_Queue:ED EM 3 (AW.sl H1) (·.Queue):=by
 rintro S h cs x ⟨v1,v2,v3,v4,v5,v6,rfl,k0,k1,k2,k3,k4,k5,k6⟩
 exact⟨_,rfl,k3⟩
theorem Ia:ED EM 4 (AW.sl D9) (·.Gates):=by
 rintro S h cs x ⟨v1,v2,v3,v4,v5,v6,rfl,k0,k1,k2,k3,k4,k5,k6⟩
 exact⟨_,rfl,k4⟩
structure AG where
 group:ByteArray
 name:ByteArray
instance:Inhabited AG:=⟨⟨default,default⟩⟩
@[reducible] def AG.v (x:AG):List Go.Value:=[.string x.group,.string x.name]
def AG.ok (x:AG):Prop:=x.group.size≤maxLen∧x.name.size≤maxLen
def IH:AW AG where
 sz:=2
 ag:=true
 rd:=λ_ _ cs x=>cs=x.v∧x.ok
 len:=λ⟨h,_⟩=>by rw[h];rfl
 one:=λ{_ _ _ x} ⟨h,_⟩ v hv=>by
  rw[h] at hv
  simp only[AG.v,List.mem_cons,List.not_mem_nil,or_false] at hv
  rcases hv with rfl|rfl<;>rfl
 mono:=λh _ _=>h
theorem IH.ex {S h v}{x:AG}(k:Rd S h IH v x):v= .agg #[.string x.group,.string x.name]∧x.ok:=by obtain⟨_,rfl,rfl,h⟩:=k;exact⟨rfl,h⟩
theorem IH.mk {S h}{x:AG}(k:x.ok):Rd S h IH (.agg #[.string x.group,.string x.name]) x:=⟨x.v,rfl,rfl,k⟩
structure AU where
 at_:Int
 to_:Int
instance:Inhabited AU:=⟨⟨default,default⟩⟩
@[reducible] def AU.v (x:AU):List Go.Value:=[.int .i64 x.at_,.int .i64 x.to_]
def AU.ok (x:AU):Prop:=AB x.at_∧AB x.to_
def Ja:AW AU where
 sz:=2
 ag:=true
 rd:=λ_ _ cs x=>cs=x.v∧x.ok
 len:=λ⟨h,_⟩=>by rw[h];rfl
 one:=λ{_ _ _ x} ⟨h,_⟩ v hv=>by
  rw[h] at hv
  simp only[AU.v,List.mem_cons,List.not_mem_nil,or_false] at hv
  rcases hv with rfl|rfl<;>rfl
 mono:=λh _ _=>h
theorem Ja.ex {S h v}{x:AU}(k:Rd S h Ja v x):v= .agg #[.int .i64 x.at_,.int .i64 x.to_]∧x.ok:=by obtain⟨_,rfl,rfl,h⟩:=k;exact⟨rfl,h⟩
theorem Ja.mk {S h}{x:AU}(k:x.ok):Rd S h Ja (.agg #[.int .i64 x.at_,.int .i64 x.to_]) x:=⟨x.v,rfl,rfl,k⟩
def I1:ByteArray:=ByteArray.mk #[0,1,2,2,3,3,3,3,4,4,4,4,4,4,4,4,5,5,5,5,5,5,5,5,5,5,5,5,5,5,5,5,6,6,6,6,6,6,6,6,6,6,6,6,6,6,6,6,6,6,6,6,6,6,6,6,6,6,6,6,6,6,6,6,7,7,7,7,7,7,7,7,7,7,7,7,7,7,7,7,7,7,7,7,7,7,7,7,7,7,7,7,7,7,7,7,7,7,7,7,7,7,7,7,7,7,7,7,7,7,7,7,7,7,7,7,7,7,7,7,7,7,7,7,7,7,7,7,8,8,8,8,8,8,8,8,8,8,8,8,8,8,8,8,8,8,8,8,8,8,8,8,8,8,8,8,8,8,8,8,8,8,8,8,8,8,8,8,8,8,8,8,8,8,8,8,8,8,8,8,8,8,8,8,8,8,8,8,8,8,8,8,8,8,8,8,8,8,8,8,8,8,8,8,8,8,8,8,8,8,8,8,8,8,8,8,8,8,8,8,8,8,8,8,8,8,8,8,8,8,8,8,8,8,8,8,8,8,8,8,8,8,8,8,8,8,8,8,8,8,8,8,8,8,8,8]
def Cc:List Ce:=([(⟨(ByteArray.mk #[112]),0,2,120,([(⟨0,0⟩:AX)]:List AX),([100]:List Int),1,10,(-1),0,0,[]⟩:Ce)]:List Ce)
end Go.Proofs.YtibidnaedddfdaaGreat
