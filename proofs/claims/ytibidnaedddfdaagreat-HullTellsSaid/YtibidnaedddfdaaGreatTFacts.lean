import Derived.Test.YtibidnaedddfdaaGreatTCore42
import Derived.Test.YtibidnaedddfdaaGreatRows
namespace Go.Proofs.YtibidnaedddfdaaGreat
set_option linter.all false
open Go.RowKit
open Go.Proofs.Tryz
structure AB where
 B:Int
 A:Int
instance:Inhabited AB:=⟨⟨default,default⟩⟩
@[reducible] def AB.v (x:AB):List Go.Value:=[.int .i64 x.B,.int .i64 x.A]
def AB.ok (x:AB):Prop:=AA x.B∧AA x.A
def AC:BX AB where
 sz:=2
 ag:=true
 rd:=λ_ _ cs x=>cs=x.v∧x.ok
 len:=λ⟨h,_⟩=>by rw[h];rfl
 one:=λ{_ _ _ x} ⟨h,_⟩ v a=>by
  rw[h] at a;simp only[AB.v,wN,wY,xF] at a;rcases a with rfl|rfl<;>rfl
 mono:=λh _ _=>h
def AC.ex {S h v}{x:AB}(k:Rd S h AC v x):v= .agg #[.int .i64 x.B,.int .i64 x.A]∧x.ok:=by obtain⟨_,rfl,rfl,h⟩:=k;exact⟨rfl,h⟩
def AC.mk {S h}{x:AB}(k:x.ok):Rd S h AC (.agg #[.int .i64 x.B,.int .i64 x.A]) x:=⟨x.v,rfl,rfl,k⟩
def AB.f_Lo:Gs AC 0 AW (·.B):=by
 rintro S h cs x ⟨rfl,⟨k0,a⟩⟩;exact⟨rfl,k0⟩
def AB.f_Hi:Gs AC 1 AW (·.A):=by
 rintro S h cs x ⟨rfl,⟨k0,a⟩⟩;exact⟨rfl,a⟩
structure AF where
 P:AB
 S:Int
 N:AB
instance:Inhabited AF:=⟨⟨default,default,default⟩⟩
@[reducible] def AF.v (x:AF):List Go.Value:=[.int .i64 x.P.B,.int .i64 x.P.A,.int .i64 x.S,.int .i64 x.N.B,.int .i64 x.N.A]
def AF.ok (x:AF):Prop:=AA x.P.B∧AA x.P.A∧AA x.S∧AA x.N.B∧AA x.N.A
def AJ:BX AF where
 sz:=5
 ag:=true
 rd:=λ_ _ cs x=>cs=x.v∧x.ok
 len:=λ⟨h,_⟩=>by rw[h];rfl
 one:=λ{_ _ _ x} ⟨h,_⟩ v a=>by
  rw[h] at a;simp only[AF.v,wN,wY,xF] at a;rcases a with rfl|rfl|rfl|rfl|rfl<;>rfl
 mono:=λh _ _=>h
def AJ.ex {S h v}{x:AF}(k:Rd S h AJ v x):v= .agg #[.int .i64 x.P.B,.int .i64 x.P.A,.int .i64 x.S,.int .i64 x.N.B,.int .i64 x.N.A]∧x.ok:=by obtain⟨_,rfl,rfl,h⟩:=k;exact⟨rfl,h⟩
def AJ.mk {S h}{x:AF}(k:x.ok):Rd S h AJ (.agg #[.int .i64 x.P.B,.int .i64 x.P.A,.int .i64 x.S,.int .i64 x.N.B,.int .i64 x.N.A]) x:=⟨x.v,rfl,rfl,k⟩
def AF.f_Pos:Gs AJ 0 AC (·.P):=by
 rintro S h cs x ⟨rfl,⟨k0,a,b,c,d⟩⟩;exact⟨rfl,⟨k0,a⟩⟩
def AF.f_Target:Gs AJ 2 AW (·.S):=by
 rintro S h cs x ⟨rfl,⟨k0,b,a,c,d⟩⟩;exact⟨rfl,a⟩
def AF.f_Open:Gs AJ 3 AC (·.N):=by
 rintro S h cs x ⟨rfl,⟨k0,c,d,a,b⟩⟩;exact⟨rfl,⟨a,b⟩⟩
def AF.u_Target:RI AJ 2 AW (λx y=>{ x with S:=y}):=by
 refine⟨by decide,?_⟩;rintro S h c x vs y ⟨rfl,⟨k0,a,i,b,d⟩⟩ ⟨rfl,g⟩;exact⟨rfl,⟨k0,a,g,b,d⟩⟩
def AF.u_Open:RI AJ 3 AC (λx y=>{ x with N:=y}):=by
 refine⟨by decide,?_⟩;rintro S h c x vs y ⟨rfl,⟨k0,a,b,i,j⟩⟩ ⟨rfl,⟨d,g⟩⟩;exact⟨rfl,⟨k0,a,b,d,g⟩⟩
structure A9 where
 M:Int
 Q:Int
instance:Inhabited A9:=⟨⟨default,default⟩⟩
@[reducible] def A9.v (x:A9):List Go.Value:=[.int .i64 x.M,.int .i64 x.Q]
def A9.ok (x:A9):Prop:=AA x.M∧AA x.Q
def CJ:BX A9 where
 sz:=2
 ag:=true
 rd:=λ_ _ cs x=>cs=x.v∧x.ok
 len:=λ⟨h,_⟩=>by rw[h];rfl
 one:=λ{_ _ _ x} ⟨h,_⟩ v a=>by
  rw[h] at a;simp only[A9.v,wN,wY,xF] at a;rcases a with rfl|rfl<;>rfl
 mono:=λh _ _=>h
def CJ.ex {S h v}{x:A9}(k:Rd S h CJ v x):v= .agg #[.int .i64 x.M,.int .i64 x.Q]∧x.ok:=by obtain⟨_,rfl,rfl,h⟩:=k;exact⟨rfl,h⟩
def CJ.mk {S h}{x:A9}(k:x.ok):Rd S h CJ (.agg #[.int .i64 x.M,.int .i64 x.Q]) x:=⟨x.v,rfl,rfl,k⟩
def UP:Gs CJ 0 AW (·.M):=by
 rintro S h cs x ⟨rfl,⟨k0,a⟩⟩;exact⟨rfl,k0⟩
def Nq:Gs CJ 1 AW (·.Q):=by
 rintro S h cs x ⟨rfl,⟨k0,a⟩⟩;exact⟨rfl,a⟩
structure M2 where
 B:(List A9)
 A:(List A9)
instance:Inhabited M2:=⟨⟨default,default⟩⟩
def NC:BX M2 where
 sz:=2
 ag:=true
 rd:=λS h cs x=>∃a b:Value,cs=[a,b]∧Sl S h CJ a x.B∧Sl S h CJ b x.A
 len:=λ⟨_,_,h,_⟩=>by rw[h];rfl
 one:=by
  rintro S h cs x ⟨a,b,rfl,k0,c⟩ v d;simp only[wN,wY,xF] at d;rcases d with rfl|rfl<;>first|rfl|exact Sl.one ‹_› |exact(‹_∧_›).2|(obtain ⟨_,_,rfl,_⟩:=Rd.fn ‹_›;rfl)|(obtain ⟨_,_,rfl,_⟩:=Rd.fnr ‹_›;rfl)
 mono:=by
  rintro S g h h' cs x ⟨a,b,rfl,k0,c⟩ s e;exact⟨a,b,rfl,k0.mono s e,c.mono s e⟩
def NC.ex {S h v}{x:M2}(k:Rd S h NC v x):∃a b:Value,v= .agg #[a,b]∧Sl S h CJ a x.B∧Sl S h CJ b x.A:=by obtain⟨_,rfl,a,b,rfl,k⟩:=k;exact⟨a,b,rfl,k⟩
def NC.mk {S h}{x:M2}{a b:Value}(k0:Sl S h CJ a x.B) (c:Sl S h CJ b x.A):Rd S h NC (.agg #[a,b]) x:=⟨_,rfl,a,b,rfl,k0,c⟩
def M2.f_Lo:Gs NC 0 (BX.sl CJ) (·.B):=by
 rintro S h cs x ⟨a,b,rfl,k0,c⟩;exact⟨_,rfl,k0⟩
def M2.f_Hi:Gs NC 1 (BX.sl CJ) (·.A):=by
 rintro S h cs x ⟨b,c,rfl,k0,a⟩;exact⟨_,rfl,a⟩
structure AS where
 O:ByteArray
 I:Int
 V:Int
 C:Int
 Au:(List A9)
 Ac:M2
 X:Int
 Am:Int
 Aw:Int
 Ax:Int
 W:Int
 R:Int
 Ae:Int
 Ab:Int
 Aj:Int
 Ag:Int
 Y:Int
instance:Inhabited AS:=⟨⟨default,default,default,default,default,default,default,default,default,default,default,default,default,default,default,default,default⟩⟩
def BL:BX AS where
 sz:=18
 ag:=true
 rd:=λS h cs x=>∃a b c:Value,cs=[.string x.O,.int .i64 x.I,.int .i64 x.V,.int .i64 x.C,a,b,c,.int .i64 x.X,.int .i64 x.Am,.int .i64 x.Aw,.int .i64 x.Ax,.int .i64 x.W,.int .i64 x.R,.int .i64 x.Ae,.int .i64 x.Ab,.int .i64 x.Aj,.int .i64 x.Ag,.int .i64 x.Y]∧x.O.size≤maxLen∧AA x.I∧AA x.V∧AA x.C∧Sl S h CJ a x.Au∧Sl S h CJ b x.Ac.B∧Sl S h CJ c x.Ac.A∧AA x.X∧AA x.Am∧AA x.Aw∧AA x.Ax∧AA x.W∧AA x.R∧AA x.Ae∧AA x.Ab∧AA x.Aj∧AA x.Ag∧AA x.Y
 len:=λ⟨_,_,_,h,_⟩=>by rw[h];rfl
 one:=by
  rintro S h cs x ⟨a,b,c,rfl,k0,o,p,q,t,u,w,y,z,D,d,g,i,j,k,l,m,n⟩ v F;simp only[wN,wY,xF] at F;rcases F with rfl|rfl|rfl|rfl|rfl|rfl|rfl|rfl|rfl|rfl|rfl|rfl|rfl|rfl|rfl|rfl|rfl|rfl<;>first|rfl|exact Sl.one ‹_› |exact(‹_∧_›).2|(obtain ⟨_,_,rfl,_⟩:=Rd.fn ‹_›;rfl)|(obtain ⟨_,_,rfl,_⟩:=Rd.fnr ‹_›;rfl)
 mono:=by
  rintro S G h h' cs x ⟨a,b,c,rfl,k0,o,p,q,t,u,w,y,z,D,d,g,i,j,k,l,m,n⟩ s e;exact⟨a,b,c,rfl,k0,o,p,q,t.mono s e,u.mono s e,w.mono s e,y,z,D,d,g,i,j,k,l,m,n⟩
def BL.ex {S h v}{x:AS}(k:Rd S h BL v x):∃a b c:Value,v= .agg #[.string x.O,.int .i64 x.I,.int .i64 x.V,.int .i64 x.C,a,b,c,.int .i64 x.X,.int .i64 x.Am,.int .i64 x.Aw,.int .i64 x.Ax,.int .i64 x.W,.int .i64 x.R,.int .i64 x.Ae,.int .i64 x.Ab,.int .i64 x.Aj,.int .i64 x.Ag,.int .i64 x.Y]∧x.O.size≤maxLen∧AA x.I∧AA x.V∧AA x.C∧Sl S h CJ a x.Au∧Sl S h CJ b x.Ac.B∧Sl S h CJ c x.Ac.A∧AA x.X∧AA x.Am∧AA x.Aw∧AA x.Ax∧AA x.W∧AA x.R∧AA x.Ae∧AA x.Ab∧AA x.Aj∧AA x.Ag∧AA x.Y:=by obtain⟨_,rfl,a,b,c,rfl,k⟩:=k;exact⟨a,b,c,rfl,k⟩
def BL.mk {S h}{x:AS}{a b c:Value}(k0:x.O.size≤maxLen) (o:AA x.I) (p:AA x.V) (q:AA x.C) (s:Sl S h CJ a x.Au) (t:Sl S h CJ b x.Ac.B) (u:Sl S h CJ c x.Ac.A) (v:AA x.X) (w:AA x.Am) (y:AA x.Aw) (d:AA x.Ax) (g:AA x.W) (i:AA x.R) (j:AA x.Ae) (k:AA x.Ab) (l:AA x.Aj) (m:AA x.Ag) (n:AA x.Y):Rd S h BL (.agg #[.string x.O,.int .i64 x.I,.int .i64 x.V,.int .i64 x.C,a,b,c,.int .i64 x.X,.int .i64 x.Am,.int .i64 x.Aw,.int .i64 x.Ax,.int .i64 x.W,.int .i64 x.R,.int .i64 x.Ae,.int .i64 x.Ab,.int .i64 x.Aj,.int .i64 x.Ag,.int .i64 x.Y]) x:=⟨_,rfl,a,b,c,rfl,k0,o,p,q,s,t,u,v,w,y,d,g,i,j,k,l,m,n⟩
def AS.f_Name:Gs BL 0 BX.str (·.O):=by
 rintro S h cs x ⟨l,m,n,rfl,k0,o,p,q,s,t,u,v,w,y,a,b,c,d,g,i,j,k⟩;exact⟨rfl,k0⟩
def AS.f_Kind:Gs BL 1 AW (·.I):=by
 rintro S h cs x ⟨m,n,o,rfl,k0,a,p,q,s,t,u,v,w,y,b,c,d,g,i,j,k,l⟩;exact⟨rfl,a⟩
def AS.f_To:Gs BL 3 AW (·.C):=by
 rintro S h cs x ⟨m,n,o,rfl,k0,p,q,a,s,t,u,v,w,y,b,c,d,g,i,j,k,l⟩;exact⟨rfl,a⟩
def NQ:Gs BL 4 (BX.sl CJ) (·.Au):=by
 rintro S h cs x ⟨m,n,o,rfl,k0,p,q,s,a,t,u,v,w,y,b,c,d,g,i,j,k,l⟩;exact⟨_,rfl,a⟩
def JU:Gs BL 5 NC (·.Ac):=by
 rintro S h cs x ⟨n,o,p,rfl,k0,q,s,t,u,a,b,v,w,y,c,d,g,i,j,k,l,m⟩;exact⟨_,_,rfl,a,b⟩
def Co:Gs BL 7 AW (·.X):=by
 rintro S h cs x ⟨m,n,o,rfl,k0,p,q,s,t,u,v,a,w,y,b,c,d,g,i,j,k,l⟩;exact⟨rfl,a⟩
def HI:Gs BL 8 AW (·.Am):=by
 rintro S h cs x ⟨m,n,o,rfl,k0,p,q,s,t,u,v,w,a,y,b,c,d,g,i,j,k,l⟩;exact⟨rfl,a⟩
def NR:Gs BL 9 AW (·.Aw):=by
 rintro S h cs x ⟨m,n,o,rfl,k0,p,q,s,t,u,v,w,y,a,b,c,d,g,i,j,k,l⟩;exact⟨rfl,a⟩
def AS.f_Crest:Gs BL 10 AW (·.Ax):=by
 rintro S h cs x ⟨l,m,n,rfl,k0,o,p,q,s,t,u,v,w,y,a,b,c,d,g,i,j,k⟩;exact⟨rfl,a⟩
def AS.f_Num:Gs BL 11 AW (·.W):=by
 rintro S h cs x ⟨l,m,n,rfl,k0,o,p,q,s,t,u,v,w,y,b,a,c,d,g,i,j,k⟩;exact⟨rfl,a⟩
def AS.f_Den:Gs BL 12 AW (·.R):=by
 rintro S h cs x ⟨l,m,n,rfl,k0,o,p,q,s,t,u,v,w,y,b,c,a,d,g,i,j,k⟩;exact⟨rfl,a⟩
def Lo:Gs BL 13 AW (·.Ae):=by
 rintro S h cs x ⟨l,m,n,rfl,k0,o,p,q,s,t,u,v,w,y,b,c,d,a,g,i,j,k⟩;exact⟨rfl,a⟩
def KO:Gs BL 14 AW (·.Ab):=by
 rintro S h cs x ⟨l,m,n,rfl,k0,o,p,q,s,t,u,v,w,y,b,c,d,g,a,i,j,k⟩;exact⟨rfl,a⟩
def JA:Gs BL 15 AW (·.Aj):=by
 rintro S h cs x ⟨l,m,n,rfl,k0,o,p,q,s,t,u,v,w,y,b,c,d,g,i,a,j,k⟩;exact⟨rfl,a⟩
def JB:Gs BL 16 AW (·.Ag):=by
 rintro S h cs x ⟨l,m,n,rfl,k0,o,p,q,s,t,u,v,w,y,b,c,d,g,i,j,a,k⟩;exact⟨rfl,a⟩
def AS.f_Delay:Gs BL 17 AW (·.Y):=by
 rintro S h cs x ⟨l,m,n,rfl,k0,o,p,q,s,t,u,v,w,y,b,c,d,g,i,j,k,a⟩;exact⟨rfl,a⟩
structure Cs where
 P:Int
 S:Int
 Bd:Bool
 N:Bool
instance:Inhabited Cs:=⟨⟨default,default,default,default⟩⟩
@[reducible] def Cs.v (x:Cs):List Go.Value:=[.int .i64 x.P,.int .i64 x.S,.bool x.Bd,.bool x.N]
def Cs.ok (x:Cs):Prop:=AA x.P∧AA x.S
def FU:BX Cs where
 sz:=4
 ag:=true
 rd:=λ_ _ cs x=>cs=x.v∧x.ok
 len:=λ⟨h,_⟩=>by rw[h];rfl
 one:=λ{_ _ _ x} ⟨h,_⟩ v a=>by
  rw[h] at a;simp only[Cs.v,wN,wY,xF] at a;rcases a with rfl|rfl|rfl|rfl<;>rfl
 mono:=λh _ _=>h
def FU.ex {S h v}{x:Cs}(k:Rd S h FU v x):v= .agg #[.int .i64 x.P,.int .i64 x.S,.bool x.Bd,.bool x.N]∧x.ok:=by obtain⟨_,rfl,rfl,h⟩:=k;exact⟨rfl,h⟩
def FU.mk {S h}{x:Cs}(k:x.ok):Rd S h FU (.agg #[.int .i64 x.P,.int .i64 x.S,.bool x.Bd,.bool x.N]) x:=⟨x.v,rfl,rfl,k⟩
def Cs.f_Pos:Gs FU 0 AW (·.P):=by
 rintro S h cs x ⟨rfl,⟨k0,a⟩⟩;exact⟨rfl,k0⟩
def Cs.f_Target:Gs FU 1 AW (·.S):=by
 rintro S h cs x ⟨rfl,⟨k0,a⟩⟩;exact⟨rfl,a⟩
def Cs.f_Open:Gs FU 3 BX.bool (·.N):=by
 rintro S h cs x ⟨rfl,⟨k0,a⟩⟩;exact rfl
def Cs.u_Target:RI FU 1 AW (λx y=>{ x with S:=y}):=by
 refine⟨by decide,?_⟩;rintro S h c x vs y ⟨rfl,⟨k0,b⟩⟩ ⟨rfl,a⟩;exact⟨rfl,⟨k0,a⟩⟩
def Cs.u_Open:RI FU 3 BX.bool (λx y=>{ x with N:=y}):=by
 refine⟨by decide,?_⟩;rintro S h c x vs y ⟨rfl,⟨k0,a⟩⟩ rfl;exact⟨rfl,⟨k0,a⟩⟩
structure RK where
 Bg:Int
 Br:Int
instance:Inhabited RK:=⟨⟨default,default⟩⟩
@[reducible] def RK.v (x:RK):List Go.Value:=[.int .i64 x.Bg,.int .i64 x.Br]
def RK.ok (x:RK):Prop:=AA x.Bg∧AA x.Br
def NB:BX RK where
 sz:=2
 ag:=true
 rd:=λ_ _ cs x=>cs=x.v∧x.ok
 len:=λ⟨h,_⟩=>by rw[h];rfl
 one:=λ{_ _ _ x} ⟨h,_⟩ v a=>by
  rw[h] at a;simp only[RK.v,wN,wY,xF] at a;rcases a with rfl|rfl<;>rfl
 mono:=λh _ _=>h
def NB.ex {S h v}{x:RK}(k:Rd S h NB v x):v= .agg #[.int .i64 x.Bg,.int .i64 x.Br]∧x.ok:=by obtain⟨_,rfl,rfl,h⟩:=k;exact⟨rfl,h⟩
def NB.mk {S h}{x:RK}(k:x.ok):Rd S h NB (.agg #[.int .i64 x.Bg,.int .i64 x.Br]) x:=⟨x.v,rfl,rfl,k⟩
structure EW where
 O:ByteArray
 I:Int
 Av:Int
 Ah:Int
 Bk:(List A9)
 Bc:(List Int)
 W:Int
 R:Int
 Ao:Int
 Y:Int
 Be:Int
 Ba:(List RK)
instance:Inhabited EW:=⟨⟨default,default,default,default,default,default,default,default,default,default,default,default⟩⟩
def B3:BX EW where
 sz:=12
 ag:=true
 rd:=λS h cs x=>∃b c a:Value,cs=[.string x.O,.int .i64 x.I,.int .i64 x.Av,.int .i64 x.Ah,b,c,.int .i64 x.W,.int .i64 x.R,.int .i64 x.Ao,.int .i64 x.Y,.int .i64 x.Be,a]∧x.O.size≤maxLen∧AA x.I∧AA x.Av∧AA x.Ah∧Sl S h CJ b x.Bk∧Sl S h AW c x.Bc∧AA x.W∧AA x.R∧AA x.Ao∧AA x.Y∧AA x.Be∧Sl S h NB a x.Ba
 len:=λ⟨_,_,_,h,_⟩=>by rw[h];rfl
 one:=by
  rintro S h cs x ⟨b,c,a,rfl,k0,i,j,k,l,m,n,o,p,q,d,g⟩ v t;simp only[wN,wY,xF] at t;rcases t with rfl|rfl|rfl|rfl|rfl|rfl|rfl|rfl|rfl|rfl|rfl|rfl<;>first|rfl|exact Sl.one ‹_› |exact(‹_∧_›).2|(obtain ⟨_,_,rfl,_⟩:=Rd.fn ‹_›;rfl)|(obtain ⟨_,_,rfl,_⟩:=Rd.fnr ‹_›;rfl)
 mono:=by
  rintro S u h h' cs x ⟨b,c,a,rfl,k0,i,j,k,l,m,n,o,p,q,d,g⟩ s e;exact⟨b,c,a,rfl,k0,i,j,k,l.mono s e,m.mono s e,n,o,p,q,d,g.mono s e⟩
def B3.ex {S h v}{x:EW}(k:Rd S h B3 v x):∃b c a:Value,v= .agg #[.string x.O,.int .i64 x.I,.int .i64 x.Av,.int .i64 x.Ah,b,c,.int .i64 x.W,.int .i64 x.R,.int .i64 x.Ao,.int .i64 x.Y,.int .i64 x.Be,a]∧x.O.size≤maxLen∧AA x.I∧AA x.Av∧AA x.Ah∧Sl S h CJ b x.Bk∧Sl S h AW c x.Bc∧AA x.W∧AA x.R∧AA x.Ao∧AA x.Y∧AA x.Be∧Sl S h NB a x.Ba:=by obtain⟨_,rfl,b,c,a,rfl,k⟩:=k;exact⟨b,c,a,rfl,k⟩
def B3.mk {S h}{x:EW}{b c a:Value}(k0:x.O.size≤maxLen) (i:AA x.I) (j:AA x.Av) (k:AA x.Ah) (l:Sl S h CJ b x.Bk) (m:Sl S h AW c x.Bc) (n:AA x.W) (o:AA x.R) (p:AA x.Ao) (q:AA x.Y) (d:AA x.Be) (g:Sl S h NB a x.Ba):Rd S h B3 (.agg #[.string x.O,.int .i64 x.I,.int .i64 x.Av,.int .i64 x.Ah,b,c,.int .i64 x.W,.int .i64 x.R,.int .i64 x.Ao,.int .i64 x.Y,.int .i64 x.Be,a]) x:=⟨_,rfl,b,c,a,rfl,k0,i,j,k,l,m,n,o,p,q,d,g⟩
def EW.f_Name:Gs B3 0 BX.str (·.O):=by
 rintro S h cs x ⟨d,g,a,rfl,k0,i,j,k,l,m,n,o,p,q,b,c⟩;exact⟨rfl,k0⟩
def EW.f_Kind:Gs B3 1 AW (·.I):=by
 rintro S h cs x ⟨g,i,a,rfl,k0,b,j,k,l,m,n,o,p,q,c,d⟩;exact⟨rfl,b⟩
def PU:Gs B3 2 AW (·.Av):=by
 rintro S h cs x ⟨g,i,a,rfl,k0,j,b,k,l,m,n,o,p,q,c,d⟩;exact⟨rfl,b⟩
def EW.f_Num:Gs B3 6 AW (·.W):=by
 rintro S h cs x ⟨g,i,a,rfl,k0,j,k,l,m,n,b,o,p,q,c,d⟩;exact⟨rfl,b⟩
def EW.f_Den:Gs B3 7 AW (·.R):=by
 rintro S h cs x ⟨g,i,a,rfl,k0,j,k,l,m,n,o,b,p,q,c,d⟩;exact⟨rfl,b⟩
def EW.f_Delay:Gs B3 9 AW (·.Y):=by
 rintro S h cs x ⟨g,i,a,rfl,k0,j,k,l,m,n,o,p,q,b,c,d⟩;exact⟨rfl,b⟩
def EW.f_Rain:Gs B3 11 (BX.sl NB) (·.Ba):=by
 rintro S h cs x ⟨d,g,b,rfl,k0,i,j,k,l,m,n,o,p,q,c,a⟩;exact⟨_,rfl,a⟩
structure Oj where
 O:ByteArray
 Ay:Int
 Bs:Int
 Bp:Int
 Bw:Int
 Bt:Int
 Bi:Int
instance:Inhabited Oj:=⟨⟨default,default,default,default,default,default,default⟩⟩
@[reducible] def Oj.v (x:Oj):List Go.Value:=[.string x.O,.int .i64 x.Ay,.int .i64 x.Bs,.int .i64 x.Bp,.int .i64 x.Bw,.int .i64 x.Bt,.int .i64 x.Bi]
def Oj.ok (x:Oj):Prop:=x.O.size≤maxLen∧AA x.Ay∧AA x.Bs∧AA x.Bp∧AA x.Bw∧AA x.Bt∧AA x.Bi
def Gn:BX Oj where
 sz:=7
 ag:=true
 rd:=λ_ _ cs x=>cs=x.v∧x.ok
 len:=λ⟨h,_⟩=>by rw[h];rfl
 one:=λ{_ _ _ x} ⟨h,_⟩ v a=>by
  rw[h] at a;simp only[Oj.v,wN,wY,xF] at a;rcases a with rfl|rfl|rfl|rfl|rfl|rfl|rfl<;>rfl
 mono:=λh _ _=>h
def Gn.ex {S h v}{x:Oj}(k:Rd S h Gn v x):v= .agg #[.string x.O,.int .i64 x.Ay,.int .i64 x.Bs,.int .i64 x.Bp,.int .i64 x.Bw,.int .i64 x.Bt,.int .i64 x.Bi]∧x.ok:=by obtain⟨_,rfl,rfl,h⟩:=k;exact⟨rfl,h⟩
def Gn.mk {S h}{x:Oj}(k:x.ok):Rd S h Gn (.agg #[.string x.O,.int .i64 x.Ay,.int .i64 x.Bs,.int .i64 x.Bp,.int .i64 x.Bw,.int .i64 x.Bt,.int .i64 x.Bi]) x:=⟨x.v,rfl,rfl,k⟩
def Oj.f_Name:Gs Gn 0 BX.str (·.O):=by
 rintro S h cs x ⟨rfl,⟨k0,a,b,c,d,g,i⟩⟩;exact⟨rfl,k0⟩
def Oj.f_Place:Gs Gn 1 AW (·.Ay):=by
 rintro S h cs x ⟨rfl,⟨k0,a,b,c,d,g,i⟩⟩;exact⟨rfl,a⟩
structure L4 where
 O:ByteArray
 I:Int
 S:Int
 U:Int
 Bu:Int
instance:Inhabited L4:=⟨⟨default,default,default,default,default⟩⟩
@[reducible] def L4.v (x:L4):List Go.Value:=[.string x.O,.int .i64 x.I,.int .i64 x.S,.int .i64 x.U,.int .i64 x.Bu]
def L4.ok (x:L4):Prop:=x.O.size≤maxLen∧AA x.I∧AA x.S∧AA x.U∧AA x.Bu
def ED:BX L4 where
 sz:=5
 ag:=true
 rd:=λ_ _ cs x=>cs=x.v∧x.ok
 len:=λ⟨h,_⟩=>by rw[h];rfl
 one:=λ{_ _ _ x} ⟨h,_⟩ v a=>by
  rw[h] at a;simp only[L4.v,wN,wY,xF] at a;rcases a with rfl|rfl|rfl|rfl|rfl<;>rfl
 mono:=λh _ _=>h
def ED.ex {S h v}{x:L4}(k:Rd S h ED v x):v= .agg #[.string x.O,.int .i64 x.I,.int .i64 x.S,.int .i64 x.U,.int .i64 x.Bu]∧x.ok:=by obtain⟨_,rfl,rfl,h⟩:=k;exact⟨rfl,h⟩
def ED.mk {S h}{x:L4}(k:x.ok):Rd S h ED (.agg #[.string x.O,.int .i64 x.I,.int .i64 x.S,.int .i64 x.U,.int .i64 x.Bu]) x:=⟨x.v,rfl,rfl,k⟩
def L4.f_Name:Gs ED 0 BX.str (·.O):=by
 rintro S h cs x ⟨rfl,⟨k0,a,b,c,d⟩⟩;exact⟨rfl,k0⟩
def L4.f_Kind:Gs ED 1 AW (·.I):=by
 rintro S h cs x ⟨rfl,⟨k0,a,b,c,d⟩⟩;exact⟨rfl,a⟩
def L4.f_Target:Gs ED 2 AW (·.S):=by
 rintro S h cs x ⟨rfl,⟨k0,b,a,c,d⟩⟩;exact⟨rfl,a⟩
def L4.f_Err:Gs ED 3 AW (·.U):=by
 rintro S h cs x ⟨rfl,⟨k0,b,c,a,d⟩⟩;exact⟨rfl,a⟩
def L4.u_Target:RI ED 2 AW (λx y=>{ x with S:=y}):=by
 refine⟨by decide,?_⟩;rintro S h c x vs y ⟨rfl,⟨k0,a,i,b,d⟩⟩ ⟨rfl,g⟩;exact⟨rfl,⟨k0,a,g,b,d⟩⟩
structure PT where
 O:ByteArray
 V:Int
 C:Int
 Bx:Int
 By:Int
 Bl:Int
 Bm:Int
instance:Inhabited PT:=⟨⟨default,default,default,default,default,default,default⟩⟩
@[reducible] def PT.v (x:PT):List Go.Value:=[.string x.O,.int .i64 x.V,.int .i64 x.C,.int .i64 x.Bx,.int .i64 x.By,.int .i64 x.Bl,.int .i64 x.Bm]
def PT.ok (x:PT):Prop:=x.O.size≤maxLen∧AA x.V∧AA x.C∧AA x.Bx∧AA x.By∧AA x.Bl∧AA x.Bm
def Gp:BX PT where
 sz:=7
 ag:=true
 rd:=λ_ _ cs x=>cs=x.v∧x.ok
 len:=λ⟨h,_⟩=>by rw[h];rfl
 one:=λ{_ _ _ x} ⟨h,_⟩ v a=>by
  rw[h] at a;simp only[PT.v,wN,wY,xF] at a;rcases a with rfl|rfl|rfl|rfl|rfl|rfl|rfl<;>rfl
 mono:=λh _ _=>h
def Gp.ex {S h v}{x:PT}(k:Rd S h Gp v x):v= .agg #[.string x.O,.int .i64 x.V,.int .i64 x.C,.int .i64 x.Bx,.int .i64 x.By,.int .i64 x.Bl,.int .i64 x.Bm]∧x.ok:=by obtain⟨_,rfl,rfl,h⟩:=k;exact⟨rfl,h⟩
def Gp.mk {S h}{x:PT}(k:x.ok):Rd S h Gp (.agg #[.string x.O,.int .i64 x.V,.int .i64 x.C,.int .i64 x.Bx,.int .i64 x.By,.int .i64 x.Bl,.int .i64 x.Bm]) x:=⟨x.v,rfl,rfl,k⟩
def PT.f_Name:Gs Gp 0 BX.str (·.O):=by
 rintro S h cs x ⟨rfl,⟨k0,a,b,c,d,g,i⟩⟩;exact⟨rfl,k0⟩
def PT.f_To:Gs Gp 2 AW (·.C):=by
 rintro S h cs x ⟨rfl,⟨k0,b,a,c,d,g,i⟩⟩;exact⟨rfl,a⟩
structure Kx where
 O:ByteArray
 Ar:Int
instance:Inhabited Kx:=⟨⟨default,default⟩⟩
@[reducible] def Kx.v (x:Kx):List Go.Value:=[.string x.O,.int .i64 x.Ar]
def Kx.ok (x:Kx):Prop:=x.O.size≤maxLen∧AA x.Ar
def DC:BX Kx where
 sz:=2
 ag:=true
 rd:=λ_ _ cs x=>cs=x.v∧x.ok
 len:=λ⟨h,_⟩=>by rw[h];rfl
 one:=λ{_ _ _ x} ⟨h,_⟩ v a=>by
  rw[h] at a;simp only[Kx.v,wN,wY,xF] at a;rcases a with rfl|rfl<;>rfl
 mono:=λh _ _=>h
def DC.ex {S h v}{x:Kx}(k:Rd S h DC v x):v= .agg #[.string x.O,.int .i64 x.Ar]∧x.ok:=by obtain⟨_,rfl,rfl,h⟩:=k;exact⟨rfl,h⟩
def DC.mk {S h}{x:Kx}(k:x.ok):Rd S h DC (.agg #[.string x.O,.int .i64 x.Ar]) x:=⟨x.v,rfl,rfl,k⟩
def Kx.f_Name:Gs DC 0 BX.str (·.O):=by
 rintro S h cs x ⟨rfl,⟨k0,a⟩⟩;exact⟨rfl,k0⟩
def Kx.f_Room:Gs DC 1 AW (·.Ar):=by
 rintro S h cs x ⟨rfl,⟨k0,a⟩⟩;exact⟨rfl,a⟩
structure AH where
 O:ByteArray
 Z:(List ByteArray)
 T:Int
 F:(List EW)
 D:(List AS)
 Ak:(List Oj)
 Ap:(List L4)
 Aq:(List PT)
 As:(List Kx)
 Ar:(List Int)
 U:Int
instance:Inhabited AH:=⟨⟨default,default,default,default,default,default,default,default,default,default,default⟩⟩
def B5:BX AH where
 sz:=11
 ag:=true
 rd:=λS h cs x=>∃a b c d g i j k:Value,cs=[.string x.O,a,.int .i64 x.T,b,c,d,g,i,j,k,.int .i64 x.U]∧x.O.size≤maxLen∧Sl S h BX.str a x.Z∧AA x.T∧Sl S h B3 b x.F∧Sl S h BL c x.D∧Sl S h Gn d x.Ak∧Sl S h ED g x.Ap∧Sl S h Gp i x.Aq∧Sl S h DC j x.As∧Sl S h AW k x.Ar∧AA x.U
 len:=λ⟨_,_,_,_,_,_,_,_,h,_⟩=>by rw[h];rfl
 one:=by
  rintro S h cs x ⟨a,b,c,d,g,i,j,k,rfl,k0,m,n,o,p,q,t,u,w,y,l⟩ v z;simp only[wN,wY,xF] at z;rcases z with rfl|rfl|rfl|rfl|rfl|rfl|rfl|rfl|rfl|rfl|rfl<;>first|rfl|exact Sl.one ‹_› |exact(‹_∧_›).2|(obtain ⟨_,_,rfl,_⟩:=Rd.fn ‹_›;rfl)|(obtain ⟨_,_,rfl,_⟩:=Rd.fnr ‹_›;rfl)
 mono:=by
  rintro S A h h' cs x ⟨a,b,c,d,g,i,j,k,rfl,k0,m,n,o,p,q,t,u,w,y,l⟩ s e;exact⟨a,b,c,d,g,i,j,k,rfl,k0,m.mono s e,n,o.mono s e,p.mono s e,q.mono s e,t.mono s e,u.mono s e,w.mono s e,y.mono s e,l⟩
def B5.ex {S h v}{x:AH}(k:Rd S h B5 v x):∃a b c d g i j l:Value,v= .agg #[.string x.O,a,.int .i64 x.T,b,c,d,g,i,j,l,.int .i64 x.U]∧x.O.size≤maxLen∧Sl S h BX.str a x.Z∧AA x.T∧Sl S h B3 b x.F∧Sl S h BL c x.D∧Sl S h Gn d x.Ak∧Sl S h ED g x.Ap∧Sl S h Gp i x.Aq∧Sl S h DC j x.As∧Sl S h AW l x.Ar∧AA x.U:=by obtain⟨_,rfl,a,b,c,d,g,i,j,l,rfl,k⟩:=k;exact⟨a,b,c,d,g,i,j,l,rfl,k⟩
def B5.mk {S h}{x:AH}{a b c d g i j k:Value}(k0:x.O.size≤maxLen) (m:Sl S h BX.str a x.Z) (n:AA x.T) (o:Sl S h B3 b x.F) (p:Sl S h BL c x.D) (q:Sl S h Gn d x.Ak) (s:Sl S h ED g x.Ap) (t:Sl S h Gp i x.Aq) (u:Sl S h DC j x.As) (v:Sl S h AW k x.Ar) (l:AA x.U):Rd S h B5 (.agg #[.string x.O,a,.int .i64 x.T,b,c,d,g,i,j,k,.int .i64 x.U]) x:=⟨_,rfl,a,b,c,d,g,i,j,k,rfl,k0,m,n,o,p,q,s,t,u,v,l⟩
def AH.f_Name:Gs B5 0 BX.str (·.O):=by
 rintro S h cs x ⟨b,c,d,g,i,j,k,l,rfl,k0,m,n,o,p,q,s,t,u,v,a⟩;exact⟨rfl,k0⟩
def JC:Gs B5 1 (BX.sl BX.str) (·.Z):=by
 rintro S h cs x ⟨c,d,g,i,j,k,l,m,rfl,k0,a,n,o,p,q,s,t,u,v,b⟩;exact⟨_,rfl,a⟩
def Ns:Gs B5 2 AW (·.T):=by
 rintro S h cs x ⟨c,d,g,i,j,k,l,m,rfl,k0,n,a,o,p,q,s,t,u,v,b⟩;exact⟨rfl,a⟩
def CS:Gs B5 3 (BX.sl B3) (·.F):=by
 rintro S h cs x ⟨c,d,g,i,j,k,l,m,rfl,k0,n,o,a,p,q,s,t,u,v,b⟩;exact⟨_,rfl,a⟩
def AH.f_Links:Gs B5 4 (BX.sl BL) (·.D):=by
 rintro S h cs x ⟨c,d,g,i,j,k,l,m,rfl,k0,n,o,p,a,q,s,t,u,v,b⟩;exact⟨_,rfl,a⟩
def MR:Gs B5 5 (BX.sl Gn) (·.Ak):=by
 rintro S h cs x ⟨c,d,g,i,j,k,l,m,rfl,k0,n,o,p,q,a,s,t,u,v,b⟩;exact⟨_,rfl,a⟩
def NE:Gs B5 6 (BX.sl ED) (·.Ap):=by
 rintro S h cs x ⟨c,d,g,i,j,k,l,m,rfl,k0,n,o,p,q,s,a,t,u,v,b⟩;exact⟨_,rfl,a⟩
def Nr:Gs B5 7 (BX.sl Gp) (·.Aq):=by
 rintro S h cs x ⟨c,d,g,i,j,k,l,m,rfl,k0,n,o,p,q,s,t,a,u,v,b⟩;exact⟨_,rfl,a⟩
def MS:Gs B5 8 (BX.sl DC) (·.As):=by
 rintro S h cs x ⟨c,d,g,i,j,k,l,m,rfl,k0,n,o,p,q,s,t,u,a,v,b⟩;exact⟨_,rfl,a⟩
def AH.f_Room:Gs B5 9 (BX.sl AW) (·.Ar):=by
 rintro S h cs x ⟨c,d,g,i,j,k,l,m,rfl,k0,n,o,p,q,s,t,u,v,a,b⟩;exact⟨_,rfl,a⟩
def AH.f_Err:Gs B5 10 AW (·.U):=by
 rintro S h cs x ⟨b,c,d,g,i,j,k,l,rfl,k0,m,n,o,p,q,s,t,u,v,a⟩;exact⟨rfl,a⟩
structure AY where
 K:Int
 C:Int
 G:AB
instance:Inhabited AY:=⟨⟨default,default,default⟩⟩
@[reducible] def AY.v (x:AY):List Go.Value:=[.int .i64 x.K,.int .i64 x.C,.int .i64 x.G.B,.int .i64 x.G.A]
def AY.ok (x:AY):Prop:=AA x.K∧AA x.C∧AA x.G.B∧AA x.G.A
def BU:BX AY where
 sz:=4
 ag:=true
 rd:=λ_ _ cs x=>cs=x.v∧x.ok
 len:=λ⟨h,_⟩=>by rw[h];rfl
 one:=λ{_ _ _ x} ⟨h,_⟩ v a=>by
  rw[h] at a;simp only[AY.v,wN,wY,xF] at a;rcases a with rfl|rfl|rfl|rfl<;>rfl
 mono:=λh _ _=>h
def BU.ex {S h v}{x:AY}(k:Rd S h BU v x):v= .agg #[.int .i64 x.K,.int .i64 x.C,.int .i64 x.G.B,.int .i64 x.G.A]∧x.ok:=by obtain⟨_,rfl,rfl,h⟩:=k;exact⟨rfl,h⟩
def BU.mk {S h}{x:AY}(k:x.ok):Rd S h BU (.agg #[.int .i64 x.K,.int .i64 x.C,.int .i64 x.G.B,.int .i64 x.G.A]) x:=⟨x.v,rfl,rfl,k⟩
def AY.f_At:Gs BU 0 AW (·.K):=by
 rintro S h cs x ⟨rfl,⟨k0,a,b,c⟩⟩;exact⟨rfl,k0⟩
def AY.f_To:Gs BU 1 AW (·.C):=by
 rintro S h cs x ⟨rfl,⟨k0,a,b,c⟩⟩;exact⟨rfl,a⟩
def AY.f_Vol:Gs BU 2 AC (·.G):=by
 rintro S h cs x ⟨rfl,⟨k0,c,a,b⟩⟩;exact⟨rfl,⟨a,b⟩⟩
def AY.u_Vol:RI BU 2 AC (λx y=>{ x with G:=y}):=by
 refine⟨by decide,?_⟩;rintro S h c x vs y ⟨rfl,⟨k0,a,g,i⟩⟩ ⟨rfl,⟨b,d⟩⟩;exact⟨rfl,⟨k0,a,b,d⟩⟩
structure AX where
 H:Int
 G:(List AB)
 E:(List AY)
 D:(List AF)
instance:Inhabited AX:=⟨⟨default,default,default,default⟩⟩
def DD:BX AX where
 sz:=4
 ag:=true
 rd:=λS h cs x=>∃a b c:Value,cs=[.int .i64 x.H,a,b,c]∧AA x.H∧Sl S h AC a x.G∧Sl S h BU b x.E∧Sl S h AJ c x.D
 len:=λ⟨_,_,_,h,_⟩=>by rw[h];rfl
 one:=by
  rintro S h cs x ⟨a,b,c,rfl,k0,d,g,i⟩ v j;simp only[wN,wY,xF] at j;rcases j with rfl|rfl|rfl|rfl<;>first|rfl|exact Sl.one ‹_› |exact(‹_∧_›).2|(obtain ⟨_,_,rfl,_⟩:=Rd.fn ‹_›;rfl)|(obtain ⟨_,_,rfl,_⟩:=Rd.fnr ‹_›;rfl)
 mono:=by
  rintro S k h h' cs x ⟨a,b,c,rfl,k0,d,g,i⟩ s e;exact⟨a,b,c,rfl,k0,d.mono s e,g.mono s e,i.mono s e⟩
def DD.ex {S h v}{x:AX}(k:Rd S h DD v x):∃a b c:Value,v= .agg #[.int .i64 x.H,a,b,c]∧AA x.H∧Sl S h AC a x.G∧Sl S h BU b x.E∧Sl S h AJ c x.D:=by obtain⟨_,rfl,a,b,c,rfl,k⟩:=k;exact⟨a,b,c,rfl,k⟩
def DD.mk {S h}{x:AX}{a b c:Value}(k0:AA x.H) (d:Sl S h AC a x.G) (g:Sl S h BU b x.E) (i:Sl S h AJ c x.D):Rd S h DD (.agg #[.int .i64 x.H,a,b,c]) x:=⟨_,rfl,a,b,c,rfl,k0,d,g,i⟩
def AX.f_Hour:Gs DD 0 AW (·.H):=by
 rintro S h cs x ⟨a,b,c,rfl,k0,d,g,i⟩;exact⟨rfl,k0⟩
def AX.f_Vol:Gs DD 1 (BX.sl AC) (·.G):=by
 rintro S h cs x ⟨b,c,d,rfl,k0,a,g,i⟩;exact⟨_,rfl,a⟩
def AX.f_Queue:Gs DD 2 (BX.sl BU) (·.E):=by
 rintro S h cs x ⟨b,c,d,rfl,k0,g,a,i⟩;exact⟨_,rfl,a⟩
def AX.f_Links:Gs DD 3 (BX.sl AJ) (·.D):=by
 rintro S h cs x ⟨b,c,d,rfl,k0,g,i,a⟩;exact⟨_,rfl,a⟩
def AX.u_Vol:RI DD 1 (BX.sl AC) (λx y=>{ x with G:=y}):=by
 refine⟨by decide,?_⟩;rintro S h c x vs y ⟨k,a,b,rfl,k0,l,d,g⟩ ⟨i,rfl,j⟩;exact⟨i,a,b,rfl,k0,j,d,g⟩
structure B0 where
 b:AH
 h:AX
 peaks:(List AB)
instance:Inhabited B0:=⟨⟨default,default,default⟩⟩
def N7:BX B0 where
 sz:=16
 ag:=true
 rd:=λS h cs x=>∃i j k l m n o p a c d g:Value,cs=[.string x.b.O,i,.int .i64 x.b.T,j,k,l,m,n,o,p,.int .i64 x.b.U,.int .i64 x.h.H,a,c,d,g]∧x.b.O.size≤maxLen∧Sl S h BX.str i x.b.Z∧AA x.b.T∧Sl S h B3 j x.b.F∧Sl S h BL k x.b.D∧Sl S h Gn l x.b.Ak∧Sl S h ED m x.b.Ap∧Sl S h Gp n x.b.Aq∧Sl S h DC o x.b.As∧Sl S h AW p x.b.Ar∧AA x.b.U∧AA x.h.H∧Sl S h AC a x.h.G∧Sl S h BU c x.h.E∧Sl S h AJ d x.h.D∧Sl S h AC g x.peaks
 len:=λ⟨_,_,_,_,_,_,_,_,_,_,_,_,h,_⟩=>by rw[h];rfl
 one:=by
  rintro S h cs x ⟨i,j,k,l,m,n,o,p,a,c,d,g,rfl,k0,A,B,C,I,J,K,M,Q,V,q,t,u,w,y,z⟩ v W;simp only[wN,wY,xF] at W;rcases W with rfl|rfl|rfl|rfl|rfl|rfl|rfl|rfl|rfl|rfl|rfl|rfl|rfl|rfl|rfl|rfl<;>first|rfl|exact Sl.one ‹_› |exact(‹_∧_›).2|(obtain ⟨_,_,rfl,_⟩:=Rd.fn ‹_›;rfl)|(obtain ⟨_,_,rfl,_⟩:=Rd.fnr ‹_›;rfl)
 mono:=by
  rintro S X h h' cs x ⟨i,j,k,l,m,n,o,p,a,c,d,g,rfl,k0,A,B,C,I,J,K,M,Q,V,q,t,u,w,y,z⟩ s e;exact⟨i,j,k,l,m,n,o,p,a,c,d,g,rfl,k0,A.mono s e,B,C.mono s e,I.mono s e,J.mono s e,K.mono s e,M.mono s e,Q.mono s e,V.mono s e,q,t,u.mono s e,w.mono s e,y.mono s e,z.mono s e⟩
def N7.ex {S h v}{x:B0}(k:Rd S h N7 v x):∃i j l m n o p q a c d g:Value,v= .agg #[.string x.b.O,i,.int .i64 x.b.T,j,l,m,n,o,p,q,.int .i64 x.b.U,.int .i64 x.h.H,a,c,d,g]∧x.b.O.size≤maxLen∧Sl S h BX.str i x.b.Z∧AA x.b.T∧Sl S h B3 j x.b.F∧Sl S h BL l x.b.D∧Sl S h Gn m x.b.Ak∧Sl S h ED n x.b.Ap∧Sl S h Gp o x.b.Aq∧Sl S h DC p x.b.As∧Sl S h AW q x.b.Ar∧AA x.b.U∧AA x.h.H∧Sl S h AC a x.h.G∧Sl S h BU c x.h.E∧Sl S h AJ d x.h.D∧Sl S h AC g x.peaks:=by obtain⟨_,rfl,i,j,l,m,n,o,p,q,a,c,d,g,rfl,k⟩:=k;exact⟨i,j,l,m,n,o,p,q,a,c,d,g,rfl,k⟩
def N7.mk {S h}{x:B0}{i j k l m n o p a c d g:Value}(k0:x.b.O.size≤maxLen) (y:Sl S h BX.str i x.b.Z) (z:AA x.b.T) (A:Sl S h B3 j x.b.F) (B:Sl S h BL k x.b.D) (C:Sl S h Gn l x.b.Ak) (I:Sl S h ED m x.b.Ap) (J:Sl S h Gp n x.b.Aq) (K:Sl S h DC o x.b.As) (M:Sl S h AW p x.b.Ar) (q:AA x.b.U) (s:AA x.h.H) (t:Sl S h AC a x.h.G) (u:Sl S h BU c x.h.E) (v:Sl S h AJ d x.h.D) (w:Sl S h AC g x.peaks):Rd S h N7 (.agg #[.string x.b.O,i,.int .i64 x.b.T,j,k,l,m,n,o,p,.int .i64 x.b.U,.int .i64 x.h.H,a,c,d,g]) x:=⟨_,rfl,i,j,k,l,m,n,o,p,a,c,d,g,rfl,k0,y,z,A,B,C,I,J,K,M,q,s,t,u,v,w⟩
structure Le where
 I:Int
 Aa:Int
instance:Inhabited Le:=⟨⟨default,default⟩⟩
@[reducible] def Le.v (x:Le):List Go.Value:=[.int .i64 x.I,.int .i64 x.Aa]
def Le.ok (x:Le):Prop:=AA x.I∧AA x.Aa
def KF:BX Le where
 sz:=2
 ag:=true
 rd:=λ_ _ cs x=>cs=x.v∧x.ok
 len:=λ⟨h,_⟩=>by rw[h];rfl
 one:=λ{_ _ _ x} ⟨h,_⟩ v a=>by
  rw[h] at a;simp only[Le.v,wN,wY,xF] at a;rcases a with rfl|rfl<;>rfl
 mono:=λh _ _=>h
def KF.ex {S h v}{x:Le}(k:Rd S h KF v x):v= .agg #[.int .i64 x.I,.int .i64 x.Aa]∧x.ok:=by obtain⟨_,rfl,rfl,h⟩:=k;exact⟨rfl,h⟩
def KF.mk {S h}{x:Le}(k:x.ok):Rd S h KF (.agg #[.int .i64 x.I,.int .i64 x.Aa]) x:=⟨x.v,rfl,rfl,k⟩
def Le.f_Kind:Gs KF 0 AW (·.I):=by
 rintro S h cs x ⟨rfl,⟨k0,a⟩⟩;exact⟨rfl,k0⟩
def Le.f_Link:Gs KF 1 AW (·.Aa):=by
 rintro S h cs x ⟨rfl,⟨k0,a⟩⟩;exact⟨rfl,a⟩
structure QZ where
 Aa:Int
 S:Int
instance:Inhabited QZ:=⟨⟨default,default⟩⟩
@[reducible] def QZ.v (x:QZ):List Go.Value:=[.int .i64 x.Aa,.int .i64 x.S]
def QZ.ok (x:QZ):Prop:=AA x.Aa∧AA x.S
def K8:BX QZ where
 sz:=2
 ag:=true
 rd:=λ_ _ cs x=>cs=x.v∧x.ok
 len:=λ⟨h,_⟩=>by rw[h];rfl
 one:=λ{_ _ _ x} ⟨h,_⟩ v a=>by
  rw[h] at a;simp only[QZ.v,wN,wY,xF] at a;rcases a with rfl|rfl<;>rfl
 mono:=λh _ _=>h
def K8.ex {S h v}{x:QZ}(k:Rd S h K8 v x):v= .agg #[.int .i64 x.Aa,.int .i64 x.S]∧x.ok:=by obtain⟨_,rfl,rfl,h⟩:=k;exact⟨rfl,h⟩
def K8.mk {S h}{x:QZ}(k:x.ok):Rd S h K8 (.agg #[.int .i64 x.Aa,.int .i64 x.S]) x:=⟨x.v,rfl,rfl,k⟩
def QZ.f_Link:Gs K8 0 AW (·.Aa):=by
 rintro S h cs x ⟨rfl,⟨k0,a⟩⟩;exact⟨rfl,k0⟩
def QZ.f_Target:Gs K8 1 AW (·.S):=by
 rintro S h cs x ⟨rfl,⟨k0,a⟩⟩;exact⟨rfl,a⟩
def QZ.u_Target:RI K8 1 AW (λx y=>{ x with S:=y}):=by
 refine⟨by decide,?_⟩;rintro S h c x vs y ⟨rfl,⟨k0,b⟩⟩ ⟨rfl,a⟩;exact⟨rfl,⟨k0,a⟩⟩
structure Jb where
 Ay:Int
 Bh:Int
 Al:Int
 C:Int
instance:Inhabited Jb:=⟨⟨default,default,default,default⟩⟩
@[reducible] def Jb.v (x:Jb):List Go.Value:=[.int .i64 x.Ay,.int .i64 x.Bh,.int .i64 x.Al,.int .i64 x.C]
def Jb.ok (x:Jb):Prop:=AA x.Ay∧AA x.Bh∧AA x.Al∧AA x.C
def F3:BX Jb where
 sz:=4
 ag:=true
 rd:=λ_ _ cs x=>cs=x.v∧x.ok
 len:=λ⟨h,_⟩=>by rw[h];rfl
 one:=λ{_ _ _ x} ⟨h,_⟩ v a=>by
  rw[h] at a;simp only[Jb.v,wN,wY,xF] at a;rcases a with rfl|rfl|rfl|rfl<;>rfl
 mono:=λh _ _=>h
def F3.ex {S h v}{x:Jb}(k:Rd S h F3 v x):v= .agg #[.int .i64 x.Ay,.int .i64 x.Bh,.int .i64 x.Al,.int .i64 x.C]∧x.ok:=by obtain⟨_,rfl,rfl,h⟩:=k;exact⟨rfl,h⟩
def F3.mk {S h}{x:Jb}(k:x.ok):Rd S h F3 (.agg #[.int .i64 x.Ay,.int .i64 x.Bh,.int .i64 x.Al,.int .i64 x.C]) x:=⟨x.v,rfl,rfl,k⟩
def Jb.f_Place:Gs F3 0 AW (·.Ay):=by
 rintro S h cs x ⟨rfl,⟨k0,a,b,c⟩⟩;exact⟨rfl,k0⟩
def RJ:Gs F3 1 AW (·.Bh):=by
 rintro S h cs x ⟨rfl,⟨k0,a,b,c⟩⟩;exact⟨rfl,a⟩
def Jb.f_Litres:Gs F3 2 AW (·.Al):=by
 rintro S h cs x ⟨rfl,⟨k0,b,a,c⟩⟩;exact⟨rfl,a⟩
def Jb.f_To:Gs F3 3 AW (·.C):=by
 rintro S h cs x ⟨rfl,⟨k0,b,c,a⟩⟩;exact⟨rfl,a⟩
structure Ok where
 Ay:Int
 V:Int
 C:Int
 Al:Int
instance:Inhabited Ok:=⟨⟨default,default,default,default⟩⟩
@[reducible] def Ok.v (x:Ok):List Go.Value:=[.int .i64 x.Ay,.int .i64 x.V,.int .i64 x.C,.int .i64 x.Al]
def Ok.ok (x:Ok):Prop:=AA x.Ay∧AA x.V∧AA x.C∧AA x.Al
def Lz:BX Ok where
 sz:=4
 ag:=true
 rd:=λ_ _ cs x=>cs=x.v∧x.ok
 len:=λ⟨h,_⟩=>by rw[h];rfl
 one:=λ{_ _ _ x} ⟨h,_⟩ v a=>by
  rw[h] at a;simp only[Ok.v,wN,wY,xF] at a;rcases a with rfl|rfl|rfl|rfl<;>rfl
 mono:=λh _ _=>h
def Lz.ex {S h v}{x:Ok}(k:Rd S h Lz v x):v= .agg #[.int .i64 x.Ay,.int .i64 x.V,.int .i64 x.C,.int .i64 x.Al]∧x.ok:=by obtain⟨_,rfl,rfl,h⟩:=k;exact⟨rfl,h⟩
def Lz.mk {S h}{x:Ok}(k:x.ok):Rd S h Lz (.agg #[.int .i64 x.Ay,.int .i64 x.V,.int .i64 x.C,.int .i64 x.Al]) x:=⟨x.v,rfl,rfl,k⟩
def Ok.f_Place:Gs Lz 0 AW (·.Ay):=by
 rintro S h cs x ⟨rfl,⟨k0,a,b,c⟩⟩;exact⟨rfl,k0⟩
def Ok.f_To:Gs Lz 2 AW (·.C):=by
 rintro S h cs x ⟨rfl,⟨k0,b,a,c⟩⟩;exact⟨rfl,a⟩
def Ok.f_Litres:Gs Lz 3 AW (·.Al):=by
 rintro S h cs x ⟨rfl,⟨k0,b,c,a⟩⟩;exact⟨rfl,a⟩
structure Cn where
 Ba:(List Int)
 Bb:(List Le)
 Az:(List QZ)
 An:(List Jb)
 Bq:(List Ok)
instance:Inhabited Cn:=⟨⟨default,default,default,default,default⟩⟩
def Gr:BX Cn where
 sz:=5
 ag:=true
 rd:=λS h cs x=>∃a b c d g:Value,cs=[a,b,c,d,g]∧Sl S h AW a x.Ba∧Sl S h KF b x.Bb∧Sl S h K8 c x.Az∧Sl S h F3 d x.An∧Sl S h Lz g x.Bq
 len:=λ⟨_,_,_,_,_,h,_⟩=>by rw[h];rfl
 one:=by
  rintro S h cs x ⟨a,b,c,d,g,rfl,k0,i,j,k,l⟩ v m;simp only[wN,wY,xF] at m;rcases m with rfl|rfl|rfl|rfl|rfl<;>first|rfl|exact Sl.one ‹_› |exact(‹_∧_›).2|(obtain ⟨_,_,rfl,_⟩:=Rd.fn ‹_›;rfl)|(obtain ⟨_,_,rfl,_⟩:=Rd.fnr ‹_›;rfl)
 mono:=by
  rintro S n h h' cs x ⟨a,b,c,d,g,rfl,k0,i,j,k,l⟩ s e;exact⟨a,b,c,d,g,rfl,k0.mono s e,i.mono s e,j.mono s e,k.mono s e,l.mono s e⟩
def Gr.ex {S h v}{x:Cn}(k:Rd S h Gr v x):∃a b c d g:Value,v= .agg #[a,b,c,d,g]∧Sl S h AW a x.Ba∧Sl S h KF b x.Bb∧Sl S h K8 c x.Az∧Sl S h F3 d x.An∧Sl S h Lz g x.Bq:=by obtain⟨_,rfl,a,b,c,d,g,rfl,k⟩:=k;exact⟨a,b,c,d,g,rfl,k⟩
def Gr.mk {S h}{x:Cn}{a b c d g:Value}(k0:Sl S h AW a x.Ba) (i:Sl S h KF b x.Bb) (j:Sl S h K8 c x.Az) (k:Sl S h F3 d x.An) (l:Sl S h Lz g x.Bq):Rd S h Gr (.agg #[a,b,c,d,g]) x:=⟨_,rfl,a,b,c,d,g,rfl,k0,i,j,k,l⟩
def Cn.f_Rain:Gs Gr 0 (BX.sl AW) (·.Ba):=by
 rintro S h cs x ⟨a,b,c,d,g,rfl,k0,i,j,k,l⟩;exact⟨_,rfl,k0⟩
def Ky:Gs Gr 1 (BX.sl KF) (·.Bb):=by
 rintro S h cs x ⟨b,c,d,g,i,rfl,k0,a,j,k,l⟩;exact⟨_,rfl,a⟩
def Mp:Gs Gr 2 (BX.sl K8) (·.Az):=by
 rintro S h cs x ⟨b,c,d,g,i,rfl,k0,j,a,k,l⟩;exact⟨_,rfl,a⟩
def LO:Gs Gr 3 (BX.sl F3) (·.An):=by
 rintro S h cs x ⟨b,c,d,g,i,rfl,k0,j,k,a,l⟩;exact⟨_,rfl,a⟩
def UQ:Gs Gr 4 (BX.sl Lz) (·.Bq):=by
 rintro S h cs x ⟨b,c,d,g,i,rfl,k0,j,k,l,a⟩;exact⟨_,rfl,a⟩
structure AL where
 to_:Int
 delay:Int
 slack:Int
 asks:(Int→Option AB)
instance:Inhabited AL:=⟨⟨default,default,default,default⟩⟩
def D1:BX AL where
 sz:=4
 ag:=true
 rd:=λS h cs x=>∃a:Value,cs=[.int .i64 x.to_,.int .i64 x.delay,.int .i64 x.slack,a]∧AA x.to_∧AA x.delay∧AA x.slack∧Rd S h (BX.fn prog (λx:Int=>([.int .i64 x]:List Value)) (λx:Int=>AA x) (λy:AB=> .agg #[.int .i64 y.B,.int .i64 y.A]) (λy:AB=>AB.ok y)) a x.asks
 len:=λ⟨_,h,_⟩=>by rw[h];rfl
 one:=by
  rintro S h cs x ⟨a,rfl,k0,b,c,d⟩ v g;simp only[wN,wY,xF] at g;rcases g with rfl|rfl|rfl|rfl<;>first|rfl|exact Sl.one ‹_› |exact(‹_∧_›).2|(obtain ⟨_,_,rfl,_⟩:=Rd.fn ‹_›;rfl)|(obtain ⟨_,_,rfl,_⟩:=Rd.fnr ‹_›;rfl)
 mono:=by
  rintro S i h h' cs x ⟨a,rfl,k0,b,c,d⟩ s e;exact⟨a,rfl,k0,b,c,d.mono'' s e⟩
def D1.ex {S h v}{x:AL}(k:Rd S h D1 v x):∃a:Value,v= .agg #[.int .i64 x.to_,.int .i64 x.delay,.int .i64 x.slack,a]∧AA x.to_∧AA x.delay∧AA x.slack∧Rd S h (BX.fn prog (λx:Int=>([.int .i64 x]:List Value)) (λx:Int=>AA x) (λy:AB=> .agg #[.int .i64 y.B,.int .i64 y.A]) (λy:AB=>AB.ok y)) a x.asks:=by obtain⟨_,rfl,a,rfl,k⟩:=k;exact⟨a,rfl,k⟩
def D1.mk {S h}{x:AL}{a:Value}(k0:AA x.to_) (b:AA x.delay) (c:AA x.slack) (d:Rd S h (BX.fn prog (λx:Int=>([.int .i64 x]:List Value)) (λx:Int=>AA x) (λy:AB=> .agg #[.int .i64 y.B,.int .i64 y.A]) (λy:AB=>AB.ok y)) a x.asks):Rd S h D1 (.agg #[.int .i64 x.to_,.int .i64 x.delay,.int .i64 x.slack,a]) x:=⟨_,rfl,a,rfl,k0,b,c,d⟩
structure Hp where
 K:Int
 C:Int
 Ad:(List Int)
instance:Inhabited Hp:=⟨⟨default,default,default⟩⟩
def Gq:BX Hp where
 sz:=3
 ag:=true
 rd:=λS h cs x=>∃a:Value,cs=[.int .i64 x.K,.int .i64 x.C,a]∧AA x.K∧AA x.C∧Sl S h AW a x.Ad
 len:=λ⟨_,h,_⟩=>by rw[h];rfl
 one:=by
  rintro S h cs x ⟨a,rfl,k0,b,c⟩ v d;simp only[wN,wY,xF] at d;rcases d with rfl|rfl|rfl<;>first|rfl|exact Sl.one ‹_› |exact(‹_∧_›).2|(obtain ⟨_,_,rfl,_⟩:=Rd.fn ‹_›;rfl)|(obtain ⟨_,_,rfl,_⟩:=Rd.fnr ‹_›;rfl)
 mono:=by
  rintro S g h h' cs x ⟨a,rfl,k0,b,c⟩ s e;exact⟨a,rfl,k0,b,c.mono s e⟩
def Gq.ex {S h v}{x:Hp}(k:Rd S h Gq v x):∃a:Value,v= .agg #[.int .i64 x.K,.int .i64 x.C,a]∧AA x.K∧AA x.C∧Sl S h AW a x.Ad:=by obtain⟨_,rfl,a,rfl,k⟩:=k;exact⟨a,rfl,k⟩
def Gq.mk {S h}{x:Hp}{a:Value}(k0:AA x.K) (b:AA x.C) (c:Sl S h AW a x.Ad):Rd S h Gq (.agg #[.int .i64 x.K,.int .i64 x.C,a]) x:=⟨_,rfl,a,rfl,k0,b,c⟩
def Hp.f_At:Gs Gq 0 AW (·.K):=by
 rintro S h cs x ⟨a,rfl,k0,b,c⟩;exact⟨rfl,k0⟩
def Hp.f_To:Gs Gq 1 AW (·.C):=by
 rintro S h cs x ⟨b,rfl,k0,a,c⟩;exact⟨rfl,a⟩
def PE:Gs Gq 2 (BX.sl AW) (·.Ad):=by
 rintro S h cs x ⟨b,rfl,k0,c,a⟩;exact⟨_,rfl,a⟩
structure BQ where
 H:Int
 Af:(List (List Int))
 Bj:(List Int)
 E:(List Hp)
 At:(List Cs)
 Bo:(List Int)
 Bn:(List Int)
instance:Inhabited BQ:=⟨⟨default,default,default,default,default,default,default⟩⟩
def DX:BX BQ where
 sz:=7
 ag:=true
 rd:=λS h cs x=>∃a b c d g i:Value,cs=[.int .i64 x.H,a,b,c,d,g,i]∧AA x.H∧Sl S h (BX.sl AW) a x.Af∧Sl S h AW b x.Bj∧Sl S h Gq c x.E∧Sl S h FU d x.At∧Sl S h AW g x.Bo∧Sl S h AW i x.Bn
 len:=λ⟨_,_,_,_,_,_,h,_⟩=>by rw[h];rfl
 one:=by
  rintro S h cs x ⟨a,b,c,d,g,i,rfl,k0,j,k,l,m,n,o⟩ v p;simp only[wN,wY,xF] at p;rcases p with rfl|rfl|rfl|rfl|rfl|rfl|rfl<;>first|rfl|exact Sl.one ‹_› |exact(‹_∧_›).2|(obtain ⟨_,_,rfl,_⟩:=Rd.fn ‹_›;rfl)|(obtain ⟨_,_,rfl,_⟩:=Rd.fnr ‹_›;rfl)
 mono:=by
  rintro S q h h' cs x ⟨a,b,c,d,g,i,rfl,k0,j,k,l,m,n,o⟩ s e;exact⟨a,b,c,d,g,i,rfl,k0,j.mono s e,k.mono s e,l.mono s e,m.mono s e,n.mono s e,o.mono s e⟩
def DX.ex {S h v}{x:BQ}(k:Rd S h DX v x):∃a b c d g i:Value,v= .agg #[.int .i64 x.H,a,b,c,d,g,i]∧AA x.H∧Sl S h (BX.sl AW) a x.Af∧Sl S h AW b x.Bj∧Sl S h Gq c x.E∧Sl S h FU d x.At∧Sl S h AW g x.Bo∧Sl S h AW i x.Bn:=by obtain⟨_,rfl,a,b,c,d,g,i,rfl,k⟩:=k;exact⟨a,b,c,d,g,i,rfl,k⟩
def DX.mk {S h}{x:BQ}{a b c d g i:Value}(k0:AA x.H) (j:Sl S h (BX.sl AW) a x.Af) (k:Sl S h AW b x.Bj) (l:Sl S h Gq c x.E) (m:Sl S h FU d x.At) (n:Sl S h AW g x.Bo) (o:Sl S h AW i x.Bn):Rd S h DX (.agg #[.int .i64 x.H,a,b,c,d,g,i]) x:=⟨_,rfl,a,b,c,d,g,i,rfl,k0,j,k,l,m,n,o⟩
def BQ.f_Hour:Gs DX 0 AW (·.H):=by
 rintro S h cs x ⟨a,b,c,d,g,i,rfl,k0,j,k,l,m,n,o⟩;exact⟨rfl,k0⟩
def LV:Gs DX 1 (BX.sl (BX.sl AW)) (·.Af):=by
 rintro S h cs x ⟨b,c,d,g,i,j,rfl,k0,a,k,l,m,n,o⟩;exact⟨_,rfl,a⟩
def PD:Gs DX 2 (BX.sl AW) (·.Bj):=by
 rintro S h cs x ⟨b,c,d,g,i,j,rfl,k0,k,a,l,m,n,o⟩;exact⟨_,rfl,a⟩
def BQ.f_Queue:Gs DX 3 (BX.sl Gq) (·.E):=by
 rintro S h cs x ⟨b,c,d,g,i,j,rfl,k0,k,l,a,m,n,o⟩;exact⟨_,rfl,a⟩
def Jq:Gs DX 4 (BX.sl FU) (·.At):=by
 rintro S h cs x ⟨b,c,d,g,i,j,rfl,k0,k,l,m,a,n,o⟩;exact⟨_,rfl,a⟩
def TD:Gs DX 5 (BX.sl AW) (·.Bo):=by
 rintro S h cs x ⟨b,c,d,g,i,j,rfl,k0,k,l,m,n,a,o⟩;exact⟨_,rfl,a⟩
def SO:Gs DX 6 (BX.sl AW) (·.Bn):=by
 rintro S h cs x ⟨b,c,d,g,i,j,rfl,k0,k,l,m,n,o,a⟩;exact⟨_,rfl,a⟩
structure AG where
 group:ByteArray
 name:ByteArray
instance:Inhabited AG:=⟨⟨default,default⟩⟩
@[reducible] def AG.v (x:AG):List Go.Value:=[.string x.group,.string x.name]
def AG.ok (x:AG):Prop:=x.group.size≤maxLen∧x.name.size≤maxLen
def NO:BX AG where
 sz:=2
 ag:=true
 rd:=λ_ _ cs x=>cs=x.v∧x.ok
 len:=λ⟨h,_⟩=>by rw[h];rfl
 one:=λ{_ _ _ x} ⟨h,_⟩ v a=>by
  rw[h] at a;simp only[AG.v,wN,wY,xF] at a;rcases a with rfl|rfl<;>rfl
 mono:=λh _ _=>h
def NO.ex {S h v}{x:AG}(k:Rd S h NO v x):v= .agg #[.string x.group,.string x.name]∧x.ok:=by obtain⟨_,rfl,rfl,h⟩:=k;exact⟨rfl,h⟩
def NO.mk {S h}{x:AG}(k:x.ok):Rd S h NO (.agg #[.string x.group,.string x.name]) x:=⟨x.v,rfl,rfl,k⟩
structure AK where
 J:AH
 L:AX
 Ai:(List AB)
instance:Inhabited AK:=⟨⟨default,default,default⟩⟩
def Kr:BX AK where
 sz:=16
 ag:=true
 rd:=λS h cs x=>∃g i j k l m n o a b c d:Value,cs=[.string x.J.O,g,.int .i64 x.J.T,i,j,k,l,m,n,o,.int .i64 x.J.U,.int .i64 x.L.H,a,b,c,d]∧x.J.O.size≤maxLen∧Sl S h BX.str g x.J.Z∧AA x.J.T∧Sl S h B3 i x.J.F∧Sl S h BL j x.J.D∧Sl S h Gn k x.J.Ak∧Sl S h ED l x.J.Ap∧Sl S h Gp m x.J.Aq∧Sl S h DC n x.J.As∧Sl S h AW o x.J.Ar∧AA x.J.U∧AA x.L.H∧Sl S h AC a x.L.G∧Sl S h BU b x.L.E∧Sl S h AJ c x.L.D∧Sl S h AC d x.Ai
 len:=λ⟨_,_,_,_,_,_,_,_,_,_,_,_,h,_⟩=>by rw[h];rfl
 one:=by
  rintro S h cs x ⟨g,i,j,k,l,m,n,o,a,b,c,d,rfl,k0,z,A,B,C,I,K,M,Q,V,p,q,t,u,w,y⟩ v W;simp only[wN,wY,xF] at W;rcases W with rfl|rfl|rfl|rfl|rfl|rfl|rfl|rfl|rfl|rfl|rfl|rfl|rfl|rfl|rfl|rfl<;>first|rfl|exact Sl.one ‹_› |exact(‹_∧_›).2|(obtain ⟨_,_,rfl,_⟩:=Rd.fn ‹_›;rfl)|(obtain ⟨_,_,rfl,_⟩:=Rd.fnr ‹_›;rfl)
 mono:=by
  rintro S X h h' cs x ⟨g,i,j,k,l,m,n,o,a,b,c,d,rfl,k0,z,A,B,C,I,K,M,Q,V,p,q,t,u,w,y⟩ s e;exact⟨g,i,j,k,l,m,n,o,a,b,c,d,rfl,k0,z.mono s e,A,B.mono s e,C.mono s e,I.mono s e,K.mono s e,M.mono s e,Q.mono s e,V.mono s e,p,q,t.mono s e,u.mono s e,w.mono s e,y.mono s e⟩
def Kr.ex {S h v}{x:AK}(k:Rd S h Kr v x):∃g i j l m n o p a b c d:Value,v= .agg #[.string x.J.O,g,.int .i64 x.J.T,i,j,l,m,n,o,p,.int .i64 x.J.U,.int .i64 x.L.H,a,b,c,d]∧x.J.O.size≤maxLen∧Sl S h BX.str g x.J.Z∧AA x.J.T∧Sl S h B3 i x.J.F∧Sl S h BL j x.J.D∧Sl S h Gn l x.J.Ak∧Sl S h ED m x.J.Ap∧Sl S h Gp n x.J.Aq∧Sl S h DC o x.J.As∧Sl S h AW p x.J.Ar∧AA x.J.U∧AA x.L.H∧Sl S h AC a x.L.G∧Sl S h BU b x.L.E∧Sl S h AJ c x.L.D∧Sl S h AC d x.Ai:=by obtain⟨_,rfl,g,i,j,l,m,n,o,p,a,b,c,d,rfl,k⟩:=k;exact⟨g,i,j,l,m,n,o,p,a,b,c,d,rfl,k⟩
def Kr.mk {S h}{x:AK}{g i j k l m n o a b c d:Value}(k0:x.J.O.size≤maxLen) (w:Sl S h BX.str g x.J.Z) (y:AA x.J.T) (z:Sl S h B3 i x.J.F) (A:Sl S h BL j x.J.D) (B:Sl S h Gn k x.J.Ak) (C:Sl S h ED l x.J.Ap) (I:Sl S h Gp m x.J.Aq) (K:Sl S h DC n x.J.As) (M:Sl S h AW o x.J.Ar) (p:AA x.J.U) (q:AA x.L.H) (s:Sl S h AC a x.L.G) (t:Sl S h BU b x.L.E) (u:Sl S h AJ c x.L.D) (v:Sl S h AC d x.Ai):Rd S h Kr (.agg #[.string x.J.O,g,.int .i64 x.J.T,i,j,k,l,m,n,o,.int .i64 x.J.U,.int .i64 x.L.H,a,b,c,d]) x:=⟨_,rfl,g,i,j,k,l,m,n,o,a,b,c,d,rfl,k0,w,y,z,A,B,C,I,K,M,p,q,s,t,u,v⟩
structure AD where
 Bf:Int
 Aa:Int
 C:Int
 Y:Int
instance:Inhabited AD:=⟨⟨default,default,default,default⟩⟩
@[reducible] def AD.v (x:AD):List Go.Value:=[.int .i64 x.Bf,.int .i64 x.Aa,.int .i64 x.C,.int .i64 x.Y]
def AD.ok (x:AD):Prop:=AA x.Bf∧AA x.Aa∧AA x.C∧AA x.Y
def AM:BX AD where
 sz:=4
 ag:=true
 rd:=λ_ _ cs x=>cs=x.v∧x.ok
 len:=λ⟨h,_⟩=>by rw[h];rfl
 one:=λ{_ _ _ x} ⟨h,_⟩ v a=>by
  rw[h] at a;simp only[AD.v,wN,wY,xF] at a;rcases a with rfl|rfl|rfl|rfl<;>rfl
 mono:=λh _ _=>h
def AM.ex {S h v}{x:AD}(k:Rd S h AM v x):v= .agg #[.int .i64 x.Bf,.int .i64 x.Aa,.int .i64 x.C,.int .i64 x.Y]∧x.ok:=by obtain⟨_,rfl,rfl,h⟩:=k;exact⟨rfl,h⟩
def AM.mk {S h}{x:AD}(k:x.ok):Rd S h AM (.agg #[.int .i64 x.Bf,.int .i64 x.Aa,.int .i64 x.C,.int .i64 x.Y]) x:=⟨x.v,rfl,rfl,k⟩
def Ll:Gs AM 0 AW (·.Bf):=by
 rintro S h cs x ⟨rfl,⟨k0,a,b,c⟩⟩;exact⟨rfl,k0⟩
def AD.f_Link:Gs AM 1 AW (·.Aa):=by
 rintro S h cs x ⟨rfl,⟨k0,a,b,c⟩⟩;exact⟨rfl,a⟩
def AD.f_To:Gs AM 2 AW (·.C):=by
 rintro S h cs x ⟨rfl,⟨k0,b,a,c⟩⟩;exact⟨rfl,a⟩
def AD.f_Delay:Gs AM 3 AW (·.Y):=by
 rintro S h cs x ⟨rfl,⟨k0,b,c,a⟩⟩;exact⟨rfl,a⟩
structure OJ where
 Ax:Int
 Bi:Bool
instance:Inhabited OJ:=⟨⟨default,default⟩⟩
@[reducible] def OJ.v (x:OJ):List Go.Value:=[.int .i64 x.Ax,.bool x.Bi]
def OJ.ok (x:OJ):Prop:=AA x.Ax
def SF:BX OJ where
 sz:=2
 ag:=true
 rd:=λ_ _ cs x=>cs=x.v∧x.ok
 len:=λ⟨h,_⟩=>by rw[h];rfl
 one:=λ{_ _ _ x} ⟨h,_⟩ v a=>by
  rw[h] at a;simp only[OJ.v,wN,wY,xF] at a;rcases a with rfl|rfl<;>rfl
 mono:=λh _ _=>h
def SF.ex {S h v}{x:OJ}(k:Rd S h SF v x):v= .agg #[.int .i64 x.Ax,.bool x.Bi]∧x.ok:=by obtain⟨_,rfl,rfl,h⟩:=k;exact⟨rfl,h⟩
def SF.mk {S h}{x:OJ}(k:x.ok):Rd S h SF (.agg #[.int .i64 x.Ax,.bool x.Bi]) x:=⟨x.v,rfl,rfl,k⟩
def OJ.f_Crest:Gs SF 0 AW (·.Ax):=by
 rintro S h cs x ⟨rfl,k0⟩;exact⟨rfl,k0⟩
structure PF where
 Bk:Int
 Bz:Int
 Ca:Int
instance:Inhabited PF:=⟨⟨default,default,default⟩⟩
@[reducible] def PF.v (x:PF):List Go.Value:=[.int .i64 x.Bk,.int .i64 x.Bz,.int .i64 x.Ca]
def PF.ok (x:PF):Prop:=AA x.Bk∧AA x.Bz∧AA x.Ca
def Te:BX PF where
 sz:=3
 ag:=true
 rd:=λ_ _ cs x=>cs=x.v∧x.ok
 len:=λ⟨h,_⟩=>by rw[h];rfl
 one:=λ{_ _ _ x} ⟨h,_⟩ v a=>by
  rw[h] at a;simp only[PF.v,wN,wY,xF] at a;rcases a with rfl|rfl|rfl<;>rfl
 mono:=λh _ _=>h
def Te.ex {S h v}{x:PF}(k:Rd S h Te v x):v= .agg #[.int .i64 x.Bk,.int .i64 x.Bz,.int .i64 x.Ca]∧x.ok:=by obtain⟨_,rfl,rfl,h⟩:=k;exact⟨rfl,h⟩
def Te.mk {S h}{x:PF}(k:x.ok):Rd S h Te (.agg #[.int .i64 x.Bk,.int .i64 x.Bz,.int .i64 x.Ca]) x:=⟨x.v,rfl,rfl,k⟩
structure Wr where
 Bv:Int
 V:Int
 Ba:(List (List AB))
instance:Inhabited Wr:=⟨⟨default,default,default⟩⟩
def UL:BX Wr where
 sz:=3
 ag:=true
 rd:=λS h cs x=>∃a:Value,cs=[.int .i64 x.Bv,.int .i64 x.V,a]∧AA x.Bv∧AA x.V∧Sl S h (BX.sl AC) a x.Ba
 len:=λ⟨_,h,_⟩=>by rw[h];rfl
 one:=by
  rintro S h cs x ⟨a,rfl,k0,b,c⟩ v d;simp only[wN,wY,xF] at d;rcases d with rfl|rfl|rfl<;>first|rfl|exact Sl.one ‹_› |exact(‹_∧_›).2|(obtain ⟨_,_,rfl,_⟩:=Rd.fn ‹_›;rfl)|(obtain ⟨_,_,rfl,_⟩:=Rd.fnr ‹_›;rfl)
 mono:=by
  rintro S g h h' cs x ⟨a,rfl,k0,b,c⟩ s e;exact⟨a,rfl,k0,b,c.mono s e⟩
def UL.ex {S h v}{x:Wr}(k:Rd S h UL v x):∃a:Value,v= .agg #[.int .i64 x.Bv,.int .i64 x.V,a]∧AA x.Bv∧AA x.V∧Sl S h (BX.sl AC) a x.Ba:=by obtain⟨_,rfl,a,rfl,k⟩:=k;exact⟨a,rfl,k⟩
def UL.mk {S h}{x:Wr}{a:Value}(k0:AA x.Bv) (b:AA x.V) (c:Sl S h (BX.sl AC) a x.Ba):Rd S h UL (.agg #[.int .i64 x.Bv,.int .i64 x.V,a]) x:=⟨_,rfl,a,rfl,k0,b,c⟩
def Wr.f_Rain:Gs UL 2 (BX.sl (BX.sl AC)) (·.Ba):=by
 rintro S h cs x ⟨b,rfl,k0,c,a⟩;exact⟨_,rfl,a⟩
structure Lm where
 Cb:Int
 H:Int
 Value:AB
instance:Inhabited Lm:=⟨⟨default,default,default⟩⟩
@[reducible] def Lm.v (x:Lm):List Go.Value:=[.int .i64 x.Cb,.int .i64 x.H,.int .i64 x.Value.B,.int .i64 x.Value.A]
def Lm.ok (x:Lm):Prop:=AA x.Cb∧AA x.H∧AA x.Value.B∧AA x.Value.A
def Oh:BX Lm where
 sz:=4
 ag:=true
 rd:=λ_ _ cs x=>cs=x.v∧x.ok
 len:=λ⟨h,_⟩=>by rw[h];rfl
 one:=λ{_ _ _ x} ⟨h,_⟩ v a=>by
  rw[h] at a;simp only[Lm.v,wN,wY,xF] at a;rcases a with rfl|rfl|rfl|rfl<;>rfl
 mono:=λh _ _=>h
def Oh.ex {S h v}{x:Lm}(k:Rd S h Oh v x):v= .agg #[.int .i64 x.Cb,.int .i64 x.H,.int .i64 x.Value.B,.int .i64 x.Value.A]∧x.ok:=by obtain⟨_,rfl,rfl,h⟩:=k;exact⟨rfl,h⟩
def Oh.mk {S h}{x:Lm}(k:x.ok):Rd S h Oh (.agg #[.int .i64 x.Cb,.int .i64 x.H,.int .i64 x.Value.B,.int .i64 x.Value.A]) x:=⟨x.v,rfl,rfl,k⟩
def Lm.f_Hour:Gs Oh 1 AW (·.H):=by
 rintro S h cs x ⟨rfl,⟨k0,a,b,c⟩⟩;exact⟨rfl,a⟩
structure AQ where
 at_:Int
 to_:Int
instance:Inhabited AQ:=⟨⟨default,default⟩⟩
@[reducible] def AQ.v (x:AQ):List Go.Value:=[.int .i64 x.at_,.int .i64 x.to_]
def AQ.ok (x:AQ):Prop:=AA x.at_∧AA x.to_
def O9:BX AQ where
 sz:=2
 ag:=true
 rd:=λ_ _ cs x=>cs=x.v∧x.ok
 len:=λ⟨h,_⟩=>by rw[h];rfl
 one:=λ{_ _ _ x} ⟨h,_⟩ v a=>by
  rw[h] at a;simp only[AQ.v,wN,wY,xF] at a;rcases a with rfl|rfl<;>rfl
 mono:=λh _ _=>h
def O9.ex {S h v}{x:AQ}(k:Rd S h O9 v x):v= .agg #[.int .i64 x.at_,.int .i64 x.to_]∧x.ok:=by obtain⟨_,rfl,rfl,h⟩:=k;exact⟨rfl,h⟩
def O9.mk {S h}{x:AQ}(k:x.ok):Rd S h O9 (.agg #[.int .i64 x.at_,.int .i64 x.to_]) x:=⟨x.v,rfl,rfl,k⟩
def OC:ByteArray:=ByteArray.mk #[0,1,2,2,3,3,3,3,4,4,4,4,4,4,4,4,5,5,5,5,5,5,5,5,5,5,5,5,5,5,5,5,6,6,6,6,6,6,6,6,6,6,6,6,6,6,6,6,6,6,6,6,6,6,6,6,6,6,6,6,6,6,6,6,7,7,7,7,7,7,7,7,7,7,7,7,7,7,7,7,7,7,7,7,7,7,7,7,7,7,7,7,7,7,7,7,7,7,7,7,7,7,7,7,7,7,7,7,7,7,7,7,7,7,7,7,7,7,7,7,7,7,7,7,7,7,7,7,8,8,8,8,8,8,8,8,8,8,8,8,8,8,8,8,8,8,8,8,8,8,8,8,8,8,8,8,8,8,8,8,8,8,8,8,8,8,8,8,8,8,8,8,8,8,8,8,8,8,8,8,8,8,8,8,8,8,8,8,8,8,8,8,8,8,8,8,8,8,8,8,8,8,8,8,8,8,8,8,8,8,8,8,8,8,8,8,8,8,8,8,8,8,8,8,8,8,8,8,8,8,8,8,8,8,8,8,8,8,8,8,8,8,8,8,8,8,8,8,8,8,8,8,8,8,8,8]
def IC:List EW:=([(⟨(ByteArray.mk #[112]),0,2,120,([(⟨0,0⟩:A9)]:List A9),([100]:List Int),1,10,(-1),0,0,[]⟩:EW)]:List EW)
def pB:Ug prog 90=some ([(0,1),(1,1)],[.int .i64 0,.int .i64 0]):=by kernel_rfl
def rO:RE prog 54=some (90,2,16,[.int .i64 0,.int .i64 0]):=by kernel_rfl
def R9:RE prog 29=some (3,1,8,[.int .i64 0]):=by kernel_rfl
def pD:Ug prog 57=some ([(0,1),(1,1),(2,1),(3,1),(4,1),(5,1),(6,1),(7,1),(8,1),(9,1),(10,1),(11,1)],[.string ByteArray.empty,.int .i64 0,.int .i64 0,.int .i64 0,.slice none 0 0,.slice none 0 0,.int .i64 0,.int .i64 0,.int .i64 0,.int .i64 0,.int .i64 0,.slice none 0 0]):=by kernel_rfl
def PH:FV prog 57=some [.string ByteArray.empty,.int .i64 0,.int .i64 0,.int .i64 0,.slice none 0 0,.slice none 0 0,.int .i64 0,.int .i64 0,.int .i64 0,.int .i64 0,.int .i64 0,.slice none 0 0]:=by kernel_rfl
def rQ:RE prog 22=some (9,1,16,[.string ByteArray.empty]):=by kernel_rfl
def rP:RE prog 23=some (57,12,152,[.string ByteArray.empty,.int .i64 0,.int .i64 0,.int .i64 0,.slice none 0 0,.slice none 0 0,.int .i64 0,.int .i64 0,.int .i64 0,.int .i64 0,.int .i64 0,.slice none 0 0]):=by kernel_rfl
def pF:Ug prog 31=some ([(0,1),(1,1),(2,1),(3,1),(4,1),(5,1),(6,1),(7,1),(8,1),(9,1),(10,1)],[.string ByteArray.empty,.slice none 0 0,.int .i64 0,.slice none 0 0,.slice none 0 0,.slice none 0 0,.slice none 0 0,.slice none 0 0,.slice none 0 0,.slice none 0 0,.int .i64 0]):=by kernel_rfl
def oQ:FV prog 31=some [.string ByteArray.empty,.slice none 0 0,.int .i64 0,.slice none 0 0,.slice none 0 0,.slice none 0 0,.slice none 0 0,.slice none 0 0,.slice none 0 0,.slice none 0 0,.int .i64 0]:=by kernel_rfl
def HY:Ug prog 51=some ([(0,1),(1,1)],[.int .i64 0,.int .i64 0]):=by kernel_rfl
def Ng:RE prog 32=some (51,2,16,[.int .i64 0,.int .i64 0]):=by kernel_rfl
def Z5:Ug prog 36=some ([(0,1),(1,1),(2,1),(3,1)],[.int .i64 0,.slice none 0 0,.slice none 0 0,.slice none 0 0]):=by kernel_rfl
def Q6:FV prog 36=some [.int .i64 0,.slice none 0 0,.slice none 0 0,.slice none 0 0]:=by kernel_rfl
def pE:Ug prog 42=some ([(0,1),(1,1),(2,1),(3,1),(4,1)],[.slice none 0 0,.slice none 0 0,.slice none 0 0,.slice none 0 0,.slice none 0 0]):=by kernel_rfl
def Zr:∃e,prog.underlying 32=some (.slice e):=⟨51,by kernel_rfl⟩
def sM:BK prog 48=true:=by kernel_rfl
def Zq:∃e,prog.underlying 34=some (.slice e):=⟨97,by kernel_rfl⟩
def S3:RE prog 34=some (97,5,40,[.int .i64 0,.int .i64 0,.int .i64 0,.int .i64 0,.int .i64 0]):=by kernel_rfl
def sL:BK prog 49=true:=by kernel_rfl
def mo:prog.follows .mixedOrders=true:=by kernel_rfl
def jS:Ug prog 106=some ([(0,11),(11,4),(15,1)],[.string ByteArray.empty,.slice none 0 0,.int .i64 0,.slice none 0 0,.slice none 0 0,.slice none 0 0,.slice none 0 0,.slice none 0 0,.slice none 0 0,.slice none 0 0,.int .i64 0,.int .i64 0,.slice none 0 0,.slice none 0 0,.slice none 0 0,.slice none 0 0]):=by kernel_rfl
def jJ:FV prog 106=some [.string ByteArray.empty,.slice none 0 0,.int .i64 0,.slice none 0 0,.slice none 0 0,.slice none 0 0,.slice none 0 0,.slice none 0 0,.slice none 0 0,.slice none 0 0,.int .i64 0,.int .i64 0,.slice none 0 0,.slice none 0 0,.slice none 0 0,.slice none 0 0]:=by kernel_rfl
def EU:FV prog 51=some [.int .i64 0,.int .i64 0]:=by kernel_rfl
def jF:FV prog 171=some [.int .i64 0,.int .i64 0]:=by kernel_rfl
def Wj:BK prog 45=true:=by kernel_rfl
def N6:BK prog 66=true:=by kernel_rfl
def Rl:FV prog 81=some [.int .i64 0,.int .i64 0,.bool false,.bool false]:=by kernel_rfl
def Vd:BK prog 145=true:=by kernel_rfl
def jE:FV prog 173=some [.int .i64 0,.int .i64 0]:=by kernel_rfl
def Xm:Ug prog 81=some ([(0,1),(1,1),(2,1),(3,1)],[.int .i64 0,.int .i64 0,.bool false,.bool false]):=by kernel_rfl
def nD:BK prog 100=true:=by kernel_rfl
def fR:rK prog 81 1 1 3 1 false=true:=by kernel_rfl
def So:FV prog 97=some [.int .i64 0,.int .i64 0,.int .i64 0,.int .i64 0,.int .i64 0]:=by kernel_rfl
def Mj:BK prog 106=true:=by kernel_rfl
def PN:BK prog 60=true:=by kernel_rfl
def mK:BK prog 147=true:=by kernel_rfl
def fS:rK prog 81 0 0 3 1 false=true:=by kernel_rfl
def cN:BK prog 146=true:=by kernel_rfl
def NW:FV prog 102=some [.string ByteArray.empty,.int .i64 0,.int .i64 0,.int .i64 0,.slice none 0 0,.slice none 0 0,.slice none 0 0,.int .i64 0,.int .i64 0,.int .i64 0,.int .i64 0,.int .i64 0,.int .i64 0,.int .i64 0,.int .i64 0,.int .i64 0,.int .i64 0,.int .i64 0]:=by kernel_rfl
def nC:BK prog 101=true:=by kernel_rfl
def sK:BK prog 50=true:=by kernel_rfl
def Wk:BK prog 13=true:=by kernel_rfl
def XK:BK prog 102=true:=by kernel_rfl
def Sq:FV prog 93=some [.int .i64 0,.int .i64 0,.int .i64 0,.int .i64 0]:=by kernel_rfl
def Ob:RE prog 33=some (93,4,32,[.int .i64 0,.int .i64 0,.int .i64 0,.int .i64 0]):=by kernel_rfl
def XJ:BK prog 103=true:=by kernel_rfl
def oP:FV prog 4=some [.bool false]:=by kernel_rfl
def mJ:BK prog 148=true:=by kernel_rfl
def UE:BK prog 73=true:=by kernel_rfl
def mA:BK prog 172=true:=by kernel_rfl
def mI:BK prog 149=true:=by kernel_rfl
def fQ:rK prog 81 3 3 4 1 false=true:=by kernel_rfl
def bX:BK prog 54=true:=by kernel_rfl
def nB:BK prog 104=true:=by kernel_rfl
def sJ:BK prog 51=true:=by kernel_rfl
def jC:FV prog 184=some [.int .i64 0,.int .i64 0,.int .i64 0,.int .i64 0]:=by kernel_rfl
def To:Ug prog 181=some ([(0,1),(1,1),(2,1),(3,1)],[.int .i64 0,.int .i64 0,.int .i64 0,.nilFunc]):=by kernel_rfl
def nA:BK prog 108=true:=by kernel_rfl
def OF:RE prog 110=some (181,4,32,[.int .i64 0,.int .i64 0,.int .i64 0,.nilFunc]):=by kernel_rfl
def RM:prog.underlying 3=some (.int .i64):=by kernel_rfl
def N8:prog.underlying 213=some (.int .u64):=by kernel_rfl
def cQ:BK prog 142=true:=by kernel_rfl
def oZ:prog.underlying 5=some (.int .u8):=by kernel_rfl
def lV:BK prog 184=true:=by kernel_rfl
def mB:BK prog 171=true:=by kernel_rfl
def Th:prog.underlying 230=some (.int .u64):=by kernel_rfl
def cP:BK prog 143=true:=by kernel_rfl
def Vc:BK prog 152=true:=by kernel_rfl
def UG:BK prog 173=true:=by kernel_rfl
def Xd:FV prog 90=some [.int .i64 0,.int .i64 0]:=by kernel_rfl
def UC:BK prog 89=true:=by kernel_rfl
def lW:BK prog 183=true:=by kernel_rfl
def mD:BK prog 165=true:=by kernel_rfl
def XH:BK prog 170=true:=by kernel_rfl
def lY:BK prog 175=true:=by kernel_rfl
def lZ:BK prog 174=true:=by kernel_rfl
def cM:BK prog 150=true:=by kernel_rfl
def mY:BK prog 110=true:=by kernel_rfl
def cG:BK prog 176=true:=by kernel_rfl
def cL:BK prog 151=true:=by kernel_rfl
def cW:BK prog 113=true:=by kernel_rfl
def cX:BK prog 112=true:=by kernel_rfl
def mV:BK prog 115=true:=by kernel_rfl
def mZ:BK prog 109=true:=by kernel_rfl
def mX:BK prog 111=true:=by kernel_rfl
def mW:BK prog 114=true:=by kernel_rfl
def cV:BK prog 117=true:=by kernel_rfl
def mU:BK prog 116=true:=by kernel_rfl
def oR:FV prog 3=some [.int .i64 0]:=by kernel_rfl
def Xl:Ug prog 93=some ([(0,1),(1,1),(2,2)],[.int .i64 0,.int .i64 0,.int .i64 0,.int .i64 0]):=by kernel_rfl
def cO:BK prog 144=true:=by kernel_rfl
def iL:BK prog 99=true:=by kernel_rfl
def rU:BK prog 98=true:=by kernel_rfl
def iU:BK prog 46=true:=by kernel_rfl
def mR:BK prog 124=true:=by kernel_rfl
def mQ:BK prog 125=true:=by kernel_rfl
def iQ:BK prog 67=true:=by kernel_rfl
def jD:FV prog 181=some [.int .i64 0,.int .i64 0,.int .i64 0,.nilFunc]:=by kernel_rfl
def dA:BK prog 105=true:=by kernel_rfl
def cZ:BK prog 107=true:=by kernel_rfl
def sH:BK prog 53=true:=by kernel_rfl
def sI:BK prog 52=true:=by kernel_rfl
def iW:BK prog 12=true:=by kernel_rfl
def Zj:FV prog 71=some [.int .i64 0,.slice none 0 0,.slice none 0 0,.slice none 0 0,.slice none 0 0,.slice none 0 0,.slice none 0 0]:=by kernel_rfl
def pC:Ug prog 71=some ([(0,1),(1,1),(2,1),(3,1),(4,1),(5,1),(6,1)],[.int .i64 0,.slice none 0 0,.slice none 0 0,.slice none 0 0,.slice none 0 0,.slice none 0 0,.slice none 0 0]):=by kernel_rfl
def rN:RE prog 67=some (29,1,24,[.slice none 0 0]):=by kernel_rfl
def rM:RE prog 69=some (81,4,24,[.int .i64 0,.int .i64 0,.bool false,.bool false]):=by kernel_rfl
def Zs:∃e,prog.underlying 29=some (.slice e):=⟨3,by kernel_rfl⟩
def rZ:BK prog 84=true:=by kernel_rfl
def sX:BK prog 35=true:=by kernel_rfl
def R8:ZV prog 51=some [1,1]:=by kernel_rfl
def cS:BK prog 14=true:=by kernel_rfl
def sN:BK prog 47=true:=by kernel_rfl
def iT:BK prog 61=true:=by kernel_rfl
def U3:BK prog 30=true:=by kernel_rfl
def iP:BK prog 68=true:=by kernel_rfl
def Zi:FV prog 83=some [.int .i64 0,.int .i64 0,.slice none 0 0]:=by kernel_rfl
def Z6:Ug prog 197=some ([(0,1),(1,1)],[.int .i64 0,.int .i64 0]):=by kernel_rfl
def Wv:FV prog 197=some [.int .i64 0,.int .i64 0]:=by kernel_rfl
def VD:prog.underlying 195=some (.map 197 3):=by kernel_rfl
def lL:ZV prog 197=some [1,1]:=by kernel_rfl
def Ry:Oi prog 197 (λk:AQ=>Value.agg (AQ.v k).toArray):=Oi.agg (f:=AQ.v) underlying197 lL (λk=>rfl) (λa b=>rfl) (λk e w=>by kernel_rfl) (λa b h=>by
 simp only[AQ.v,M8,VV,wI,Sj,wW,beq_iff_eq] at h;simp [AQ.v,h]) (λa=>by simp [Instr.sameBits,AQ.v,Sj.2])
def oO:∀w,(zeroValue 3).run prog w= .ok (.int .i64 0) w:=λw=>by kernel_rfl
def Zx:prog.underlying 198=some (.map 197 4):=by kernel_rfl
def oN:∀w,(zeroValue 4).run prog w= .ok (.bool false) w:=λw=>by kernel_rfl
def sF:BK prog 74=true:=by kernel_rfl
def gW:Ug prog 97=some ([(0,2),(2,1),(3,2)],[.int .i64 0,.int .i64 0,.int .i64 0,.int .i64 0,.int .i64 0]):=by kernel_rfl
def cY:BK prog 11=true:=by kernel_rfl
def cB:BK prog 20=true:=by kernel_rfl
def bZ:BK prog 26=true:=by kernel_rfl
def cA:BK prog 24=true:=by kernel_rfl
def vD:BK prog 8=true:=by kernel_rfl
def Kg:BK prog 85=true:=by kernel_rfl
def MW:BK prog 86=true:=by kernel_rfl
def jI:FV prog 154=some [.map none]:=by kernel_rfl
def jQ:Ug prog 210=some ([(0,1),(1,1)],[.string ByteArray.empty,.string ByteArray.empty]):=by kernel_rfl
def jB:FV prog 210=some [.string ByteArray.empty,.string ByteArray.empty]:=by kernel_rfl
def mL:BK prog 140=true:=by kernel_rfl
def Zy:prog.underlying 154=some (.map 210 4):=by kernel_rfl
def lK:ZV prog 210=some [3,3]:=by kernel_rfl
def YG:Oi prog 210 (λk:AG=>Value.agg (AG.v k).toArray):=Oi.agg (f:=AG.v) underlying210 lK (λk=>rfl) (λa b=>rfl) (λk e w=>by kernel_rfl) (λa b h=>by
 simp only[AG.v,M8,VV,wI,Sj,wW,beq_iff_eq] at h;simp [AG.v,h]) (λa=>by simp [Instr.sameBits,AG.v,Sj.2])
def rY:BK prog 88=true:=by kernel_rfl
def UD:BK prog 87=true:=by kernel_rfl
def Zn:FV prog 114=some [.string ByteArray.empty,.int .i64 0,.int .i64 0,.int .i64 0,.int .i64 0,.int .i64 0,.int .i64 0]:=by kernel_rfl
def Zl:FV prog 158=some [.string ByteArray.empty,.int .i64 0]:=by kernel_rfl
def Zm:FV prog 147=some [.string ByteArray.empty,.int .i64 0,.int .i64 0,.int .i64 0,.int .i64 0]:=by kernel_rfl
def Zk:FV prog 160=some [.string ByteArray.empty,.int .i64 0,.int .i64 0,.int .i64 0,.int .i64 0,.int .i64 0,.int .i64 0]:=by kernel_rfl
def UB:BK prog 92=true:=by kernel_rfl
def bV:BK prog 90=true:=by kernel_rfl
def iN:BK prog 91=true:=by kernel_rfl
def jH:FV prog 164=some [.int .i64 0,.int .i64 0]:=by kernel_rfl
def cR:BK prog 141=true:=by kernel_rfl
def rX:BK prog 93=true:=by kernel_rfl
def rW:BK prog 94=true:=by kernel_rfl
def iM:BK prog 95=true:=by kernel_rfl
def U2:BK prog 96=true:=by kernel_rfl
def lO:RE prog 217=some (54,1,24,[.slice none 0 0]):=by kernel_rfl
def rV:BK prog 97=true:=by kernel_rfl
def nH:tZ prog 167=some ([(0,1),(1,1),(2,1)],[.int .i64 0,.int .i64 0,.int .i64 0]):=by kernel_rfl
def jG:FV prog 167=some [.int .i64 0,.int .i64 0,.int .i64 0]:=by kernel_rfl
def nG:vE prog 167 3 1=true:=by kernel_rfl
def sW:BK prog 36=true:=by kernel_rfl
def sV:BK prog 37=true:=by kernel_rfl
def sU:BK prog 38=true:=by kernel_rfl
def sT:BK prog 39=true:=by kernel_rfl
def sS:BK prog 40=true:=by kernel_rfl
def sR:BK prog 41=true:=by kernel_rfl
def sQ:BK prog 42=true:=by kernel_rfl
def sP:BK prog 43=true:=by kernel_rfl
def sO:BK prog 44=true:=by kernel_rfl
def vC:BK prog 9=true:=by kernel_rfl
def tF:BK prog 10=true:=by kernel_rfl
def YV:BK prog 58=true:=by kernel_rfl
def YU:BK prog 59=true:=by kernel_rfl
def Ni:BK prog 121=true:=by kernel_rfl
def iS:BK prog 62=true:=by kernel_rfl
def PM:BK prog 63=true:=by kernel_rfl
def tE:BK prog 19=true:=by kernel_rfl
def pA:prog.underlying 4=some .bool:=by kernel_rfl
def tD:BK prog 21=true:=by kernel_rfl
def mH:BK prog 154=true:=by kernel_rfl
def cU:BK prog 122=true:=by kernel_rfl
def mT:BK prog 123=true:=by kernel_rfl
def sG:BK prog 64=true:=by kernel_rfl
def iR:BK prog 65=true:=by kernel_rfl
def tC:BK prog 22=true:=by kernel_rfl
def YT:BK prog 70=true:=by kernel_rfl
def RH:BK prog 69=true:=by kernel_rfl
def XI:BK prog 126=true:=by kernel_rfl
def Vf:BK prog 127=true:=by kernel_rfl
def bW:BK prog 71=true:=by kernel_rfl
def iO:BK prog 72=true:=by kernel_rfl
def bY:BK prog 29=true:=by kernel_rfl
def lH:rJ prog 93=some [1,1,1,1]:=by kernel_rfl
def lG:rJ prog 97=some [1,1,1,1,1]:=by kernel_rfl
def YS:BK prog 75=true:=by kernel_rfl
def sE:BK prog 76=true:=by kernel_rfl
def sD:BK prog 77=true:=by kernel_rfl
def tB:BK prog 25=true:=by kernel_rfl
def iV:BK prog 23=true:=by kernel_rfl
def tA:BK prog 27=true:=by kernel_rfl
def jR:Ug prog 141=some ([(0,11),(11,4),(15,1)],[.string ByteArray.empty,.slice none 0 0,.int .i64 0,.slice none 0 0,.slice none 0 0,.slice none 0 0,.slice none 0 0,.slice none 0 0,.slice none 0 0,.slice none 0 0,.int .i64 0,.int .i64 0,.slice none 0 0,.slice none 0 0,.slice none 0 0,.slice none 0 0]):=by kernel_rfl
def Vb:BK prog 157=true:=by kernel_rfl
def mP:BK prog 128=true:=by kernel_rfl
def cK:BK prog 158=true:=by kernel_rfl
def mO:BK prog 129=true:=by kernel_rfl
def sC:BK prog 78=true:=by kernel_rfl
def mG:BK prog 159=true:=by kernel_rfl
def mN:BK prog 130=true:=by kernel_rfl
def sB:BK prog 79=true:=by kernel_rfl
def mF:BK prog 160=true:=by kernel_rfl
def VE:Ug prog 204=some ([(0,1),(1,1),(2,1),(3,1)],[.int .i64 0,.int .i64 0,.int .i64 0,.int .i64 0]):=by kernel_rfl
def QH:RE prog 199=some (204,4,32,[.int .i64 0,.int .i64 0,.int .i64 0,.int .i64 0]):=by kernel_rfl
def mM:BK prog 131=true:=by kernel_rfl
def Va:BK prog 178=true:=by kernel_rfl
def cI:BK prog 162=true:=by kernel_rfl
def UF:BK prog 186=true:=by kernel_rfl
def cD:BK prog 181=true:=by kernel_rfl
def mC:BK prog 168=true:=by kernel_rfl
def lU:BK prog 188=true:=by kernel_rfl
def lX:BK prog 182=true:=by kernel_rfl
def cF:BK prog 179=true:=by kernel_rfl
def mE:BK prog 163=true:=by kernel_rfl
def cC:BK prog 187=true:=by kernel_rfl
def cE:BK prog 180=true:=by kernel_rfl
def cH:BK prog 164=true:=by kernel_rfl
def Ve:BK prog 134=true:=by kernel_rfl
def Sh:BK prog 133=true:=by kernel_rfl
def cJ:BK prog 161=true:=by kernel_rfl
def cT:BK prog 132=true:=by kernel_rfl
def sA:BK prog 80=true:=by kernel_rfl
def sZ:BK prog 28=true:=by kernel_rfl
def uJ:prog.underlying 3=some (.int .i64):=by kernel_rfl
end Go.Proofs.YtibidnaedddfdaaGreat
