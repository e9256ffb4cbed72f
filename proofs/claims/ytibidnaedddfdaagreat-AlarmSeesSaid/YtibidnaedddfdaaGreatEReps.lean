import Derived.Test.YtibidnaedddfdaaGreatECore31
import Derived.Test.YtibidnaedddfdaaGreatRows
namespace Go.Proofs.YtibidnaedddfdaaGreat
set_option linter.all false
open Go.RowKit
open Go.Proofs.Tryz
structure AB where
 B:Int
 A:Int
instance:Inhabited AB:=⟨⟨default,default⟩⟩
@[reducible] def AB.v (x:AB):List Go.Value:=[.int .i64 x.B,.int .i64 x.A]
def AB.ok (x:AB):Prop:=AA x.B∧AA x.A
def AC:BU AB where
 sz:=2
 ag:=true
 rd:=λ_ _ cs x=>cs=x.v∧x.ok
 len:=λ⟨h,_⟩=>by rw[h];rfl
 one:=λ{_ _ _ x} ⟨h,_⟩ v a=>by
  rw[h] at a;simp only[AB.v,uS,vD,vK] at a;rcases a with rfl|rfl<;>rfl
 mono:=λh _ _=>h
def AC.ex {S h v}{x:AB}(k:Rd S h AC v x):v= .agg #[.int .i64 x.B,.int .i64 x.A]∧x.ok:=by obtain⟨_,rfl,rfl,h⟩:=k;exact⟨rfl,h⟩
def AC.mk {S h}{x:AB}(k:x.ok):Rd S h AC (.agg #[.int .i64 x.B,.int .i64 x.A]) x:=⟨x.v,rfl,rfl,k⟩
def AB.f_Lo:GC AC 0 AY (·.B):=by
 rintro S h cs x ⟨rfl,⟨k0,a⟩⟩;exact⟨rfl,k0⟩
def AB.f_Hi:GC AC 1 AY (·.A):=by
 rintro S h cs x ⟨rfl,⟨k0,a⟩⟩;exact⟨rfl,a⟩
structure AH where
 U:AB
 W:Int
 R:AB
instance:Inhabited AH:=⟨⟨default,default,default⟩⟩
@[reducible] def AH.v (x:AH):List Go.Value:=[.int .i64 x.U.B,.int .i64 x.U.A,.int .i64 x.W,.int .i64 x.R.B,.int .i64 x.R.A]
def AH.ok (x:AH):Prop:=AA x.U.B∧AA x.U.A∧AA x.W∧AA x.R.B∧AA x.R.A
def AM:BU AH where
 sz:=5
 ag:=true
 rd:=λ_ _ cs x=>cs=x.v∧x.ok
 len:=λ⟨h,_⟩=>by rw[h];rfl
 one:=λ{_ _ _ x} ⟨h,_⟩ v a=>by
  rw[h] at a;simp only[AH.v,uS,vD,vK] at a;rcases a with rfl|rfl|rfl|rfl|rfl<;>rfl
 mono:=λh _ _=>h
def AM.ex {S h v}{x:AH}(k:Rd S h AM v x):v= .agg #[.int .i64 x.U.B,.int .i64 x.U.A,.int .i64 x.W,.int .i64 x.R.B,.int .i64 x.R.A]∧x.ok:=by obtain⟨_,rfl,rfl,h⟩:=k;exact⟨rfl,h⟩
def AM.mk {S h}{x:AH}(k:x.ok):Rd S h AM (.agg #[.int .i64 x.U.B,.int .i64 x.U.A,.int .i64 x.W,.int .i64 x.R.B,.int .i64 x.R.A]) x:=⟨x.v,rfl,rfl,k⟩
def AH.f_Pos:GC AM 0 AC (·.U):=by
 rintro S h cs x ⟨rfl,⟨k0,a,b,c,d⟩⟩;exact⟨rfl,⟨k0,a⟩⟩
def AH.f_Target:GC AM 2 AY (·.W):=by
 rintro S h cs x ⟨rfl,⟨k0,b,a,c,d⟩⟩;exact⟨rfl,a⟩
def AH.f_Open:GC AM 3 AC (·.R):=by
 rintro S h cs x ⟨rfl,⟨k0,c,d,a,b⟩⟩;exact⟨rfl,⟨a,b⟩⟩
def AH.u_Target:QD AM 2 AY (λx y=>{ x with W:=y}):=by
 refine⟨by decide,?_⟩;rintro S h c x vs y ⟨rfl,⟨k0,a,i,b,d⟩⟩ ⟨rfl,g⟩;exact⟨rfl,⟨k0,a,g,b,d⟩⟩
def AH.u_Open:QD AM 3 AC (λx y=>{ x with R:=y}):=by
 refine⟨by decide,?_⟩;rintro S h c x vs y ⟨rfl,⟨k0,a,b,i,j⟩⟩ ⟨rfl,⟨d,g⟩⟩;exact⟨rfl,⟨k0,a,b,d,g⟩⟩
structure AV where
 H:Int
 L:Int
instance:Inhabited AV:=⟨⟨default,default⟩⟩
@[reducible] def AV.v (x:AV):List Go.Value:=[.int .i64 x.H,.int .i64 x.L]
def AV.ok (x:AV):Prop:=AA x.H∧AA x.L
def B8:BU AV where
 sz:=2
 ag:=true
 rd:=λ_ _ cs x=>cs=x.v∧x.ok
 len:=λ⟨h,_⟩=>by rw[h];rfl
 one:=λ{_ _ _ x} ⟨h,_⟩ v a=>by
  rw[h] at a;simp only[AV.v,uS,vD,vK] at a;rcases a with rfl|rfl<;>rfl
 mono:=λh _ _=>h
def B8.ex {S h v}{x:AV}(k:Rd S h B8 v x):v= .agg #[.int .i64 x.H,.int .i64 x.L]∧x.ok:=by obtain⟨_,rfl,rfl,h⟩:=k;exact⟨rfl,h⟩
def B8.mk {S h}{x:AV}(k:x.ok):Rd S h B8 (.agg #[.int .i64 x.H,.int .i64 x.L]) x:=⟨x.v,rfl,rfl,k⟩
def Tf:GC B8 0 AY (·.H):=by
 rintro S h cs x ⟨rfl,⟨k0,a⟩⟩;exact⟨rfl,k0⟩
def NG:GC B8 1 AY (·.L):=by
 rintro S h cs x ⟨rfl,⟨k0,a⟩⟩;exact⟨rfl,a⟩
structure MN where
 B:(List AV)
 A:(List AV)
instance:Inhabited MN:=⟨⟨default,default⟩⟩
def MZ:BU MN where
 sz:=2
 ag:=true
 rd:=λS h cs x=>∃a b:Value,cs=[a,b]∧Sl S h B8 a x.B∧Sl S h B8 b x.A
 len:=λ⟨_,_,h,_⟩=>by rw[h];rfl
 one:=by
  rintro S h cs x ⟨a,b,rfl,k0,c⟩ v d;simp only[uS,vD,vK] at d;rcases d with rfl|rfl<;>first|rfl|exact Sl.one ‹_› |exact(‹_∧_›).2|(obtain ⟨_,_,rfl,_⟩:=Rd.fn ‹_›;rfl)|(obtain ⟨_,_,rfl,_⟩:=Rd.fnr ‹_›;rfl)
 mono:=by
  rintro S S' h h' cs x ⟨a,b,rfl,k0,c⟩ s e;exact⟨a,b,rfl,k0.mono s e,c.mono s e⟩
def MZ.ex {S h v}{x:MN}(k:Rd S h MZ v x):∃a b:Value,v= .agg #[a,b]∧Sl S h B8 a x.B∧Sl S h B8 b x.A:=by obtain⟨_,rfl,a,b,rfl,k⟩:=k;exact⟨a,b,rfl,k⟩
def MZ.mk {S h}{x:MN}{a b:Value}(k0:Sl S h B8 a x.B) (c:Sl S h B8 b x.A):Rd S h MZ (.agg #[a,b]) x:=⟨_,rfl,a,b,rfl,k0,c⟩
def MN.f_Lo:GC MZ 0 (BU.sl B8) (·.B):=by
 rintro S h cs x ⟨a,b,rfl,k0,c⟩;exact⟨_,rfl,k0⟩
def MN.f_Hi:GC MZ 1 (BU.sl B8) (·.A):=by
 rintro S h cs x ⟨b,c,rfl,k0,a⟩;exact⟨_,rfl,a⟩
structure AO where
 M:ByteArray
 F:Int
 P:Int
 C:Int
 Av:(List AV)
 Ac:MN
 Y:Int
 An:Int
 Az:Int
 Au:Int
 V:Int
 Q:Int
 Ae:Int
 Aa:Int
 Ak:Int
 Af:Int
 X:Int
instance:Inhabited AO:=⟨⟨default,default,default,default,default,default,default,default,default,default,default,default,default,default,default,default,default⟩⟩
def BI:BU AO where
 sz:=18
 ag:=true
 rd:=λS h cs x=>∃a b c:Value,cs=[.string x.M,.int .i64 x.F,.int .i64 x.P,.int .i64 x.C,a,b,c,.int .i64 x.Y,.int .i64 x.An,.int .i64 x.Az,.int .i64 x.Au,.int .i64 x.V,.int .i64 x.Q,.int .i64 x.Ae,.int .i64 x.Aa,.int .i64 x.Ak,.int .i64 x.Af,.int .i64 x.X]∧x.M.size≤maxLen∧AA x.F∧AA x.P∧AA x.C∧Sl S h B8 a x.Av∧Sl S h B8 b x.Ac.B∧Sl S h B8 c x.Ac.A∧AA x.Y∧AA x.An∧AA x.Az∧AA x.Au∧AA x.V∧AA x.Q∧AA x.Ae∧AA x.Aa∧AA x.Ak∧AA x.Af∧AA x.X
 len:=λ⟨_,_,_,h,_⟩=>by rw[h];rfl
 one:=by
  rintro S h cs x ⟨a,b,c,rfl,k0,o,p,q,t,u,w,y,z,D,d,g,i,j,k,l,m,n⟩ v G;simp only[uS,vD,vK] at G;rcases G with rfl|rfl|rfl|rfl|rfl|rfl|rfl|rfl|rfl|rfl|rfl|rfl|rfl|rfl|rfl|rfl|rfl|rfl<;>first|rfl|exact Sl.one ‹_› |exact(‹_∧_›).2|(obtain ⟨_,_,rfl,_⟩:=Rd.fn ‹_›;rfl)|(obtain ⟨_,_,rfl,_⟩:=Rd.fnr ‹_›;rfl)
 mono:=by
  rintro S S' h h' cs x ⟨a,b,c,rfl,k0,o,p,q,t,u,w,y,z,D,d,g,i,j,k,l,m,n⟩ s e;exact⟨a,b,c,rfl,k0,o,p,q,t.mono s e,u.mono s e,w.mono s e,y,z,D,d,g,i,j,k,l,m,n⟩
def BI.ex {S h v}{x:AO}(k:Rd S h BI v x):∃a b c:Value,v= .agg #[.string x.M,.int .i64 x.F,.int .i64 x.P,.int .i64 x.C,a,b,c,.int .i64 x.Y,.int .i64 x.An,.int .i64 x.Az,.int .i64 x.Au,.int .i64 x.V,.int .i64 x.Q,.int .i64 x.Ae,.int .i64 x.Aa,.int .i64 x.Ak,.int .i64 x.Af,.int .i64 x.X]∧x.M.size≤maxLen∧AA x.F∧AA x.P∧AA x.C∧Sl S h B8 a x.Av∧Sl S h B8 b x.Ac.B∧Sl S h B8 c x.Ac.A∧AA x.Y∧AA x.An∧AA x.Az∧AA x.Au∧AA x.V∧AA x.Q∧AA x.Ae∧AA x.Aa∧AA x.Ak∧AA x.Af∧AA x.X:=by obtain⟨_,rfl,a,b,c,rfl,k⟩:=k;exact⟨a,b,c,rfl,k⟩
def BI.mk {S h}{x:AO}{a b c:Value}(k0:x.M.size≤maxLen) (o:AA x.F) (p:AA x.P) (q:AA x.C) (s:Sl S h B8 a x.Av) (t:Sl S h B8 b x.Ac.B) (u:Sl S h B8 c x.Ac.A) (v:AA x.Y) (w:AA x.An) (y:AA x.Az) (d:AA x.Au) (g:AA x.V) (i:AA x.Q) (j:AA x.Ae) (k:AA x.Aa) (l:AA x.Ak) (m:AA x.Af) (n:AA x.X):Rd S h BI (.agg #[.string x.M,.int .i64 x.F,.int .i64 x.P,.int .i64 x.C,a,b,c,.int .i64 x.Y,.int .i64 x.An,.int .i64 x.Az,.int .i64 x.Au,.int .i64 x.V,.int .i64 x.Q,.int .i64 x.Ae,.int .i64 x.Aa,.int .i64 x.Ak,.int .i64 x.Af,.int .i64 x.X]) x:=⟨_,rfl,a,b,c,rfl,k0,o,p,q,s,t,u,v,w,y,d,g,i,j,k,l,m,n⟩
def AO.f_Name:GC BI 0 BU.str (·.M):=by
 rintro S h cs x ⟨l,m,n,rfl,k0,o,p,q,s,t,u,v,w,y,a,b,c,d,g,i,j,k⟩;exact⟨rfl,k0⟩
def AO.f_Kind:GC BI 1 AY (·.F):=by
 rintro S h cs x ⟨m,n,o,rfl,k0,a,p,q,s,t,u,v,w,y,b,c,d,g,i,j,k,l⟩;exact⟨rfl,a⟩
def AO.f_From:GC BI 2 AY (·.P):=by
 rintro S h cs x ⟨m,n,o,rfl,k0,p,a,q,s,t,u,v,w,y,b,c,d,g,i,j,k,l⟩;exact⟨rfl,a⟩
def AO.f_To:GC BI 3 AY (·.C):=by
 rintro S h cs x ⟨m,n,o,rfl,k0,p,q,a,s,t,u,v,w,y,b,c,d,g,i,j,k,l⟩;exact⟨rfl,a⟩
def Ms:GC BI 4 (BU.sl B8) (·.Av):=by
 rintro S h cs x ⟨m,n,o,rfl,k0,p,q,s,a,t,u,v,w,y,b,c,d,g,i,j,k,l⟩;exact⟨_,rfl,a⟩
def JE:GC BI 5 MZ (·.Ac):=by
 rintro S h cs x ⟨n,o,p,rfl,k0,q,s,t,u,a,b,v,w,y,c,d,g,i,j,k,l,m⟩;exact⟨_,_,rfl,a,b⟩
def Cv:GC BI 7 AY (·.Y):=by
 rintro S h cs x ⟨m,n,o,rfl,k0,p,q,s,t,u,v,a,w,y,b,c,d,g,i,j,k,l⟩;exact⟨rfl,a⟩
def HB:GC BI 8 AY (·.An):=by
 rintro S h cs x ⟨m,n,o,rfl,k0,p,q,s,t,u,v,w,a,y,b,c,d,g,i,j,k,l⟩;exact⟨rfl,a⟩
def Mt:GC BI 9 AY (·.Az):=by
 rintro S h cs x ⟨m,n,o,rfl,k0,p,q,s,t,u,v,w,y,a,b,c,d,g,i,j,k,l⟩;exact⟨rfl,a⟩
def AO.f_Crest:GC BI 10 AY (·.Au):=by
 rintro S h cs x ⟨l,m,n,rfl,k0,o,p,q,s,t,u,v,w,y,a,b,c,d,g,i,j,k⟩;exact⟨rfl,a⟩
def AO.f_Num:GC BI 11 AY (·.V):=by
 rintro S h cs x ⟨l,m,n,rfl,k0,o,p,q,s,t,u,v,w,y,b,a,c,d,g,i,j,k⟩;exact⟨rfl,a⟩
def AO.f_Den:GC BI 12 AY (·.Q):=by
 rintro S h cs x ⟨l,m,n,rfl,k0,o,p,q,s,t,u,v,w,y,b,c,a,d,g,i,j,k⟩;exact⟨rfl,a⟩
def LI:GC BI 13 AY (·.Ae):=by
 rintro S h cs x ⟨l,m,n,rfl,k0,o,p,q,s,t,u,v,w,y,b,c,d,a,g,i,j,k⟩;exact⟨rfl,a⟩
def Jz:GC BI 14 AY (·.Aa):=by
 rintro S h cs x ⟨l,m,n,rfl,k0,o,p,q,s,t,u,v,w,y,b,c,d,g,a,i,j,k⟩;exact⟨rfl,a⟩
def Ip:GC BI 15 AY (·.Ak):=by
 rintro S h cs x ⟨l,m,n,rfl,k0,o,p,q,s,t,u,v,w,y,b,c,d,g,i,a,j,k⟩;exact⟨rfl,a⟩
def Iq:GC BI 16 AY (·.Af):=by
 rintro S h cs x ⟨l,m,n,rfl,k0,o,p,q,s,t,u,v,w,y,b,c,d,g,i,j,a,k⟩;exact⟨rfl,a⟩
def AO.f_Delay:GC BI 17 AY (·.X):=by
 rintro S h cs x ⟨l,m,n,rfl,k0,o,p,q,s,t,u,v,w,y,b,c,d,g,i,j,k,a⟩;exact⟨rfl,a⟩
structure Ep where
 U:Int
 W:Int
 Bg:Bool
 R:Bool
instance:Inhabited Ep:=⟨⟨default,default,default,default⟩⟩
@[reducible] def Ep.v (x:Ep):List Go.Value:=[.int .i64 x.U,.int .i64 x.W,.bool x.Bg,.bool x.R]
def Ep.ok (x:Ep):Prop:=AA x.U∧AA x.W
def JA:BU Ep where
 sz:=4
 ag:=true
 rd:=λ_ _ cs x=>cs=x.v∧x.ok
 len:=λ⟨h,_⟩=>by rw[h];rfl
 one:=λ{_ _ _ x} ⟨h,_⟩ v a=>by
  rw[h] at a;simp only[Ep.v,uS,vD,vK] at a;rcases a with rfl|rfl|rfl|rfl<;>rfl
 mono:=λh _ _=>h
def JA.ex {S h v}{x:Ep}(k:Rd S h JA v x):v= .agg #[.int .i64 x.U,.int .i64 x.W,.bool x.Bg,.bool x.R]∧x.ok:=by obtain⟨_,rfl,rfl,h⟩:=k;exact⟨rfl,h⟩
def JA.mk {S h}{x:Ep}(k:x.ok):Rd S h JA (.agg #[.int .i64 x.U,.int .i64 x.W,.bool x.Bg,.bool x.R]) x:=⟨x.v,rfl,rfl,k⟩
def Ep.f_Pos:GC JA 0 AY (·.U):=by
 rintro S h cs x ⟨rfl,⟨k0,a⟩⟩;exact⟨rfl,k0⟩
def Ep.f_Target:GC JA 1 AY (·.W):=by
 rintro S h cs x ⟨rfl,⟨k0,a⟩⟩;exact⟨rfl,a⟩
def Ep.f_Open:GC JA 3 BU.bool (·.R):=by
 rintro S h cs x ⟨rfl,⟨k0,a⟩⟩;exact rfl
def Ep.u_Target:QD JA 1 AY (λx y=>{ x with W:=y}):=by
 refine⟨by decide,?_⟩;rintro S h c x vs y ⟨rfl,⟨k0,b⟩⟩ ⟨rfl,a⟩;exact⟨rfl,⟨k0,a⟩⟩
def Ep.u_Open:QD JA 3 BU.bool (λx y=>{ x with R:=y}):=by
 refine⟨by decide,?_⟩;rintro S h c x vs y ⟨rfl,⟨k0,a⟩⟩ rfl;exact⟨rfl,⟨k0,a⟩⟩
structure QH where
 Bn:Int
 Bu:Int
instance:Inhabited QH:=⟨⟨default,default⟩⟩
@[reducible] def QH.v (x:QH):List Go.Value:=[.int .i64 x.Bn,.int .i64 x.Bu]
def QH.ok (x:QH):Prop:=AA x.Bn∧AA x.Bu
def MY:BU QH where
 sz:=2
 ag:=true
 rd:=λ_ _ cs x=>cs=x.v∧x.ok
 len:=λ⟨h,_⟩=>by rw[h];rfl
 one:=λ{_ _ _ x} ⟨h,_⟩ v a=>by
  rw[h] at a;simp only[QH.v,uS,vD,vK] at a;rcases a with rfl|rfl<;>rfl
 mono:=λh _ _=>h
def MY.ex {S h v}{x:QH}(k:Rd S h MY v x):v= .agg #[.int .i64 x.Bn,.int .i64 x.Bu]∧x.ok:=by obtain⟨_,rfl,rfl,h⟩:=k;exact⟨rfl,h⟩
def MY.mk {S h}{x:QH}(k:x.ok):Rd S h MY (.agg #[.int .i64 x.Bn,.int .i64 x.Bu]) x:=⟨x.v,rfl,rfl,k⟩
structure EU where
 M:ByteArray
 F:Int
 Aw:Int
 Ai:Int
 Ba:(List AV)
 Bi:(List Int)
 V:Int
 Q:Int
 Ap:Int
 X:Int
 Bh:Int
 Am:(List QH)
instance:Inhabited EU:=⟨⟨default,default,default,default,default,default,default,default,default,default,default,default⟩⟩
def B4:BU EU where
 sz:=12
 ag:=true
 rd:=λS h cs x=>∃b c a:Value,cs=[.string x.M,.int .i64 x.F,.int .i64 x.Aw,.int .i64 x.Ai,b,c,.int .i64 x.V,.int .i64 x.Q,.int .i64 x.Ap,.int .i64 x.X,.int .i64 x.Bh,a]∧x.M.size≤maxLen∧AA x.F∧AA x.Aw∧AA x.Ai∧Sl S h B8 b x.Ba∧Sl S h AY c x.Bi∧AA x.V∧AA x.Q∧AA x.Ap∧AA x.X∧AA x.Bh∧Sl S h MY a x.Am
 len:=λ⟨_,_,_,h,_⟩=>by rw[h];rfl
 one:=by
  rintro S h cs x ⟨b,c,a,rfl,k0,i,j,k,l,m,n,o,p,q,d,g⟩ v t;simp only[uS,vD,vK] at t;rcases t with rfl|rfl|rfl|rfl|rfl|rfl|rfl|rfl|rfl|rfl|rfl|rfl<;>first|rfl|exact Sl.one ‹_› |exact(‹_∧_›).2|(obtain ⟨_,_,rfl,_⟩:=Rd.fn ‹_›;rfl)|(obtain ⟨_,_,rfl,_⟩:=Rd.fnr ‹_›;rfl)
 mono:=by
  rintro S S' h h' cs x ⟨b,c,a,rfl,k0,i,j,k,l,m,n,o,p,q,d,g⟩ s e;exact⟨b,c,a,rfl,k0,i,j,k,l.mono s e,m.mono s e,n,o,p,q,d,g.mono s e⟩
def B4.ex {S h v}{x:EU}(k:Rd S h B4 v x):∃b c a:Value,v= .agg #[.string x.M,.int .i64 x.F,.int .i64 x.Aw,.int .i64 x.Ai,b,c,.int .i64 x.V,.int .i64 x.Q,.int .i64 x.Ap,.int .i64 x.X,.int .i64 x.Bh,a]∧x.M.size≤maxLen∧AA x.F∧AA x.Aw∧AA x.Ai∧Sl S h B8 b x.Ba∧Sl S h AY c x.Bi∧AA x.V∧AA x.Q∧AA x.Ap∧AA x.X∧AA x.Bh∧Sl S h MY a x.Am:=by obtain⟨_,rfl,b,c,a,rfl,k⟩:=k;exact⟨b,c,a,rfl,k⟩
def B4.mk {S h}{x:EU}{b c a:Value}(k0:x.M.size≤maxLen) (i:AA x.F) (j:AA x.Aw) (k:AA x.Ai) (l:Sl S h B8 b x.Ba) (m:Sl S h AY c x.Bi) (n:AA x.V) (o:AA x.Q) (p:AA x.Ap) (q:AA x.X) (d:AA x.Bh) (g:Sl S h MY a x.Am):Rd S h B4 (.agg #[.string x.M,.int .i64 x.F,.int .i64 x.Aw,.int .i64 x.Ai,b,c,.int .i64 x.V,.int .i64 x.Q,.int .i64 x.Ap,.int .i64 x.X,.int .i64 x.Bh,a]) x:=⟨_,rfl,b,c,a,rfl,k0,i,j,k,l,m,n,o,p,q,d,g⟩
def EU.f_Name:GC B4 0 BU.str (·.M):=by
 rintro S h cs x ⟨d,g,a,rfl,k0,i,j,k,l,m,n,o,p,q,b,c⟩;exact⟨rfl,k0⟩
def EU.f_Kind:GC B4 1 AY (·.F):=by
 rintro S h cs x ⟨g,i,a,rfl,k0,b,j,k,l,m,n,o,p,q,c,d⟩;exact⟨rfl,b⟩
def OX:GC B4 2 AY (·.Aw):=by
 rintro S h cs x ⟨g,i,a,rfl,k0,j,b,k,l,m,n,o,p,q,c,d⟩;exact⟨rfl,b⟩
def EU.f_Level:GC B4 4 (BU.sl B8) (·.Ba):=by
 rintro S h cs x ⟨g,i,a,rfl,k0,j,k,l,b,m,n,o,p,q,c,d⟩;exact⟨_,rfl,b⟩
def EU.f_Num:GC B4 6 AY (·.V):=by
 rintro S h cs x ⟨g,i,a,rfl,k0,j,k,l,m,n,b,o,p,q,c,d⟩;exact⟨rfl,b⟩
def EU.f_Den:GC B4 7 AY (·.Q):=by
 rintro S h cs x ⟨g,i,a,rfl,k0,j,k,l,m,n,o,b,p,q,c,d⟩;exact⟨rfl,b⟩
def EU.f_Delay:GC B4 9 AY (·.X):=by
 rintro S h cs x ⟨g,i,a,rfl,k0,j,k,l,m,n,o,p,q,b,c,d⟩;exact⟨rfl,b⟩
def EU.f_Rain:GC B4 11 (BU.sl MY) (·.Am):=by
 rintro S h cs x ⟨d,g,b,rfl,k0,i,j,k,l,m,n,o,p,q,c,a⟩;exact⟨_,rfl,a⟩
structure Dr where
 M:ByteArray
 Ah:Int
 Bd:Int
 Bf:Int
 Bj:Int
 Be:Int
 Ay:Int
instance:Inhabited Dr:=⟨⟨default,default,default,default,default,default,default⟩⟩
@[reducible] def Dr.v (x:Dr):List Go.Value:=[.string x.M,.int .i64 x.Ah,.int .i64 x.Bd,.int .i64 x.Bf,.int .i64 x.Bj,.int .i64 x.Be,.int .i64 x.Ay]
def Dr.ok (x:Dr):Prop:=x.M.size≤maxLen∧AA x.Ah∧AA x.Bd∧AA x.Bf∧AA x.Bj∧AA x.Be∧AA x.Ay
def Dn:BU Dr where
 sz:=7
 ag:=true
 rd:=λ_ _ cs x=>cs=x.v∧x.ok
 len:=λ⟨h,_⟩=>by rw[h];rfl
 one:=λ{_ _ _ x} ⟨h,_⟩ v a=>by
  rw[h] at a;simp only[Dr.v,uS,vD,vK] at a;rcases a with rfl|rfl|rfl|rfl|rfl|rfl|rfl<;>rfl
 mono:=λh _ _=>h
def Dn.ex {S h v}{x:Dr}(k:Rd S h Dn v x):v= .agg #[.string x.M,.int .i64 x.Ah,.int .i64 x.Bd,.int .i64 x.Bf,.int .i64 x.Bj,.int .i64 x.Be,.int .i64 x.Ay]∧x.ok:=by obtain⟨_,rfl,rfl,h⟩:=k;exact⟨rfl,h⟩
def Dn.mk {S h}{x:Dr}(k:x.ok):Rd S h Dn (.agg #[.string x.M,.int .i64 x.Ah,.int .i64 x.Bd,.int .i64 x.Bf,.int .i64 x.Bj,.int .i64 x.Be,.int .i64 x.Ay]) x:=⟨x.v,rfl,rfl,k⟩
def Dr.f_Name:GC Dn 0 BU.str (·.M):=by
 rintro S h cs x ⟨rfl,⟨k0,a,b,c,d,g,i⟩⟩;exact⟨rfl,k0⟩
def Dr.f_Place:GC Dn 1 AY (·.Ah):=by
 rintro S h cs x ⟨rfl,⟨k0,a,b,c,d,g,i⟩⟩;exact⟨rfl,a⟩
def Tu:GC Dn 2 AY (·.Bd):=by
 rintro S h cs x ⟨rfl,⟨k0,b,a,c,d,g,i⟩⟩;exact⟨rfl,a⟩
def VF:GC Dn 3 AY (·.Bf):=by
 rintro S h cs x ⟨rfl,⟨k0,b,c,a,d,g,i⟩⟩;exact⟨rfl,a⟩
def Tt:GC Dn 5 AY (·.Be):=by
 rintro S h cs x ⟨rfl,⟨k0,b,c,d,g,a,i⟩⟩;exact⟨rfl,a⟩
def Dr.f_Quorum:GC Dn 6 AY (·.Ay):=by
 rintro S h cs x ⟨rfl,⟨k0,b,c,d,g,i,a⟩⟩;exact⟨rfl,a⟩
structure Id where
 M:ByteArray
 F:Int
 W:Int
 T:Int
 Bt:Int
instance:Inhabited Id:=⟨⟨default,default,default,default,default⟩⟩
@[reducible] def Id.v (x:Id):List Go.Value:=[.string x.M,.int .i64 x.F,.int .i64 x.W,.int .i64 x.T,.int .i64 x.Bt]
def Id.ok (x:Id):Prop:=x.M.size≤maxLen∧AA x.F∧AA x.W∧AA x.T∧AA x.Bt
def De:BU Id where
 sz:=5
 ag:=true
 rd:=λ_ _ cs x=>cs=x.v∧x.ok
 len:=λ⟨h,_⟩=>by rw[h];rfl
 one:=λ{_ _ _ x} ⟨h,_⟩ v a=>by
  rw[h] at a;simp only[Id.v,uS,vD,vK] at a;rcases a with rfl|rfl|rfl|rfl|rfl<;>rfl
 mono:=λh _ _=>h
def De.ex {S h v}{x:Id}(k:Rd S h De v x):v= .agg #[.string x.M,.int .i64 x.F,.int .i64 x.W,.int .i64 x.T,.int .i64 x.Bt]∧x.ok:=by obtain⟨_,rfl,rfl,h⟩:=k;exact⟨rfl,h⟩
def De.mk {S h}{x:Id}(k:x.ok):Rd S h De (.agg #[.string x.M,.int .i64 x.F,.int .i64 x.W,.int .i64 x.T,.int .i64 x.Bt]) x:=⟨x.v,rfl,rfl,k⟩
def Id.f_Name:GC De 0 BU.str (·.M):=by
 rintro S h cs x ⟨rfl,⟨k0,a,b,c,d⟩⟩;exact⟨rfl,k0⟩
def Id.f_Kind:GC De 1 AY (·.F):=by
 rintro S h cs x ⟨rfl,⟨k0,a,b,c,d⟩⟩;exact⟨rfl,a⟩
def Id.f_Target:GC De 2 AY (·.W):=by
 rintro S h cs x ⟨rfl,⟨k0,b,a,c,d⟩⟩;exact⟨rfl,a⟩
def Id.f_Err:GC De 3 AY (·.T):=by
 rintro S h cs x ⟨rfl,⟨k0,b,c,a,d⟩⟩;exact⟨rfl,a⟩
def Id.u_Target:QD De 2 AY (λx y=>{ x with W:=y}):=by
 refine⟨by decide,?_⟩;rintro S h c x vs y ⟨rfl,⟨k0,a,i,b,d⟩⟩ ⟨rfl,g⟩;exact⟨rfl,⟨k0,a,g,b,d⟩⟩
structure N0 where
 M:ByteArray
 P:Int
 C:Int
 Bv:Int
 Bw:Int
 Br:Int
 Bs:Int
instance:Inhabited N0:=⟨⟨default,default,default,default,default,default,default⟩⟩
@[reducible] def N0.v (x:N0):List Go.Value:=[.string x.M,.int .i64 x.P,.int .i64 x.C,.int .i64 x.Bv,.int .i64 x.Bw,.int .i64 x.Br,.int .i64 x.Bs]
def N0.ok (x:N0):Prop:=x.M.size≤maxLen∧AA x.P∧AA x.C∧AA x.Bv∧AA x.Bw∧AA x.Br∧AA x.Bs
def GQ:BU N0 where
 sz:=7
 ag:=true
 rd:=λ_ _ cs x=>cs=x.v∧x.ok
 len:=λ⟨h,_⟩=>by rw[h];rfl
 one:=λ{_ _ _ x} ⟨h,_⟩ v a=>by
  rw[h] at a;simp only[N0.v,uS,vD,vK] at a;rcases a with rfl|rfl|rfl|rfl|rfl|rfl|rfl<;>rfl
 mono:=λh _ _=>h
def GQ.ex {S h v}{x:N0}(k:Rd S h GQ v x):v= .agg #[.string x.M,.int .i64 x.P,.int .i64 x.C,.int .i64 x.Bv,.int .i64 x.Bw,.int .i64 x.Br,.int .i64 x.Bs]∧x.ok:=by obtain⟨_,rfl,rfl,h⟩:=k;exact⟨rfl,h⟩
def GQ.mk {S h}{x:N0}(k:x.ok):Rd S h GQ (.agg #[.string x.M,.int .i64 x.P,.int .i64 x.C,.int .i64 x.Bv,.int .i64 x.Bw,.int .i64 x.Br,.int .i64 x.Bs]) x:=⟨x.v,rfl,rfl,k⟩
def N0.f_Name:GC GQ 0 BU.str (·.M):=by
 rintro S h cs x ⟨rfl,⟨k0,a,b,c,d,g,i⟩⟩;exact⟨rfl,k0⟩
def N0.f_From:GC GQ 1 AY (·.P):=by
 rintro S h cs x ⟨rfl,⟨k0,a,b,c,d,g,i⟩⟩;exact⟨rfl,a⟩
def N0.f_To:GC GQ 2 AY (·.C):=by
 rintro S h cs x ⟨rfl,⟨k0,b,a,c,d,g,i⟩⟩;exact⟨rfl,a⟩
structure KV where
 M:ByteArray
 As:Int
instance:Inhabited KV:=⟨⟨default,default⟩⟩
@[reducible] def KV.v (x:KV):List Go.Value:=[.string x.M,.int .i64 x.As]
def KV.ok (x:KV):Prop:=x.M.size≤maxLen∧AA x.As
def DB:BU KV where
 sz:=2
 ag:=true
 rd:=λ_ _ cs x=>cs=x.v∧x.ok
 len:=λ⟨h,_⟩=>by rw[h];rfl
 one:=λ{_ _ _ x} ⟨h,_⟩ v a=>by
  rw[h] at a;simp only[KV.v,uS,vD,vK] at a;rcases a with rfl|rfl<;>rfl
 mono:=λh _ _=>h
def DB.ex {S h v}{x:KV}(k:Rd S h DB v x):v= .agg #[.string x.M,.int .i64 x.As]∧x.ok:=by obtain⟨_,rfl,rfl,h⟩:=k;exact⟨rfl,h⟩
def DB.mk {S h}{x:KV}(k:x.ok):Rd S h DB (.agg #[.string x.M,.int .i64 x.As]) x:=⟨x.v,rfl,rfl,k⟩
def KV.f_Name:GC DB 0 BU.str (·.M):=by
 rintro S h cs x ⟨rfl,⟨k0,a⟩⟩;exact⟨rfl,k0⟩
def KV.f_Room:GC DB 1 AY (·.As):=by
 rintro S h cs x ⟨rfl,⟨k0,a⟩⟩;exact⟨rfl,a⟩
structure AF where
 M:ByteArray
 Aq:(List ByteArray)
 S:Int
 E:(List EU)
 D:(List AO)
 Ad:(List Dr)
 Ab:(List Id)
 Ar:(List N0)
 At:(List KV)
 As:(List Int)
 T:Int
instance:Inhabited AF:=⟨⟨default,default,default,default,default,default,default,default,default,default,default⟩⟩
def B7:BU AF where
 sz:=11
 ag:=true
 rd:=λS h cs x=>∃a b c d g i j k:Value,cs=[.string x.M,a,.int .i64 x.S,b,c,d,g,i,j,k,.int .i64 x.T]∧x.M.size≤maxLen∧Sl S h BU.str a x.Aq∧AA x.S∧Sl S h B4 b x.E∧Sl S h BI c x.D∧Sl S h Dn d x.Ad∧Sl S h De g x.Ab∧Sl S h GQ i x.Ar∧Sl S h DB j x.At∧Sl S h AY k x.As∧AA x.T
 len:=λ⟨_,_,_,_,_,_,_,_,h,_⟩=>by rw[h];rfl
 one:=by
  rintro S h cs x ⟨a,b,c,d,g,i,j,k,rfl,k0,m,n,o,p,q,t,u,w,y,l⟩ v z;simp only[uS,vD,vK] at z;rcases z with rfl|rfl|rfl|rfl|rfl|rfl|rfl|rfl|rfl|rfl|rfl<;>first|rfl|exact Sl.one ‹_› |exact(‹_∧_›).2|(obtain ⟨_,_,rfl,_⟩:=Rd.fn ‹_›;rfl)|(obtain ⟨_,_,rfl,_⟩:=Rd.fnr ‹_›;rfl)
 mono:=by
  rintro S S' h h' cs x ⟨a,b,c,d,g,i,j,k,rfl,k0,m,n,o,p,q,t,u,w,y,l⟩ s e;exact⟨a,b,c,d,g,i,j,k,rfl,k0,m.mono s e,n,o.mono s e,p.mono s e,q.mono s e,t.mono s e,u.mono s e,w.mono s e,y.mono s e,l⟩
def B7.ex {S h v}{x:AF}(k:Rd S h B7 v x):∃a b c d g i j l:Value,v= .agg #[.string x.M,a,.int .i64 x.S,b,c,d,g,i,j,l,.int .i64 x.T]∧x.M.size≤maxLen∧Sl S h BU.str a x.Aq∧AA x.S∧Sl S h B4 b x.E∧Sl S h BI c x.D∧Sl S h Dn d x.Ad∧Sl S h De g x.Ab∧Sl S h GQ i x.Ar∧Sl S h DB j x.At∧Sl S h AY l x.As∧AA x.T:=by obtain⟨_,rfl,a,b,c,d,g,i,j,l,rfl,k⟩:=k;exact⟨a,b,c,d,g,i,j,l,rfl,k⟩
def B7.mk {S h}{x:AF}{a b c d g i j k:Value}(k0:x.M.size≤maxLen) (m:Sl S h BU.str a x.Aq) (n:AA x.S) (o:Sl S h B4 b x.E) (p:Sl S h BI c x.D) (q:Sl S h Dn d x.Ad) (s:Sl S h De g x.Ab) (t:Sl S h GQ i x.Ar) (u:Sl S h DB j x.At) (v:Sl S h AY k x.As) (l:AA x.T):Rd S h B7 (.agg #[.string x.M,a,.int .i64 x.S,b,c,d,g,i,j,k,.int .i64 x.T]) x:=⟨_,rfl,a,b,c,d,g,i,j,k,rfl,k0,m,n,o,p,q,s,t,u,v,l⟩
def AF.f_Name:GC B7 0 BU.str (·.M):=by
 rintro S h cs x ⟨b,c,d,g,i,j,k,l,rfl,k0,m,n,o,p,q,s,t,u,v,a⟩;exact⟨rfl,k0⟩
def Me:GC B7 1 (BU.sl BU.str) (·.Aq):=by
 rintro S h cs x ⟨c,d,g,i,j,k,l,m,rfl,k0,a,n,o,p,q,s,t,u,v,b⟩;exact⟨_,rfl,a⟩
def NI:GC B7 2 AY (·.S):=by
 rintro S h cs x ⟨c,d,g,i,j,k,l,m,rfl,k0,n,a,o,p,q,s,t,u,v,b⟩;exact⟨rfl,a⟩
def Ck:GC B7 3 (BU.sl B4) (·.E):=by
 rintro S h cs x ⟨c,d,g,i,j,k,l,m,rfl,k0,n,o,a,p,q,s,t,u,v,b⟩;exact⟨_,rfl,a⟩
def AF.f_Links:GC B7 4 (BU.sl BI) (·.D):=by
 rintro S h cs x ⟨c,d,g,i,j,k,l,m,rfl,k0,n,o,p,a,q,s,t,u,v,b⟩;exact⟨_,rfl,a⟩
def GT:GC B7 5 (BU.sl Dn) (·.Ad):=by
 rintro S h cs x ⟨c,d,g,i,j,k,l,m,rfl,k0,n,o,p,q,a,s,t,u,v,b⟩;exact⟨_,rfl,a⟩
def H5:GC B7 6 (BU.sl De) (·.Ab):=by
 rintro S h cs x ⟨c,d,g,i,j,k,l,m,rfl,k0,n,o,p,q,s,a,t,u,v,b⟩;exact⟨_,rfl,a⟩
def NH:GC B7 7 (BU.sl GQ) (·.Ar):=by
 rintro S h cs x ⟨c,d,g,i,j,k,l,m,rfl,k0,n,o,p,q,s,t,a,u,v,b⟩;exact⟨_,rfl,a⟩
def Ls:GC B7 8 (BU.sl DB) (·.At):=by
 rintro S h cs x ⟨c,d,g,i,j,k,l,m,rfl,k0,n,o,p,q,s,t,u,a,v,b⟩;exact⟨_,rfl,a⟩
def AF.f_Room:GC B7 9 (BU.sl AY) (·.As):=by
 rintro S h cs x ⟨c,d,g,i,j,k,l,m,rfl,k0,n,o,p,q,s,t,u,v,a,b⟩;exact⟨_,rfl,a⟩
def AF.f_Err:GC B7 10 AY (·.T):=by
 rintro S h cs x ⟨b,c,d,g,i,j,k,l,rfl,k0,m,n,o,p,q,s,t,u,v,a⟩;exact⟨rfl,a⟩
structure AZ where
 O:Int
 C:Int
 K:AB
instance:Inhabited AZ:=⟨⟨default,default,default⟩⟩
@[reducible] def AZ.v (x:AZ):List Go.Value:=[.int .i64 x.O,.int .i64 x.C,.int .i64 x.K.B,.int .i64 x.K.A]
def AZ.ok (x:AZ):Prop:=AA x.O∧AA x.C∧AA x.K.B∧AA x.K.A
def BS:BU AZ where
 sz:=4
 ag:=true
 rd:=λ_ _ cs x=>cs=x.v∧x.ok
 len:=λ⟨h,_⟩=>by rw[h];rfl
 one:=λ{_ _ _ x} ⟨h,_⟩ v a=>by
  rw[h] at a;simp only[AZ.v,uS,vD,vK] at a;rcases a with rfl|rfl|rfl|rfl<;>rfl
 mono:=λh _ _=>h
def BS.ex {S h v}{x:AZ}(k:Rd S h BS v x):v= .agg #[.int .i64 x.O,.int .i64 x.C,.int .i64 x.K.B,.int .i64 x.K.A]∧x.ok:=by obtain⟨_,rfl,rfl,h⟩:=k;exact⟨rfl,h⟩
def BS.mk {S h}{x:AZ}(k:x.ok):Rd S h BS (.agg #[.int .i64 x.O,.int .i64 x.C,.int .i64 x.K.B,.int .i64 x.K.A]) x:=⟨x.v,rfl,rfl,k⟩
def AZ.f_At:GC BS 0 AY (·.O):=by
 rintro S h cs x ⟨rfl,⟨k0,a,b,c⟩⟩;exact⟨rfl,k0⟩
def AZ.f_To:GC BS 1 AY (·.C):=by
 rintro S h cs x ⟨rfl,⟨k0,a,b,c⟩⟩;exact⟨rfl,a⟩
def AZ.f_Vol:GC BS 2 AC (·.K):=by
 rintro S h cs x ⟨rfl,⟨k0,c,a,b⟩⟩;exact⟨rfl,⟨a,b⟩⟩
def AZ.u_Vol:QD BS 2 AC (λx y=>{ x with K:=y}):=by
 refine⟨by decide,?_⟩;rintro S h c x vs y ⟨rfl,⟨k0,a,g,i⟩⟩ ⟨rfl,⟨b,d⟩⟩;exact⟨rfl,⟨k0,a,b,d⟩⟩
structure BV where
 I:Int
 K:(List AB)
 N:(List AZ)
 D:(List AH)
instance:Inhabited BV:=⟨⟨default,default,default,default⟩⟩
def DL:BU BV where
 sz:=4
 ag:=true
 rd:=λS h cs x=>∃a b c:Value,cs=[.int .i64 x.I,a,b,c]∧AA x.I∧Sl S h AC a x.K∧Sl S h BS b x.N∧Sl S h AM c x.D
 len:=λ⟨_,_,_,h,_⟩=>by rw[h];rfl
 one:=by
  rintro S h cs x ⟨a,b,c,rfl,k0,d,g,i⟩ v j;simp only[uS,vD,vK] at j;rcases j with rfl|rfl|rfl|rfl<;>first|rfl|exact Sl.one ‹_› |exact(‹_∧_›).2|(obtain ⟨_,_,rfl,_⟩:=Rd.fn ‹_›;rfl)|(obtain ⟨_,_,rfl,_⟩:=Rd.fnr ‹_›;rfl)
 mono:=by
  rintro S S' h h' cs x ⟨a,b,c,rfl,k0,d,g,i⟩ s e;exact⟨a,b,c,rfl,k0,d.mono s e,g.mono s e,i.mono s e⟩
def DL.ex {S h v}{x:BV}(k:Rd S h DL v x):∃a b c:Value,v= .agg #[.int .i64 x.I,a,b,c]∧AA x.I∧Sl S h AC a x.K∧Sl S h BS b x.N∧Sl S h AM c x.D:=by obtain⟨_,rfl,a,b,c,rfl,k⟩:=k;exact⟨a,b,c,rfl,k⟩
def DL.mk {S h}{x:BV}{a b c:Value}(k0:AA x.I) (d:Sl S h AC a x.K) (g:Sl S h BS b x.N) (i:Sl S h AM c x.D):Rd S h DL (.agg #[.int .i64 x.I,a,b,c]) x:=⟨_,rfl,a,b,c,rfl,k0,d,g,i⟩
def BV.f_Hour:GC DL 0 AY (·.I):=by
 rintro S h cs x ⟨a,b,c,rfl,k0,d,g,i⟩;exact⟨rfl,k0⟩
def BV.f_Vol:GC DL 1 (BU.sl AC) (·.K):=by
 rintro S h cs x ⟨b,c,d,rfl,k0,a,g,i⟩;exact⟨_,rfl,a⟩
def BV.f_Queue:GC DL 2 (BU.sl BS) (·.N):=by
 rintro S h cs x ⟨b,c,d,rfl,k0,g,a,i⟩;exact⟨_,rfl,a⟩
def BV.f_Links:GC DL 3 (BU.sl AM) (·.D):=by
 rintro S h cs x ⟨b,c,d,rfl,k0,g,i,a⟩;exact⟨_,rfl,a⟩
def BV.u_Vol:QD DL 1 (BU.sl AC) (λx y=>{ x with K:=y}):=by
 refine⟨by decide,?_⟩;rintro S h c x vs y ⟨k,a,b,rfl,k0,l,d,g⟩ ⟨i,rfl,j⟩;exact⟨i,a,b,rfl,k0,j,d,g⟩
structure BX where
 b:AF
 h:BV
 peaks:(List AB)
instance:Inhabited BX:=⟨⟨default,default,default⟩⟩
def Na:BU BX where
 sz:=16
 ag:=true
 rd:=λS h cs x=>∃i j k l m n o p a c d g:Value,cs=[.string x.b.M,i,.int .i64 x.b.S,j,k,l,m,n,o,p,.int .i64 x.b.T,.int .i64 x.h.I,a,c,d,g]∧x.b.M.size≤maxLen∧Sl S h BU.str i x.b.Aq∧AA x.b.S∧Sl S h B4 j x.b.E∧Sl S h BI k x.b.D∧Sl S h Dn l x.b.Ad∧Sl S h De m x.b.Ab∧Sl S h GQ n x.b.Ar∧Sl S h DB o x.b.At∧Sl S h AY p x.b.As∧AA x.b.T∧AA x.h.I∧Sl S h AC a x.h.K∧Sl S h BS c x.h.N∧Sl S h AM d x.h.D∧Sl S h AC g x.peaks
 len:=λ⟨_,_,_,_,_,_,_,_,_,_,_,_,h,_⟩=>by rw[h];rfl
 one:=by
  rintro S h cs x ⟨i,j,k,l,m,n,o,p,a,c,d,g,rfl,k0,A,B,C,F,G,H,J,Q,U,q,t,u,w,y,z⟩ v V;simp only[uS,vD,vK] at V;rcases V with rfl|rfl|rfl|rfl|rfl|rfl|rfl|rfl|rfl|rfl|rfl|rfl|rfl|rfl|rfl|rfl<;>first|rfl|exact Sl.one ‹_› |exact(‹_∧_›).2|(obtain ⟨_,_,rfl,_⟩:=Rd.fn ‹_›;rfl)|(obtain ⟨_,_,rfl,_⟩:=Rd.fnr ‹_›;rfl)
 mono:=by
  rintro S S' h h' cs x ⟨i,j,k,l,m,n,o,p,a,c,d,g,rfl,k0,A,B,C,F,G,H,J,Q,U,q,t,u,w,y,z⟩ s e;exact⟨i,j,k,l,m,n,o,p,a,c,d,g,rfl,k0,A.mono s e,B,C.mono s e,F.mono s e,G.mono s e,H.mono s e,J.mono s e,Q.mono s e,U.mono s e,q,t,u.mono s e,w.mono s e,y.mono s e,z.mono s e⟩
def Na.ex {S h v}{x:BX}(k:Rd S h Na v x):∃i j l m n o p q a c d g:Value,v= .agg #[.string x.b.M,i,.int .i64 x.b.S,j,l,m,n,o,p,q,.int .i64 x.b.T,.int .i64 x.h.I,a,c,d,g]∧x.b.M.size≤maxLen∧Sl S h BU.str i x.b.Aq∧AA x.b.S∧Sl S h B4 j x.b.E∧Sl S h BI l x.b.D∧Sl S h Dn m x.b.Ad∧Sl S h De n x.b.Ab∧Sl S h GQ o x.b.Ar∧Sl S h DB p x.b.At∧Sl S h AY q x.b.As∧AA x.b.T∧AA x.h.I∧Sl S h AC a x.h.K∧Sl S h BS c x.h.N∧Sl S h AM d x.h.D∧Sl S h AC g x.peaks:=by obtain⟨_,rfl,i,j,l,m,n,o,p,q,a,c,d,g,rfl,k⟩:=k;exact⟨i,j,l,m,n,o,p,q,a,c,d,g,rfl,k⟩
def Na.mk {S h}{x:BX}{i j k l m n o p a c d g:Value}(k0:x.b.M.size≤maxLen) (y:Sl S h BU.str i x.b.Aq) (z:AA x.b.S) (A:Sl S h B4 j x.b.E) (B:Sl S h BI k x.b.D) (C:Sl S h Dn l x.b.Ad) (F:Sl S h De m x.b.Ab) (G:Sl S h GQ n x.b.Ar) (H:Sl S h DB o x.b.At) (J:Sl S h AY p x.b.As) (q:AA x.b.T) (s:AA x.h.I) (t:Sl S h AC a x.h.K) (u:Sl S h BS c x.h.N) (v:Sl S h AM d x.h.D) (w:Sl S h AC g x.peaks):Rd S h Na (.agg #[.string x.b.M,i,.int .i64 x.b.S,j,k,l,m,n,o,p,.int .i64 x.b.T,.int .i64 x.h.I,a,c,d,g]) x:=⟨_,rfl,i,j,k,l,m,n,o,p,a,c,d,g,rfl,k0,y,z,A,B,C,F,G,H,J,q,s,t,u,v,w⟩
structure KF where
 F:Int
 Z:Int
instance:Inhabited KF:=⟨⟨default,default⟩⟩
@[reducible] def KF.v (x:KF):List Go.Value:=[.int .i64 x.F,.int .i64 x.Z]
def KF.ok (x:KF):Prop:=AA x.F∧AA x.Z
def JB:BU KF where
 sz:=2
 ag:=true
 rd:=λ_ _ cs x=>cs=x.v∧x.ok
 len:=λ⟨h,_⟩=>by rw[h];rfl
 one:=λ{_ _ _ x} ⟨h,_⟩ v a=>by
  rw[h] at a;simp only[KF.v,uS,vD,vK] at a;rcases a with rfl|rfl<;>rfl
 mono:=λh _ _=>h
def JB.ex {S h v}{x:KF}(k:Rd S h JB v x):v= .agg #[.int .i64 x.F,.int .i64 x.Z]∧x.ok:=by obtain⟨_,rfl,rfl,h⟩:=k;exact⟨rfl,h⟩
def JB.mk {S h}{x:KF}(k:x.ok):Rd S h JB (.agg #[.int .i64 x.F,.int .i64 x.Z]) x:=⟨x.v,rfl,rfl,k⟩
def KF.f_Kind:GC JB 0 AY (·.F):=by
 rintro S h cs x ⟨rfl,⟨k0,a⟩⟩;exact⟨rfl,k0⟩
def KF.f_Link:GC JB 1 AY (·.Z):=by
 rintro S h cs x ⟨rfl,⟨k0,a⟩⟩;exact⟨rfl,a⟩
structure Nl where
 Z:Int
 W:Int
instance:Inhabited Nl:=⟨⟨default,default⟩⟩
@[reducible] def Nl.v (x:Nl):List Go.Value:=[.int .i64 x.Z,.int .i64 x.W]
def Nl.ok (x:Nl):Prop:=AA x.Z∧AA x.W
def KI:BU Nl where
 sz:=2
 ag:=true
 rd:=λ_ _ cs x=>cs=x.v∧x.ok
 len:=λ⟨h,_⟩=>by rw[h];rfl
 one:=λ{_ _ _ x} ⟨h,_⟩ v a=>by
  rw[h] at a;simp only[Nl.v,uS,vD,vK] at a;rcases a with rfl|rfl<;>rfl
 mono:=λh _ _=>h
def KI.ex {S h v}{x:Nl}(k:Rd S h KI v x):v= .agg #[.int .i64 x.Z,.int .i64 x.W]∧x.ok:=by obtain⟨_,rfl,rfl,h⟩:=k;exact⟨rfl,h⟩
def KI.mk {S h}{x:Nl}(k:x.ok):Rd S h KI (.agg #[.int .i64 x.Z,.int .i64 x.W]) x:=⟨x.v,rfl,rfl,k⟩
def Nl.f_Link:GC KI 0 AY (·.Z):=by
 rintro S h cs x ⟨rfl,⟨k0,a⟩⟩;exact⟨rfl,k0⟩
def Nl.f_Target:GC KI 1 AY (·.W):=by
 rintro S h cs x ⟨rfl,⟨k0,a⟩⟩;exact⟨rfl,a⟩
def Nl.u_Target:QD KI 1 AY (λx y=>{ x with W:=y}):=by
 refine⟨by decide,?_⟩;rintro S h c x vs y ⟨rfl,⟨k0,b⟩⟩ ⟨rfl,a⟩;exact⟨rfl,⟨k0,a⟩⟩
structure IL where
 Ah:Int
 Bo:Int
 Al:Int
 C:Int
instance:Inhabited IL:=⟨⟨default,default,default,default⟩⟩
@[reducible] def IL.v (x:IL):List Go.Value:=[.int .i64 x.Ah,.int .i64 x.Bo,.int .i64 x.Al,.int .i64 x.C]
def IL.ok (x:IL):Prop:=AA x.Ah∧AA x.Bo∧AA x.Al∧AA x.C
def FX:BU IL where
 sz:=4
 ag:=true
 rd:=λ_ _ cs x=>cs=x.v∧x.ok
 len:=λ⟨h,_⟩=>by rw[h];rfl
 one:=λ{_ _ _ x} ⟨h,_⟩ v a=>by
  rw[h] at a;simp only[IL.v,uS,vD,vK] at a;rcases a with rfl|rfl|rfl|rfl<;>rfl
 mono:=λh _ _=>h
def FX.ex {S h v}{x:IL}(k:Rd S h FX v x):v= .agg #[.int .i64 x.Ah,.int .i64 x.Bo,.int .i64 x.Al,.int .i64 x.C]∧x.ok:=by obtain⟨_,rfl,rfl,h⟩:=k;exact⟨rfl,h⟩
def FX.mk {S h}{x:IL}(k:x.ok):Rd S h FX (.agg #[.int .i64 x.Ah,.int .i64 x.Bo,.int .i64 x.Al,.int .i64 x.C]) x:=⟨x.v,rfl,rfl,k⟩
def IL.f_Place:GC FX 0 AY (·.Ah):=by
 rintro S h cs x ⟨rfl,⟨k0,a,b,c⟩⟩;exact⟨rfl,k0⟩
def QG:GC FX 1 AY (·.Bo):=by
 rintro S h cs x ⟨rfl,⟨k0,a,b,c⟩⟩;exact⟨rfl,a⟩
def IL.f_Litres:GC FX 2 AY (·.Al):=by
 rintro S h cs x ⟨rfl,⟨k0,b,a,c⟩⟩;exact⟨rfl,a⟩
def IL.f_To:GC FX 3 AY (·.C):=by
 rintro S h cs x ⟨rfl,⟨k0,b,c,a⟩⟩;exact⟨rfl,a⟩
structure L3 where
 Ah:Int
 P:Int
 C:Int
 Al:Int
instance:Inhabited L3:=⟨⟨default,default,default,default⟩⟩
@[reducible] def L3.v (x:L3):List Go.Value:=[.int .i64 x.Ah,.int .i64 x.P,.int .i64 x.C,.int .i64 x.Al]
def L3.ok (x:L3):Prop:=AA x.Ah∧AA x.P∧AA x.C∧AA x.Al
def KZ:BU L3 where
 sz:=4
 ag:=true
 rd:=λ_ _ cs x=>cs=x.v∧x.ok
 len:=λ⟨h,_⟩=>by rw[h];rfl
 one:=λ{_ _ _ x} ⟨h,_⟩ v a=>by
  rw[h] at a;simp only[L3.v,uS,vD,vK] at a;rcases a with rfl|rfl|rfl|rfl<;>rfl
 mono:=λh _ _=>h
def KZ.ex {S h v}{x:L3}(k:Rd S h KZ v x):v= .agg #[.int .i64 x.Ah,.int .i64 x.P,.int .i64 x.C,.int .i64 x.Al]∧x.ok:=by obtain⟨_,rfl,rfl,h⟩:=k;exact⟨rfl,h⟩
def KZ.mk {S h}{x:L3}(k:x.ok):Rd S h KZ (.agg #[.int .i64 x.Ah,.int .i64 x.P,.int .i64 x.C,.int .i64 x.Al]) x:=⟨x.v,rfl,rfl,k⟩
def L3.f_Place:GC KZ 0 AY (·.Ah):=by
 rintro S h cs x ⟨rfl,⟨k0,a,b,c⟩⟩;exact⟨rfl,k0⟩
def L3.f_From:GC KZ 1 AY (·.P):=by
 rintro S h cs x ⟨rfl,⟨k0,a,b,c⟩⟩;exact⟨rfl,a⟩
def L3.f_To:GC KZ 2 AY (·.C):=by
 rintro S h cs x ⟨rfl,⟨k0,b,a,c⟩⟩;exact⟨rfl,a⟩
def L3.f_Litres:GC KZ 3 AY (·.Al):=by
 rintro S h cs x ⟨rfl,⟨k0,b,c,a⟩⟩;exact⟨rfl,a⟩
structure BT where
 Am:(List Int)
 Bc:(List KF)
 Bb:(List Nl)
 Ag:(List IL)
 Bq:(List L3)
instance:Inhabited BT:=⟨⟨default,default,default,default,default⟩⟩
def D2:BU BT where
 sz:=5
 ag:=true
 rd:=λS h cs x=>∃a b c d g:Value,cs=[a,b,c,d,g]∧Sl S h AY a x.Am∧Sl S h JB b x.Bc∧Sl S h KI c x.Bb∧Sl S h FX d x.Ag∧Sl S h KZ g x.Bq
 len:=λ⟨_,_,_,_,_,h,_⟩=>by rw[h];rfl
 one:=by
  rintro S h cs x ⟨a,b,c,d,g,rfl,k0,i,j,k,l⟩ v m;simp only[uS,vD,vK] at m;rcases m with rfl|rfl|rfl|rfl|rfl<;>first|rfl|exact Sl.one ‹_› |exact(‹_∧_›).2|(obtain ⟨_,_,rfl,_⟩:=Rd.fn ‹_›;rfl)|(obtain ⟨_,_,rfl,_⟩:=Rd.fnr ‹_›;rfl)
 mono:=by
  rintro S S' h h' cs x ⟨a,b,c,d,g,rfl,k0,i,j,k,l⟩ s e;exact⟨a,b,c,d,g,rfl,k0.mono s e,i.mono s e,j.mono s e,k.mono s e,l.mono s e⟩
def D2.ex {S h v}{x:BT}(k:Rd S h D2 v x):∃a b c d g:Value,v= .agg #[a,b,c,d,g]∧Sl S h AY a x.Am∧Sl S h JB b x.Bc∧Sl S h KI c x.Bb∧Sl S h FX d x.Ag∧Sl S h KZ g x.Bq:=by obtain⟨_,rfl,a,b,c,d,g,rfl,k⟩:=k;exact⟨a,b,c,d,g,rfl,k⟩
def D2.mk {S h}{x:BT}{a b c d g:Value}(k0:Sl S h AY a x.Am) (i:Sl S h JB b x.Bc) (j:Sl S h KI c x.Bb) (k:Sl S h FX d x.Ag) (l:Sl S h KZ g x.Bq):Rd S h D2 (.agg #[a,b,c,d,g]) x:=⟨_,rfl,a,b,c,d,g,rfl,k0,i,j,k,l⟩
def BT.f_Rain:GC D2 0 (BU.sl AY) (·.Am):=by
 rintro S h cs x ⟨a,b,c,d,g,rfl,k0,i,j,k,l⟩;exact⟨_,rfl,k0⟩
def KW:GC D2 1 (BU.sl JB) (·.Bc):=by
 rintro S h cs x ⟨b,c,d,g,i,rfl,k0,a,j,k,l⟩;exact⟨_,rfl,a⟩
def MD:GC D2 2 (BU.sl KI) (·.Bb):=by
 rintro S h cs x ⟨b,c,d,g,i,rfl,k0,j,a,k,l⟩;exact⟨_,rfl,a⟩
def Kw:GC D2 3 (BU.sl FX) (·.Ag):=by
 rintro S h cs x ⟨b,c,d,g,i,rfl,k0,j,k,a,l⟩;exact⟨_,rfl,a⟩
def Tg:GC D2 4 (BU.sl KZ) (·.Bq):=by
 rintro S h cs x ⟨b,c,d,g,i,rfl,k0,j,k,l,a⟩;exact⟨_,rfl,a⟩
structure AK where
 to_:Int
 delay:Int
 slack:Int
 asks:(Int→Option AB)
instance:Inhabited AK:=⟨⟨default,default,default,default⟩⟩
def D7:BU AK where
 sz:=4
 ag:=true
 rd:=λS h cs x=>∃a:Value,cs=[.int .i64 x.to_,.int .i64 x.delay,.int .i64 x.slack,a]∧AA x.to_∧AA x.delay∧AA x.slack∧Rd S h (BU.fn prog (λx:Int=>([.int .i64 x]:List Value)) (λx:Int=>AA x) (λy:AB=> .agg #[.int .i64 y.B,.int .i64 y.A]) (λy:AB=>AB.ok y)) a x.asks
 len:=λ⟨_,h,_⟩=>by rw[h];rfl
 one:=by
  rintro S h cs x ⟨a,rfl,k0,b,c,d⟩ v g;simp only[uS,vD,vK] at g;rcases g with rfl|rfl|rfl|rfl<;>first|rfl|exact Sl.one ‹_› |exact(‹_∧_›).2|(obtain ⟨_,_,rfl,_⟩:=Rd.fn ‹_›;rfl)|(obtain ⟨_,_,rfl,_⟩:=Rd.fnr ‹_›;rfl)
 mono:=by
  rintro S S' h h' cs x ⟨a,rfl,k0,b,c,d⟩ s e;exact⟨a,rfl,k0,b,c,d.mono'' s e⟩
def D7.ex {S h v}{x:AK}(k:Rd S h D7 v x):∃a:Value,v= .agg #[.int .i64 x.to_,.int .i64 x.delay,.int .i64 x.slack,a]∧AA x.to_∧AA x.delay∧AA x.slack∧Rd S h (BU.fn prog (λx:Int=>([.int .i64 x]:List Value)) (λx:Int=>AA x) (λy:AB=> .agg #[.int .i64 y.B,.int .i64 y.A]) (λy:AB=>AB.ok y)) a x.asks:=by obtain⟨_,rfl,a,rfl,k⟩:=k;exact⟨a,rfl,k⟩
def D7.mk {S h}{x:AK}{a:Value}(k0:AA x.to_) (b:AA x.delay) (c:AA x.slack) (d:Rd S h (BU.fn prog (λx:Int=>([.int .i64 x]:List Value)) (λx:Int=>AA x) (λy:AB=> .agg #[.int .i64 y.B,.int .i64 y.A]) (λy:AB=>AB.ok y)) a x.asks):Rd S h D7 (.agg #[.int .i64 x.to_,.int .i64 x.delay,.int .i64 x.slack,a]) x:=⟨_,rfl,a,rfl,k0,b,c,d⟩
structure Lr where
 O:Int
 C:Int
 Ax:(List Int)
instance:Inhabited Lr:=⟨⟨default,default,default⟩⟩
def Ni:BU Lr where
 sz:=3
 ag:=true
 rd:=λS h cs x=>∃a:Value,cs=[.int .i64 x.O,.int .i64 x.C,a]∧AA x.O∧AA x.C∧Sl S h AY a x.Ax
 len:=λ⟨_,h,_⟩=>by rw[h];rfl
 one:=by
  rintro S h cs x ⟨a,rfl,k0,b,c⟩ v d;simp only[uS,vD,vK] at d;rcases d with rfl|rfl|rfl<;>first|rfl|exact Sl.one ‹_› |exact(‹_∧_›).2|(obtain ⟨_,_,rfl,_⟩:=Rd.fn ‹_›;rfl)|(obtain ⟨_,_,rfl,_⟩:=Rd.fnr ‹_›;rfl)
 mono:=by
  rintro S S' h h' cs x ⟨a,rfl,k0,b,c⟩ s e;exact⟨a,rfl,k0,b,c.mono s e⟩
def Ni.ex {S h v}{x:Lr}(k:Rd S h Ni v x):∃a:Value,v= .agg #[.int .i64 x.O,.int .i64 x.C,a]∧AA x.O∧AA x.C∧Sl S h AY a x.Ax:=by obtain⟨_,rfl,a,rfl,k⟩:=k;exact⟨a,rfl,k⟩
def Ni.mk {S h}{x:Lr}{a:Value}(k0:AA x.O) (b:AA x.C) (c:Sl S h AY a x.Ax):Rd S h Ni (.agg #[.int .i64 x.O,.int .i64 x.C,a]) x:=⟨_,rfl,a,rfl,k0,b,c⟩
def Lr.f_At:GC Ni 0 AY (·.O):=by
 rintro S h cs x ⟨a,rfl,k0,b,c⟩;exact⟨rfl,k0⟩
def Lr.f_To:GC Ni 1 AY (·.C):=by
 rintro S h cs x ⟨b,rfl,k0,a,c⟩;exact⟨rfl,a⟩
structure Rr where
 I:Int
 Bx:(List (List Int))
 By:(List Int)
 N:(List Lr)
 Bz:(List Ep)
 Ca:(List Int)
 Cb:(List Int)
instance:Inhabited Rr:=⟨⟨default,default,default,default,default,default,default⟩⟩
def Pq:BU Rr where
 sz:=7
 ag:=true
 rd:=λS h cs x=>∃a b c d g i:Value,cs=[.int .i64 x.I,a,b,c,d,g,i]∧AA x.I∧Sl S h (BU.sl AY) a x.Bx∧Sl S h AY b x.By∧Sl S h Ni c x.N∧Sl S h JA d x.Bz∧Sl S h AY g x.Ca∧Sl S h AY i x.Cb
 len:=λ⟨_,_,_,_,_,_,h,_⟩=>by rw[h];rfl
 one:=by
  rintro S h cs x ⟨a,b,c,d,g,i,rfl,k0,j,k,l,m,n,o⟩ v p;simp only[uS,vD,vK] at p;rcases p with rfl|rfl|rfl|rfl|rfl|rfl|rfl<;>first|rfl|exact Sl.one ‹_› |exact(‹_∧_›).2|(obtain ⟨_,_,rfl,_⟩:=Rd.fn ‹_›;rfl)|(obtain ⟨_,_,rfl,_⟩:=Rd.fnr ‹_›;rfl)
 mono:=by
  rintro S S' h h' cs x ⟨a,b,c,d,g,i,rfl,k0,j,k,l,m,n,o⟩ s e;exact⟨a,b,c,d,g,i,rfl,k0,j.mono s e,k.mono s e,l.mono s e,m.mono s e,n.mono s e,o.mono s e⟩
def Pq.ex {S h v}{x:Rr}(k:Rd S h Pq v x):∃a b c d g i:Value,v= .agg #[.int .i64 x.I,a,b,c,d,g,i]∧AA x.I∧Sl S h (BU.sl AY) a x.Bx∧Sl S h AY b x.By∧Sl S h Ni c x.N∧Sl S h JA d x.Bz∧Sl S h AY g x.Ca∧Sl S h AY i x.Cb:=by obtain⟨_,rfl,a,b,c,d,g,i,rfl,k⟩:=k;exact⟨a,b,c,d,g,i,rfl,k⟩
def Pq.mk {S h}{x:Rr}{a b c d g i:Value}(k0:AA x.I) (j:Sl S h (BU.sl AY) a x.Bx) (k:Sl S h AY b x.By) (l:Sl S h Ni c x.N) (m:Sl S h JA d x.Bz) (n:Sl S h AY g x.Ca) (o:Sl S h AY i x.Cb):Rd S h Pq (.agg #[.int .i64 x.I,a,b,c,d,g,i]) x:=⟨_,rfl,a,b,c,d,g,i,rfl,k0,j,k,l,m,n,o⟩
def Rr.f_Hour:GC Pq 0 AY (·.I):=by
 rintro S h cs x ⟨a,b,c,d,g,i,rfl,k0,j,k,l,m,n,o⟩;exact⟨rfl,k0⟩
def Rr.f_Queue:GC Pq 3 (BU.sl Ni) (·.N):=by
 rintro S h cs x ⟨b,c,d,g,i,j,rfl,k0,k,l,a,m,n,o⟩;exact⟨_,rfl,a⟩
structure AG where
 group:ByteArray
 name:ByteArray
instance:Inhabited AG:=⟨⟨default,default⟩⟩
@[reducible] def AG.v (x:AG):List Go.Value:=[.string x.group,.string x.name]
def AG.ok (x:AG):Prop:=x.group.size≤maxLen∧x.name.size≤maxLen
def Mq:BU AG where
 sz:=2
 ag:=true
 rd:=λ_ _ cs x=>cs=x.v∧x.ok
 len:=λ⟨h,_⟩=>by rw[h];rfl
 one:=λ{_ _ _ x} ⟨h,_⟩ v a=>by
  rw[h] at a;simp only[AG.v,uS,vD,vK] at a;rcases a with rfl|rfl<;>rfl
 mono:=λh _ _=>h
def Mq.ex {S h v}{x:AG}(k:Rd S h Mq v x):v= .agg #[.string x.group,.string x.name]∧x.ok:=by obtain⟨_,rfl,rfl,h⟩:=k;exact⟨rfl,h⟩
def Mq.mk {S h}{x:AG}(k:x.ok):Rd S h Mq (.agg #[.string x.group,.string x.name]) x:=⟨x.v,rfl,rfl,k⟩
structure AJ where
 G:AF
 J:BV
 Aj:(List AB)
instance:Inhabited AJ:=⟨⟨default,default,default⟩⟩
def KO:BU AJ where
 sz:=16
 ag:=true
 rd:=λS h cs x=>∃g i j k l m n o a b c d:Value,cs=[.string x.G.M,g,.int .i64 x.G.S,i,j,k,l,m,n,o,.int .i64 x.G.T,.int .i64 x.J.I,a,b,c,d]∧x.G.M.size≤maxLen∧Sl S h BU.str g x.G.Aq∧AA x.G.S∧Sl S h B4 i x.G.E∧Sl S h BI j x.G.D∧Sl S h Dn k x.G.Ad∧Sl S h De l x.G.Ab∧Sl S h GQ m x.G.Ar∧Sl S h DB n x.G.At∧Sl S h AY o x.G.As∧AA x.G.T∧AA x.J.I∧Sl S h AC a x.J.K∧Sl S h BS b x.J.N∧Sl S h AM c x.J.D∧Sl S h AC d x.Aj
 len:=λ⟨_,_,_,_,_,_,_,_,_,_,_,_,h,_⟩=>by rw[h];rfl
 one:=by
  rintro S h cs x ⟨g,i,j,k,l,m,n,o,a,b,c,d,rfl,k0,z,A,B,C,F,H,Q,U,V,p,q,t,u,w,y⟩ v W;simp only[uS,vD,vK] at W;rcases W with rfl|rfl|rfl|rfl|rfl|rfl|rfl|rfl|rfl|rfl|rfl|rfl|rfl|rfl|rfl|rfl<;>first|rfl|exact Sl.one ‹_› |exact(‹_∧_›).2|(obtain ⟨_,_,rfl,_⟩:=Rd.fn ‹_›;rfl)|(obtain ⟨_,_,rfl,_⟩:=Rd.fnr ‹_›;rfl)
 mono:=by
  rintro S S' h h' cs x ⟨g,i,j,k,l,m,n,o,a,b,c,d,rfl,k0,z,A,B,C,F,H,Q,U,V,p,q,t,u,w,y⟩ s e;exact⟨g,i,j,k,l,m,n,o,a,b,c,d,rfl,k0,z.mono s e,A,B.mono s e,C.mono s e,F.mono s e,H.mono s e,Q.mono s e,U.mono s e,V.mono s e,p,q,t.mono s e,u.mono s e,w.mono s e,y.mono s e⟩
def KO.ex {S h v}{x:AJ}(k:Rd S h KO v x):∃g i j l m n o p a b c d:Value,v= .agg #[.string x.G.M,g,.int .i64 x.G.S,i,j,l,m,n,o,p,.int .i64 x.G.T,.int .i64 x.J.I,a,b,c,d]∧x.G.M.size≤maxLen∧Sl S h BU.str g x.G.Aq∧AA x.G.S∧Sl S h B4 i x.G.E∧Sl S h BI j x.G.D∧Sl S h Dn l x.G.Ad∧Sl S h De m x.G.Ab∧Sl S h GQ n x.G.Ar∧Sl S h DB o x.G.At∧Sl S h AY p x.G.As∧AA x.G.T∧AA x.J.I∧Sl S h AC a x.J.K∧Sl S h BS b x.J.N∧Sl S h AM c x.J.D∧Sl S h AC d x.Aj:=by obtain⟨_,rfl,g,i,j,l,m,n,o,p,a,b,c,d,rfl,k⟩:=k;exact⟨g,i,j,l,m,n,o,p,a,b,c,d,rfl,k⟩
def KO.mk {S h}{x:AJ}{g i j k l m n o a b c d:Value}(k0:x.G.M.size≤maxLen) (w:Sl S h BU.str g x.G.Aq) (y:AA x.G.S) (z:Sl S h B4 i x.G.E) (A:Sl S h BI j x.G.D) (B:Sl S h Dn k x.G.Ad) (C:Sl S h De l x.G.Ab) (F:Sl S h GQ m x.G.Ar) (H:Sl S h DB n x.G.At) (Q:Sl S h AY o x.G.As) (p:AA x.G.T) (q:AA x.J.I) (s:Sl S h AC a x.J.K) (t:Sl S h BS b x.J.N) (u:Sl S h AM c x.J.D) (v:Sl S h AC d x.Aj):Rd S h KO (.agg #[.string x.G.M,g,.int .i64 x.G.S,i,j,k,l,m,n,o,.int .i64 x.G.T,.int .i64 x.J.I,a,b,c,d]) x:=⟨_,rfl,g,i,j,k,l,m,n,o,a,b,c,d,rfl,k0,w,y,z,A,B,C,F,H,Q,p,q,s,t,u,v⟩
structure AD where
 Bk:Int
 Z:Int
 C:Int
 X:Int
instance:Inhabited AD:=⟨⟨default,default,default,default⟩⟩
@[reducible] def AD.v (x:AD):List Go.Value:=[.int .i64 x.Bk,.int .i64 x.Z,.int .i64 x.C,.int .i64 x.X]
def AD.ok (x:AD):Prop:=AA x.Bk∧AA x.Z∧AA x.C∧AA x.X
def AL:BU AD where
 sz:=4
 ag:=true
 rd:=λ_ _ cs x=>cs=x.v∧x.ok
 len:=λ⟨h,_⟩=>by rw[h];rfl
 one:=λ{_ _ _ x} ⟨h,_⟩ v a=>by
  rw[h] at a;simp only[AD.v,uS,vD,vK] at a;rcases a with rfl|rfl|rfl|rfl<;>rfl
 mono:=λh _ _=>h
def AL.ex {S h v}{x:AD}(k:Rd S h AL v x):v= .agg #[.int .i64 x.Bk,.int .i64 x.Z,.int .i64 x.C,.int .i64 x.X]∧x.ok:=by obtain⟨_,rfl,rfl,h⟩:=k;exact⟨rfl,h⟩
def AL.mk {S h}{x:AD}(k:x.ok):Rd S h AL (.agg #[.int .i64 x.Bk,.int .i64 x.Z,.int .i64 x.C,.int .i64 x.X]) x:=⟨x.v,rfl,rfl,k⟩
def LH:GC AL 0 AY (·.Bk):=by
 rintro S h cs x ⟨rfl,⟨k0,a,b,c⟩⟩;exact⟨rfl,k0⟩
def AD.f_Link:GC AL 1 AY (·.Z):=by
 rintro S h cs x ⟨rfl,⟨k0,a,b,c⟩⟩;exact⟨rfl,a⟩
def AD.f_To:GC AL 2 AY (·.C):=by
 rintro S h cs x ⟨rfl,⟨k0,b,a,c⟩⟩;exact⟨rfl,a⟩
def AD.f_Delay:GC AL 3 AY (·.X):=by
 rintro S h cs x ⟨rfl,⟨k0,b,c,a⟩⟩;exact⟨rfl,a⟩
structure Do where
 Au:Int
 Ay:Bool
instance:Inhabited Do:=⟨⟨default,default⟩⟩
@[reducible] def Do.v (x:Do):List Go.Value:=[.int .i64 x.Au,.bool x.Ay]
def Do.ok (x:Do):Prop:=AA x.Au
def Ke:BU Do where
 sz:=2
 ag:=true
 rd:=λ_ _ cs x=>cs=x.v∧x.ok
 len:=λ⟨h,_⟩=>by rw[h];rfl
 one:=λ{_ _ _ x} ⟨h,_⟩ v a=>by
  rw[h] at a;simp only[Do.v,uS,vD,vK] at a;rcases a with rfl|rfl<;>rfl
 mono:=λh _ _=>h
def Ke.ex {S h v}{x:Do}(k:Rd S h Ke v x):v= .agg #[.int .i64 x.Au,.bool x.Ay]∧x.ok:=by obtain⟨_,rfl,rfl,h⟩:=k;exact⟨rfl,h⟩
def Ke.mk {S h}{x:Do}(k:x.ok):Rd S h Ke (.agg #[.int .i64 x.Au,.bool x.Ay]) x:=⟨x.v,rfl,rfl,k⟩
def Do.f_Crest:GC Ke 0 AY (·.Au):=by
 rintro S h cs x ⟨rfl,k0⟩;exact⟨rfl,k0⟩
def Do.f_Quorum:GC Ke 1 BU.bool (·.Ay):=by
 rintro S h cs x ⟨rfl,k0⟩;exact rfl
structure Dd where
 Ba:Int
 Bl:Int
 Bp:Int
instance:Inhabited Dd:=⟨⟨default,default,default⟩⟩
@[reducible] def Dd.v (x:Dd):List Go.Value:=[.int .i64 x.Ba,.int .i64 x.Bl,.int .i64 x.Bp]
def Dd.ok (x:Dd):Prop:=AA x.Ba∧AA x.Bl∧AA x.Bp
def JC:BU Dd where
 sz:=3
 ag:=true
 rd:=λ_ _ cs x=>cs=x.v∧x.ok
 len:=λ⟨h,_⟩=>by rw[h];rfl
 one:=λ{_ _ _ x} ⟨h,_⟩ v a=>by
  rw[h] at a;simp only[Dd.v,uS,vD,vK] at a;rcases a with rfl|rfl|rfl<;>rfl
 mono:=λh _ _=>h
def JC.ex {S h v}{x:Dd}(k:Rd S h JC v x):v= .agg #[.int .i64 x.Ba,.int .i64 x.Bl,.int .i64 x.Bp]∧x.ok:=by obtain⟨_,rfl,rfl,h⟩:=k;exact⟨rfl,h⟩
def JC.mk {S h}{x:Dd}(k:x.ok):Rd S h JC (.agg #[.int .i64 x.Ba,.int .i64 x.Bl,.int .i64 x.Bp]) x:=⟨x.v,rfl,rfl,k⟩
def Dd.f_Level:GC JC 0 AY (·.Ba):=by
 rintro S h cs x ⟨rfl,⟨k0,a,b⟩⟩;exact⟨rfl,k0⟩
def Tv:GC JC 1 AY (·.Bl):=by
 rintro S h cs x ⟨rfl,⟨k0,a,b⟩⟩;exact⟨rfl,a⟩
def QK:GC JC 2 AY (·.Bp):=by
 rintro S h cs x ⟨rfl,⟨k0,b,a⟩⟩;exact⟨rfl,a⟩
structure Ci where
 Bm:Int
 P:Int
 Am:(List (List AB))
instance:Inhabited Ci:=⟨⟨default,default,default⟩⟩
def GR:BU Ci where
 sz:=3
 ag:=true
 rd:=λS h cs x=>∃a:Value,cs=[.int .i64 x.Bm,.int .i64 x.P,a]∧AA x.Bm∧AA x.P∧Sl S h (BU.sl AC) a x.Am
 len:=λ⟨_,h,_⟩=>by rw[h];rfl
 one:=by
  rintro S h cs x ⟨a,rfl,k0,b,c⟩ v d;simp only[uS,vD,vK] at d;rcases d with rfl|rfl|rfl<;>first|rfl|exact Sl.one ‹_› |exact(‹_∧_›).2|(obtain ⟨_,_,rfl,_⟩:=Rd.fn ‹_›;rfl)|(obtain ⟨_,_,rfl,_⟩:=Rd.fnr ‹_›;rfl)
 mono:=by
  rintro S S' h h' cs x ⟨a,rfl,k0,b,c⟩ s e;exact⟨a,rfl,k0,b,c.mono s e⟩
def GR.ex {S h v}{x:Ci}(k:Rd S h GR v x):∃a:Value,v= .agg #[.int .i64 x.Bm,.int .i64 x.P,a]∧AA x.Bm∧AA x.P∧Sl S h (BU.sl AC) a x.Am:=by obtain⟨_,rfl,a,rfl,k⟩:=k;exact⟨a,rfl,k⟩
def GR.mk {S h}{x:Ci}{a:Value}(k0:AA x.Bm) (b:AA x.P) (c:Sl S h (BU.sl AC) a x.Am):Rd S h GR (.agg #[.int .i64 x.Bm,.int .i64 x.P,a]) x:=⟨_,rfl,a,rfl,k0,b,c⟩
def W0:GC GR 0 AY (·.Bm):=by
 rintro S h cs x ⟨a,rfl,k0,b,c⟩;exact⟨rfl,k0⟩
def Ci.f_From:GC GR 1 AY (·.P):=by
 rintro S h cs x ⟨b,rfl,k0,a,c⟩;exact⟨rfl,a⟩
def Ci.f_Rain:GC GR 2 (BU.sl (BU.sl AC)) (·.Am):=by
 rintro S h cs x ⟨b,rfl,k0,c,a⟩;exact⟨_,rfl,a⟩
structure BW where
 Ao:Int
 I:Int
 Value:AB
instance:Inhabited BW:=⟨⟨default,default,default⟩⟩
@[reducible] def BW.v (x:BW):List Go.Value:=[.int .i64 x.Ao,.int .i64 x.I,.int .i64 x.Value.B,.int .i64 x.Value.A]
def BW.ok (x:BW):Prop:=AA x.Ao∧AA x.I∧AA x.Value.B∧AA x.Value.A
def Dj:BU BW where
 sz:=4
 ag:=true
 rd:=λ_ _ cs x=>cs=x.v∧x.ok
 len:=λ⟨h,_⟩=>by rw[h];rfl
 one:=λ{_ _ _ x} ⟨h,_⟩ v a=>by
  rw[h] at a;simp only[BW.v,uS,vD,vK] at a;rcases a with rfl|rfl|rfl|rfl<;>rfl
 mono:=λh _ _=>h
def Dj.ex {S h v}{x:BW}(k:Rd S h Dj v x):v= .agg #[.int .i64 x.Ao,.int .i64 x.I,.int .i64 x.Value.B,.int .i64 x.Value.A]∧x.ok:=by obtain⟨_,rfl,rfl,h⟩:=k;exact⟨rfl,h⟩
def Dj.mk {S h}{x:BW}(k:x.ok):Rd S h Dj (.agg #[.int .i64 x.Ao,.int .i64 x.I,.int .i64 x.Value.B,.int .i64 x.Value.A]) x:=⟨x.v,rfl,rfl,k⟩
def Rs:GC Dj 0 AY (·.Ao):=by
 rintro S h cs x ⟨rfl,⟨k0,a,b,c⟩⟩;exact⟨rfl,k0⟩
def BW.f_Hour:GC Dj 1 AY (·.I):=by
 rintro S h cs x ⟨rfl,⟨k0,a,b,c⟩⟩;exact⟨rfl,a⟩
def K3:GC Dj 2 AC (·.Value):=by
 rintro S h cs x ⟨rfl,⟨k0,c,a,b⟩⟩;exact⟨rfl,⟨a,b⟩⟩
structure DN where
 at_:Int
 to_:Int
instance:Inhabited DN:=⟨⟨default,default⟩⟩
@[reducible] def DN.v (x:DN):List Go.Value:=[.int .i64 x.at_,.int .i64 x.to_]
def DN.ok (x:DN):Prop:=AA x.at_∧AA x.to_
def OJ:BU DN where
 sz:=2
 ag:=true
 rd:=λ_ _ cs x=>cs=x.v∧x.ok
 len:=λ⟨h,_⟩=>by rw[h];rfl
 one:=λ{_ _ _ x} ⟨h,_⟩ v a=>by
  rw[h] at a;simp only[DN.v,uS,vD,vK] at a;rcases a with rfl|rfl<;>rfl
 mono:=λh _ _=>h
def OJ.ex {S h v}{x:DN}(k:Rd S h OJ v x):v= .agg #[.int .i64 x.at_,.int .i64 x.to_]∧x.ok:=by obtain⟨_,rfl,rfl,h⟩:=k;exact⟨rfl,h⟩
def OJ.mk {S h}{x:DN}(k:x.ok):Rd S h OJ (.agg #[.int .i64 x.at_,.int .i64 x.to_]) x:=⟨x.v,rfl,rfl,k⟩
def Nf:ByteArray:=ByteArray.mk #[0,1,2,2,3,3,3,3,4,4,4,4,4,4,4,4,5,5,5,5,5,5,5,5,5,5,5,5,5,5,5,5,6,6,6,6,6,6,6,6,6,6,6,6,6,6,6,6,6,6,6,6,6,6,6,6,6,6,6,6,6,6,6,6,7,7,7,7,7,7,7,7,7,7,7,7,7,7,7,7,7,7,7,7,7,7,7,7,7,7,7,7,7,7,7,7,7,7,7,7,7,7,7,7,7,7,7,7,7,7,7,7,7,7,7,7,7,7,7,7,7,7,7,7,7,7,7,7,8,8,8,8,8,8,8,8,8,8,8,8,8,8,8,8,8,8,8,8,8,8,8,8,8,8,8,8,8,8,8,8,8,8,8,8,8,8,8,8,8,8,8,8,8,8,8,8,8,8,8,8,8,8,8,8,8,8,8,8,8,8,8,8,8,8,8,8,8,8,8,8,8,8,8,8,8,8,8,8,8,8,8,8,8,8,8,8,8,8,8,8,8,8,8,8,8,8,8,8,8,8,8,8,8,8,8,8,8,8,8,8,8,8,8,8,8,8,8,8,8,8,8,8,8,8,8,8]
def Rg:List Do:=([(⟨9,false⟩:Do),(⟨8,false⟩:Do),(⟨4,false⟩:Do),(⟨5,false⟩:Do),(⟨(-1),false⟩:Do),(⟨(-1),true⟩:Do),(⟨(-1),false⟩:Do)]:List Do)
end Go.Proofs.YtibidnaedddfdaaGreat
