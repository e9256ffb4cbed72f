import Derived.Test.YtibidnaedddfdaaGreatDCore31
import Derived.Test.YtibidnaedddfdaaGreatRows
namespace Go.Proofs.YtibidnaedddfdaaGreat
set_option linter.all false
open Go.RowKit
open Go.Proofs.Tryz
structure Fk where
 J:ByteArray
 Ah:Int
 Bc:Int
 Az:Int
 Bh:Int
 Bd:Int
 Aw:Int
instance:Inhabited Fk:=⟨⟨default,default,default,default,default,default,default⟩⟩
@[reducible] def Fk.v (x:Fk):List Go.Value:=[.string x.J,.int .i64 x.Ah,.int .i64 x.Bc,.int .i64 x.Az,.int .i64 x.Bh,.int .i64 x.Bd,.int .i64 x.Aw]
def Fk.ok (x:Fk):Prop:=x.J.size≤maxLen∧AD x.Ah∧AD x.Bc∧AD x.Az∧AD x.Bh∧AD x.Bd∧AD x.Aw
def Fi:B7 Fk where
 sz:=7
 ag:=true
 rd:=λ_ _ cs x=>cs=x.v∧x.ok
 len:=λ⟨h,_⟩=>by rw[h];rfl
 one:=λ{_ _ _ x} ⟨h,_⟩ v a=>by
  rw[h] at a
  simp only[Fk.v,iZ,jL,jS] at a
  rcases a with rfl|rfl|rfl|rfl|rfl|rfl|rfl<;>rfl
 mono:=λh _ _=>h
def Fi.ex {S h v}{x:Fk}(k:Rd S h Fi v x):v= .agg #[.string x.J,.int .i64 x.Ah,.int .i64 x.Bc,.int .i64 x.Az,.int .i64 x.Bh,.int .i64 x.Bd,.int .i64 x.Aw]∧x.ok:=by obtain⟨_,rfl,rfl,h⟩:=k;exact⟨rfl,h⟩
def Fi.mk {S h}{x:Fk}(k:x.ok):Rd S h Fi (.agg #[.string x.J,.int .i64 x.Ah,.int .i64 x.Bc,.int .i64 x.Az,.int .i64 x.Bh,.int .i64 x.Bd,.int .i64 x.Aw]) x:=⟨x.v,rfl,rfl,k⟩
def Fk.f_Name:Fm Fi 0 B7.str (·.J):=by
 rintro S h cs x ⟨rfl,⟨k0,a,b,c,d,g,i⟩⟩
 exact⟨rfl,k0⟩
def N1:Fm Fi 3 BQ (·.Az):=by
 rintro S h cs x ⟨rfl,⟨k0,b,c,a,d,g,i⟩⟩
 exact⟨rfl,a⟩
def Fk.f_Quorum:Fm Fi 6 BQ (·.Aw):=by
 rintro S h cs x ⟨rfl,⟨k0,b,c,d,g,i,a⟩⟩
 exact⟨rfl,a⟩
structure DG where
 O:Int
 Aw:Bool
instance:Inhabited DG:=⟨⟨default,default⟩⟩
@[reducible] def DG.v (x:DG):List Go.Value:=[.int .i64 x.O,.bool x.Aw]
def DG.ok (x:DG):Prop:=AD x.O
def Ic:B7 DG where
 sz:=2
 ag:=true
 rd:=λ_ _ cs x=>cs=x.v∧x.ok
 len:=λ⟨h,_⟩=>by rw[h];rfl
 one:=λ{_ _ _ x} ⟨h,_⟩ v a=>by
  rw[h] at a
  simp only[DG.v,iZ,jL,jS] at a
  rcases a with rfl|rfl<;>rfl
 mono:=λh _ _=>h
def Ic.ex {S h v}{x:DG}(k:Rd S h Ic v x):v= .agg #[.int .i64 x.O,.bool x.Aw]∧x.ok:=by obtain⟨_,rfl,rfl,h⟩:=k;exact⟨rfl,h⟩
def Ic.mk {S h}{x:DG}(k:x.ok):Rd S h Ic (.agg #[.int .i64 x.O,.bool x.Aw]) x:=⟨x.v,rfl,rfl,k⟩
def DG.f_Crest:Fm Ic 0 BQ (·.O):=by
 rintro S h cs x ⟨rfl,k0⟩
 exact⟨rfl,k0⟩
def DG.f_Quorum:Fm Ic 1 B7.bool (·.Aw):=by
 rintro S h cs x ⟨rfl,k0⟩
 exact rfl
structure Cs where
 Av:Int
 Be:Int
 Bj:Int
instance:Inhabited Cs:=⟨⟨default,default,default⟩⟩
@[reducible] def Cs.v (x:Cs):List Go.Value:=[.int .i64 x.Av,.int .i64 x.Be,.int .i64 x.Bj]
def Cs.ok (x:Cs):Prop:=AD x.Av∧AD x.Be∧AD x.Bj
def HA:B7 Cs where
 sz:=3
 ag:=true
 rd:=λ_ _ cs x=>cs=x.v∧x.ok
 len:=λ⟨h,_⟩=>by rw[h];rfl
 one:=λ{_ _ _ x} ⟨h,_⟩ v a=>by
  rw[h] at a
  simp only[Cs.v,iZ,jL,jS] at a
  rcases a with rfl|rfl|rfl<;>rfl
 mono:=λh _ _=>h
def HA.ex {S h v}{x:Cs}(k:Rd S h HA v x):v= .agg #[.int .i64 x.Av,.int .i64 x.Be,.int .i64 x.Bj]∧x.ok:=by obtain⟨_,rfl,rfl,h⟩:=k;exact⟨rfl,h⟩
def HA.mk {S h}{x:Cs}(k:x.ok):Rd S h HA (.agg #[.int .i64 x.Av,.int .i64 x.Be,.int .i64 x.Bj]) x:=⟨x.v,rfl,rfl,k⟩
def Cs.f_Level:Fm HA 0 BQ (·.Av):=by
 rintro S h cs x ⟨rfl,⟨k0,a,b⟩⟩
 exact⟨rfl,k0⟩
def Kd:Fm HA 1 BQ (·.Be):=by
 rintro S h cs x ⟨rfl,⟨k0,a,b⟩⟩
 exact⟨rfl,a⟩
def QD:Fm HA 2 BQ (·.Bj):=by
 rintro S h cs x ⟨rfl,⟨k0,b,a⟩⟩
 exact⟨rfl,a⟩
structure BC where
 G:Int
 L:Int
instance:Inhabited BC:=⟨⟨default,default⟩⟩
@[reducible] def BC.v (x:BC):List Go.Value:=[.int .i64 x.G,.int .i64 x.L]
def BC.ok (x:BC):Prop:=AD x.G∧AD x.L
def CM:B7 BC where
 sz:=2
 ag:=true
 rd:=λ_ _ cs x=>cs=x.v∧x.ok
 len:=λ⟨h,_⟩=>by rw[h];rfl
 one:=λ{_ _ _ x} ⟨h,_⟩ v a=>by
  rw[h] at a
  simp only[BC.v,iZ,jL,jS] at a
  rcases a with rfl|rfl<;>rfl
 mono:=λh _ _=>h
def CM.ex {S h v}{x:BC}(k:Rd S h CM v x):v= .agg #[.int .i64 x.G,.int .i64 x.L]∧x.ok:=by obtain⟨_,rfl,rfl,h⟩:=k;exact⟨rfl,h⟩
def CM.mk {S h}{x:BC}(k:x.ok):Rd S h CM (.agg #[.int .i64 x.G,.int .i64 x.L]) x:=⟨x.v,rfl,rfl,k⟩
def KG:Fm CM 0 BQ (·.G):=by
 rintro S h cs x ⟨rfl,⟨k0,a⟩⟩
 exact⟨rfl,k0⟩
def KF:Fm CM 1 BQ (·.L):=by
 rintro S h cs x ⟨rfl,⟨k0,a⟩⟩
 exact⟨rfl,a⟩
structure Mu where
 Bf:Int
 Bo:Int
instance:Inhabited Mu:=⟨⟨default,default⟩⟩
@[reducible] def Mu.v (x:Mu):List Go.Value:=[.int .i64 x.Bf,.int .i64 x.Bo]
def Mu.ok (x:Mu):Prop:=AD x.Bf∧AD x.Bo
def Je:B7 Mu where
 sz:=2
 ag:=true
 rd:=λ_ _ cs x=>cs=x.v∧x.ok
 len:=λ⟨h,_⟩=>by rw[h];rfl
 one:=λ{_ _ _ x} ⟨h,_⟩ v a=>by
  rw[h] at a
  simp only[Mu.v,iZ,jL,jS] at a
  rcases a with rfl|rfl<;>rfl
 mono:=λh _ _=>h
def Je.ex {S h v}{x:Mu}(k:Rd S h Je v x):v= .agg #[.int .i64 x.Bf,.int .i64 x.Bo]∧x.ok:=by obtain⟨_,rfl,rfl,h⟩:=k;exact⟨rfl,h⟩
def Je.mk {S h}{x:Mu}(k:x.ok):Rd S h Je (.agg #[.int .i64 x.Bf,.int .i64 x.Bo]) x:=⟨x.v,rfl,rfl,k⟩
structure EM where
 J:ByteArray
 C:Int
 Aj:Int
 Ag:Int
 Av:(List BC)
 Bg:(List Int)
 N:Int
 H:Int
 Ao:Int
 V:Int
 Ax:Int
 Ai:(List Mu)
instance:Inhabited EM:=⟨⟨default,default,default,default,default,default,default,default,default,default,default,default⟩⟩
def Cb:B7 EM where
 sz:=12
 ag:=true
 rd:=λS h cs x=>∃b c a:Value,cs=[.string x.J,.int .i64 x.C,.int .i64 x.Aj,.int .i64 x.Ag,b,c,.int .i64 x.N,.int .i64 x.H,.int .i64 x.Ao,.int .i64 x.V,.int .i64 x.Ax,a]∧x.J.size≤maxLen∧AD x.C∧AD x.Aj∧AD x.Ag∧Sl S h CM b x.Av∧Sl S h BQ c x.Bg∧AD x.N∧AD x.H∧AD x.Ao∧AD x.V∧AD x.Ax∧Sl S h Je a x.Ai
 len:=λ⟨_,_,_,h,_⟩=>by rw[h];rfl
 one:=by
  rintro S h cs x ⟨b,c,a,rfl,k0,i,j,k,l,m,n,o,p,q,d,g⟩ v t
  simp only[iZ,jL,jS] at t
  rcases t with rfl|rfl|rfl|rfl|rfl|rfl|rfl|rfl|rfl|rfl|rfl|rfl<;>first|rfl|exact Sl.one ‹_› |exact(‹_∧_›).2|(obtain ⟨_,_,rfl,_⟩:=Rd.fn ‹_›;rfl)|(obtain ⟨_,_,rfl,_⟩:=Rd.fnr ‹_›;rfl)
 mono:=by
  rintro S S' h h' cs x ⟨b,c,a,rfl,k0,i,j,k,l,m,n,o,p,q,d,g⟩ s e
  exact⟨b,c,a,rfl,k0,i,j,k,l.mono s e,m.mono s e,n,o,p,q,d,g.mono s e⟩
def Cb.ex {S h v}{x:EM}(k:Rd S h Cb v x):∃b c a:Value,v= .agg #[.string x.J,.int .i64 x.C,.int .i64 x.Aj,.int .i64 x.Ag,b,c,.int .i64 x.N,.int .i64 x.H,.int .i64 x.Ao,.int .i64 x.V,.int .i64 x.Ax,a]∧x.J.size≤maxLen∧AD x.C∧AD x.Aj∧AD x.Ag∧Sl S h CM b x.Av∧Sl S h BQ c x.Bg∧AD x.N∧AD x.H∧AD x.Ao∧AD x.V∧AD x.Ax∧Sl S h Je a x.Ai:=by obtain⟨_,rfl,b,c,a,rfl,k⟩:=k;exact⟨b,c,a,rfl,k⟩
def Cb.mk {S h}{x:EM}{b c a:Value}(k0:x.J.size≤maxLen) (i:AD x.C) (j:AD x.Aj) (k:AD x.Ag) (l:Sl S h CM b x.Av) (m:Sl S h BQ c x.Bg) (n:AD x.N) (o:AD x.H) (p:AD x.Ao) (q:AD x.V) (d:AD x.Ax) (g:Sl S h Je a x.Ai):Rd S h Cb (.agg #[.string x.J,.int .i64 x.C,.int .i64 x.Aj,.int .i64 x.Ag,b,c,.int .i64 x.N,.int .i64 x.H,.int .i64 x.Ao,.int .i64 x.V,.int .i64 x.Ax,a]) x:=⟨_,rfl,b,c,a,rfl,k0,i,j,k,l,m,n,o,p,q,d,g⟩
def EM.f_Name:Fm Cb 0 B7.str (·.J):=by
 rintro S h cs x ⟨d,g,a,rfl,k0,i,j,k,l,m,n,o,p,q,b,c⟩
 exact⟨rfl,k0⟩
def EM.f_Kind:Fm Cb 1 BQ (·.C):=by
 rintro S h cs x ⟨g,i,a,rfl,k0,b,j,k,l,m,n,o,p,q,c,d⟩
 exact⟨rfl,b⟩
def Hm:Fm Cb 2 BQ (·.Aj):=by
 rintro S h cs x ⟨g,i,a,rfl,k0,j,b,k,l,m,n,o,p,q,c,d⟩
 exact⟨rfl,b⟩
def EM.f_Level:Fm Cb 4 (B7.sl CM) (·.Av):=by
 rintro S h cs x ⟨g,i,a,rfl,k0,j,k,l,b,m,n,o,p,q,c,d⟩
 exact⟨_,rfl,b⟩
def EM.f_Num:Fm Cb 6 BQ (·.N):=by
 rintro S h cs x ⟨g,i,a,rfl,k0,j,k,l,m,n,b,o,p,q,c,d⟩
 exact⟨rfl,b⟩
def EM.f_Den:Fm Cb 7 BQ (·.H):=by
 rintro S h cs x ⟨g,i,a,rfl,k0,j,k,l,m,n,o,b,p,q,c,d⟩
 exact⟨rfl,b⟩
def EM.f_Rain:Fm Cb 11 (B7.sl Je) (·.Ai):=by
 rintro S h cs x ⟨d,g,b,rfl,k0,i,j,k,l,m,n,o,p,q,c,a⟩
 exact⟨_,rfl,a⟩
structure KJ where
 B:(List BC)
 A:(List BC)
instance:Inhabited KJ:=⟨⟨default,default⟩⟩
def LC:B7 KJ where
 sz:=2
 ag:=true
 rd:=λS h cs x=>∃a v1:Value,cs=[a,v1]∧Sl S h CM a x.B∧Sl S h CM v1 x.A
 len:=λ⟨_,_,h,_⟩=>by rw[h];rfl
 one:=by
  rintro S h cs x ⟨a,v1,rfl,k0,b⟩ v c
  simp only[iZ,jL,jS] at c
  rcases c with rfl|rfl<;>first|rfl|exact Sl.one ‹_› |exact(‹_∧_›).2|(obtain ⟨_,_,rfl,_⟩:=Rd.fn ‹_›;rfl)|(obtain ⟨_,_,rfl,_⟩:=Rd.fnr ‹_›;rfl)
 mono:=by
  rintro S S' h h' cs x ⟨a,v1,rfl,k0,b⟩ s e
  exact⟨a,v1,rfl,k0.mono s e,b.mono s e⟩
def LC.ex {S h v}{x:KJ}(k:Rd S h LC v x):∃a v1:Value,v= .agg #[a,v1]∧Sl S h CM a x.B∧Sl S h CM v1 x.A:=by obtain⟨_,rfl,a,v1,rfl,k⟩:=k;exact⟨a,v1,rfl,k⟩
def LC.mk {S h}{x:KJ}{a v1:Value}(k0:Sl S h CM a x.B) (b:Sl S h CM v1 x.A):Rd S h LC (.agg #[a,v1]) x:=⟨_,rfl,a,v1,rfl,k0,b⟩
def KJ.f_Lo:Fm LC 0 (B7.sl CM) (·.B):=by
 rintro S h cs x ⟨a,v1,rfl,k0,b⟩
 exact⟨_,rfl,k0⟩
def KJ.f_Hi:Fm LC 1 (B7.sl CM) (·.A):=by
 rintro S h cs x ⟨b,v1,rfl,k0,a⟩
 exact⟨_,rfl,a⟩
structure A7 where
 J:ByteArray
 C:Int
 I:Int
 E:Int
 Af:(List BC)
 U:KJ
 Q:Int
 Ab:Int
 Ad:Int
 O:Int
 N:Int
 H:Int
 Ak:Int
 Ae:Int
 Aa:Int
 Y:Int
 V:Int
instance:Inhabited A7:=⟨⟨default,default,default,default,default,default,default,default,default,default,default,default,default,default,default,default,default⟩⟩
def CI:B7 A7 where
 sz:=18
 ag:=true
 rd:=λS h cs x=>∃a b c:Value,cs=[.string x.J,.int .i64 x.C,.int .i64 x.I,.int .i64 x.E,a,b,c,.int .i64 x.Q,.int .i64 x.Ab,.int .i64 x.Ad,.int .i64 x.O,.int .i64 x.N,.int .i64 x.H,.int .i64 x.Ak,.int .i64 x.Ae,.int .i64 x.Aa,.int .i64 x.Y,.int .i64 x.V]∧x.J.size≤maxLen∧AD x.C∧AD x.I∧AD x.E∧Sl S h CM a x.Af∧Sl S h CM b x.U.B∧Sl S h CM c x.U.A∧AD x.Q∧AD x.Ab∧AD x.Ad∧AD x.O∧AD x.N∧AD x.H∧AD x.Ak∧AD x.Ae∧AD x.Aa∧AD x.Y∧AD x.V
 len:=λ⟨_,_,_,h,_⟩=>by rw[h];rfl
 one:=by
  rintro S h cs x ⟨a,b,c,rfl,k0,o,p,q,t,u,w,y,z,D,d,g,i,j,k,l,m,n⟩ v F
  simp only[iZ,jL,jS] at F
  rcases F with rfl|rfl|rfl|rfl|rfl|rfl|rfl|rfl|rfl|rfl|rfl|rfl|rfl|rfl|rfl|rfl|rfl|rfl<;>first|rfl|exact Sl.one ‹_› |exact(‹_∧_›).2|(obtain ⟨_,_,rfl,_⟩:=Rd.fn ‹_›;rfl)|(obtain ⟨_,_,rfl,_⟩:=Rd.fnr ‹_›;rfl)
 mono:=by
  rintro S S' h h' cs x ⟨a,b,c,rfl,k0,o,p,q,t,u,w,y,z,D,d,g,i,j,k,l,m,n⟩ s e
  exact⟨a,b,c,rfl,k0,o,p,q,t.mono s e,u.mono s e,w.mono s e,y,z,D,d,g,i,j,k,l,m,n⟩
def CI.ex {S h v}{x:A7}(k:Rd S h CI v x):∃a b c:Value,v= .agg #[.string x.J,.int .i64 x.C,.int .i64 x.I,.int .i64 x.E,a,b,c,.int .i64 x.Q,.int .i64 x.Ab,.int .i64 x.Ad,.int .i64 x.O,.int .i64 x.N,.int .i64 x.H,.int .i64 x.Ak,.int .i64 x.Ae,.int .i64 x.Aa,.int .i64 x.Y,.int .i64 x.V]∧x.J.size≤maxLen∧AD x.C∧AD x.I∧AD x.E∧Sl S h CM a x.Af∧Sl S h CM b x.U.B∧Sl S h CM c x.U.A∧AD x.Q∧AD x.Ab∧AD x.Ad∧AD x.O∧AD x.N∧AD x.H∧AD x.Ak∧AD x.Ae∧AD x.Aa∧AD x.Y∧AD x.V:=by obtain⟨_,rfl,a,b,c,rfl,k⟩:=k;exact⟨a,b,c,rfl,k⟩
def CI.mk {S h}{x:A7}{a b c:Value}(k0:x.J.size≤maxLen) (o:AD x.C) (p:AD x.I) (q:AD x.E) (s:Sl S h CM a x.Af) (t:Sl S h CM b x.U.B) (u:Sl S h CM c x.U.A) (v:AD x.Q) (w:AD x.Ab) (y:AD x.Ad) (d:AD x.O) (g:AD x.N) (i:AD x.H) (j:AD x.Ak) (k:AD x.Ae) (l:AD x.Aa) (m:AD x.Y) (n:AD x.V):Rd S h CI (.agg #[.string x.J,.int .i64 x.C,.int .i64 x.I,.int .i64 x.E,a,b,c,.int .i64 x.Q,.int .i64 x.Ab,.int .i64 x.Ad,.int .i64 x.O,.int .i64 x.N,.int .i64 x.H,.int .i64 x.Ak,.int .i64 x.Ae,.int .i64 x.Aa,.int .i64 x.Y,.int .i64 x.V]) x:=⟨_,rfl,a,b,c,rfl,k0,o,p,q,s,t,u,v,w,y,d,g,i,j,k,l,m,n⟩
def A7.f_Name:Fm CI 0 B7.str (·.J):=by
 rintro S h cs x ⟨l,m,n,rfl,k0,o,p,q,s,t,u,v,w,y,a,b,c,d,g,i,j,k⟩
 exact⟨rfl,k0⟩
def A7.f_Kind:Fm CI 1 BQ (·.C):=by
 rintro S h cs x ⟨m,n,o,rfl,k0,a,p,q,s,t,u,v,w,y,b,c,d,g,i,j,k,l⟩
 exact⟨rfl,a⟩
def A7.f_From:Fm CI 2 BQ (·.I):=by
 rintro S h cs x ⟨m,n,o,rfl,k0,p,a,q,s,t,u,v,w,y,b,c,d,g,i,j,k,l⟩
 exact⟨rfl,a⟩
def A7.f_To:Fm CI 3 BQ (·.E):=by
 rintro S h cs x ⟨m,n,o,rfl,k0,p,q,a,s,t,u,v,w,y,b,c,d,g,i,j,k,l⟩
 exact⟨rfl,a⟩
def Jt:Fm CI 4 (B7.sl CM) (·.Af):=by
 rintro S h cs x ⟨m,n,o,rfl,k0,p,q,s,a,t,u,v,w,y,b,c,d,g,i,j,k,l⟩
 exact⟨_,rfl,a⟩
def G2:Fm CI 5 LC (·.U):=by
 rintro S h cs x ⟨n,o,p,rfl,k0,q,s,t,u,a,b,v,w,y,c,d,g,i,j,k,l,m⟩
 exact⟨_,_,rfl,a,b⟩
def DD:Fm CI 7 BQ (·.Q):=by
 rintro S h cs x ⟨m,n,o,rfl,k0,p,q,s,t,u,v,a,w,y,b,c,d,g,i,j,k,l⟩
 exact⟨rfl,a⟩
def G6:Fm CI 8 BQ (·.Ab):=by
 rintro S h cs x ⟨m,n,o,rfl,k0,p,q,s,t,u,v,w,a,y,b,c,d,g,i,j,k,l⟩
 exact⟨rfl,a⟩
def LI:Fm CI 9 BQ (·.Ad):=by
 rintro S h cs x ⟨m,n,o,rfl,k0,p,q,s,t,u,v,w,y,a,b,c,d,g,i,j,k,l⟩
 exact⟨rfl,a⟩
def A7.f_Crest:Fm CI 10 BQ (·.O):=by
 rintro S h cs x ⟨l,m,n,rfl,k0,o,p,q,s,t,u,v,w,y,a,b,c,d,g,i,j,k⟩
 exact⟨rfl,a⟩
def A7.f_Num:Fm CI 11 BQ (·.N):=by
 rintro S h cs x ⟨l,m,n,rfl,k0,o,p,q,s,t,u,v,w,y,b,a,c,d,g,i,j,k⟩
 exact⟨rfl,a⟩
def A7.f_Den:Fm CI 12 BQ (·.H):=by
 rintro S h cs x ⟨l,m,n,rfl,k0,o,p,q,s,t,u,v,w,y,b,c,a,d,g,i,j,k⟩
 exact⟨rfl,a⟩
def JN:Fm CI 13 BQ (·.Ak):=by
 rintro S h cs x ⟨l,m,n,rfl,k0,o,p,q,s,t,u,v,w,y,b,c,d,a,g,i,j,k⟩
 exact⟨rfl,a⟩
def G7:Fm CI 14 BQ (·.Ae):=by
 rintro S h cs x ⟨l,m,n,rfl,k0,o,p,q,s,t,u,v,w,y,b,c,d,g,a,i,j,k⟩
 exact⟨rfl,a⟩
def Hn:Fm CI 15 BQ (·.Aa):=by
 rintro S h cs x ⟨l,m,n,rfl,k0,o,p,q,s,t,u,v,w,y,b,c,d,g,i,a,j,k⟩
 exact⟨rfl,a⟩
def Gr:Fm CI 16 BQ (·.Y):=by
 rintro S h cs x ⟨l,m,n,rfl,k0,o,p,q,s,t,u,v,w,y,b,c,d,g,i,j,a,k⟩
 exact⟨rfl,a⟩
structure Ii where
 J:ByteArray
 C:Int
 T:Int
 Z:Int
 Bl:Int
instance:Inhabited Ii:=⟨⟨default,default,default,default,default⟩⟩
@[reducible] def Ii.v (x:Ii):List Go.Value:=[.string x.J,.int .i64 x.C,.int .i64 x.T,.int .i64 x.Z,.int .i64 x.Bl]
def Ii.ok (x:Ii):Prop:=x.J.size≤maxLen∧AD x.C∧AD x.T∧AD x.Z∧AD x.Bl
def Ez:B7 Ii where
 sz:=5
 ag:=true
 rd:=λ_ _ cs x=>cs=x.v∧x.ok
 len:=λ⟨h,_⟩=>by rw[h];rfl
 one:=λ{_ _ _ x} ⟨h,_⟩ v a=>by
  rw[h] at a
  simp only[Ii.v,iZ,jL,jS] at a
  rcases a with rfl|rfl|rfl|rfl|rfl<;>rfl
 mono:=λh _ _=>h
def Ez.ex {S h v}{x:Ii}(k:Rd S h Ez v x):v= .agg #[.string x.J,.int .i64 x.C,.int .i64 x.T,.int .i64 x.Z,.int .i64 x.Bl]∧x.ok:=by obtain⟨_,rfl,rfl,h⟩:=k;exact⟨rfl,h⟩
def Ez.mk {S h}{x:Ii}(k:x.ok):Rd S h Ez (.agg #[.string x.J,.int .i64 x.C,.int .i64 x.T,.int .i64 x.Z,.int .i64 x.Bl]) x:=⟨x.v,rfl,rfl,k⟩
def Ii.f_Name:Fm Ez 0 B7.str (·.J):=by
 rintro S h cs x ⟨rfl,⟨k0,a,b,c,d⟩⟩
 exact⟨rfl,k0⟩
def Ii.f_Kind:Fm Ez 1 BQ (·.C):=by
 rintro S h cs x ⟨rfl,⟨k0,a,b,c,d⟩⟩
 exact⟨rfl,a⟩
def Ii.f_Target:Fm Ez 2 BQ (·.T):=by
 rintro S h cs x ⟨rfl,⟨k0,b,a,c,d⟩⟩
 exact⟨rfl,a⟩
def Ii.f_Err:Fm Ez 3 BQ (·.Z):=by
 rintro S h cs x ⟨rfl,⟨k0,b,c,a,d⟩⟩
 exact⟨rfl,a⟩
def Ii.u_Target:N3 Ez 2 BQ (λx y=>{ x with T:=y}):=by
 refine⟨by decide,?_⟩
 rintro S h c x vs y ⟨rfl,⟨k0,a,i,b,d⟩⟩ ⟨rfl,g⟩
 exact⟨rfl,⟨k0,a,g,b,d⟩⟩
structure Kt where
 J:ByteArray
 I:Int
 E:Int
 Bp:Int
 Bq:Int
 Bi:Int
 Bk:Int
instance:Inhabited Kt:=⟨⟨default,default,default,default,default,default,default⟩⟩
@[reducible] def Kt.v (x:Kt):List Go.Value:=[.string x.J,.int .i64 x.I,.int .i64 x.E,.int .i64 x.Bp,.int .i64 x.Bq,.int .i64 x.Bi,.int .i64 x.Bk]
def Kt.ok (x:Kt):Prop:=x.J.size≤maxLen∧AD x.I∧AD x.E∧AD x.Bp∧AD x.Bq∧AD x.Bi∧AD x.Bk
def GN:B7 Kt where
 sz:=7
 ag:=true
 rd:=λ_ _ cs x=>cs=x.v∧x.ok
 len:=λ⟨h,_⟩=>by rw[h];rfl
 one:=λ{_ _ _ x} ⟨h,_⟩ v a=>by
  rw[h] at a
  simp only[Kt.v,iZ,jL,jS] at a
  rcases a with rfl|rfl|rfl|rfl|rfl|rfl|rfl<;>rfl
 mono:=λh _ _=>h
def GN.ex {S h v}{x:Kt}(k:Rd S h GN v x):v= .agg #[.string x.J,.int .i64 x.I,.int .i64 x.E,.int .i64 x.Bp,.int .i64 x.Bq,.int .i64 x.Bi,.int .i64 x.Bk]∧x.ok:=by obtain⟨_,rfl,rfl,h⟩:=k;exact⟨rfl,h⟩
def GN.mk {S h}{x:Kt}(k:x.ok):Rd S h GN (.agg #[.string x.J,.int .i64 x.I,.int .i64 x.E,.int .i64 x.Bp,.int .i64 x.Bq,.int .i64 x.Bi,.int .i64 x.Bk]) x:=⟨x.v,rfl,rfl,k⟩
def Kt.f_Name:Fm GN 0 B7.str (·.J):=by
 rintro S h cs x ⟨rfl,⟨k0,a,b,c,d,g,i⟩⟩
 exact⟨rfl,k0⟩
def Kt.f_From:Fm GN 1 BQ (·.I):=by
 rintro S h cs x ⟨rfl,⟨k0,a,b,c,d,g,i⟩⟩
 exact⟨rfl,a⟩
def Kt.f_To:Fm GN 2 BQ (·.E):=by
 rintro S h cs x ⟨rfl,⟨k0,b,a,c,d,g,i⟩⟩
 exact⟨rfl,a⟩
structure Hl where
 J:ByteArray
 Ap:Int
instance:Inhabited Hl:=⟨⟨default,default⟩⟩
@[reducible] def Hl.v (x:Hl):List Go.Value:=[.string x.J,.int .i64 x.Ap]
def Hl.ok (x:Hl):Prop:=x.J.size≤maxLen∧AD x.Ap
def Dr:B7 Hl where
 sz:=2
 ag:=true
 rd:=λ_ _ cs x=>cs=x.v∧x.ok
 len:=λ⟨h,_⟩=>by rw[h];rfl
 one:=λ{_ _ _ x} ⟨h,_⟩ v a=>by
  rw[h] at a
  simp only[Hl.v,iZ,jL,jS] at a
  rcases a with rfl|rfl<;>rfl
 mono:=λh _ _=>h
def Dr.ex {S h v}{x:Hl}(k:Rd S h Dr v x):v= .agg #[.string x.J,.int .i64 x.Ap]∧x.ok:=by obtain⟨_,rfl,rfl,h⟩:=k;exact⟨rfl,h⟩
def Dr.mk {S h}{x:Hl}(k:x.ok):Rd S h Dr (.agg #[.string x.J,.int .i64 x.Ap]) x:=⟨x.v,rfl,rfl,k⟩
def Hl.f_Name:Fm Dr 0 B7.str (·.J):=by
 rintro S h cs x ⟨rfl,⟨k0,a⟩⟩
 exact⟨rfl,k0⟩
def Hl.f_Room:Fm Dr 1 BQ (·.Ap):=by
 rintro S h cs x ⟨rfl,⟨k0,a⟩⟩
 exact⟨rfl,a⟩
structure AU where
 J:ByteArray
 Ar:(List ByteArray)
 W:Int
 D:(List EM)
 F:(List A7)
 Ac:(List Fk)
 Am:(List Ii)
 An:(List Kt)
 Aq:(List Hl)
 Ap:(List Int)
 Z:Int
instance:Inhabited AU:=⟨⟨default,default,default,default,default,default,default,default,default,default,default⟩⟩
def Ch:B7 AU where
 sz:=11
 ag:=true
 rd:=λS h cs x=>∃v1 a b c d g i j:Value,cs=[.string x.J,v1,.int .i64 x.W,a,b,c,d,g,i,j,.int .i64 x.Z]∧x.J.size≤maxLen∧Sl S h B7.str v1 x.Ar∧AD x.W∧Sl S h Cb a x.D∧Sl S h CI b x.F∧Sl S h Fi c x.Ac∧Sl S h Ez d x.Am∧Sl S h GN g x.An∧Sl S h Dr i x.Aq∧Sl S h BQ j x.Ap∧AD x.Z
 len:=λ⟨_,_,_,_,_,_,_,_,h,_⟩=>by rw[h];rfl
 one:=by
  rintro S h cs x ⟨v1,a,b,c,d,g,i,j,rfl,k0,l,m,n,o,p,q,t,u,w,k⟩ v y
  simp only[iZ,jL,jS] at y
  rcases y with rfl|rfl|rfl|rfl|rfl|rfl|rfl|rfl|rfl|rfl|rfl<;>first|rfl|exact Sl.one ‹_› |exact(‹_∧_›).2|(obtain ⟨_,_,rfl,_⟩:=Rd.fn ‹_›;rfl)|(obtain ⟨_,_,rfl,_⟩:=Rd.fnr ‹_›;rfl)
 mono:=by
  rintro S S' h h' cs x ⟨v1,a,b,c,d,g,i,j,rfl,k0,l,m,n,o,p,q,t,u,w,k⟩ s e
  exact⟨v1,a,b,c,d,g,i,j,rfl,k0,l.mono s e,m,n.mono s e,o.mono s e,p.mono s e,q.mono s e,t.mono s e,u.mono s e,w.mono s e,k⟩
def Ch.ex {S h v}{x:AU}(k:Rd S h Ch v x):∃v1 a b c d g i j:Value,v= .agg #[.string x.J,v1,.int .i64 x.W,a,b,c,d,g,i,j,.int .i64 x.Z]∧x.J.size≤maxLen∧Sl S h B7.str v1 x.Ar∧AD x.W∧Sl S h Cb a x.D∧Sl S h CI b x.F∧Sl S h Fi c x.Ac∧Sl S h Ez d x.Am∧Sl S h GN g x.An∧Sl S h Dr i x.Aq∧Sl S h BQ j x.Ap∧AD x.Z:=by obtain⟨_,rfl,v1,a,b,c,d,g,i,j,rfl,k⟩:=k;exact⟨v1,a,b,c,d,g,i,j,rfl,k⟩
def Ch.mk {S h}{x:AU}{v1 a b c d g i j:Value}(k0:x.J.size≤maxLen) (l:Sl S h B7.str v1 x.Ar) (m:AD x.W) (n:Sl S h Cb a x.D) (o:Sl S h CI b x.F) (p:Sl S h Fi c x.Ac) (q:Sl S h Ez d x.Am) (s:Sl S h GN g x.An) (t:Sl S h Dr i x.Aq) (u:Sl S h BQ j x.Ap) (k:AD x.Z):Rd S h Ch (.agg #[.string x.J,v1,.int .i64 x.W,a,b,c,d,g,i,j,.int .i64 x.Z]) x:=⟨_,rfl,v1,a,b,c,d,g,i,j,rfl,k0,l,m,n,o,p,q,s,t,u,k⟩
def AU.f_Name:Fm Ch 0 B7.str (·.J):=by
 rintro S h cs x ⟨v1,b,c,d,g,i,j,k,rfl,k0,l,m,n,o,p,q,s,t,u,a⟩
 exact⟨rfl,k0⟩
def Jh:Fm Ch 1 (B7.sl B7.str) (·.Ar):=by
 rintro S h cs x ⟨v1,c,d,g,i,j,k,l,rfl,k0,a,m,n,o,p,q,s,t,u,b⟩
 exact⟨_,rfl,a⟩
def KI:Fm Ch 2 BQ (·.W):=by
 rintro S h cs x ⟨v1,c,d,g,i,j,k,l,rfl,k0,m,a,n,o,p,q,s,t,u,b⟩
 exact⟨rfl,a⟩
def CC:Fm Ch 3 (B7.sl Cb) (·.D):=by
 rintro S h cs x ⟨v1,c,d,g,i,j,k,l,rfl,k0,m,n,a,o,p,q,s,t,u,b⟩
 exact⟨_,rfl,a⟩
def AU.f_Links:Fm Ch 4 (B7.sl CI) (·.F):=by
 rintro S h cs x ⟨v1,c,d,g,i,j,k,l,rfl,k0,m,n,o,a,p,q,s,t,u,b⟩
 exact⟨_,rfl,a⟩
def Gg:Fm Ch 5 (B7.sl Fi) (·.Ac):=by
 rintro S h cs x ⟨v1,c,d,g,i,j,k,l,rfl,k0,m,n,o,p,a,q,s,t,u,b⟩
 exact⟨_,rfl,a⟩
def Ji:Fm Ch 6 (B7.sl Ez) (·.Am):=by
 rintro S h cs x ⟨v1,c,d,g,i,j,k,l,rfl,k0,m,n,o,p,q,a,s,t,u,b⟩
 exact⟨_,rfl,a⟩
def KH:Fm Ch 7 (B7.sl GN) (·.An):=by
 rintro S h cs x ⟨v1,c,d,g,i,j,k,l,rfl,k0,m,n,o,p,q,s,a,t,u,b⟩
 exact⟨_,rfl,a⟩
def Hx:Fm Ch 8 (B7.sl Dr) (·.Aq):=by
 rintro S h cs x ⟨v1,c,d,g,i,j,k,l,rfl,k0,m,n,o,p,q,s,t,a,u,b⟩
 exact⟨_,rfl,a⟩
def AU.f_Room:Fm Ch 9 (B7.sl BQ) (·.Ap):=by
 rintro S h cs x ⟨v1,c,d,g,i,j,k,l,rfl,k0,m,n,o,p,q,s,t,u,a,b⟩
 exact⟨_,rfl,a⟩
def AU.f_Err:Fm Ch 10 BQ (·.Z):=by
 rintro S h cs x ⟨v1,b,c,d,g,i,j,k,rfl,k0,l,m,n,o,p,q,s,t,u,a⟩
 exact⟨rfl,a⟩
structure AH where
 B:Int
 A:Int
instance:Inhabited AH:=⟨⟨default,default⟩⟩
@[reducible] def AH.v (x:AH):List Go.Value:=[.int .i64 x.B,.int .i64 x.A]
def AH.ok (x:AH):Prop:=AD x.B∧AD x.A
def AM:B7 AH where
 sz:=2
 ag:=true
 rd:=λ_ _ cs x=>cs=x.v∧x.ok
 len:=λ⟨h,_⟩=>by rw[h];rfl
 one:=λ{_ _ _ x} ⟨h,_⟩ v a=>by
  rw[h] at a
  simp only[AH.v,iZ,jL,jS] at a
  rcases a with rfl|rfl<;>rfl
 mono:=λh _ _=>h
def AM.ex {S h v}{x:AH}(k:Rd S h AM v x):v= .agg #[.int .i64 x.B,.int .i64 x.A]∧x.ok:=by obtain⟨_,rfl,rfl,h⟩:=k;exact⟨rfl,h⟩
def AM.mk {S h}{x:AH}(k:x.ok):Rd S h AM (.agg #[.int .i64 x.B,.int .i64 x.A]) x:=⟨x.v,rfl,rfl,k⟩
def AH.f_Lo:Fm AM 0 BQ (·.B):=by
 rintro S h cs x ⟨rfl,⟨k0,a⟩⟩
 exact⟨rfl,k0⟩
def AH.f_Hi:Fm AM 1 BQ (·.A):=by
 rintro S h cs x ⟨rfl,⟨k0,a⟩⟩
 exact⟨rfl,a⟩
structure Cr where
 At:Int
 I:Int
 Ai:(List (List AH))
instance:Inhabited Cr:=⟨⟨default,default,default⟩⟩
def GF:B7 Cr where
 sz:=3
 ag:=true
 rd:=λS h cs x=>∃a:Value,cs=[.int .i64 x.At,.int .i64 x.I,a]∧AD x.At∧AD x.I∧Sl S h (B7.sl AM) a x.Ai
 len:=λ⟨_,h,_⟩=>by rw[h];rfl
 one:=by
  rintro S h cs x ⟨a,rfl,k0,b,c⟩ v d
  simp only[iZ,jL,jS] at d
  rcases d with rfl|rfl|rfl<;>first|rfl|exact Sl.one ‹_› |exact(‹_∧_›).2|(obtain ⟨_,_,rfl,_⟩:=Rd.fn ‹_›;rfl)|(obtain ⟨_,_,rfl,_⟩:=Rd.fnr ‹_›;rfl)
 mono:=by
  rintro S S' h h' cs x ⟨a,rfl,k0,b,c⟩ s e
  exact⟨a,rfl,k0,b,c.mono s e⟩
def GF.ex {S h v}{x:Cr}(k:Rd S h GF v x):∃a:Value,v= .agg #[.int .i64 x.At,.int .i64 x.I,a]∧AD x.At∧AD x.I∧Sl S h (B7.sl AM) a x.Ai:=by obtain⟨_,rfl,a,rfl,k⟩:=k;exact⟨a,rfl,k⟩
def GF.mk {S h}{x:Cr}{a:Value}(k0:AD x.At) (b:AD x.I) (c:Sl S h (B7.sl AM) a x.Ai):Rd S h GF (.agg #[.int .i64 x.At,.int .i64 x.I,a]) x:=⟨_,rfl,a,rfl,k0,b,c⟩
def Pz:Fm GF 0 BQ (·.At):=by
 rintro S h cs x ⟨a,rfl,k0,b,c⟩
 exact⟨rfl,k0⟩
def Cr.f_From:Fm GF 1 BQ (·.I):=by
 rintro S h cs x ⟨b,rfl,k0,a,c⟩
 exact⟨rfl,a⟩
def Cr.f_Rain:Fm GF 2 (B7.sl (B7.sl AM)) (·.Ai):=by
 rintro S h cs x ⟨b,rfl,k0,c,a⟩
 exact⟨_,rfl,a⟩
structure JG where
 C:Int
 Al:Int
instance:Inhabited JG:=⟨⟨default,default⟩⟩
@[reducible] def JG.v (x:JG):List Go.Value:=[.int .i64 x.C,.int .i64 x.Al]
def JG.ok (x:JG):Prop:=AD x.C∧AD x.Al
def Hv:B7 JG where
 sz:=2
 ag:=true
 rd:=λ_ _ cs x=>cs=x.v∧x.ok
 len:=λ⟨h,_⟩=>by rw[h];rfl
 one:=λ{_ _ _ x} ⟨h,_⟩ v a=>by
  rw[h] at a
  simp only[JG.v,iZ,jL,jS] at a
  rcases a with rfl|rfl<;>rfl
 mono:=λh _ _=>h
def Hv.ex {S h v}{x:JG}(k:Rd S h Hv v x):v= .agg #[.int .i64 x.C,.int .i64 x.Al]∧x.ok:=by obtain⟨_,rfl,rfl,h⟩:=k;exact⟨rfl,h⟩
def Hv.mk {S h}{x:JG}(k:x.ok):Rd S h Hv (.agg #[.int .i64 x.C,.int .i64 x.Al]) x:=⟨x.v,rfl,rfl,k⟩
def JG.f_Kind:Fm Hv 0 BQ (·.C):=by
 rintro S h cs x ⟨rfl,⟨k0,a⟩⟩
 exact⟨rfl,k0⟩
structure N2 where
 Al:Int
 T:Int
instance:Inhabited N2:=⟨⟨default,default⟩⟩
@[reducible] def N2.v (x:N2):List Go.Value:=[.int .i64 x.Al,.int .i64 x.T]
def N2.ok (x:N2):Prop:=AD x.Al∧AD x.T
def KB:B7 N2 where
 sz:=2
 ag:=true
 rd:=λ_ _ cs x=>cs=x.v∧x.ok
 len:=λ⟨h,_⟩=>by rw[h];rfl
 one:=λ{_ _ _ x} ⟨h,_⟩ v a=>by
  rw[h] at a
  simp only[N2.v,iZ,jL,jS] at a
  rcases a with rfl|rfl<;>rfl
 mono:=λh _ _=>h
def KB.ex {S h v}{x:N2}(k:Rd S h KB v x):v= .agg #[.int .i64 x.Al,.int .i64 x.T]∧x.ok:=by obtain⟨_,rfl,rfl,h⟩:=k;exact⟨rfl,h⟩
def KB.mk {S h}{x:N2}(k:x.ok):Rd S h KB (.agg #[.int .i64 x.Al,.int .i64 x.T]) x:=⟨x.v,rfl,rfl,k⟩
def N2.f_Target:Fm KB 1 BQ (·.T):=by
 rintro S h cs x ⟨rfl,⟨k0,a⟩⟩
 exact⟨rfl,a⟩
def N2.u_Target:N3 KB 1 BQ (λx y=>{ x with T:=y}):=by
 refine⟨by decide,?_⟩
 rintro S h c x vs y ⟨rfl,⟨k0,b⟩⟩ ⟨rfl,a⟩
 exact⟨rfl,⟨k0,a⟩⟩
structure II where
 Ah:Int
 Bm:Int
 As:Int
 E:Int
instance:Inhabited II:=⟨⟨default,default,default,default⟩⟩
@[reducible] def II.v (x:II):List Go.Value:=[.int .i64 x.Ah,.int .i64 x.Bm,.int .i64 x.As,.int .i64 x.E]
def II.ok (x:II):Prop:=AD x.Ah∧AD x.Bm∧AD x.As∧AD x.E
def Hq:B7 II where
 sz:=4
 ag:=true
 rd:=λ_ _ cs x=>cs=x.v∧x.ok
 len:=λ⟨h,_⟩=>by rw[h];rfl
 one:=λ{_ _ _ x} ⟨h,_⟩ v a=>by
  rw[h] at a
  simp only[II.v,iZ,jL,jS] at a
  rcases a with rfl|rfl|rfl|rfl<;>rfl
 mono:=λh _ _=>h
def Hq.ex {S h v}{x:II}(k:Rd S h Hq v x):v= .agg #[.int .i64 x.Ah,.int .i64 x.Bm,.int .i64 x.As,.int .i64 x.E]∧x.ok:=by obtain⟨_,rfl,rfl,h⟩:=k;exact⟨rfl,h⟩
def Hq.mk {S h}{x:II}(k:x.ok):Rd S h Hq (.agg #[.int .i64 x.Ah,.int .i64 x.Bm,.int .i64 x.As,.int .i64 x.E]) x:=⟨x.v,rfl,rfl,k⟩
def II.f_Litres:Fm Hq 2 BQ (·.As):=by
 rintro S h cs x ⟨rfl,⟨k0,b,a,c⟩⟩
 exact⟨rfl,a⟩
def II.f_To:Fm Hq 3 BQ (·.E):=by
 rintro S h cs x ⟨rfl,⟨k0,b,c,a⟩⟩
 exact⟨rfl,a⟩
structure KE where
 Ah:Int
 I:Int
 E:Int
 As:Int
instance:Inhabited KE:=⟨⟨default,default,default,default⟩⟩
@[reducible] def KE.v (x:KE):List Go.Value:=[.int .i64 x.Ah,.int .i64 x.I,.int .i64 x.E,.int .i64 x.As]
def KE.ok (x:KE):Prop:=AD x.Ah∧AD x.I∧AD x.E∧AD x.As
def If:B7 KE where
 sz:=4
 ag:=true
 rd:=λ_ _ cs x=>cs=x.v∧x.ok
 len:=λ⟨h,_⟩=>by rw[h];rfl
 one:=λ{_ _ _ x} ⟨h,_⟩ v a=>by
  rw[h] at a
  simp only[KE.v,iZ,jL,jS] at a
  rcases a with rfl|rfl|rfl|rfl<;>rfl
 mono:=λh _ _=>h
def If.ex {S h v}{x:KE}(k:Rd S h If v x):v= .agg #[.int .i64 x.Ah,.int .i64 x.I,.int .i64 x.E,.int .i64 x.As]∧x.ok:=by obtain⟨_,rfl,rfl,h⟩:=k;exact⟨rfl,h⟩
def If.mk {S h}{x:KE}(k:x.ok):Rd S h If (.agg #[.int .i64 x.Ah,.int .i64 x.I,.int .i64 x.E,.int .i64 x.As]) x:=⟨x.v,rfl,rfl,k⟩
def KE.f_From:Fm If 1 BQ (·.I):=by
 rintro S h cs x ⟨rfl,⟨k0,a,b,c⟩⟩
 exact⟨rfl,a⟩
def KE.f_To:Fm If 2 BQ (·.E):=by
 rintro S h cs x ⟨rfl,⟨k0,b,a,c⟩⟩
 exact⟨rfl,a⟩
def KE.f_Litres:Fm If 3 BQ (·.As):=by
 rintro S h cs x ⟨rfl,⟨k0,b,c,a⟩⟩
 exact⟨rfl,a⟩
structure CW where
 Ai:(List Int)
 Ba:(List JG)
 Bb:(List N2)
 Au:(List II)
 Bn:(List KE)
instance:Inhabited CW:=⟨⟨default,default,default,default,default⟩⟩
def FB:B7 CW where
 sz:=5
 ag:=true
 rd:=λS h cs x=>∃a v1 b c d:Value,cs=[a,v1,b,c,d]∧Sl S h BQ a x.Ai∧Sl S h Hv v1 x.Ba∧Sl S h KB b x.Bb∧Sl S h Hq c x.Au∧Sl S h If d x.Bn
 len:=λ⟨_,_,_,_,_,h,_⟩=>by rw[h];rfl
 one:=by
  rintro S h cs x ⟨a,v1,b,c,d,rfl,k0,g,i,j,k⟩ v l
  simp only[iZ,jL,jS] at l
  rcases l with rfl|rfl|rfl|rfl|rfl<;>first|rfl|exact Sl.one ‹_› |exact(‹_∧_›).2|(obtain ⟨_,_,rfl,_⟩:=Rd.fn ‹_›;rfl)|(obtain ⟨_,_,rfl,_⟩:=Rd.fnr ‹_›;rfl)
 mono:=by
  rintro S S' h h' cs x ⟨a,v1,b,c,d,rfl,k0,g,i,j,k⟩ s e
  exact⟨a,v1,b,c,d,rfl,k0.mono s e,g.mono s e,i.mono s e,j.mono s e,k.mono s e⟩
def FB.ex {S h v}{x:CW}(k:Rd S h FB v x):∃a v1 b c d:Value,v= .agg #[a,v1,b,c,d]∧Sl S h BQ a x.Ai∧Sl S h Hv v1 x.Ba∧Sl S h KB b x.Bb∧Sl S h Hq c x.Au∧Sl S h If d x.Bn:=by obtain⟨_,rfl,a,v1,b,c,d,rfl,k⟩:=k;exact⟨a,v1,b,c,d,rfl,k⟩
def FB.mk {S h}{x:CW}{a v1 b c d:Value}(k0:Sl S h BQ a x.Ai) (g:Sl S h Hv v1 x.Ba) (i:Sl S h KB b x.Bb) (j:Sl S h Hq c x.Au) (k:Sl S h If d x.Bn):Rd S h FB (.agg #[a,v1,b,c,d]) x:=⟨_,rfl,a,v1,b,c,d,rfl,k0,g,i,j,k⟩
def CW.f_Rain:Fm FB 0 (B7.sl BQ) (·.Ai):=by
 rintro S h cs x ⟨a,v1,b,c,d,rfl,k0,g,i,j,k⟩
 exact⟨_,rfl,k0⟩
def LS:Fm FB 1 (B7.sl Hv) (·.Ba):=by
 rintro S h cs x ⟨b,v1,c,d,g,rfl,k0,a,i,j,k⟩
 exact⟨_,rfl,a⟩
def Ms:Fm FB 2 (B7.sl KB) (·.Bb):=by
 rintro S h cs x ⟨b,v1,c,d,g,rfl,k0,i,a,j,k⟩
 exact⟨_,rfl,a⟩
def MH:Fm FB 3 (B7.sl Hq) (·.Au):=by
 rintro S h cs x ⟨b,v1,c,d,g,rfl,k0,i,j,a,k⟩
 exact⟨_,rfl,a⟩
def Py:Fm FB 4 (B7.sl If) (·.Bn):=by
 rintro S h cs x ⟨b,v1,c,d,g,rfl,k0,i,j,k,a⟩
 exact⟨_,rfl,a⟩
structure AK where
 group:ByteArray
 name:ByteArray
instance:Inhabited AK:=⟨⟨default,default⟩⟩
@[reducible] def AK.v (x:AK):List Go.Value:=[.string x.group,.string x.name]
def AK.ok (x:AK):Prop:=x.group.size≤maxLen∧x.name.size≤maxLen
def Js:B7 AK where
 sz:=2
 ag:=true
 rd:=λ_ _ cs x=>cs=x.v∧x.ok
 len:=λ⟨h,_⟩=>by rw[h];rfl
 one:=λ{_ _ _ x} ⟨h,_⟩ v a=>by
  rw[h] at a
  simp only[AK.v,iZ,jL,jS] at a
  rcases a with rfl|rfl<;>rfl
 mono:=λh _ _=>h
def Js.ex {S h v}{x:AK}(k:Rd S h Js v x):v= .agg #[.string x.group,.string x.name]∧x.ok:=by obtain⟨_,rfl,rfl,h⟩:=k;exact⟨rfl,h⟩
def Js.mk {S h}{x:AK}(k:x.ok):Rd S h Js (.agg #[.string x.group,.string x.name]) x:=⟨x.v,rfl,rfl,k⟩
structure B9 where
 X:Int
 E:Int
 M:AH
instance:Inhabited B9:=⟨⟨default,default,default⟩⟩
@[reducible] def B9.v (x:B9):List Go.Value:=[.int .i64 x.X,.int .i64 x.E,.int .i64 x.M.B,.int .i64 x.M.A]
def B9.ok (x:B9):Prop:=AD x.X∧AD x.E∧AD x.M.B∧AD x.M.A
def Ce:B7 B9 where
 sz:=4
 ag:=true
 rd:=λ_ _ cs x=>cs=x.v∧x.ok
 len:=λ⟨h,_⟩=>by rw[h];rfl
 one:=λ{_ _ _ x} ⟨h,_⟩ v a=>by
  rw[h] at a
  simp only[B9.v,iZ,jL,jS] at a
  rcases a with rfl|rfl|rfl|rfl<;>rfl
 mono:=λh _ _=>h
def Ce.ex {S h v}{x:B9}(k:Rd S h Ce v x):v= .agg #[.int .i64 x.X,.int .i64 x.E,.int .i64 x.M.B,.int .i64 x.M.A]∧x.ok:=by obtain⟨_,rfl,rfl,h⟩:=k;exact⟨rfl,h⟩
def Ce.mk {S h}{x:B9}(k:x.ok):Rd S h Ce (.agg #[.int .i64 x.X,.int .i64 x.E,.int .i64 x.M.B,.int .i64 x.M.A]) x:=⟨x.v,rfl,rfl,k⟩
def Qg:Fm Ce 0 BQ (·.X):=by
 rintro S h cs x ⟨rfl,⟨k0,a,b,c⟩⟩
 exact⟨rfl,k0⟩
def B9.f_To:Fm Ce 1 BQ (·.E):=by
 rintro S h cs x ⟨rfl,⟨k0,a,b,c⟩⟩
 exact⟨rfl,a⟩
def B9.f_Vol:Fm Ce 2 AM (·.M):=by
 rintro S h cs x ⟨rfl,⟨k0,c,a,b⟩⟩
 exact⟨rfl,⟨a,b⟩⟩
def B9.u_Vol:N3 Ce 2 AM (λx y=>{ x with M:=y}):=by
 refine⟨by decide,?_⟩
 rintro S h c x vs y ⟨rfl,⟨k0,a,g,i⟩⟩ ⟨rfl,⟨b,d⟩⟩
 exact⟨rfl,⟨k0,a,b,d⟩⟩
structure BA where
 P:AH
 T:Int
 R:AH
instance:Inhabited BA:=⟨⟨default,default,default⟩⟩
@[reducible] def BA.v (x:BA):List Go.Value:=[.int .i64 x.P.B,.int .i64 x.P.A,.int .i64 x.T,.int .i64 x.R.B,.int .i64 x.R.A]
def BA.ok (x:BA):Prop:=AD x.P.B∧AD x.P.A∧AD x.T∧AD x.R.B∧AD x.R.A
def BK:B7 BA where
 sz:=5
 ag:=true
 rd:=λ_ _ cs x=>cs=x.v∧x.ok
 len:=λ⟨h,_⟩=>by rw[h];rfl
 one:=λ{_ _ _ x} ⟨h,_⟩ v a=>by
  rw[h] at a
  simp only[BA.v,iZ,jL,jS] at a
  rcases a with rfl|rfl|rfl|rfl|rfl<;>rfl
 mono:=λh _ _=>h
def BK.ex {S h v}{x:BA}(k:Rd S h BK v x):v= .agg #[.int .i64 x.P.B,.int .i64 x.P.A,.int .i64 x.T,.int .i64 x.R.B,.int .i64 x.R.A]∧x.ok:=by obtain⟨_,rfl,rfl,h⟩:=k;exact⟨rfl,h⟩
def BK.mk {S h}{x:BA}(k:x.ok):Rd S h BK (.agg #[.int .i64 x.P.B,.int .i64 x.P.A,.int .i64 x.T,.int .i64 x.R.B,.int .i64 x.R.A]) x:=⟨x.v,rfl,rfl,k⟩
def BA.f_Pos:Fm BK 0 AM (·.P):=by
 rintro S h cs x ⟨rfl,⟨k0,a,b,c,d⟩⟩
 exact⟨rfl,⟨k0,a⟩⟩
def BA.f_Target:Fm BK 2 BQ (·.T):=by
 rintro S h cs x ⟨rfl,⟨k0,b,a,c,d⟩⟩
 exact⟨rfl,a⟩
def BA.f_Open:Fm BK 3 AM (·.R):=by
 rintro S h cs x ⟨rfl,⟨k0,c,d,a,b⟩⟩
 exact⟨rfl,⟨a,b⟩⟩
def BA.u_Target:N3 BK 2 BQ (λx y=>{ x with T:=y}):=by
 refine⟨by decide,?_⟩
 rintro S h c x vs y ⟨rfl,⟨k0,a,i,b,d⟩⟩ ⟨rfl,g⟩
 exact⟨rfl,⟨k0,a,g,b,d⟩⟩
def BA.u_Open:N3 BK 3 AM (λx y=>{ x with R:=y}):=by
 refine⟨by decide,?_⟩
 rintro S h c x vs y ⟨rfl,⟨k0,a,b,i,j⟩⟩ ⟨rfl,⟨d,g⟩⟩
 exact⟨rfl,⟨k0,a,b,d,g⟩⟩
structure Cf where
 K:Int
 M:(List AH)
 S:(List B9)
 F:(List BA)
instance:Inhabited Cf:=⟨⟨default,default,default,default⟩⟩
def EZ:B7 Cf where
 sz:=4
 ag:=true
 rd:=λS h cs x=>∃v1 a b:Value,cs=[.int .i64 x.K,v1,a,b]∧AD x.K∧Sl S h AM v1 x.M∧Sl S h Ce a x.S∧Sl S h BK b x.F
 len:=λ⟨_,_,_,h,_⟩=>by rw[h];rfl
 one:=by
  rintro S h cs x ⟨v1,a,b,rfl,k0,c,d,g⟩ v i
  simp only[iZ,jL,jS] at i
  rcases i with rfl|rfl|rfl|rfl<;>first|rfl|exact Sl.one ‹_› |exact(‹_∧_›).2|(obtain ⟨_,_,rfl,_⟩:=Rd.fn ‹_›;rfl)|(obtain ⟨_,_,rfl,_⟩:=Rd.fnr ‹_›;rfl)
 mono:=by
  rintro S S' h h' cs x ⟨v1,a,b,rfl,k0,c,d,g⟩ s e
  exact⟨v1,a,b,rfl,k0,c.mono s e,d.mono s e,g.mono s e⟩
def EZ.ex {S h v}{x:Cf}(k:Rd S h EZ v x):∃v1 a b:Value,v= .agg #[.int .i64 x.K,v1,a,b]∧AD x.K∧Sl S h AM v1 x.M∧Sl S h Ce a x.S∧Sl S h BK b x.F:=by obtain⟨_,rfl,v1,a,b,rfl,k⟩:=k;exact⟨v1,a,b,rfl,k⟩
def EZ.mk {S h}{x:Cf}{v1 a b:Value}(k0:AD x.K) (c:Sl S h AM v1 x.M) (d:Sl S h Ce a x.S) (g:Sl S h BK b x.F):Rd S h EZ (.agg #[.int .i64 x.K,v1,a,b]) x:=⟨_,rfl,v1,a,b,rfl,k0,c,d,g⟩
def LJ:Fm EZ 0 BQ (·.K):=by
 rintro S h cs x ⟨v1,a,b,rfl,k0,c,d,g⟩
 exact⟨rfl,k0⟩
def Cf.f_Vol:Fm EZ 1 (B7.sl AM) (·.M):=by
 rintro S h cs x ⟨v1,b,c,rfl,k0,a,d,g⟩
 exact⟨_,rfl,a⟩
def Mt:Fm EZ 2 (B7.sl Ce) (·.S):=by
 rintro S h cs x ⟨v1,b,c,rfl,k0,d,a,g⟩
 exact⟨_,rfl,a⟩
def Cf.f_Links:Fm EZ 3 (B7.sl BK) (·.F):=by
 rintro S h cs x ⟨v1,b,c,rfl,k0,d,g,a⟩
 exact⟨_,rfl,a⟩
def Cf.u_Vol:N3 EZ 1 (B7.sl AM) (λx y=>{ x with M:=y}):=by
 refine⟨by decide,?_⟩
 rintro S h c x vs y ⟨k,a,b,rfl,k0,l,d,g⟩ ⟨i,rfl,j⟩
 exact⟨i,a,b,rfl,k0,j,d,g⟩
structure Et where
 P:Int
 T:Int
 Ay:Bool
 R:Bool
instance:Inhabited Et:=⟨⟨default,default,default,default⟩⟩
@[reducible] def Et.v (x:Et):List Go.Value:=[.int .i64 x.P,.int .i64 x.T,.bool x.Ay,.bool x.R]
def Et.ok (x:Et):Prop:=AD x.P∧AD x.T
def Hr:B7 Et where
 sz:=4
 ag:=true
 rd:=λ_ _ cs x=>cs=x.v∧x.ok
 len:=λ⟨h,_⟩=>by rw[h];rfl
 one:=λ{_ _ _ x} ⟨h,_⟩ v a=>by
  rw[h] at a
  simp only[Et.v,iZ,jL,jS] at a
  rcases a with rfl|rfl|rfl|rfl<;>rfl
 mono:=λh _ _=>h
def Hr.ex {S h v}{x:Et}(k:Rd S h Hr v x):v= .agg #[.int .i64 x.P,.int .i64 x.T,.bool x.Ay,.bool x.R]∧x.ok:=by obtain⟨_,rfl,rfl,h⟩:=k;exact⟨rfl,h⟩
def Hr.mk {S h}{x:Et}(k:x.ok):Rd S h Hr (.agg #[.int .i64 x.P,.int .i64 x.T,.bool x.Ay,.bool x.R]) x:=⟨x.v,rfl,rfl,k⟩
def Et.f_Pos:Fm Hr 0 BQ (·.P):=by
 rintro S h cs x ⟨rfl,⟨k0,a⟩⟩
 exact⟨rfl,k0⟩
def Et.f_Target:Fm Hr 1 BQ (·.T):=by
 rintro S h cs x ⟨rfl,⟨k0,a⟩⟩
 exact⟨rfl,a⟩
def Et.f_Open:Fm Hr 3 B7.bool (·.R):=by
 rintro S h cs x ⟨rfl,⟨k0,a⟩⟩
 exact rfl
def Et.u_Target:N3 Hr 1 BQ (λx y=>{ x with T:=y}):=by
 refine⟨by decide,?_⟩
 rintro S h c x vs y ⟨rfl,⟨k0,b⟩⟩ ⟨rfl,a⟩
 exact⟨rfl,⟨k0,a⟩⟩
def Et.u_Open:N3 Hr 3 B7.bool (λx y=>{ x with R:=y}):=by
 refine⟨by decide,?_⟩
 rintro S h c x vs y ⟨rfl,⟨k0,a⟩⟩ rfl
 exact⟨rfl,⟨k0,a⟩⟩
structure BS where
 b:AU
 h:Cf
 peaks:(List AH)
instance:Inhabited BS:=⟨⟨default,default,default⟩⟩
def KW:B7 BS where
 sz:=16
 ag:=true
 rd:=λS h cs x=>∃v1 i j k l m n o a c d g:Value,cs=[.string x.b.J,v1,.int .i64 x.b.W,i,j,k,l,m,n,o,.int .i64 x.b.Z,.int .i64 x.h.K,a,c,d,g]∧x.b.J.size≤maxLen∧Sl S h B7.str v1 x.b.Ar∧AD x.b.W∧Sl S h Cb i x.b.D∧Sl S h CI j x.b.F∧Sl S h Fi k x.b.Ac∧Sl S h Ez l x.b.Am∧Sl S h GN m x.b.An∧Sl S h Dr n x.b.Aq∧Sl S h BQ o x.b.Ap∧AD x.b.Z∧AD x.h.K∧Sl S h AM a x.h.M∧Sl S h Ce c x.h.S∧Sl S h BK d x.h.F∧Sl S h AM g x.peaks
 len:=λ⟨_,_,_,_,_,_,_,_,_,_,_,_,h,_⟩=>by rw[h];rfl
 one:=by
  rintro S h cs x ⟨v1,i,j,k,l,m,n,o,a,c,d,g,rfl,k0,z,A,B,C,G,H,I,Q,U,p,q,t,u,w,y⟩ v V
  simp only[iZ,jL,jS] at V
  rcases V with rfl|rfl|rfl|rfl|rfl|rfl|rfl|rfl|rfl|rfl|rfl|rfl|rfl|rfl|rfl|rfl<;>first|rfl|exact Sl.one ‹_› |exact(‹_∧_›).2|(obtain ⟨_,_,rfl,_⟩:=Rd.fn ‹_›;rfl)|(obtain ⟨_,_,rfl,_⟩:=Rd.fnr ‹_›;rfl)
 mono:=by
  rintro S S' h h' cs x ⟨v1,i,j,k,l,m,n,o,a,c,d,g,rfl,k0,z,A,B,C,G,H,I,Q,U,p,q,t,u,w,y⟩ s e
  exact⟨v1,i,j,k,l,m,n,o,a,c,d,g,rfl,k0,z.mono s e,A,B.mono s e,C.mono s e,G.mono s e,H.mono s e,I.mono s e,Q.mono s e,U.mono s e,p,q,t.mono s e,u.mono s e,w.mono s e,y.mono s e⟩
def KW.ex {S h v}{x:BS}(k:Rd S h KW v x):∃v1 i j l m n o p a c d g:Value,v= .agg #[.string x.b.J,v1,.int .i64 x.b.W,i,j,l,m,n,o,p,.int .i64 x.b.Z,.int .i64 x.h.K,a,c,d,g]∧x.b.J.size≤maxLen∧Sl S h B7.str v1 x.b.Ar∧AD x.b.W∧Sl S h Cb i x.b.D∧Sl S h CI j x.b.F∧Sl S h Fi l x.b.Ac∧Sl S h Ez m x.b.Am∧Sl S h GN n x.b.An∧Sl S h Dr o x.b.Aq∧Sl S h BQ p x.b.Ap∧AD x.b.Z∧AD x.h.K∧Sl S h AM a x.h.M∧Sl S h Ce c x.h.S∧Sl S h BK d x.h.F∧Sl S h AM g x.peaks:=by obtain⟨_,rfl,v1,i,j,l,m,n,o,p,a,c,d,g,rfl,k⟩:=k;exact⟨v1,i,j,l,m,n,o,p,a,c,d,g,rfl,k⟩
def KW.mk {S h}{x:BS}{v1 i j k l m n o a c d g:Value}(k0:x.b.J.size≤maxLen) (w:Sl S h B7.str v1 x.b.Ar) (y:AD x.b.W) (z:Sl S h Cb i x.b.D) (A:Sl S h CI j x.b.F) (B:Sl S h Fi k x.b.Ac) (C:Sl S h Ez l x.b.Am) (G:Sl S h GN m x.b.An) (H:Sl S h Dr n x.b.Aq) (I:Sl S h BQ o x.b.Ap) (p:AD x.b.Z) (q:AD x.h.K) (s:Sl S h AM a x.h.M) (t:Sl S h Ce c x.h.S) (u:Sl S h BK d x.h.F) (v:Sl S h AM g x.peaks):Rd S h KW (.agg #[.string x.b.J,v1,.int .i64 x.b.W,i,j,k,l,m,n,o,.int .i64 x.b.Z,.int .i64 x.h.K,a,c,d,g]) x:=⟨_,rfl,v1,i,j,k,l,m,n,o,a,c,d,g,rfl,k0,w,y,z,A,B,C,G,H,I,p,q,s,t,u,v⟩
structure A0 where
 to_:Int
 delay:Int
 slack:Int
 asks:(Int→Option AH)
instance:Inhabited A0:=⟨⟨default,default,default,default⟩⟩
def C9:B7 A0 where
 sz:=4
 ag:=true
 rd:=λS h cs x=>∃a:Value,cs=[.int .i64 x.to_,.int .i64 x.delay,.int .i64 x.slack,a]∧AD x.to_∧AD x.delay∧AD x.slack∧Rd S h (B7.fn prog (λx:Int=>([.int .i64 x]:List Value)) (λx:Int=>AD x) (λy:AH=> .agg #[.int .i64 y.B,.int .i64 y.A]) (λy:AH=>AH.ok y)) a x.asks
 len:=λ⟨_,h,_⟩=>by rw[h];rfl
 one:=by
  rintro S h cs x ⟨a,rfl,k0,b,c,d⟩ v g
  simp only[iZ,jL,jS] at g
  rcases g with rfl|rfl|rfl|rfl<;>first|rfl|exact Sl.one ‹_› |exact(‹_∧_›).2|(obtain ⟨_,_,rfl,_⟩:=Rd.fn ‹_›;rfl)|(obtain ⟨_,_,rfl,_⟩:=Rd.fnr ‹_›;rfl)
 mono:=by
  rintro S S' h h' cs x ⟨a,rfl,k0,b,c,d⟩ s e
  exact⟨a,rfl,k0,b,c,d.mono'' s e⟩
def C9.ex {S h v}{x:A0}(k:Rd S h C9 v x):∃a:Value,v= .agg #[.int .i64 x.to_,.int .i64 x.delay,.int .i64 x.slack,a]∧AD x.to_∧AD x.delay∧AD x.slack∧Rd S h (B7.fn prog (λx:Int=>([.int .i64 x]:List Value)) (λx:Int=>AD x) (λy:AH=> .agg #[.int .i64 y.B,.int .i64 y.A]) (λy:AH=>AH.ok y)) a x.asks:=by obtain⟨_,rfl,a,rfl,k⟩:=k;exact⟨a,rfl,k⟩
def C9.mk {S h}{x:A0}{a:Value}(k0:AD x.to_) (b:AD x.delay) (c:AD x.slack) (d:Rd S h (B7.fn prog (λx:Int=>([.int .i64 x]:List Value)) (λx:Int=>AD x) (λy:AH=> .agg #[.int .i64 y.B,.int .i64 y.A]) (λy:AH=>AH.ok y)) a x.asks):Rd S h C9 (.agg #[.int .i64 x.to_,.int .i64 x.delay,.int .i64 x.slack,a]) x:=⟨_,rfl,a,rfl,k0,b,c,d⟩
def Ka:ByteArray:=ByteArray.mk #[0,1,2,2,3,3,3,3,4,4,4,4,4,4,4,4,5,5,5,5,5,5,5,5,5,5,5,5,5,5,5,5,6,6,6,6,6,6,6,6,6,6,6,6,6,6,6,6,6,6,6,6,6,6,6,6,6,6,6,6,6,6,6,6,7,7,7,7,7,7,7,7,7,7,7,7,7,7,7,7,7,7,7,7,7,7,7,7,7,7,7,7,7,7,7,7,7,7,7,7,7,7,7,7,7,7,7,7,7,7,7,7,7,7,7,7,7,7,7,7,7,7,7,7,7,7,7,7,8,8,8,8,8,8,8,8,8,8,8,8,8,8,8,8,8,8,8,8,8,8,8,8,8,8,8,8,8,8,8,8,8,8,8,8,8,8,8,8,8,8,8,8,8,8,8,8,8,8,8,8,8,8,8,8,8,8,8,8,8,8,8,8,8,8,8,8,8,8,8,8,8,8,8,8,8,8,8,8,8,8,8,8,8,8,8,8,8,8,8,8,8,8,8,8,8,8,8,8,8,8,8,8,8,8,8,8,8,8,8,8,8,8,8,8,8,8,8,8,8,8,8,8,8,8,8,8]
def OE:List DG:=([(⟨9,false⟩:DG),(⟨8,false⟩:DG),(⟨4,false⟩:DG),(⟨5,false⟩:DG),(⟨(-1),false⟩:DG),(⟨(-1),true⟩:DG),(⟨(-1),false⟩:DG)]:List DG)
end Go.Proofs.YtibidnaedddfdaaGreat
