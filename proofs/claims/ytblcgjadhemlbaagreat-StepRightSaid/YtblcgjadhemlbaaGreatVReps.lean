import Derived.Test.YtblcgjadhemlbaaGreatVSortD
import Derived.Test.YtblcgjadhemlbaaGreatRows
namespace Go.Proofs.YtblcgjadhemlbaaGreat
set_option linter.all false
open Go.RowKit
open Go.Proofs.Tryz
structure B4 where
 N:Int
 Y:Int
instance:Inhabited B4:=⟨⟨default,default⟩⟩
@[reducible] def B4.v (x:B4):List Go.Value:=[.int .i64 x.N,.int .i64 x.Y]
def B4.ok (x:B4):Prop:=AH x.N∧AH x.Y
def CY:BW B4 where
 sz:=2
 ag:=true
 rd:=λ_ _ cs x=>cs=x.v∧x.ok
 len:=λ⟨b,_⟩=>by rw[b];rfl
 one:=λ{_ _ _ x} ⟨b,_⟩ v a=>by
  rw[b] at a
  simp only[B4.v,nM,nY,oO] at a
  rcases a with rfl|rfl<;>rfl
 mono:=λb _ _=>b
def CY.ex {S a v}{x:B4}(k:Rd S a CY v x):v= .agg #[.int .i64 x.N,.int .i64 x.Y]∧x.ok:=by obtain⟨_,rfl,rfl,a⟩:=k;exact⟨rfl,a⟩
def CY.mk {S h}{x:B4}(k:x.ok):Rd S h CY (.agg #[.int .i64 x.N,.int .i64 x.Y]) x:=⟨x.v,rfl,rfl,k⟩
def LP:GM CY 0 AJ (·.N):=by
 rintro S b cs x ⟨rfl,⟨k0,a⟩⟩
 exact⟨rfl,k0⟩
def LO:GM CY 1 AJ (·.Y):=by
 rintro S b cs x ⟨rfl,⟨k0,a⟩⟩
 exact⟨rfl,a⟩
structure Nk where
 Bg:Int
 Bp:Int
instance:Inhabited Nk:=⟨⟨default,default⟩⟩
@[reducible] def Nk.v (x:Nk):List Go.Value:=[.int .i64 x.Bg,.int .i64 x.Bp]
def Nk.ok (x:Nk):Prop:=AH x.Bg∧AH x.Bp
def Kq:BW Nk where
 sz:=2
 ag:=true
 rd:=λ_ _ cs x=>cs=x.v∧x.ok
 len:=λ⟨b,_⟩=>by rw[b];rfl
 one:=λ{_ _ _ x} ⟨b,_⟩ v a=>by
  rw[b] at a
  simp only[Nk.v,nM,nY,oO] at a
  rcases a with rfl|rfl<;>rfl
 mono:=λb _ _=>b
def Kq.ex {S a v}{x:Nk}(k:Rd S a Kq v x):v= .agg #[.int .i64 x.Bg,.int .i64 x.Bp]∧x.ok:=by obtain⟨_,rfl,rfl,a⟩:=k;exact⟨rfl,a⟩
def Kq.mk {S h}{x:Nk}(k:x.ok):Rd S h Kq (.agg #[.int .i64 x.Bg,.int .i64 x.Bp]) x:=⟨x.v,rfl,rfl,k⟩
structure D1 where
 F:ByteArray
 C:Int
 An:Int
 Aj:Int
 Bt:(List B4)
 As:(List Int)
 S:Int
 L:Int
 Ak:Int
 K:Int
 Bd:Int
 Aa:(List Nk)
instance:Inhabited D1:=⟨⟨default,default,default,default,default,default,default,default,default,default,default,default⟩⟩
def Cd:BW D1 where
 sz:=12
 ag:=true
 rd:=λS u cs x=>∃b c a:Value,cs=[.string x.F,.int .i64 x.C,.int .i64 x.An,.int .i64 x.Aj,b,c,.int .i64 x.S,.int .i64 x.L,.int .i64 x.Ak,.int .i64 x.K,.int .i64 x.Bd,a]∧x.F.size≤maxLen∧AH x.C∧AH x.An∧AH x.Aj∧Sl S u CY b x.Bt∧Sl S u AJ c x.As∧AH x.S∧AH x.L∧AH x.Ak∧AH x.K∧AH x.Bd∧Sl S u Kq a x.Aa
 len:=λ⟨_,_,_,u,_⟩=>by rw[u];rfl
 one:=by
  rintro S u cs x ⟨b,c,a,rfl,k0,i,j,k,l,m,n,o,p,q,d,g⟩ v t
  simp only[nM,nY,oO] at t
  rcases t with rfl|rfl|rfl|rfl|rfl|rfl|rfl|rfl|rfl|rfl|rfl|rfl<;>first|rfl|exact Sl.one ‹_› |exact(‹_∧_›).2|(obtain ⟨_,_,rfl,_⟩:=Rd.fn ‹_›;rfl)|(obtain ⟨_,_,rfl,_⟩:=Rd.fnr ‹_›;rfl)
 mono:=by
  rintro S S' u h' cs x ⟨b,c,a,rfl,k0,i,j,k,l,m,n,o,p,q,d,g⟩ s e
  exact⟨b,c,a,rfl,k0,i,j,k,l.mono s e,m.mono s e,n,o,p,q,d,g.mono s e⟩
def Cd.ex {S h v}{x:D1}(k:Rd S h Cd v x):∃b c a:Value,v= .agg #[.string x.F,.int .i64 x.C,.int .i64 x.An,.int .i64 x.Aj,b,c,.int .i64 x.S,.int .i64 x.L,.int .i64 x.Ak,.int .i64 x.K,.int .i64 x.Bd,a]∧x.F.size≤maxLen∧AH x.C∧AH x.An∧AH x.Aj∧Sl S h CY b x.Bt∧Sl S h AJ c x.As∧AH x.S∧AH x.L∧AH x.Ak∧AH x.K∧AH x.Bd∧Sl S h Kq a x.Aa:=by obtain⟨_,rfl,b,c,a,rfl,k⟩:=k;exact⟨b,c,a,rfl,k⟩
def Cd.mk {S h}{x:D1}{b c a:Value}(k0:x.F.size≤maxLen) (i:AH x.C) (j:AH x.An) (k:AH x.Aj) (l:Sl S h CY b x.Bt) (m:Sl S h AJ c x.As) (n:AH x.S) (o:AH x.L) (p:AH x.Ak) (q:AH x.K) (d:AH x.Bd) (g:Sl S h Kq a x.Aa):Rd S h Cd (.agg #[.string x.F,.int .i64 x.C,.int .i64 x.An,.int .i64 x.Aj,b,c,.int .i64 x.S,.int .i64 x.L,.int .i64 x.Ak,.int .i64 x.K,.int .i64 x.Bd,a]) x:=⟨_,rfl,b,c,a,rfl,k0,i,j,k,l,m,n,o,p,q,d,g⟩
def D1.f_Name:GM Cd 0 BW.str (·.F):=by
 rintro S s cs x ⟨d,g,a,rfl,k0,i,j,k,l,m,n,o,p,q,b,c⟩
 exact⟨rfl,k0⟩
def D1.f_Kind:GM Cd 1 AJ (·.C):=by
 rintro S s cs x ⟨g,i,a,rfl,k0,b,j,k,l,m,n,o,p,q,c,d⟩
 exact⟨rfl,b⟩
def Iv:GM Cd 2 AJ (·.An):=by
 rintro S s cs x ⟨g,i,a,rfl,k0,j,b,k,l,m,n,o,p,q,c,d⟩
 exact⟨rfl,b⟩
def Sn:GM Cd 3 AJ (·.Aj):=by
 rintro S s cs x ⟨g,i,a,rfl,k0,j,k,b,l,m,n,o,p,q,c,d⟩
 exact⟨rfl,b⟩
def D1.f_Num:GM Cd 6 AJ (·.S):=by
 rintro S s cs x ⟨g,i,a,rfl,k0,j,k,l,m,n,b,o,p,q,c,d⟩
 exact⟨rfl,b⟩
def D1.f_Den:GM Cd 7 AJ (·.L):=by
 rintro S s cs x ⟨g,i,a,rfl,k0,j,k,l,m,n,o,b,p,q,c,d⟩
 exact⟨rfl,b⟩
def D1.f_Rain:GM Cd 11 (BW.sl Kq) (·.Aa):=by
 rintro S s cs x ⟨d,g,b,rfl,k0,i,j,k,l,m,n,o,p,q,c,a⟩
 exact⟨_,rfl,a⟩
structure L5 where
 Bb:(List B4)
 Bc:(List B4)
instance:Inhabited L5:=⟨⟨default,default⟩⟩
def MM:BW L5 where
 sz:=2
 ag:=true
 rd:=λS d cs x=>∃a v1:Value,cs=[a,v1]∧Sl S d CY a x.Bb∧Sl S d CY v1 x.Bc
 len:=λ⟨_,_,d,_⟩=>by rw[d];rfl
 one:=by
  rintro S d cs x ⟨a,v1,rfl,k0,b⟩ v c
  simp only[nM,nY,oO] at c
  rcases c with rfl|rfl<;>first|rfl|exact Sl.one ‹_› |exact(‹_∧_›).2|(obtain ⟨_,_,rfl,_⟩:=Rd.fn ‹_›;rfl)|(obtain ⟨_,_,rfl,_⟩:=Rd.fnr ‹_›;rfl)
 mono:=by
  rintro S S' d h' cs x ⟨a,v1,rfl,k0,b⟩ s e
  exact⟨a,v1,rfl,k0.mono s e,b.mono s e⟩
def MM.ex {S h v}{x:L5}(k:Rd S h MM v x):∃a v1:Value,v= .agg #[a,v1]∧Sl S h CY a x.Bb∧Sl S h CY v1 x.Bc:=by obtain⟨_,rfl,a,v1,rfl,k⟩:=k;exact⟨a,v1,rfl,k⟩
def MM.mk {S h}{x:L5}{a v1:Value}(k0:Sl S h CY a x.Bb) (b:Sl S h CY v1 x.Bc):Rd S h MM (.agg #[a,v1]) x:=⟨_,rfl,a,v1,rfl,k0,b⟩
def N1:GM MM 0 (BW.sl CY) (·.Bb):=by
 rintro S c cs x ⟨a,v1,rfl,k0,b⟩
 exact⟨_,rfl,k0⟩
def N2:GM MM 1 (BW.sl CY) (·.Bc):=by
 rintro S c cs x ⟨b,v1,rfl,k0,a⟩
 exact⟨_,rfl,a⟩
structure BQ where
 F:ByteArray
 C:Int
 I:Int
 D:Int
 Ba:(List B4)
 Af:L5
 T:Int
 Z:Int
 Ao:Int
 Ap:Int
 S:Int
 L:Int
 Ah:Int
 Ai:Int
 Ac:Int
 Ab:Int
 K:Int
instance:Inhabited BQ:=⟨⟨default,default,default,default,default,default,default,default,default,default,default,default,default,default,default,default,default⟩⟩
def Ce:BW BQ where
 sz:=18
 ag:=true
 rd:=λS G cs x=>∃a b c:Value,cs=[.string x.F,.int .i64 x.C,.int .i64 x.I,.int .i64 x.D,a,b,c,.int .i64 x.T,.int .i64 x.Z,.int .i64 x.Ao,.int .i64 x.Ap,.int .i64 x.S,.int .i64 x.L,.int .i64 x.Ah,.int .i64 x.Ai,.int .i64 x.Ac,.int .i64 x.Ab,.int .i64 x.K]∧x.F.size≤maxLen∧AH x.C∧AH x.I∧AH x.D∧Sl S G CY a x.Ba∧Sl S G CY b x.Af.Bb∧Sl S G CY c x.Af.Bc∧AH x.T∧AH x.Z∧AH x.Ao∧AH x.Ap∧AH x.S∧AH x.L∧AH x.Ah∧AH x.Ai∧AH x.Ac∧AH x.Ab∧AH x.K
 len:=λ⟨_,_,_,G,_⟩=>by rw[G];rfl
 one:=by
  rintro S G cs x ⟨a,b,c,rfl,k0,o,p,q,t,u,w,y,z,A,d,g,i,j,k,l,m,n⟩ v B
  simp only[nM,nY,oO] at B
  rcases B with rfl|rfl|rfl|rfl|rfl|rfl|rfl|rfl|rfl|rfl|rfl|rfl|rfl|rfl|rfl|rfl|rfl|rfl<;>first|rfl|exact Sl.one ‹_› |exact(‹_∧_›).2|(obtain ⟨_,_,rfl,_⟩:=Rd.fn ‹_›;rfl)|(obtain ⟨_,_,rfl,_⟩:=Rd.fnr ‹_›;rfl)
 mono:=by
  rintro S S' G h' cs x ⟨a,b,c,rfl,k0,o,p,q,t,u,w,y,z,A,d,g,i,j,k,l,m,n⟩ s e
  exact⟨a,b,c,rfl,k0,o,p,q,t.mono s e,u.mono s e,w.mono s e,y,z,A,d,g,i,j,k,l,m,n⟩
def Ce.ex {S h v}{x:BQ}(k:Rd S h Ce v x):∃a b c:Value,v= .agg #[.string x.F,.int .i64 x.C,.int .i64 x.I,.int .i64 x.D,a,b,c,.int .i64 x.T,.int .i64 x.Z,.int .i64 x.Ao,.int .i64 x.Ap,.int .i64 x.S,.int .i64 x.L,.int .i64 x.Ah,.int .i64 x.Ai,.int .i64 x.Ac,.int .i64 x.Ab,.int .i64 x.K]∧x.F.size≤maxLen∧AH x.C∧AH x.I∧AH x.D∧Sl S h CY a x.Ba∧Sl S h CY b x.Af.Bb∧Sl S h CY c x.Af.Bc∧AH x.T∧AH x.Z∧AH x.Ao∧AH x.Ap∧AH x.S∧AH x.L∧AH x.Ah∧AH x.Ai∧AH x.Ac∧AH x.Ab∧AH x.K:=by obtain⟨_,rfl,a,b,c,rfl,k⟩:=k;exact⟨a,b,c,rfl,k⟩
def Ce.mk {S h}{x:BQ}{a b c:Value}(k0:x.F.size≤maxLen) (o:AH x.C) (p:AH x.I) (q:AH x.D) (s:Sl S h CY a x.Ba) (t:Sl S h CY b x.Af.Bb) (u:Sl S h CY c x.Af.Bc) (v:AH x.T) (w:AH x.Z) (y:AH x.Ao) (d:AH x.Ap) (g:AH x.S) (i:AH x.L) (j:AH x.Ah) (k:AH x.Ai) (l:AH x.Ac) (m:AH x.Ab) (n:AH x.K):Rd S h Ce (.agg #[.string x.F,.int .i64 x.C,.int .i64 x.I,.int .i64 x.D,a,b,c,.int .i64 x.T,.int .i64 x.Z,.int .i64 x.Ao,.int .i64 x.Ap,.int .i64 x.S,.int .i64 x.L,.int .i64 x.Ah,.int .i64 x.Ai,.int .i64 x.Ac,.int .i64 x.Ab,.int .i64 x.K]) x:=⟨_,rfl,a,b,c,rfl,k0,o,p,q,s,t,u,v,w,y,d,g,i,j,k,l,m,n⟩
def BQ.f_Name:GM Ce 0 BW.str (·.F):=by
 rintro S z cs x ⟨l,m,n,rfl,k0,o,p,q,s,t,u,v,w,y,a,b,c,d,g,i,j,k⟩
 exact⟨rfl,k0⟩
def BQ.f_Kind:GM Ce 1 AJ (·.C):=by
 rintro S z cs x ⟨m,n,o,rfl,k0,a,p,q,s,t,u,v,w,y,b,c,d,g,i,j,k,l⟩
 exact⟨rfl,a⟩
def BQ.f_To:GM Ce 3 AJ (·.D):=by
 rintro S z cs x ⟨m,n,o,rfl,k0,p,q,a,s,t,u,v,w,y,b,c,d,g,i,j,k,l⟩
 exact⟨rfl,a⟩
def J7:GM Ce 4 (BW.sl CY) (·.Ba):=by
 rintro S z cs x ⟨m,n,o,rfl,k0,p,q,s,a,t,u,v,w,y,b,c,d,g,i,j,k,l⟩
 exact⟨_,rfl,a⟩
def JM:GM Ce 5 MM (·.Af):=by
 rintro S z cs x ⟨n,o,p,rfl,k0,q,s,t,u,a,b,v,w,y,c,d,g,i,j,k,l,m⟩
 exact⟨_,_,rfl,a,b⟩
def Ep:GM Ce 7 AJ (·.T):=by
 rintro S z cs x ⟨m,n,o,rfl,k0,p,q,s,t,u,v,a,w,y,b,c,d,g,i,j,k,l⟩
 exact⟨rfl,a⟩
def JX:GM Ce 8 AJ (·.Z):=by
 rintro S z cs x ⟨m,n,o,rfl,k0,p,q,s,t,u,v,w,a,y,b,c,d,g,i,j,k,l⟩
 exact⟨rfl,a⟩
def MR:GM Ce 9 AJ (·.Ao):=by
 rintro S z cs x ⟨m,n,o,rfl,k0,p,q,s,t,u,v,w,y,a,b,c,d,g,i,j,k,l⟩
 exact⟨rfl,a⟩
def Lm:GM Ce 10 AJ (·.Ap):=by
 rintro S z cs x ⟨l,m,n,rfl,k0,o,p,q,s,t,u,v,w,y,a,b,c,d,g,i,j,k⟩
 exact⟨rfl,a⟩
def BQ.f_Num:GM Ce 11 AJ (·.S):=by
 rintro S z cs x ⟨l,m,n,rfl,k0,o,p,q,s,t,u,v,w,y,b,a,c,d,g,i,j,k⟩
 exact⟨rfl,a⟩
def BQ.f_Den:GM Ce 12 AJ (·.L):=by
 rintro S z cs x ⟨l,m,n,rfl,k0,o,p,q,s,t,u,v,w,y,b,c,a,d,g,i,j,k⟩
 exact⟨rfl,a⟩
def KU:GM Ce 13 AJ (·.Ah):=by
 rintro S z cs x ⟨l,m,n,rfl,k0,o,p,q,s,t,u,v,w,y,b,c,d,a,g,i,j,k⟩
 exact⟨rfl,a⟩
def KV:GM Ce 14 AJ (·.Ai):=by
 rintro S z cs x ⟨l,m,n,rfl,k0,o,p,q,s,t,u,v,w,y,b,c,d,g,a,i,j,k⟩
 exact⟨rfl,a⟩
def Iw:GM Ce 15 AJ (·.Ac):=by
 rintro S z cs x ⟨l,m,n,rfl,k0,o,p,q,s,t,u,v,w,y,b,c,d,g,i,a,j,k⟩
 exact⟨rfl,a⟩
def Hy:GM Ce 16 AJ (·.Ab):=by
 rintro S z cs x ⟨l,m,n,rfl,k0,o,p,q,s,t,u,v,w,y,b,c,d,g,i,j,a,k⟩
 exact⟨rfl,a⟩
structure MW where
 F:ByteArray
 Ax:Int
 Bm:Int
 Bl:Int
 Bq:Int
 Bn:Int
 Bk:Int
instance:Inhabited MW:=⟨⟨default,default,default,default,default,default,default⟩⟩
@[reducible] def MW.v (x:MW):List Go.Value:=[.string x.F,.int .i64 x.Ax,.int .i64 x.Bm,.int .i64 x.Bl,.int .i64 x.Bq,.int .i64 x.Bn,.int .i64 x.Bk]
def MW.ok (x:MW):Prop:=x.F.size≤maxLen∧AH x.Ax∧AH x.Bm∧AH x.Bl∧AH x.Bq∧AH x.Bn∧AH x.Bk
def HB:BW MW where
 sz:=7
 ag:=true
 rd:=λ_ _ cs x=>cs=x.v∧x.ok
 len:=λ⟨b,_⟩=>by rw[b];rfl
 one:=λ{_ _ _ x} ⟨b,_⟩ v a=>by
  rw[b] at a
  simp only[MW.v,nM,nY,oO] at a
  rcases a with rfl|rfl|rfl|rfl|rfl|rfl|rfl<;>rfl
 mono:=λb _ _=>b
def HB.ex {S a v}{x:MW}(k:Rd S a HB v x):v= .agg #[.string x.F,.int .i64 x.Ax,.int .i64 x.Bm,.int .i64 x.Bl,.int .i64 x.Bq,.int .i64 x.Bn,.int .i64 x.Bk]∧x.ok:=by obtain⟨_,rfl,rfl,a⟩:=k;exact⟨rfl,a⟩
def HB.mk {S h}{x:MW}(k:x.ok):Rd S h HB (.agg #[.string x.F,.int .i64 x.Ax,.int .i64 x.Bm,.int .i64 x.Bl,.int .i64 x.Bq,.int .i64 x.Bn,.int .i64 x.Bk]) x:=⟨x.v,rfl,rfl,k⟩
def MW.f_Name:GM HB 0 BW.str (·.F):=by
 rintro S j cs x ⟨rfl,⟨k0,a,b,c,d,g,i⟩⟩
 exact⟨rfl,k0⟩
structure KJ where
 F:ByteArray
 C:Int
 W:Int
 U:Int
 Bo:Int
instance:Inhabited KJ:=⟨⟨default,default,default,default,default⟩⟩
@[reducible] def KJ.v (x:KJ):List Go.Value:=[.string x.F,.int .i64 x.C,.int .i64 x.W,.int .i64 x.U,.int .i64 x.Bo]
def KJ.ok (x:KJ):Prop:=x.F.size≤maxLen∧AH x.C∧AH x.W∧AH x.U∧AH x.Bo
def FL:BW KJ where
 sz:=5
 ag:=true
 rd:=λ_ _ cs x=>cs=x.v∧x.ok
 len:=λ⟨b,_⟩=>by rw[b];rfl
 one:=λ{_ _ _ x} ⟨b,_⟩ v a=>by
  rw[b] at a
  simp only[KJ.v,nM,nY,oO] at a
  rcases a with rfl|rfl|rfl|rfl|rfl<;>rfl
 mono:=λb _ _=>b
def FL.ex {S a v}{x:KJ}(k:Rd S a FL v x):v= .agg #[.string x.F,.int .i64 x.C,.int .i64 x.W,.int .i64 x.U,.int .i64 x.Bo]∧x.ok:=by obtain⟨_,rfl,rfl,a⟩:=k;exact⟨rfl,a⟩
def FL.mk {S h}{x:KJ}(k:x.ok):Rd S h FL (.agg #[.string x.F,.int .i64 x.C,.int .i64 x.W,.int .i64 x.U,.int .i64 x.Bo]) x:=⟨x.v,rfl,rfl,k⟩
def KJ.f_Name:GM FL 0 BW.str (·.F):=by
 rintro S g cs x ⟨rfl,⟨k0,a,b,c,d⟩⟩
 exact⟨rfl,k0⟩
def KJ.f_Kind:GM FL 1 AJ (·.C):=by
 rintro S g cs x ⟨rfl,⟨k0,a,b,c,d⟩⟩
 exact⟨rfl,a⟩
def KJ.f_Err:GM FL 3 AJ (·.U):=by
 rintro S g cs x ⟨rfl,⟨k0,b,c,a,d⟩⟩
 exact⟨rfl,a⟩
structure MY where
 F:ByteArray
 I:Int
 D:Int
 Br:Int
 Bs:Int
 Bh:Int
 Bj:Int
instance:Inhabited MY:=⟨⟨default,default,default,default,default,default,default⟩⟩
@[reducible] def MY.v (x:MY):List Go.Value:=[.string x.F,.int .i64 x.I,.int .i64 x.D,.int .i64 x.Br,.int .i64 x.Bs,.int .i64 x.Bh,.int .i64 x.Bj]
def MY.ok (x:MY):Prop:=x.F.size≤maxLen∧AH x.I∧AH x.D∧AH x.Br∧AH x.Bs∧AH x.Bh∧AH x.Bj
def G2:BW MY where
 sz:=7
 ag:=true
 rd:=λ_ _ cs x=>cs=x.v∧x.ok
 len:=λ⟨b,_⟩=>by rw[b];rfl
 one:=λ{_ _ _ x} ⟨b,_⟩ v a=>by
  rw[b] at a
  simp only[MY.v,nM,nY,oO] at a
  rcases a with rfl|rfl|rfl|rfl|rfl|rfl|rfl<;>rfl
 mono:=λb _ _=>b
def G2.ex {S a v}{x:MY}(k:Rd S a G2 v x):v= .agg #[.string x.F,.int .i64 x.I,.int .i64 x.D,.int .i64 x.Br,.int .i64 x.Bs,.int .i64 x.Bh,.int .i64 x.Bj]∧x.ok:=by obtain⟨_,rfl,rfl,a⟩:=k;exact⟨rfl,a⟩
def G2.mk {S h}{x:MY}(k:x.ok):Rd S h G2 (.agg #[.string x.F,.int .i64 x.I,.int .i64 x.D,.int .i64 x.Br,.int .i64 x.Bs,.int .i64 x.Bh,.int .i64 x.Bj]) x:=⟨x.v,rfl,rfl,k⟩
def MY.f_Name:GM G2 0 BW.str (·.F):=by
 rintro S j cs x ⟨rfl,⟨k0,a,b,c,d,g,i⟩⟩
 exact⟨rfl,k0⟩
def MY.f_To:GM G2 2 AJ (·.D):=by
 rintro S j cs x ⟨rfl,⟨k0,b,a,c,d,g,i⟩⟩
 exact⟨rfl,a⟩
structure Iu where
 F:ByteArray
 Au:Int
instance:Inhabited Iu:=⟨⟨default,default⟩⟩
@[reducible] def Iu.v (x:Iu):List Go.Value:=[.string x.F,.int .i64 x.Au]
def Iu.ok (x:Iu):Prop:=x.F.size≤maxLen∧AH x.Au
def Dh:BW Iu where
 sz:=2
 ag:=true
 rd:=λ_ _ cs x=>cs=x.v∧x.ok
 len:=λ⟨b,_⟩=>by rw[b];rfl
 one:=λ{_ _ _ x} ⟨b,_⟩ v a=>by
  rw[b] at a
  simp only[Iu.v,nM,nY,oO] at a
  rcases a with rfl|rfl<;>rfl
 mono:=λb _ _=>b
def Dh.ex {S a v}{x:Iu}(k:Rd S a Dh v x):v= .agg #[.string x.F,.int .i64 x.Au]∧x.ok:=by obtain⟨_,rfl,rfl,a⟩:=k;exact⟨rfl,a⟩
def Dh.mk {S h}{x:Iu}(k:x.ok):Rd S h Dh (.agg #[.string x.F,.int .i64 x.Au]) x:=⟨x.v,rfl,rfl,k⟩
def Iu.f_Name:GM Dh 0 BW.str (·.F):=by
 rintro S b cs x ⟨rfl,⟨k0,a⟩⟩
 exact⟨rfl,k0⟩
def Iu.f_Room:GM Dh 1 AJ (·.Au):=by
 rintro S b cs x ⟨rfl,⟨k0,a⟩⟩
 exact⟨rfl,a⟩
structure AU where
 F:ByteArray
 H:(List ByteArray)
 R:Int
 A:(List D1)
 E:(List BQ)
 Ag:(List MW)
 Aq:(List KJ)
 At:(List MY)
 Av:(List Iu)
 Au:(List Int)
 U:Int
instance:Inhabited AU:=⟨⟨default,default,default,default,default,default,default,default,default,default,default⟩⟩
def CZ:BW AU where
 sz:=11
 ag:=true
 rd:=λS z cs x=>∃v1 a b c d g i j:Value,cs=[.string x.F,v1,.int .i64 x.R,a,b,c,d,g,i,j,.int .i64 x.U]∧x.F.size≤maxLen∧Sl S z BW.str v1 x.H∧AH x.R∧Sl S z Cd a x.A∧Sl S z Ce b x.E∧Sl S z HB c x.Ag∧Sl S z FL d x.Aq∧Sl S z G2 g x.At∧Sl S z Dh i x.Av∧Sl S z AJ j x.Au∧AH x.U
 len:=λ⟨_,_,_,_,_,_,_,_,z,_⟩=>by rw[z];rfl
 one:=by
  rintro S z cs x ⟨v1,a,b,c,d,g,i,j,rfl,k0,l,m,n,o,p,q,t,u,w,k⟩ v y
  simp only[nM,nY,oO] at y
  rcases y with rfl|rfl|rfl|rfl|rfl|rfl|rfl|rfl|rfl|rfl|rfl<;>first|rfl|exact Sl.one ‹_› |exact(‹_∧_›).2|(obtain ⟨_,_,rfl,_⟩:=Rd.fn ‹_›;rfl)|(obtain ⟨_,_,rfl,_⟩:=Rd.fnr ‹_›;rfl)
 mono:=by
  rintro S S' z h' cs x ⟨v1,a,b,c,d,g,i,j,rfl,k0,l,m,n,o,p,q,t,u,w,k⟩ s e
  exact⟨v1,a,b,c,d,g,i,j,rfl,k0,l.mono s e,m,n.mono s e,o.mono s e,p.mono s e,q.mono s e,t.mono s e,u.mono s e,w.mono s e,k⟩
def CZ.ex {S h v}{x:AU}(k:Rd S h CZ v x):∃v1 a b c d g i j:Value,v= .agg #[.string x.F,v1,.int .i64 x.R,a,b,c,d,g,i,j,.int .i64 x.U]∧x.F.size≤maxLen∧Sl S h BW.str v1 x.H∧AH x.R∧Sl S h Cd a x.A∧Sl S h Ce b x.E∧Sl S h HB c x.Ag∧Sl S h FL d x.Aq∧Sl S h G2 g x.At∧Sl S h Dh i x.Av∧Sl S h AJ j x.Au∧AH x.U:=by obtain⟨_,rfl,v1,a,b,c,d,g,i,j,rfl,k⟩:=k;exact⟨v1,a,b,c,d,g,i,j,rfl,k⟩
def CZ.mk {S h}{x:AU}{v1 a b c d g i j:Value}(k0:x.F.size≤maxLen) (l:Sl S h BW.str v1 x.H) (m:AH x.R) (n:Sl S h Cd a x.A) (o:Sl S h Ce b x.E) (p:Sl S h HB c x.Ag) (q:Sl S h FL d x.Aq) (s:Sl S h G2 g x.At) (t:Sl S h Dh i x.Av) (u:Sl S h AJ j x.Au) (k:AH x.U):Rd S h CZ (.agg #[.string x.F,v1,.int .i64 x.R,a,b,c,d,g,i,j,.int .i64 x.U]) x:=⟨_,rfl,v1,a,b,c,d,g,i,j,rfl,k0,l,m,n,o,p,q,s,t,u,k⟩
def AU.f_Name:GM CZ 0 BW.str (·.F):=by
 rintro S v cs x ⟨v1,b,c,d,g,i,j,k,rfl,k0,l,m,n,o,p,q,s,t,u,a⟩
 exact⟨rfl,k0⟩
def E6:GM CZ 1 (BW.sl BW.str) (·.H):=by
 rintro S v cs x ⟨v1,c,d,g,i,j,k,l,rfl,k0,a,m,n,o,p,q,s,t,u,b⟩
 exact⟨_,rfl,a⟩
def LR:GM CZ 2 AJ (·.R):=by
 rintro S v cs x ⟨v1,c,d,g,i,j,k,l,rfl,k0,m,a,n,o,p,q,s,t,u,b⟩
 exact⟨rfl,a⟩
def B6:GM CZ 3 (BW.sl Cd) (·.A):=by
 rintro S v cs x ⟨v1,c,d,g,i,j,k,l,rfl,k0,m,n,a,o,p,q,s,t,u,b⟩
 exact⟨_,rfl,a⟩
def Fo:GM CZ 4 (BW.sl Ce) (·.E):=by
 rintro S v cs x ⟨v1,c,d,g,i,j,k,l,rfl,k0,m,n,o,a,p,q,s,t,u,b⟩
 exact⟨_,rfl,a⟩
def JH:GM CZ 5 (BW.sl HB) (·.Ag):=by
 rintro S v cs x ⟨v1,c,d,g,i,j,k,l,rfl,k0,m,n,o,p,a,q,s,t,u,b⟩
 exact⟨_,rfl,a⟩
def Kr:GM CZ 6 (BW.sl FL) (·.Aq):=by
 rintro S v cs x ⟨v1,c,d,g,i,j,k,l,rfl,k0,m,n,o,p,q,a,s,t,u,b⟩
 exact⟨_,rfl,a⟩
def LQ:GM CZ 7 (BW.sl G2) (·.At):=by
 rintro S v cs x ⟨v1,c,d,g,i,j,k,l,rfl,k0,m,n,o,p,q,s,a,t,u,b⟩
 exact⟨_,rfl,a⟩
def I3:GM CZ 8 (BW.sl Dh) (·.Av):=by
 rintro S v cs x ⟨v1,c,d,g,i,j,k,l,rfl,k0,m,n,o,p,q,s,t,a,u,b⟩
 exact⟨_,rfl,a⟩
def AU.f_Room:GM CZ 9 (BW.sl AJ) (·.Au):=by
 rintro S v cs x ⟨v1,c,d,g,i,j,k,l,rfl,k0,m,n,o,p,q,s,t,u,a,b⟩
 exact⟨_,rfl,a⟩
def AU.f_Err:GM CZ 10 AJ (·.U):=by
 rintro S v cs x ⟨v1,b,c,d,g,i,j,k,rfl,k0,l,m,n,o,p,q,s,t,u,a⟩
 exact⟨rfl,a⟩
structure BE where
 Ad:Int
 D:Int
 X:(List Int)
instance:Inhabited BE:=⟨⟨default,default,default⟩⟩
def BI:BW BE where
 sz:=3
 ag:=true
 rd:=λS g cs x=>∃a:Value,cs=[.int .i64 x.Ad,.int .i64 x.D,a]∧AH x.Ad∧AH x.D∧Sl S g AJ a x.X
 len:=λ⟨_,g,_⟩=>by rw[g];rfl
 one:=by
  rintro S g cs x ⟨a,rfl,k0,b,c⟩ v d
  simp only[nM,nY,oO] at d
  rcases d with rfl|rfl|rfl<;>first|rfl|exact Sl.one ‹_› |exact(‹_∧_›).2|(obtain ⟨_,_,rfl,_⟩:=Rd.fn ‹_›;rfl)|(obtain ⟨_,_,rfl,_⟩:=Rd.fnr ‹_›;rfl)
 mono:=by
  rintro S S' g h' cs x ⟨a,rfl,k0,b,c⟩ s e
  exact⟨a,rfl,k0,b,c.mono s e⟩
def BI.ex {S h v}{x:BE}(k:Rd S h BI v x):∃a:Value,v= .agg #[.int .i64 x.Ad,.int .i64 x.D,a]∧AH x.Ad∧AH x.D∧Sl S h AJ a x.X:=by obtain⟨_,rfl,a,rfl,k⟩:=k;exact⟨a,rfl,k⟩
def BI.mk {S h}{x:BE}{a:Value}(k0:AH x.Ad) (b:AH x.D) (c:Sl S h AJ a x.X):Rd S h BI (.agg #[.int .i64 x.Ad,.int .i64 x.D,a]) x:=⟨_,rfl,a,rfl,k0,b,c⟩
def Qd:GM BI 0 AJ (·.Ad):=by
 rintro S d cs x ⟨a,rfl,k0,b,c⟩
 exact⟨rfl,k0⟩
def BE.f_To:GM BI 1 AJ (·.D):=by
 rintro S d cs x ⟨b,rfl,k0,a,c⟩
 exact⟨rfl,a⟩
def BE.f_Part:GM BI 2 (BW.sl AJ) (·.X):=by
 rintro S d cs x ⟨b,rfl,k0,c,a⟩
 exact⟨_,rfl,a⟩
structure BH where
 V:Int
 W:Int
 Aw:Bool
 Al:Bool
instance:Inhabited BH:=⟨⟨default,default,default,default⟩⟩
@[reducible] def BH.v (x:BH):List Go.Value:=[.int .i64 x.V,.int .i64 x.W,.bool x.Aw,.bool x.Al]
def BH.ok (x:BH):Prop:=AH x.V∧AH x.W
def Bu:BW BH where
 sz:=4
 ag:=true
 rd:=λ_ _ cs x=>cs=x.v∧x.ok
 len:=λ⟨b,_⟩=>by rw[b];rfl
 one:=λ{_ _ _ x} ⟨b,_⟩ v a=>by
  rw[b] at a
  simp only[BH.v,nM,nY,oO] at a
  rcases a with rfl|rfl|rfl|rfl<;>rfl
 mono:=λb _ _=>b
def Bu.ex {S a v}{x:BH}(k:Rd S a Bu v x):v= .agg #[.int .i64 x.V,.int .i64 x.W,.bool x.Aw,.bool x.Al]∧x.ok:=by obtain⟨_,rfl,rfl,a⟩:=k;exact⟨rfl,a⟩
def Bu.mk {S h}{x:BH}(k:x.ok):Rd S h Bu (.agg #[.int .i64 x.V,.int .i64 x.W,.bool x.Aw,.bool x.Al]) x:=⟨x.v,rfl,rfl,k⟩
def T4:GM Bu 0 AJ (·.V):=by
 rintro S b cs x ⟨rfl,⟨k0,a⟩⟩
 exact⟨rfl,k0⟩
def So:GM Bu 3 BW.bool (·.Al):=by
 rintro S b cs x ⟨rfl,⟨k0,a⟩⟩
 exact rfl
structure BD where
 B:Int
 G:(List (List Int))
 M:(List Int)
 J:(List BE)
 Q:(List BH)
 O:(List Int)
 P:(List Int)
instance:Inhabited BD:=⟨⟨default,default,default,default,default,default,default⟩⟩
def C3:BW BD where
 sz:=7
 ag:=true
 rd:=λS p cs x=>∃v1 a b c d g:Value,cs=[.int .i64 x.B,v1,a,b,c,d,g]∧AH x.B∧Sl S p (BW.sl AJ) v1 x.G∧Sl S p AJ a x.M∧Sl S p BI b x.J∧Sl S p Bu c x.Q∧Sl S p AJ d x.O∧Sl S p AJ g x.P
 len:=λ⟨_,_,_,_,_,_,p,_⟩=>by rw[p];rfl
 one:=by
  rintro S p cs x ⟨v1,a,b,c,d,g,rfl,k0,i,j,k,l,m,n⟩ v o
  simp only[nM,nY,oO] at o
  rcases o with rfl|rfl|rfl|rfl|rfl|rfl|rfl<;>first|rfl|exact Sl.one ‹_› |exact(‹_∧_›).2|(obtain ⟨_,_,rfl,_⟩:=Rd.fn ‹_›;rfl)|(obtain ⟨_,_,rfl,_⟩:=Rd.fnr ‹_›;rfl)
 mono:=by
  rintro S S' p h' cs x ⟨v1,a,b,c,d,g,rfl,k0,i,j,k,l,m,n⟩ s e
  exact⟨v1,a,b,c,d,g,rfl,k0,i.mono s e,j.mono s e,k.mono s e,l.mono s e,m.mono s e,n.mono s e⟩
def C3.ex {S h v}{x:BD}(k:Rd S h C3 v x):∃v1 a b c d g:Value,v= .agg #[.int .i64 x.B,v1,a,b,c,d,g]∧AH x.B∧Sl S h (BW.sl AJ) v1 x.G∧Sl S h AJ a x.M∧Sl S h BI b x.J∧Sl S h Bu c x.Q∧Sl S h AJ d x.O∧Sl S h AJ g x.P:=by obtain⟨_,rfl,v1,a,b,c,d,g,rfl,k⟩:=k;exact⟨v1,a,b,c,d,g,rfl,k⟩
def C3.mk {S h}{x:BD}{v1 a b c d g:Value}(k0:AH x.B) (i:Sl S h (BW.sl AJ) v1 x.G) (j:Sl S h AJ a x.M) (k:Sl S h BI b x.J) (l:Sl S h Bu c x.Q) (m:Sl S h AJ d x.O) (n:Sl S h AJ g x.P):Rd S h C3 (.agg #[.int .i64 x.B,v1,a,b,c,d,g]) x:=⟨_,rfl,v1,a,b,c,d,g,rfl,k0,i,j,k,l,m,n⟩
def BD.f_Hour:GM C3 0 AJ (·.B):=by
 rintro S o cs x ⟨v1,a,b,c,d,g,rfl,k0,i,j,k,l,m,n⟩
 exact⟨rfl,k0⟩
def J5:GM C3 1 (BW.sl (BW.sl AJ)) (·.G):=by
 rintro S o cs x ⟨v1,b,c,d,g,i,rfl,k0,a,j,k,l,m,n⟩
 exact⟨_,rfl,a⟩
def J4:GM C3 2 (BW.sl AJ) (·.M):=by
 rintro S o cs x ⟨v1,b,c,d,g,i,rfl,k0,j,a,k,l,m,n⟩
 exact⟨_,rfl,a⟩
def JG:GM C3 3 (BW.sl BI) (·.J):=by
 rintro S o cs x ⟨v1,b,c,d,g,i,rfl,k0,j,k,a,l,m,n⟩
 exact⟨_,rfl,a⟩
def J6:GM C3 4 (BW.sl Bu) (·.Q):=by
 rintro S o cs x ⟨v1,b,c,d,g,i,rfl,k0,j,k,l,a,m,n⟩
 exact⟨_,rfl,a⟩
def Kj:GM C3 5 (BW.sl AJ) (·.O):=by
 rintro S o cs x ⟨v1,b,c,d,g,i,rfl,k0,j,k,l,m,a,n⟩
 exact⟨_,rfl,a⟩
def K5:GM C3 6 (BW.sl AJ) (·.P):=by
 rintro S o cs x ⟨v1,b,c,d,g,i,rfl,k0,j,k,l,m,n,a⟩
 exact⟨_,rfl,a⟩
structure AQ where
 group:ByteArray
 name:ByteArray
instance:Inhabited AQ:=⟨⟨default,default⟩⟩
@[reducible] def AQ.v (x:AQ):List Go.Value:=[.string x.group,.string x.name]
def AQ.ok (x:AQ):Prop:=x.group.size≤maxLen∧x.name.size≤maxLen
def K4:BW AQ where
 sz:=2
 ag:=true
 rd:=λ_ _ cs x=>cs=x.v∧x.ok
 len:=λ⟨b,_⟩=>by rw[b];rfl
 one:=λ{_ _ _ x} ⟨b,_⟩ v a=>by
  rw[b] at a
  simp only[AQ.v,nM,nY,oO] at a
  rcases a with rfl|rfl<;>rfl
 mono:=λb _ _=>b
def K4.ex {S a v}{x:AQ}(k:Rd S a K4 v x):v= .agg #[.string x.group,.string x.name]∧x.ok:=by obtain⟨_,rfl,rfl,a⟩:=k;exact⟨rfl,a⟩
def K4.mk {S h}{x:AQ}(k:x.ok):Rd S h K4 (.agg #[.string x.group,.string x.name]) x:=⟨x.v,rfl,rfl,k⟩
structure KK where
 C:Int
 Ay:Int
instance:Inhabited KK:=⟨⟨default,default⟩⟩
@[reducible] def KK.v (x:KK):List Go.Value:=[.int .i64 x.C,.int .i64 x.Ay]
def KK.ok (x:KK):Prop:=AH x.C∧AH x.Ay
def GL:BW KK where
 sz:=2
 ag:=true
 rd:=λ_ _ cs x=>cs=x.v∧x.ok
 len:=λ⟨b,_⟩=>by rw[b];rfl
 one:=λ{_ _ _ x} ⟨b,_⟩ v a=>by
  rw[b] at a
  simp only[KK.v,nM,nY,oO] at a
  rcases a with rfl|rfl<;>rfl
 mono:=λb _ _=>b
def GL.ex {S a v}{x:KK}(k:Rd S a GL v x):v= .agg #[.int .i64 x.C,.int .i64 x.Ay]∧x.ok:=by obtain⟨_,rfl,rfl,a⟩:=k;exact⟨rfl,a⟩
def GL.mk {S h}{x:KK}(k:x.ok):Rd S h GL (.agg #[.int .i64 x.C,.int .i64 x.Ay]) x:=⟨x.v,rfl,rfl,k⟩
def KK.f_Kind:GM GL 0 AJ (·.C):=by
 rintro S b cs x ⟨rfl,⟨k0,a⟩⟩
 exact⟨rfl,k0⟩
structure PY where
 Ay:Int
 W:Int
instance:Inhabited PY:=⟨⟨default,default⟩⟩
@[reducible] def PY.v (x:PY):List Go.Value:=[.int .i64 x.Ay,.int .i64 x.W]
def PY.ok (x:PY):Prop:=AH x.Ay∧AH x.W
def JE:BW PY where
 sz:=2
 ag:=true
 rd:=λ_ _ cs x=>cs=x.v∧x.ok
 len:=λ⟨b,_⟩=>by rw[b];rfl
 one:=λ{_ _ _ x} ⟨b,_⟩ v a=>by
  rw[b] at a
  simp only[PY.v,nM,nY,oO] at a
  rcases a with rfl|rfl<;>rfl
 mono:=λb _ _=>b
def JE.ex {S a v}{x:PY}(k:Rd S a JE v x):v= .agg #[.int .i64 x.Ay,.int .i64 x.W]∧x.ok:=by obtain⟨_,rfl,rfl,a⟩:=k;exact⟨rfl,a⟩
def JE.mk {S h}{x:PY}(k:x.ok):Rd S h JE (.agg #[.int .i64 x.Ay,.int .i64 x.W]) x:=⟨x.v,rfl,rfl,k⟩
structure Gh where
 Ax:Int
 Bi:Int
 Be:Int
 D:Int
instance:Inhabited Gh:=⟨⟨default,default,default,default⟩⟩
@[reducible] def Gh.v (x:Gh):List Go.Value:=[.int .i64 x.Ax,.int .i64 x.Bi,.int .i64 x.Be,.int .i64 x.D]
def Gh.ok (x:Gh):Prop:=AH x.Ax∧AH x.Bi∧AH x.Be∧AH x.D
def GV:BW Gh where
 sz:=4
 ag:=true
 rd:=λ_ _ cs x=>cs=x.v∧x.ok
 len:=λ⟨b,_⟩=>by rw[b];rfl
 one:=λ{_ _ _ x} ⟨b,_⟩ v a=>by
  rw[b] at a
  simp only[Gh.v,nM,nY,oO] at a
  rcases a with rfl|rfl|rfl|rfl<;>rfl
 mono:=λb _ _=>b
def GV.ex {S a v}{x:Gh}(k:Rd S a GV v x):v= .agg #[.int .i64 x.Ax,.int .i64 x.Bi,.int .i64 x.Be,.int .i64 x.D]∧x.ok:=by obtain⟨_,rfl,rfl,a⟩:=k;exact⟨rfl,a⟩
def GV.mk {S h}{x:Gh}(k:x.ok):Rd S h GV (.agg #[.int .i64 x.Ax,.int .i64 x.Bi,.int .i64 x.Be,.int .i64 x.D]) x:=⟨x.v,rfl,rfl,k⟩
def Q0:GM GV 1 AJ (·.Bi):=by
 rintro S d cs x ⟨rfl,⟨k0,a,b,c⟩⟩
 exact⟨rfl,a⟩
def Gh.f_Litres:GM GV 2 AJ (·.Be):=by
 rintro S d cs x ⟨rfl,⟨k0,b,a,c⟩⟩
 exact⟨rfl,a⟩
def Gh.f_To:GM GV 3 AJ (·.D):=by
 rintro S d cs x ⟨rfl,⟨k0,b,c,a⟩⟩
 exact⟨rfl,a⟩
structure MX where
 Ax:Int
 I:Int
 D:Int
 Be:Int
instance:Inhabited MX:=⟨⟨default,default,default,default⟩⟩
@[reducible] def MX.v (x:MX):List Go.Value:=[.int .i64 x.Ax,.int .i64 x.I,.int .i64 x.D,.int .i64 x.Be]
def MX.ok (x:MX):Prop:=AH x.Ax∧AH x.I∧AH x.D∧AH x.Be
def HC:BW MX where
 sz:=4
 ag:=true
 rd:=λ_ _ cs x=>cs=x.v∧x.ok
 len:=λ⟨b,_⟩=>by rw[b];rfl
 one:=λ{_ _ _ x} ⟨b,_⟩ v a=>by
  rw[b] at a
  simp only[MX.v,nM,nY,oO] at a
  rcases a with rfl|rfl|rfl|rfl<;>rfl
 mono:=λb _ _=>b
def HC.ex {S a v}{x:MX}(k:Rd S a HC v x):v= .agg #[.int .i64 x.Ax,.int .i64 x.I,.int .i64 x.D,.int .i64 x.Be]∧x.ok:=by obtain⟨_,rfl,rfl,a⟩:=k;exact⟨rfl,a⟩
def HC.mk {S h}{x:MX}(k:x.ok):Rd S h HC (.agg #[.int .i64 x.Ax,.int .i64 x.I,.int .i64 x.D,.int .i64 x.Be]) x:=⟨x.v,rfl,rfl,k⟩
def MX.f_To:GM HC 2 AJ (·.D):=by
 rintro S d cs x ⟨rfl,⟨k0,b,a,c⟩⟩
 exact⟨rfl,a⟩
def MX.f_Litres:GM HC 3 AJ (·.Be):=by
 rintro S d cs x ⟨rfl,⟨k0,b,c,a⟩⟩
 exact⟨rfl,a⟩
structure Eb where
 Aa:(List Int)
 Am:(List KK)
 Ar:(List PY)
 Ae:(List Gh)
 Az:(List MX)
instance:Inhabited Eb:=⟨⟨default,default,default,default,default⟩⟩
def Gf:BW Eb where
 sz:=5
 ag:=true
 rd:=λS m cs x=>∃a v1 b c d:Value,cs=[a,v1,b,c,d]∧Sl S m AJ a x.Aa∧Sl S m GL v1 x.Am∧Sl S m JE b x.Ar∧Sl S m GV c x.Ae∧Sl S m HC d x.Az
 len:=λ⟨_,_,_,_,_,m,_⟩=>by rw[m];rfl
 one:=by
  rintro S m cs x ⟨a,v1,b,c,d,rfl,k0,g,i,j,k⟩ v l
  simp only[nM,nY,oO] at l
  rcases l with rfl|rfl|rfl|rfl|rfl<;>first|rfl|exact Sl.one ‹_› |exact(‹_∧_›).2|(obtain ⟨_,_,rfl,_⟩:=Rd.fn ‹_›;rfl)|(obtain ⟨_,_,rfl,_⟩:=Rd.fnr ‹_›;rfl)
 mono:=by
  rintro S S' m h' cs x ⟨a,v1,b,c,d,rfl,k0,g,i,j,k⟩ s e
  exact⟨a,v1,b,c,d,rfl,k0.mono s e,g.mono s e,i.mono s e,j.mono s e,k.mono s e⟩
def Gf.ex {S h v}{x:Eb}(k:Rd S h Gf v x):∃a v1 b c d:Value,v= .agg #[a,v1,b,c,d]∧Sl S h AJ a x.Aa∧Sl S h GL v1 x.Am∧Sl S h JE b x.Ar∧Sl S h GV c x.Ae∧Sl S h HC d x.Az:=by obtain⟨_,rfl,a,v1,b,c,d,rfl,k⟩:=k;exact⟨a,v1,b,c,d,rfl,k⟩
def Gf.mk {S h}{x:Eb}{a v1 b c d:Value}(k0:Sl S h AJ a x.Aa) (g:Sl S h GL v1 x.Am) (i:Sl S h JE b x.Ar) (j:Sl S h GV c x.Ae) (k:Sl S h HC d x.Az):Rd S h Gf (.agg #[a,v1,b,c,d]) x:=⟨_,rfl,a,v1,b,c,d,rfl,k0,g,i,j,k⟩
def Eb.f_Rain:GM Gf 0 (BW.sl AJ) (·.Aa):=by
 rintro S l cs x ⟨a,v1,b,c,d,rfl,k0,g,i,j,k⟩
 exact⟨_,rfl,k0⟩
def PW:GM Gf 1 (BW.sl GL) (·.Am):=by
 rintro S l cs x ⟨b,v1,c,d,g,rfl,k0,a,i,j,k⟩
 exact⟨_,rfl,a⟩
def Q3:GM Gf 2 (BW.sl JE) (·.Ar):=by
 rintro S l cs x ⟨b,v1,c,d,g,rfl,k0,i,a,j,k⟩
 exact⟨_,rfl,a⟩
def Qe:GM Gf 3 (BW.sl GV) (·.Ae):=by
 rintro S l cs x ⟨b,v1,c,d,g,rfl,k0,i,j,a,k⟩
 exact⟨_,rfl,a⟩
def Qf:GM Gf 4 (BW.sl HC) (·.Az):=by
 rintro S l cs x ⟨b,v1,c,d,g,rfl,k0,i,j,k,a⟩
 exact⟨_,rfl,a⟩
structure BA where
 B:Int
 I:Int
 D:Int
 Bf:Int
 X:(List Int)
instance:Inhabited BA:=⟨⟨default,default,default,default,default⟩⟩
def CF:BW BA where
 sz:=5
 ag:=true
 rd:=λS j cs x=>∃a:Value,cs=[.int .i64 x.B,.int .i64 x.I,.int .i64 x.D,.int .i64 x.Bf,a]∧AH x.B∧AH x.I∧AH x.D∧AH x.Bf∧Sl S j AJ a x.X
 len:=λ⟨_,j,_⟩=>by rw[j];rfl
 one:=by
  rintro S j cs x ⟨a,rfl,k0,b,c,d,g⟩ v i
  simp only[nM,nY,oO] at i
  rcases i with rfl|rfl|rfl|rfl|rfl<;>first|rfl|exact Sl.one ‹_› |exact(‹_∧_›).2|(obtain ⟨_,_,rfl,_⟩:=Rd.fn ‹_›;rfl)|(obtain ⟨_,_,rfl,_⟩:=Rd.fnr ‹_›;rfl)
 mono:=by
  rintro S S' j h' cs x ⟨a,rfl,k0,b,c,d,g⟩ s e
  exact⟨a,rfl,k0,b,c,d,g.mono s e⟩
def CF.ex {S h v}{x:BA}(k:Rd S h CF v x):∃a:Value,v= .agg #[.int .i64 x.B,.int .i64 x.I,.int .i64 x.D,.int .i64 x.Bf,a]∧AH x.B∧AH x.I∧AH x.D∧AH x.Bf∧Sl S h AJ a x.X:=by obtain⟨_,rfl,a,rfl,k⟩:=k;exact⟨a,rfl,k⟩
def CF.mk {S h}{x:BA}{a:Value}(k0:AH x.B) (b:AH x.I) (c:AH x.D) (d:AH x.Bf) (g:Sl S h AJ a x.X):Rd S h CF (.agg #[.int .i64 x.B,.int .i64 x.I,.int .i64 x.D,.int .i64 x.Bf,a]) x:=⟨_,rfl,a,rfl,k0,b,c,d,g⟩
def BA.f_Hour:GM CF 0 AJ (·.B):=by
 rintro S i cs x ⟨a,rfl,k0,b,c,d,g⟩
 exact⟨rfl,k0⟩
def BA.f_To:GM CF 2 AJ (·.D):=by
 rintro S i cs x ⟨b,rfl,k0,c,a,d,g⟩
 exact⟨rfl,a⟩
def Gd:GM CF 3 AJ (·.Bf):=by
 rintro S i cs x ⟨b,rfl,k0,c,d,a,g⟩
 exact⟨rfl,a⟩
def BA.f_Part:GM CF 4 (BW.sl AJ) (·.X):=by
 rintro S i cs x ⟨b,rfl,k0,c,d,g,a⟩
 exact⟨_,rfl,a⟩
structure A4 where
 b:AU
 in_:Eb
 s:BD
 moves:(List BA)
 peaks:(List Int)
 sent:(List BE)
instance:Inhabited A4:=⟨⟨default,default,default,default,default,default⟩⟩
def Le:BW A4 where
 sz:=26
 ag:=true
 rd:=λS h cs x=>∃v1 u w y z C D I a c d g i j k l m n o p q t:Value,cs=[.string x.b.F,v1,.int .i64 x.b.R,u,w,y,z,C,D,I,.int .i64 x.b.U,a,c,d,g,i,.int .i64 x.s.B,j,k,l,m,n,o,p,q,t]∧x.b.F.size≤maxLen∧Sl S h BW.str v1 x.b.H∧AH x.b.R∧Sl S h Cd u x.b.A∧Sl S h Ce w x.b.E∧Sl S h HB y x.b.Ag∧Sl S h FL z x.b.Aq∧Sl S h G2 C x.b.At∧Sl S h Dh D x.b.Av∧Sl S h AJ I x.b.Au∧AH x.b.U∧Sl S h AJ a x.in_.Aa∧Sl S h GL c x.in_.Am∧Sl S h JE d x.in_.Ar∧Sl S h GV g x.in_.Ae∧Sl S h HC i x.in_.Az∧AH x.s.B∧Sl S h (BW.sl AJ) j x.s.G∧Sl S h AJ k x.s.M∧Sl S h BI l x.s.J∧Sl S h Bu m x.s.Q∧Sl S h AJ n x.s.O∧Sl S h AJ o x.s.P∧Sl S h CF p x.moves∧Sl S h AJ q x.peaks∧Sl S h BI t x.sent
 len:=λ⟨_,_,_,_,_,_,_,_,_,_,_,_,_,_,_,_,_,_,_,_,_,_,h,_⟩=>by rw[h];rfl
 one:=by
  rintro S h cs x ⟨v1,u,w,y,z,C,D,I,a,c,d,g,i,j,k,l,m,n,o,p,q,t,rfl,k0,k1,k2,k3,k4,k5,k6,k7,k8,k9,K,V,W,X,Y,Z,aa,ab,ac,ad,ae,af,ah,ai,aj,ak⟩ v hv
  simp only[nM,nY,oO] at hv
  rcases hv with rfl|rfl|rfl|rfl|rfl|rfl|rfl|rfl|rfl|rfl|rfl|rfl|rfl|rfl|rfl|rfl|rfl|rfl|rfl|rfl|rfl|rfl|rfl|rfl|rfl|rfl<;>first|rfl|exact Sl.one ‹_› |exact(‹_∧_›).2|(obtain ⟨_,_,rfl,_⟩:=Rd.fn ‹_›;rfl)|(obtain ⟨_,_,rfl,_⟩:=Rd.fnr ‹_›;rfl)
 mono:=by
  rintro S S' h h' cs x ⟨v1,u,w,y,z,C,D,I,a,c,d,g,i,j,k,l,m,n,o,p,q,t,rfl,k0,k1,k2,k3,k4,k5,k6,k7,k8,k9,K,V,W,X,Y,Z,aa,ab,ac,ad,ae,af,ah,ai,aj,ak⟩ s e
  exact⟨v1,u,w,y,z,C,D,I,a,c,d,g,i,j,k,l,m,n,o,p,q,t,rfl,k0,k1.mono s e,k2,k3.mono s e,k4.mono s e,k5.mono s e,k6.mono s e,k7.mono s e,k8.mono s e,k9.mono s e,K,V.mono s e,W.mono s e,X.mono s e,Y.mono s e,Z.mono s e,aa,ab.mono s e,ac.mono s e,ad.mono s e,ae.mono s e,af.mono s e,ah.mono s e,ai.mono s e,aj.mono s e,ak.mono s e⟩
def Le.ex {S h v}{x:A4}(k:Rd S h Le v x):∃v1 w y z C D I K a c d g i j l m n o p q t u:Value,v= .agg #[.string x.b.F,v1,.int .i64 x.b.R,w,y,z,C,D,I,K,.int .i64 x.b.U,a,c,d,g,i,.int .i64 x.s.B,j,l,m,n,o,p,q,t,u]∧x.b.F.size≤maxLen∧Sl S h BW.str v1 x.b.H∧AH x.b.R∧Sl S h Cd w x.b.A∧Sl S h Ce y x.b.E∧Sl S h HB z x.b.Ag∧Sl S h FL C x.b.Aq∧Sl S h G2 D x.b.At∧Sl S h Dh I x.b.Av∧Sl S h AJ K x.b.Au∧AH x.b.U∧Sl S h AJ a x.in_.Aa∧Sl S h GL c x.in_.Am∧Sl S h JE d x.in_.Ar∧Sl S h GV g x.in_.Ae∧Sl S h HC i x.in_.Az∧AH x.s.B∧Sl S h (BW.sl AJ) j x.s.G∧Sl S h AJ l x.s.M∧Sl S h BI m x.s.J∧Sl S h Bu n x.s.Q∧Sl S h AJ o x.s.O∧Sl S h AJ p x.s.P∧Sl S h CF q x.moves∧Sl S h AJ t x.peaks∧Sl S h BI u x.sent:=by obtain⟨_,rfl,v1,w,y,z,C,D,I,K,a,c,d,g,i,j,l,m,n,o,p,q,t,u,rfl,k⟩:=k;exact⟨v1,w,y,z,C,D,I,K,a,c,d,g,i,j,l,m,n,o,p,q,t,u,rfl,k⟩
def Le.mk {S h}{x:A4}{v1 u v w y z C D a c d g i j k l m n o p q t:Value}(k0:x.b.F.size≤maxLen) (k1:Sl S h BW.str v1 x.b.H) (k2:AH x.b.R) (k3:Sl S h Cd u x.b.A) (k4:Sl S h Ce v x.b.E) (k5:Sl S h HB w x.b.Ag) (k6:Sl S h FL y x.b.Aq) (k7:Sl S h G2 z x.b.At) (k8:Sl S h Dh C x.b.Av) (k9:Sl S h AJ D x.b.Au) (I:AH x.b.U) (K:Sl S h AJ a x.in_.Aa) (V:Sl S h GL c x.in_.Am) (W:Sl S h JE d x.in_.Ar) (X:Sl S h GV g x.in_.Ae) (Y:Sl S h HC i x.in_.Az) (Z:AH x.s.B) (aa:Sl S h (BW.sl AJ) j x.s.G) (ab:Sl S h AJ k x.s.M) (ac:Sl S h BI l x.s.J) (ad:Sl S h Bu m x.s.Q) (ae:Sl S h AJ n x.s.O) (af:Sl S h AJ o x.s.P) (ag:Sl S h CF p x.moves) (ah:Sl S h AJ q x.peaks) (ai:Sl S h BI t x.sent):Rd S h Le (.agg #[.string x.b.F,v1,.int .i64 x.b.R,u,v,w,y,z,C,D,.int .i64 x.b.U,a,c,d,g,i,.int .i64 x.s.B,j,k,l,m,n,o,p,q,t]) x:=⟨_,rfl,v1,u,v,w,y,z,C,D,a,c,d,g,i,j,k,l,m,n,o,p,q,t,rfl,k0,k1,k2,k3,k4,k5,k6,k7,k8,k9,I,K,V,W,X,Y,Z,aa,ab,ac,ad,ae,af,ag,ah,ai⟩
structure AK where
 to_:Int
 delay:Int
 way:Int
 take:((List Int)→Option ((List Int)×(List Int)))
instance:Inhabited AK:=⟨⟨default,default,default,default⟩⟩
def BJ:BW AK where
 sz:=4
 ag:=true
 rd:=λS k cs x=>∃a:Value,cs=[.int .i64 x.to_,.int .i64 x.delay,.int .i64 x.way,a]∧AH x.to_∧AH x.delay∧AH x.way∧Rd S k (BW.fnr prog (λS k vs (x:(List Int))=>∃b:Value,vs=[b]∧Sl S k AJ b x) (λS k v (y:((List Int)×(List Int)))=>∃b c:Value,v= .tuple #[b,c]∧Sl S k AJ b y.1∧Sl S k AJ c y.2)) a x.take
 len:=λ⟨_,k,_⟩=>by rw[k];rfl
 one:=by
  rintro S k cs x ⟨a,rfl,k0,d,g,i⟩ v j
  simp only[nM,nY,oO] at j
  rcases j with rfl|rfl|rfl|rfl<;>first|rfl|exact Sl.one ‹_› |exact(‹_∧_›).2|(obtain ⟨_,_,rfl,_⟩:=Rd.fn ‹_›;rfl)|(obtain ⟨_,_,rfl,_⟩:=Rd.fnr ‹_›;rfl)
 mono:=by
  rintro S S' k h' cs x ⟨a,rfl,k0,d,g,i⟩ s e
  exact⟨a,rfl,k0,d,g,i.mono'' s e⟩
def BJ.ex {S d v}{x:AK}(k:Rd S d BJ v x):∃b:Value,v= .agg #[.int .i64 x.to_,.int .i64 x.delay,.int .i64 x.way,b]∧AH x.to_∧AH x.delay∧AH x.way∧Rd S d (BW.fnr prog (λS d vs (x:(List Int))=>∃a:Value,vs=[a]∧Sl S d AJ a x) (λS d v (y:((List Int)×(List Int)))=>∃a c:Value,v= .tuple #[a,c]∧Sl S d AJ a y.1∧Sl S d AJ c y.2)) b x.take:=by obtain⟨_,rfl,b,rfl,k⟩:=k;exact⟨b,rfl,k⟩
def BJ.mk {S j}{x:AK}{b:Value}(k0:AH x.to_) (d:AH x.delay) (g:AH x.way) (i:Rd S j (BW.fnr prog (λS j vs (x:(List Int))=>∃a:Value,vs=[a]∧Sl S j AJ a x) (λS j v (y:((List Int)×(List Int)))=>∃a c:Value,v= .tuple #[a,c]∧Sl S j AJ a y.1∧Sl S j AJ c y.2)) b x.take):Rd S j BJ (.agg #[.int .i64 x.to_,.int .i64 x.delay,.int .i64 x.way,b]) x:=⟨_,rfl,b,rfl,k0,d,g,i⟩
def KI:GM BJ 0 AJ (·.to_):=by
 rintro S g cs x ⟨a,rfl,k0,b,c,d⟩
 exact⟨rfl,k0⟩
def N0:GM BJ 1 AJ (·.delay):=by
 rintro S g cs x ⟨b,rfl,k0,a,c,d⟩
 exact⟨rfl,a⟩
def O0:GM BJ 2 AJ (·.way):=by
 rintro S g cs x ⟨b,rfl,k0,c,a,d⟩
 exact⟨rfl,a⟩
def Of:GM BJ 3 (BW.fnr prog (λS m vs (x:(List Int))=>∃a:Value,vs=[a]∧Sl S m AJ a x) (λS m v (y:((List Int)×(List Int)))=>∃a b:Value,v= .tuple #[a,b]∧Sl S m AJ a y.1∧Sl S m AJ b y.2)) (·.take):=by
 rintro S m cs x ⟨j,rfl,k0,k,l,c⟩
 obtain⟨_,rfl,d,g,rfl,i⟩:=c
 exact⟨d,g,rfl,i⟩
def Lh:ByteArray:=ByteArray.mk #[0,1,2,2,3,3,3,3,4,4,4,4,4,4,4,4,5,5,5,5,5,5,5,5,5,5,5,5,5,5,5,5,6,6,6,6,6,6,6,6,6,6,6,6,6,6,6,6,6,6,6,6,6,6,6,6,6,6,6,6,6,6,6,6,7,7,7,7,7,7,7,7,7,7,7,7,7,7,7,7,7,7,7,7,7,7,7,7,7,7,7,7,7,7,7,7,7,7,7,7,7,7,7,7,7,7,7,7,7,7,7,7,7,7,7,7,7,7,7,7,7,7,7,7,7,7,7,7,8,8,8,8,8,8,8,8,8,8,8,8,8,8,8,8,8,8,8,8,8,8,8,8,8,8,8,8,8,8,8,8,8,8,8,8,8,8,8,8,8,8,8,8,8,8,8,8,8,8,8,8,8,8,8,8,8,8,8,8,8,8,8,8,8,8,8,8,8,8,8,8,8,8,8,8,8,8,8,8,8,8,8,8,8,8,8,8,8,8,8,8,8,8,8,8,8,8,8,8,8,8,8,8,8,8,8,8,8,8,8,8,8,8,8,8,8,8,8,8,8,8,8,8,8,8,8,8]
def NG:List ByteArray:=([(ByteArray.mk #[97]),(ByteArray.mk #[99])]:List ByteArray)
def NH:List D1:=([(⟨(ByteArray.mk #[112]),0,2,120,([(⟨0,0⟩:B4)]:List B4),([100,50]:List Int),1,10,(-1),0,0,[]⟩:D1)]:List D1)
end Go.Proofs.YtblcgjadhemlbaaGreat
