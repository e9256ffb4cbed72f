import Derived.Test.YtblcgjadhemlbaaGreatWSortD
import Derived.Test.YtblcgjadhemlbaaGreatRows
namespace Go.Proofs.YtblcgjadhemlbaaGreat
set_option linter.all false
open Go.RowKit
open Go.Proofs.Tryz
structure BS where
 K:Int
 Q:Int
instance:Inhabited BS:=⟨⟨default,default⟩⟩
@[reducible] def BS.v (x:BS):List Go.Value:=[.int .i64 x.K,.int .i64 x.Q]
def BS.ok (x:BS):Prop:=AH x.K∧AH x.Q
def Cp:BZ BS where
 sz:=2
 ag:=true
 rd:=λ_ _ cs x=>cs=x.v∧x.ok
 len:=λ⟨b,_⟩=>by rw[b];rfl
 one:=λ{_ _ _ x} ⟨b,_⟩ v a=>by
  rw[b] at a
  simp only[BS.v,rG,rT,sI] at a
  rcases a with rfl|rfl<;>rfl
 mono:=λb _ _=>b
def Cp.ex {S a v}{x:BS}(k:Rd S a Cp v x):v= .agg #[.int .i64 x.K,.int .i64 x.Q]∧x.ok:=by obtain⟨_,rfl,rfl,a⟩:=k;exact⟨rfl,a⟩
def Cp.mk {S h}{x:BS}(k:x.ok):Rd S h Cp (.agg #[.int .i64 x.K,.int .i64 x.Q]) x:=⟨x.v,rfl,rfl,k⟩
def Lj:GO Cp 0 AJ (·.K):=by
 rintro S b cs x ⟨rfl,⟨k0,a⟩⟩
 exact⟨rfl,k0⟩
def Li:GO Cp 1 AJ (·.Q):=by
 rintro S b cs x ⟨rfl,⟨k0,a⟩⟩
 exact⟨rfl,a⟩
structure OD where
 Bg:Int
 Bp:Int
instance:Inhabited OD:=⟨⟨default,default⟩⟩
@[reducible] def OD.v (x:OD):List Go.Value:=[.int .i64 x.Bg,.int .i64 x.Bp]
def OD.ok (x:OD):Prop:=AH x.Bg∧AH x.Bp
def K8:BZ OD where
 sz:=2
 ag:=true
 rd:=λ_ _ cs x=>cs=x.v∧x.ok
 len:=λ⟨b,_⟩=>by rw[b];rfl
 one:=λ{_ _ _ x} ⟨b,_⟩ v a=>by
  rw[b] at a
  simp only[OD.v,rG,rT,sI] at a
  rcases a with rfl|rfl<;>rfl
 mono:=λb _ _=>b
def K8.ex {S a v}{x:OD}(k:Rd S a K8 v x):v= .agg #[.int .i64 x.Bg,.int .i64 x.Bp]∧x.ok:=by obtain⟨_,rfl,rfl,a⟩:=k;exact⟨rfl,a⟩
def K8.mk {S h}{x:OD}(k:x.ok):Rd S h K8 (.agg #[.int .i64 x.Bg,.int .i64 x.Bp]) x:=⟨x.v,rfl,rfl,k⟩
structure Dm where
 H:ByteArray
 B:Int
 As:Int
 Ae:Int
 Bt:(List BS)
 Bf:(List Int)
 L:Int
 I:Int
 Aq:Int
 N:Int
 Bc:Int
 X:(List OD)
instance:Inhabited Dm:=⟨⟨default,default,default,default,default,default,default,default,default,default,default,default⟩⟩
def Cw:BZ Dm where
 sz:=12
 ag:=true
 rd:=λS u cs x=>∃b c a:Value,cs=[.string x.H,.int .i64 x.B,.int .i64 x.As,.int .i64 x.Ae,b,c,.int .i64 x.L,.int .i64 x.I,.int .i64 x.Aq,.int .i64 x.N,.int .i64 x.Bc,a]∧x.H.size≤maxLen∧AH x.B∧AH x.As∧AH x.Ae∧Sl S u Cp b x.Bt∧Sl S u AJ c x.Bf∧AH x.L∧AH x.I∧AH x.Aq∧AH x.N∧AH x.Bc∧Sl S u K8 a x.X
 len:=λ⟨_,_,_,u,_⟩=>by rw[u];rfl
 one:=by
  rintro S u cs x ⟨b,c,a,rfl,k0,i,j,k,l,m,n,o,p,q,d,g⟩ v t
  simp only[rG,rT,sI] at t
  rcases t with rfl|rfl|rfl|rfl|rfl|rfl|rfl|rfl|rfl|rfl|rfl|rfl<;>first|rfl|exact Sl.one ‹_› |exact(‹_∧_›).2|(obtain ⟨_,_,rfl,_⟩:=Rd.fn ‹_›;rfl)|(obtain ⟨_,_,rfl,_⟩:=Rd.fnr ‹_›;rfl)
 mono:=by
  rintro S S' u h' cs x ⟨b,c,a,rfl,k0,i,j,k,l,m,n,o,p,q,d,g⟩ s e
  exact⟨b,c,a,rfl,k0,i,j,k,l.mono s e,m.mono s e,n,o,p,q,d,g.mono s e⟩
def Cw.ex {S h v}{x:Dm}(k:Rd S h Cw v x):∃b c a:Value,v= .agg #[.string x.H,.int .i64 x.B,.int .i64 x.As,.int .i64 x.Ae,b,c,.int .i64 x.L,.int .i64 x.I,.int .i64 x.Aq,.int .i64 x.N,.int .i64 x.Bc,a]∧x.H.size≤maxLen∧AH x.B∧AH x.As∧AH x.Ae∧Sl S h Cp b x.Bt∧Sl S h AJ c x.Bf∧AH x.L∧AH x.I∧AH x.Aq∧AH x.N∧AH x.Bc∧Sl S h K8 a x.X:=by obtain⟨_,rfl,b,c,a,rfl,k⟩:=k;exact⟨b,c,a,rfl,k⟩
def Cw.mk {S h}{x:Dm}{b c a:Value}(k0:x.H.size≤maxLen) (i:AH x.B) (j:AH x.As) (k:AH x.Ae) (l:Sl S h Cp b x.Bt) (m:Sl S h AJ c x.Bf) (n:AH x.L) (o:AH x.I) (p:AH x.Aq) (q:AH x.N) (d:AH x.Bc) (g:Sl S h K8 a x.X):Rd S h Cw (.agg #[.string x.H,.int .i64 x.B,.int .i64 x.As,.int .i64 x.Ae,b,c,.int .i64 x.L,.int .i64 x.I,.int .i64 x.Aq,.int .i64 x.N,.int .i64 x.Bc,a]) x:=⟨_,rfl,b,c,a,rfl,k0,i,j,k,l,m,n,o,p,q,d,g⟩
def Dm.f_Name:GO Cw 0 BZ.str (·.H):=by
 rintro S s cs x ⟨d,g,a,rfl,k0,i,j,k,l,m,n,o,p,q,b,c⟩
 exact⟨rfl,k0⟩
def Dm.f_Kind:GO Cw 1 AJ (·.B):=by
 rintro S s cs x ⟨g,i,a,rfl,k0,b,j,k,l,m,n,o,p,q,c,d⟩
 exact⟨rfl,b⟩
def JA:GO Cw 2 AJ (·.As):=by
 rintro S s cs x ⟨g,i,a,rfl,k0,j,b,k,l,m,n,o,p,q,c,d⟩
 exact⟨rfl,b⟩
def Dm.f_Num:GO Cw 6 AJ (·.L):=by
 rintro S s cs x ⟨g,i,a,rfl,k0,j,k,l,m,n,b,o,p,q,c,d⟩
 exact⟨rfl,b⟩
def Dm.f_Den:GO Cw 7 AJ (·.I):=by
 rintro S s cs x ⟨g,i,a,rfl,k0,j,k,l,m,n,o,b,p,q,c,d⟩
 exact⟨rfl,b⟩
def Dm.f_Rain:GO Cw 11 (BZ.sl K8) (·.X):=by
 rintro S s cs x ⟨d,g,b,rfl,k0,i,j,k,l,m,n,o,p,q,c,a⟩
 exact⟨_,rfl,a⟩
structure MW where
 Ar:(List BS)
 Aw:(List BS)
instance:Inhabited MW:=⟨⟨default,default⟩⟩
def Mm:BZ MW where
 sz:=2
 ag:=true
 rd:=λS d cs x=>∃a v1:Value,cs=[a,v1]∧Sl S d Cp a x.Ar∧Sl S d Cp v1 x.Aw
 len:=λ⟨_,_,d,_⟩=>by rw[d];rfl
 one:=by
  rintro S d cs x ⟨a,v1,rfl,k0,b⟩ v c
  simp only[rG,rT,sI] at c
  rcases c with rfl|rfl<;>first|rfl|exact Sl.one ‹_› |exact(‹_∧_›).2|(obtain ⟨_,_,rfl,_⟩:=Rd.fn ‹_›;rfl)|(obtain ⟨_,_,rfl,_⟩:=Rd.fnr ‹_›;rfl)
 mono:=by
  rintro S S' d h' cs x ⟨a,v1,rfl,k0,b⟩ s e
  exact⟨a,v1,rfl,k0.mono s e,b.mono s e⟩
def Mm.ex {S h v}{x:MW}(k:Rd S h Mm v x):∃a v1:Value,v= .agg #[a,v1]∧Sl S h Cp a x.Ar∧Sl S h Cp v1 x.Aw:=by obtain⟨_,rfl,a,v1,rfl,k⟩:=k;exact⟨a,v1,rfl,k⟩
def Mm.mk {S h}{x:MW}{a v1:Value}(k0:Sl S h Cp a x.Ar) (b:Sl S h Cp v1 x.Aw):Rd S h Mm (.agg #[a,v1]) x:=⟨_,rfl,a,v1,rfl,k0,b⟩
def OT:GO Mm 0 (BZ.sl Cp) (·.Ar):=by
 rintro S c cs x ⟨a,v1,rfl,k0,b⟩
 exact⟨_,rfl,k0⟩
def OU:GO Mm 1 (BZ.sl Cp) (·.Aw):=by
 rintro S c cs x ⟨b,v1,rfl,k0,a⟩
 exact⟨_,rfl,a⟩
structure BL where
 H:ByteArray
 B:Int
 G:Int
 C:Int
 Af:(List BS)
 Y:MW
 R:Int
 Ab:Int
 Aj:Int
 Al:Int
 L:Int
 I:Int
 Ah:Int
 Ai:Int
 Ac:Int
 Aa:Int
 N:Int
instance:Inhabited BL:=⟨⟨default,default,default,default,default,default,default,default,default,default,default,default,default,default,default,default,default⟩⟩
def Ct:BZ BL where
 sz:=18
 ag:=true
 rd:=λS F cs x=>∃a b c:Value,cs=[.string x.H,.int .i64 x.B,.int .i64 x.G,.int .i64 x.C,a,b,c,.int .i64 x.R,.int .i64 x.Ab,.int .i64 x.Aj,.int .i64 x.Al,.int .i64 x.L,.int .i64 x.I,.int .i64 x.Ah,.int .i64 x.Ai,.int .i64 x.Ac,.int .i64 x.Aa,.int .i64 x.N]∧x.H.size≤maxLen∧AH x.B∧AH x.G∧AH x.C∧Sl S F Cp a x.Af∧Sl S F Cp b x.Y.Ar∧Sl S F Cp c x.Y.Aw∧AH x.R∧AH x.Ab∧AH x.Aj∧AH x.Al∧AH x.L∧AH x.I∧AH x.Ah∧AH x.Ai∧AH x.Ac∧AH x.Aa∧AH x.N
 len:=λ⟨_,_,_,F,_⟩=>by rw[F];rfl
 one:=by
  rintro S F cs x ⟨a,b,c,rfl,k0,o,p,q,t,u,w,y,z,A,d,g,i,j,k,l,m,n⟩ v D
  simp only[rG,rT,sI] at D
  rcases D with rfl|rfl|rfl|rfl|rfl|rfl|rfl|rfl|rfl|rfl|rfl|rfl|rfl|rfl|rfl|rfl|rfl|rfl<;>first|rfl|exact Sl.one ‹_› |exact(‹_∧_›).2|(obtain ⟨_,_,rfl,_⟩:=Rd.fn ‹_›;rfl)|(obtain ⟨_,_,rfl,_⟩:=Rd.fnr ‹_›;rfl)
 mono:=by
  rintro S S' F h' cs x ⟨a,b,c,rfl,k0,o,p,q,t,u,w,y,z,A,d,g,i,j,k,l,m,n⟩ s e
  exact⟨a,b,c,rfl,k0,o,p,q,t.mono s e,u.mono s e,w.mono s e,y,z,A,d,g,i,j,k,l,m,n⟩
def Ct.ex {S h v}{x:BL}(k:Rd S h Ct v x):∃a b c:Value,v= .agg #[.string x.H,.int .i64 x.B,.int .i64 x.G,.int .i64 x.C,a,b,c,.int .i64 x.R,.int .i64 x.Ab,.int .i64 x.Aj,.int .i64 x.Al,.int .i64 x.L,.int .i64 x.I,.int .i64 x.Ah,.int .i64 x.Ai,.int .i64 x.Ac,.int .i64 x.Aa,.int .i64 x.N]∧x.H.size≤maxLen∧AH x.B∧AH x.G∧AH x.C∧Sl S h Cp a x.Af∧Sl S h Cp b x.Y.Ar∧Sl S h Cp c x.Y.Aw∧AH x.R∧AH x.Ab∧AH x.Aj∧AH x.Al∧AH x.L∧AH x.I∧AH x.Ah∧AH x.Ai∧AH x.Ac∧AH x.Aa∧AH x.N:=by obtain⟨_,rfl,a,b,c,rfl,k⟩:=k;exact⟨a,b,c,rfl,k⟩
def Ct.mk {S h}{x:BL}{a b c:Value}(k0:x.H.size≤maxLen) (o:AH x.B) (p:AH x.G) (q:AH x.C) (s:Sl S h Cp a x.Af) (t:Sl S h Cp b x.Y.Ar) (u:Sl S h Cp c x.Y.Aw) (v:AH x.R) (w:AH x.Ab) (y:AH x.Aj) (d:AH x.Al) (g:AH x.L) (i:AH x.I) (j:AH x.Ah) (k:AH x.Ai) (l:AH x.Ac) (m:AH x.Aa) (n:AH x.N):Rd S h Ct (.agg #[.string x.H,.int .i64 x.B,.int .i64 x.G,.int .i64 x.C,a,b,c,.int .i64 x.R,.int .i64 x.Ab,.int .i64 x.Aj,.int .i64 x.Al,.int .i64 x.L,.int .i64 x.I,.int .i64 x.Ah,.int .i64 x.Ai,.int .i64 x.Ac,.int .i64 x.Aa,.int .i64 x.N]) x:=⟨_,rfl,a,b,c,rfl,k0,o,p,q,s,t,u,v,w,y,d,g,i,j,k,l,m,n⟩
def BL.f_Name:GO Ct 0 BZ.str (·.H):=by
 rintro S z cs x ⟨l,m,n,rfl,k0,o,p,q,s,t,u,v,w,y,a,b,c,d,g,i,j,k⟩
 exact⟨rfl,k0⟩
def BL.f_Kind:GO Ct 1 AJ (·.B):=by
 rintro S z cs x ⟨m,n,o,rfl,k0,a,p,q,s,t,u,v,w,y,b,c,d,g,i,j,k,l⟩
 exact⟨rfl,a⟩
def BL.f_To:GO Ct 3 AJ (·.C):=by
 rintro S z cs x ⟨m,n,o,rfl,k0,p,q,a,s,t,u,v,w,y,b,c,d,g,i,j,k,l⟩
 exact⟨rfl,a⟩
def KV:GO Ct 4 (BZ.sl Cp) (·.Af):=by
 rintro S z cs x ⟨m,n,o,rfl,k0,p,q,s,a,t,u,v,w,y,b,c,d,g,i,j,k,l⟩
 exact⟨_,rfl,a⟩
def Jh:GO Ct 5 Mm (·.Y):=by
 rintro S z cs x ⟨n,o,p,rfl,k0,q,s,t,u,a,b,v,w,y,c,d,g,i,j,k,l,m⟩
 exact⟨_,_,rfl,a,b⟩
def E7:GO Ct 7 AJ (·.R):=by
 rintro S z cs x ⟨m,n,o,rfl,k0,p,q,s,t,u,v,a,w,y,b,c,d,g,i,j,k,l⟩
 exact⟨rfl,a⟩
def Jv:GO Ct 8 AJ (·.Ab):=by
 rintro S z cs x ⟨m,n,o,rfl,k0,p,q,s,t,u,v,w,a,y,b,c,d,g,i,j,k,l⟩
 exact⟨rfl,a⟩
def Mo:GO Ct 9 AJ (·.Aj):=by
 rintro S z cs x ⟨m,n,o,rfl,k0,p,q,s,t,u,v,w,y,a,b,c,d,g,i,j,k,l⟩
 exact⟨rfl,a⟩
def MB:GO Ct 10 AJ (·.Al):=by
 rintro S z cs x ⟨l,m,n,rfl,k0,o,p,q,s,t,u,v,w,y,a,b,c,d,g,i,j,k⟩
 exact⟨rfl,a⟩
def BL.f_Num:GO Ct 11 AJ (·.L):=by
 rintro S z cs x ⟨l,m,n,rfl,k0,o,p,q,s,t,u,v,w,y,b,a,c,d,g,i,j,k⟩
 exact⟨rfl,a⟩
def BL.f_Den:GO Ct 12 AJ (·.I):=by
 rintro S z cs x ⟨l,m,n,rfl,k0,o,p,q,s,t,u,v,w,y,b,c,a,d,g,i,j,k⟩
 exact⟨rfl,a⟩
def Kr:GO Ct 13 AJ (·.Ah):=by
 rintro S z cs x ⟨l,m,n,rfl,k0,o,p,q,s,t,u,v,w,y,b,c,d,a,g,i,j,k⟩
 exact⟨rfl,a⟩
def Ks:GO Ct 14 AJ (·.Ai):=by
 rintro S z cs x ⟨l,m,n,rfl,k0,o,p,q,s,t,u,v,w,y,b,c,d,g,a,i,j,k⟩
 exact⟨rfl,a⟩
def JB:GO Ct 15 AJ (·.Ac):=by
 rintro S z cs x ⟨l,m,n,rfl,k0,o,p,q,s,t,u,v,w,y,b,c,d,g,i,a,j,k⟩
 exact⟨rfl,a⟩
def IL:GO Ct 16 AJ (·.Aa):=by
 rintro S z cs x ⟨l,m,n,rfl,k0,o,p,q,s,t,u,v,w,y,b,c,d,g,i,j,a,k⟩
 exact⟨rfl,a⟩
structure MU where
 H:ByteArray
 An:Int
 Bm:Int
 Bl:Int
 Bq:Int
 Bn:Int
 Bk:Int
instance:Inhabited MU:=⟨⟨default,default,default,default,default,default,default⟩⟩
@[reducible] def MU.v (x:MU):List Go.Value:=[.string x.H,.int .i64 x.An,.int .i64 x.Bm,.int .i64 x.Bl,.int .i64 x.Bq,.int .i64 x.Bn,.int .i64 x.Bk]
def MU.ok (x:MU):Prop:=x.H.size≤maxLen∧AH x.An∧AH x.Bm∧AH x.Bl∧AH x.Bq∧AH x.Bn∧AH x.Bk
def HL:BZ MU where
 sz:=7
 ag:=true
 rd:=λ_ _ cs x=>cs=x.v∧x.ok
 len:=λ⟨b,_⟩=>by rw[b];rfl
 one:=λ{_ _ _ x} ⟨b,_⟩ v a=>by
  rw[b] at a
  simp only[MU.v,rG,rT,sI] at a
  rcases a with rfl|rfl|rfl|rfl|rfl|rfl|rfl<;>rfl
 mono:=λb _ _=>b
def HL.ex {S a v}{x:MU}(k:Rd S a HL v x):v= .agg #[.string x.H,.int .i64 x.An,.int .i64 x.Bm,.int .i64 x.Bl,.int .i64 x.Bq,.int .i64 x.Bn,.int .i64 x.Bk]∧x.ok:=by obtain⟨_,rfl,rfl,a⟩:=k;exact⟨rfl,a⟩
def HL.mk {S h}{x:MU}(k:x.ok):Rd S h HL (.agg #[.string x.H,.int .i64 x.An,.int .i64 x.Bm,.int .i64 x.Bl,.int .i64 x.Bq,.int .i64 x.Bn,.int .i64 x.Bk]) x:=⟨x.v,rfl,rfl,k⟩
def MU.f_Name:GO HL 0 BZ.str (·.H):=by
 rintro S j cs x ⟨rfl,⟨k0,a,b,c,d,g,i⟩⟩
 exact⟨rfl,k0⟩
def MU.f_Place:GO HL 1 AJ (·.An):=by
 rintro S j cs x ⟨rfl,⟨k0,a,b,c,d,g,i⟩⟩
 exact⟨rfl,a⟩
structure Kg where
 H:ByteArray
 B:Int
 Z:Int
 V:Int
 Bo:Int
instance:Inhabited Kg:=⟨⟨default,default,default,default,default⟩⟩
@[reducible] def Kg.v (x:Kg):List Go.Value:=[.string x.H,.int .i64 x.B,.int .i64 x.Z,.int .i64 x.V,.int .i64 x.Bo]
def Kg.ok (x:Kg):Prop:=x.H.size≤maxLen∧AH x.B∧AH x.Z∧AH x.V∧AH x.Bo
def Fc:BZ Kg where
 sz:=5
 ag:=true
 rd:=λ_ _ cs x=>cs=x.v∧x.ok
 len:=λ⟨b,_⟩=>by rw[b];rfl
 one:=λ{_ _ _ x} ⟨b,_⟩ v a=>by
  rw[b] at a
  simp only[Kg.v,rG,rT,sI] at a
  rcases a with rfl|rfl|rfl|rfl|rfl<;>rfl
 mono:=λb _ _=>b
def Fc.ex {S a v}{x:Kg}(k:Rd S a Fc v x):v= .agg #[.string x.H,.int .i64 x.B,.int .i64 x.Z,.int .i64 x.V,.int .i64 x.Bo]∧x.ok:=by obtain⟨_,rfl,rfl,a⟩:=k;exact⟨rfl,a⟩
def Fc.mk {S h}{x:Kg}(k:x.ok):Rd S h Fc (.agg #[.string x.H,.int .i64 x.B,.int .i64 x.Z,.int .i64 x.V,.int .i64 x.Bo]) x:=⟨x.v,rfl,rfl,k⟩
def Kg.f_Name:GO Fc 0 BZ.str (·.H):=by
 rintro S g cs x ⟨rfl,⟨k0,a,b,c,d⟩⟩
 exact⟨rfl,k0⟩
def Kg.f_Kind:GO Fc 1 AJ (·.B):=by
 rintro S g cs x ⟨rfl,⟨k0,a,b,c,d⟩⟩
 exact⟨rfl,a⟩
def Kg.f_Err:GO Fc 3 AJ (·.V):=by
 rintro S g cs x ⟨rfl,⟨k0,b,c,a,d⟩⟩
 exact⟨rfl,a⟩
structure Ms where
 H:ByteArray
 G:Int
 C:Int
 Br:Int
 Bs:Int
 Bh:Int
 Bj:Int
instance:Inhabited Ms:=⟨⟨default,default,default,default,default,default,default⟩⟩
@[reducible] def Ms.v (x:Ms):List Go.Value:=[.string x.H,.int .i64 x.G,.int .i64 x.C,.int .i64 x.Br,.int .i64 x.Bs,.int .i64 x.Bh,.int .i64 x.Bj]
def Ms.ok (x:Ms):Prop:=x.H.size≤maxLen∧AH x.G∧AH x.C∧AH x.Br∧AH x.Bs∧AH x.Bh∧AH x.Bj
def HN:BZ Ms where
 sz:=7
 ag:=true
 rd:=λ_ _ cs x=>cs=x.v∧x.ok
 len:=λ⟨b,_⟩=>by rw[b];rfl
 one:=λ{_ _ _ x} ⟨b,_⟩ v a=>by
  rw[b] at a
  simp only[Ms.v,rG,rT,sI] at a
  rcases a with rfl|rfl|rfl|rfl|rfl|rfl|rfl<;>rfl
 mono:=λb _ _=>b
def HN.ex {S a v}{x:Ms}(k:Rd S a HN v x):v= .agg #[.string x.H,.int .i64 x.G,.int .i64 x.C,.int .i64 x.Br,.int .i64 x.Bs,.int .i64 x.Bh,.int .i64 x.Bj]∧x.ok:=by obtain⟨_,rfl,rfl,a⟩:=k;exact⟨rfl,a⟩
def HN.mk {S h}{x:Ms}(k:x.ok):Rd S h HN (.agg #[.string x.H,.int .i64 x.G,.int .i64 x.C,.int .i64 x.Br,.int .i64 x.Bs,.int .i64 x.Bh,.int .i64 x.Bj]) x:=⟨x.v,rfl,rfl,k⟩
def Ms.f_Name:GO HN 0 BZ.str (·.H):=by
 rintro S j cs x ⟨rfl,⟨k0,a,b,c,d,g,i⟩⟩
 exact⟨rfl,k0⟩
def Ms.f_To:GO HN 2 AJ (·.C):=by
 rintro S j cs x ⟨rfl,⟨k0,b,a,c,d,g,i⟩⟩
 exact⟨rfl,a⟩
structure I9 where
 H:ByteArray
 Ax:Int
instance:Inhabited I9:=⟨⟨default,default⟩⟩
@[reducible] def I9.v (x:I9):List Go.Value:=[.string x.H,.int .i64 x.Ax]
def I9.ok (x:I9):Prop:=x.H.size≤maxLen∧AH x.Ax
def Dy:BZ I9 where
 sz:=2
 ag:=true
 rd:=λ_ _ cs x=>cs=x.v∧x.ok
 len:=λ⟨b,_⟩=>by rw[b];rfl
 one:=λ{_ _ _ x} ⟨b,_⟩ v a=>by
  rw[b] at a
  simp only[I9.v,rG,rT,sI] at a
  rcases a with rfl|rfl<;>rfl
 mono:=λb _ _=>b
def Dy.ex {S a v}{x:I9}(k:Rd S a Dy v x):v= .agg #[.string x.H,.int .i64 x.Ax]∧x.ok:=by obtain⟨_,rfl,rfl,a⟩:=k;exact⟨rfl,a⟩
def Dy.mk {S h}{x:I9}(k:x.ok):Rd S h Dy (.agg #[.string x.H,.int .i64 x.Ax]) x:=⟨x.v,rfl,rfl,k⟩
def I9.f_Name:GO Dy 0 BZ.str (·.H):=by
 rintro S b cs x ⟨rfl,⟨k0,a⟩⟩
 exact⟨rfl,k0⟩
def I9.f_Room:GO Dy 1 AJ (·.Ax):=by
 rintro S b cs x ⟨rfl,⟨k0,a⟩⟩
 exact⟨rfl,a⟩
structure AU where
 H:ByteArray
 J:(List ByteArray)
 T:Int
 A:(List Dm)
 E:(List BL)
 Am:(List MU)
 Au:(List Kg)
 Av:(List Ms)
 Ay:(List I9)
 Ax:(List Int)
 V:Int
instance:Inhabited AU:=⟨⟨default,default,default,default,default,default,default,default,default,default,default⟩⟩
def C2:BZ AU where
 sz:=11
 ag:=true
 rd:=λS z cs x=>∃v1 a b c d g i j:Value,cs=[.string x.H,v1,.int .i64 x.T,a,b,c,d,g,i,j,.int .i64 x.V]∧x.H.size≤maxLen∧Sl S z BZ.str v1 x.J∧AH x.T∧Sl S z Cw a x.A∧Sl S z Ct b x.E∧Sl S z HL c x.Am∧Sl S z Fc d x.Au∧Sl S z HN g x.Av∧Sl S z Dy i x.Ay∧Sl S z AJ j x.Ax∧AH x.V
 len:=λ⟨_,_,_,_,_,_,_,_,z,_⟩=>by rw[z];rfl
 one:=by
  rintro S z cs x ⟨v1,a,b,c,d,g,i,j,rfl,k0,l,m,n,o,p,q,t,u,w,k⟩ v y
  simp only[rG,rT,sI] at y
  rcases y with rfl|rfl|rfl|rfl|rfl|rfl|rfl|rfl|rfl|rfl|rfl<;>first|rfl|exact Sl.one ‹_› |exact(‹_∧_›).2|(obtain ⟨_,_,rfl,_⟩:=Rd.fn ‹_›;rfl)|(obtain ⟨_,_,rfl,_⟩:=Rd.fnr ‹_›;rfl)
 mono:=by
  rintro S S' z h' cs x ⟨v1,a,b,c,d,g,i,j,rfl,k0,l,m,n,o,p,q,t,u,w,k⟩ s e
  exact⟨v1,a,b,c,d,g,i,j,rfl,k0,l.mono s e,m,n.mono s e,o.mono s e,p.mono s e,q.mono s e,t.mono s e,u.mono s e,w.mono s e,k⟩
def C2.ex {S h v}{x:AU}(k:Rd S h C2 v x):∃v1 a b c d g i j:Value,v= .agg #[.string x.H,v1,.int .i64 x.T,a,b,c,d,g,i,j,.int .i64 x.V]∧x.H.size≤maxLen∧Sl S h BZ.str v1 x.J∧AH x.T∧Sl S h Cw a x.A∧Sl S h Ct b x.E∧Sl S h HL c x.Am∧Sl S h Fc d x.Au∧Sl S h HN g x.Av∧Sl S h Dy i x.Ay∧Sl S h AJ j x.Ax∧AH x.V:=by obtain⟨_,rfl,v1,a,b,c,d,g,i,j,rfl,k⟩:=k;exact⟨v1,a,b,c,d,g,i,j,rfl,k⟩
def C2.mk {S h}{x:AU}{v1 a b c d g i j:Value}(k0:x.H.size≤maxLen) (l:Sl S h BZ.str v1 x.J) (m:AH x.T) (n:Sl S h Cw a x.A) (o:Sl S h Ct b x.E) (p:Sl S h HL c x.Am) (q:Sl S h Fc d x.Au) (s:Sl S h HN g x.Av) (t:Sl S h Dy i x.Ay) (u:Sl S h AJ j x.Ax) (k:AH x.V):Rd S h C2 (.agg #[.string x.H,v1,.int .i64 x.T,a,b,c,d,g,i,j,.int .i64 x.V]) x:=⟨_,rfl,v1,a,b,c,d,g,i,j,rfl,k0,l,m,n,o,p,q,s,t,u,k⟩
def AU.f_Name:GO C2 0 BZ.str (·.H):=by
 rintro S v cs x ⟨v1,b,c,d,g,i,j,k,rfl,k0,l,m,n,o,p,q,s,t,u,a⟩
 exact⟨rfl,k0⟩
def Eq:GO C2 1 (BZ.sl BZ.str) (·.J):=by
 rintro S v cs x ⟨v1,c,d,g,i,j,k,l,rfl,k0,a,m,n,o,p,q,s,t,u,b⟩
 exact⟨_,rfl,a⟩
def Lm:GO C2 2 AJ (·.T):=by
 rintro S v cs x ⟨v1,c,d,g,i,j,k,l,rfl,k0,m,a,n,o,p,q,s,t,u,b⟩
 exact⟨rfl,a⟩
def B8:GO C2 3 (BZ.sl Cw) (·.A):=by
 rintro S v cs x ⟨v1,c,d,g,i,j,k,l,rfl,k0,m,n,a,o,p,q,s,t,u,b⟩
 exact⟨_,rfl,a⟩
def Er:GO C2 4 (BZ.sl Ct) (·.E):=by
 rintro S v cs x ⟨v1,c,d,g,i,j,k,l,rfl,k0,m,n,o,a,p,q,s,t,u,b⟩
 exact⟨_,rfl,a⟩
def Ja:GO C2 5 (BZ.sl HL) (·.Am):=by
 rintro S v cs x ⟨v1,c,d,g,i,j,k,l,rfl,k0,m,n,o,p,a,q,s,t,u,b⟩
 exact⟨_,rfl,a⟩
def K9:GO C2 6 (BZ.sl Fc) (·.Au):=by
 rintro S v cs x ⟨v1,c,d,g,i,j,k,l,rfl,k0,m,n,o,p,q,a,s,t,u,b⟩
 exact⟨_,rfl,a⟩
def Ll:GO C2 7 (BZ.sl HN) (·.Av):=by
 rintro S v cs x ⟨v1,c,d,g,i,j,k,l,rfl,k0,m,n,o,p,q,s,a,t,u,b⟩
 exact⟨_,rfl,a⟩
def JI:GO C2 8 (BZ.sl Dy) (·.Ay):=by
 rintro S v cs x ⟨v1,c,d,g,i,j,k,l,rfl,k0,m,n,o,p,q,s,t,a,u,b⟩
 exact⟨_,rfl,a⟩
def AU.f_Room:GO C2 9 (BZ.sl AJ) (·.Ax):=by
 rintro S v cs x ⟨v1,c,d,g,i,j,k,l,rfl,k0,m,n,o,p,q,s,t,u,a,b⟩
 exact⟨_,rfl,a⟩
def AU.f_Err:GO C2 10 AJ (·.V):=by
 rintro S v cs x ⟨v1,b,c,d,g,i,j,k,rfl,k0,l,m,n,o,p,q,s,t,u,a⟩
 exact⟨rfl,a⟩
structure BD where
 Ak:Int
 C:Int
 Ag:(List Int)
instance:Inhabited BD:=⟨⟨default,default,default⟩⟩
def BJ:BZ BD where
 sz:=3
 ag:=true
 rd:=λS g cs x=>∃a:Value,cs=[.int .i64 x.Ak,.int .i64 x.C,a]∧AH x.Ak∧AH x.C∧Sl S g AJ a x.Ag
 len:=λ⟨_,g,_⟩=>by rw[g];rfl
 one:=by
  rintro S g cs x ⟨a,rfl,k0,b,c⟩ v d
  simp only[rG,rT,sI] at d
  rcases d with rfl|rfl|rfl<;>first|rfl|exact Sl.one ‹_› |exact(‹_∧_›).2|(obtain ⟨_,_,rfl,_⟩:=Rd.fn ‹_›;rfl)|(obtain ⟨_,_,rfl,_⟩:=Rd.fnr ‹_›;rfl)
 mono:=by
  rintro S S' g h' cs x ⟨a,rfl,k0,b,c⟩ s e
  exact⟨a,rfl,k0,b,c.mono s e⟩
def BJ.ex {S h v}{x:BD}(k:Rd S h BJ v x):∃a:Value,v= .agg #[.int .i64 x.Ak,.int .i64 x.C,a]∧AH x.Ak∧AH x.C∧Sl S h AJ a x.Ag:=by obtain⟨_,rfl,a,rfl,k⟩:=k;exact⟨a,rfl,k⟩
def BJ.mk {S h}{x:BD}{a:Value}(k0:AH x.Ak) (b:AH x.C) (c:Sl S h AJ a x.Ag):Rd S h BJ (.agg #[.int .i64 x.Ak,.int .i64 x.C,a]) x:=⟨_,rfl,a,rfl,k0,b,c⟩
def RJ:GO BJ 0 AJ (·.Ak):=by
 rintro S d cs x ⟨a,rfl,k0,b,c⟩
 exact⟨rfl,k0⟩
def BD.f_To:GO BJ 1 AJ (·.C):=by
 rintro S d cs x ⟨b,rfl,k0,a,c⟩
 exact⟨rfl,a⟩
def BD.f_Part:GO BJ 2 (BZ.sl AJ) (·.Ag):=by
 rintro S d cs x ⟨b,rfl,k0,c,a⟩
 exact⟨_,rfl,a⟩
structure BG where
 W:Int
 Z:Int
 Az:Bool
 Ao:Bool
instance:Inhabited BG:=⟨⟨default,default,default,default⟩⟩
@[reducible] def BG.v (x:BG):List Go.Value:=[.int .i64 x.W,.int .i64 x.Z,.bool x.Az,.bool x.Ao]
def BG.ok (x:BG):Prop:=AH x.W∧AH x.Z
def Bz:BZ BG where
 sz:=4
 ag:=true
 rd:=λ_ _ cs x=>cs=x.v∧x.ok
 len:=λ⟨b,_⟩=>by rw[b];rfl
 one:=λ{_ _ _ x} ⟨b,_⟩ v a=>by
  rw[b] at a
  simp only[BG.v,rG,rT,sI] at a
  rcases a with rfl|rfl|rfl|rfl<;>rfl
 mono:=λb _ _=>b
def Bz.ex {S a v}{x:BG}(k:Rd S a Bz v x):v= .agg #[.int .i64 x.W,.int .i64 x.Z,.bool x.Az,.bool x.Ao]∧x.ok:=by obtain⟨_,rfl,rfl,a⟩:=k;exact⟨rfl,a⟩
def Bz.mk {S h}{x:BG}(k:x.ok):Rd S h Bz (.agg #[.int .i64 x.W,.int .i64 x.Z,.bool x.Az,.bool x.Ao]) x:=⟨x.v,rfl,rfl,k⟩
def Ut:GO Bz 0 AJ (·.W):=by
 rintro S b cs x ⟨rfl,⟨k0,a⟩⟩
 exact⟨rfl,k0⟩
def Te:GO Bz 3 BZ.bool (·.Ao):=by
 rintro S b cs x ⟨rfl,⟨k0,a⟩⟩
 exact rfl
structure A7 where
 D:Int
 F:(List (List Int))
 O:(List Int)
 M:(List BD)
 P:(List BG)
 S:(List Int)
 U:(List Int)
instance:Inhabited A7:=⟨⟨default,default,default,default,default,default,default⟩⟩
def DE:BZ A7 where
 sz:=7
 ag:=true
 rd:=λS p cs x=>∃v1 a b c d g:Value,cs=[.int .i64 x.D,v1,a,b,c,d,g]∧AH x.D∧Sl S p (BZ.sl AJ) v1 x.F∧Sl S p AJ a x.O∧Sl S p BJ b x.M∧Sl S p Bz c x.P∧Sl S p AJ d x.S∧Sl S p AJ g x.U
 len:=λ⟨_,_,_,_,_,_,p,_⟩=>by rw[p];rfl
 one:=by
  rintro S p cs x ⟨v1,a,b,c,d,g,rfl,k0,i,j,k,l,m,n⟩ v o
  simp only[rG,rT,sI] at o
  rcases o with rfl|rfl|rfl|rfl|rfl|rfl|rfl<;>first|rfl|exact Sl.one ‹_› |exact(‹_∧_›).2|(obtain ⟨_,_,rfl,_⟩:=Rd.fn ‹_›;rfl)|(obtain ⟨_,_,rfl,_⟩:=Rd.fnr ‹_›;rfl)
 mono:=by
  rintro S S' p h' cs x ⟨v1,a,b,c,d,g,rfl,k0,i,j,k,l,m,n⟩ s e
  exact⟨v1,a,b,c,d,g,rfl,k0,i.mono s e,j.mono s e,k.mono s e,l.mono s e,m.mono s e,n.mono s e⟩
def DE.ex {S h v}{x:A7}(k:Rd S h DE v x):∃v1 a b c d g:Value,v= .agg #[.int .i64 x.D,v1,a,b,c,d,g]∧AH x.D∧Sl S h (BZ.sl AJ) v1 x.F∧Sl S h AJ a x.O∧Sl S h BJ b x.M∧Sl S h Bz c x.P∧Sl S h AJ d x.S∧Sl S h AJ g x.U:=by obtain⟨_,rfl,v1,a,b,c,d,g,rfl,k⟩:=k;exact⟨v1,a,b,c,d,g,rfl,k⟩
def DE.mk {S h}{x:A7}{v1 a b c d g:Value}(k0:AH x.D) (i:Sl S h (BZ.sl AJ) v1 x.F) (j:Sl S h AJ a x.O) (k:Sl S h BJ b x.M) (l:Sl S h Bz c x.P) (m:Sl S h AJ d x.S) (n:Sl S h AJ g x.U):Rd S h DE (.agg #[.int .i64 x.D,v1,a,b,c,d,g]) x:=⟨_,rfl,v1,a,b,c,d,g,rfl,k0,i,j,k,l,m,n⟩
def A7.f_Hour:GO DE 0 AJ (·.D):=by
 rintro S o cs x ⟨v1,a,b,c,d,g,rfl,k0,i,j,k,l,m,n⟩
 exact⟨rfl,k0⟩
def I0:GO DE 1 (BZ.sl (BZ.sl AJ)) (·.F):=by
 rintro S o cs x ⟨v1,b,c,d,g,i,rfl,k0,a,j,k,l,m,n⟩
 exact⟨_,rfl,a⟩
def KT:GO DE 2 (BZ.sl AJ) (·.O):=by
 rintro S o cs x ⟨v1,b,c,d,g,i,rfl,k0,j,a,k,l,m,n⟩
 exact⟨_,rfl,a⟩
def JZ:GO DE 3 (BZ.sl BJ) (·.M):=by
 rintro S o cs x ⟨v1,b,c,d,g,i,rfl,k0,j,k,a,l,m,n⟩
 exact⟨_,rfl,a⟩
def KU:GO DE 4 (BZ.sl Bz) (·.P):=by
 rintro S o cs x ⟨v1,b,c,d,g,i,rfl,k0,j,k,l,a,m,n⟩
 exact⟨_,rfl,a⟩
def KD:GO DE 5 (BZ.sl AJ) (·.S):=by
 rintro S o cs x ⟨v1,b,c,d,g,i,rfl,k0,j,k,l,m,a,n⟩
 exact⟨_,rfl,a⟩
def LQ:GO DE 6 (BZ.sl AJ) (·.U):=by
 rintro S o cs x ⟨v1,b,c,d,g,i,rfl,k0,j,k,l,m,n,a⟩
 exact⟨_,rfl,a⟩
structure AQ where
 group:ByteArray
 name:ByteArray
instance:Inhabited AQ:=⟨⟨default,default⟩⟩
@[reducible] def AQ.v (x:AQ):List Go.Value:=[.string x.group,.string x.name]
def AQ.ok (x:AQ):Prop:=x.group.size≤maxLen∧x.name.size≤maxLen
def LP:BZ AQ where
 sz:=2
 ag:=true
 rd:=λ_ _ cs x=>cs=x.v∧x.ok
 len:=λ⟨b,_⟩=>by rw[b];rfl
 one:=λ{_ _ _ x} ⟨b,_⟩ v a=>by
  rw[b] at a
  simp only[AQ.v,rG,rT,sI] at a
  rcases a with rfl|rfl<;>rfl
 mono:=λb _ _=>b
def LP.ex {S a v}{x:AQ}(k:Rd S a LP v x):v= .agg #[.string x.group,.string x.name]∧x.ok:=by obtain⟨_,rfl,rfl,a⟩:=k;exact⟨rfl,a⟩
def LP.mk {S h}{x:AQ}(k:x.ok):Rd S h LP (.agg #[.string x.group,.string x.name]) x:=⟨x.v,rfl,rfl,k⟩
structure Kh where
 B:Int
 Bb:Int
instance:Inhabited Kh:=⟨⟨default,default⟩⟩
@[reducible] def Kh.v (x:Kh):List Go.Value:=[.int .i64 x.B,.int .i64 x.Bb]
def Kh.ok (x:Kh):Prop:=AH x.B∧AH x.Bb
def Gc:BZ Kh where
 sz:=2
 ag:=true
 rd:=λ_ _ cs x=>cs=x.v∧x.ok
 len:=λ⟨b,_⟩=>by rw[b];rfl
 one:=λ{_ _ _ x} ⟨b,_⟩ v a=>by
  rw[b] at a
  simp only[Kh.v,rG,rT,sI] at a
  rcases a with rfl|rfl<;>rfl
 mono:=λb _ _=>b
def Gc.ex {S a v}{x:Kh}(k:Rd S a Gc v x):v= .agg #[.int .i64 x.B,.int .i64 x.Bb]∧x.ok:=by obtain⟨_,rfl,rfl,a⟩:=k;exact⟨rfl,a⟩
def Gc.mk {S h}{x:Kh}(k:x.ok):Rd S h Gc (.agg #[.int .i64 x.B,.int .i64 x.Bb]) x:=⟨x.v,rfl,rfl,k⟩
def Kh.f_Kind:GO Gc 0 AJ (·.B):=by
 rintro S b cs x ⟨rfl,⟨k0,a⟩⟩
 exact⟨rfl,k0⟩
structure P9 where
 Bb:Int
 Z:Int
instance:Inhabited P9:=⟨⟨default,default⟩⟩
@[reducible] def P9.v (x:P9):List Go.Value:=[.int .i64 x.Bb,.int .i64 x.Z]
def P9.ok (x:P9):Prop:=AH x.Bb∧AH x.Z
def JX:BZ P9 where
 sz:=2
 ag:=true
 rd:=λ_ _ cs x=>cs=x.v∧x.ok
 len:=λ⟨b,_⟩=>by rw[b];rfl
 one:=λ{_ _ _ x} ⟨b,_⟩ v a=>by
  rw[b] at a
  simp only[P9.v,rG,rT,sI] at a
  rcases a with rfl|rfl<;>rfl
 mono:=λb _ _=>b
def JX.ex {S a v}{x:P9}(k:Rd S a JX v x):v= .agg #[.int .i64 x.Bb,.int .i64 x.Z]∧x.ok:=by obtain⟨_,rfl,rfl,a⟩:=k;exact⟨rfl,a⟩
def JX.mk {S h}{x:P9}(k:x.ok):Rd S h JX (.agg #[.int .i64 x.Bb,.int .i64 x.Z]) x:=⟨x.v,rfl,rfl,k⟩
structure G9 where
 An:Int
 Bi:Int
 Bd:Int
 C:Int
instance:Inhabited G9:=⟨⟨default,default,default,default⟩⟩
@[reducible] def G9.v (x:G9):List Go.Value:=[.int .i64 x.An,.int .i64 x.Bi,.int .i64 x.Bd,.int .i64 x.C]
def G9.ok (x:G9):Prop:=AH x.An∧AH x.Bi∧AH x.Bd∧AH x.C
def Gd:BZ G9 where
 sz:=4
 ag:=true
 rd:=λ_ _ cs x=>cs=x.v∧x.ok
 len:=λ⟨b,_⟩=>by rw[b];rfl
 one:=λ{_ _ _ x} ⟨b,_⟩ v a=>by
  rw[b] at a
  simp only[G9.v,rG,rT,sI] at a
  rcases a with rfl|rfl|rfl|rfl<;>rfl
 mono:=λb _ _=>b
def Gd.ex {S a v}{x:G9}(k:Rd S a Gd v x):v= .agg #[.int .i64 x.An,.int .i64 x.Bi,.int .i64 x.Bd,.int .i64 x.C]∧x.ok:=by obtain⟨_,rfl,rfl,a⟩:=k;exact⟨rfl,a⟩
def Gd.mk {S h}{x:G9}(k:x.ok):Rd S h Gd (.agg #[.int .i64 x.An,.int .i64 x.Bi,.int .i64 x.Bd,.int .i64 x.C]) x:=⟨x.v,rfl,rfl,k⟩
def G9.f_Place:GO Gd 0 AJ (·.An):=by
 rintro S d cs x ⟨rfl,⟨k0,a,b,c⟩⟩
 exact⟨rfl,k0⟩
def Rg:GO Gd 1 AJ (·.Bi):=by
 rintro S d cs x ⟨rfl,⟨k0,a,b,c⟩⟩
 exact⟨rfl,a⟩
def G9.f_Litres:GO Gd 2 AJ (·.Bd):=by
 rintro S d cs x ⟨rfl,⟨k0,b,a,c⟩⟩
 exact⟨rfl,a⟩
def G9.f_To:GO Gd 3 AJ (·.C):=by
 rintro S d cs x ⟨rfl,⟨k0,b,c,a⟩⟩
 exact⟨rfl,a⟩
structure MV where
 An:Int
 G:Int
 C:Int
 Bd:Int
instance:Inhabited MV:=⟨⟨default,default,default,default⟩⟩
@[reducible] def MV.v (x:MV):List Go.Value:=[.int .i64 x.An,.int .i64 x.G,.int .i64 x.C,.int .i64 x.Bd]
def MV.ok (x:MV):Prop:=AH x.An∧AH x.G∧AH x.C∧AH x.Bd
def HM:BZ MV where
 sz:=4
 ag:=true
 rd:=λ_ _ cs x=>cs=x.v∧x.ok
 len:=λ⟨b,_⟩=>by rw[b];rfl
 one:=λ{_ _ _ x} ⟨b,_⟩ v a=>by
  rw[b] at a
  simp only[MV.v,rG,rT,sI] at a
  rcases a with rfl|rfl|rfl|rfl<;>rfl
 mono:=λb _ _=>b
def HM.ex {S a v}{x:MV}(k:Rd S a HM v x):v= .agg #[.int .i64 x.An,.int .i64 x.G,.int .i64 x.C,.int .i64 x.Bd]∧x.ok:=by obtain⟨_,rfl,rfl,a⟩:=k;exact⟨rfl,a⟩
def HM.mk {S h}{x:MV}(k:x.ok):Rd S h HM (.agg #[.int .i64 x.An,.int .i64 x.G,.int .i64 x.C,.int .i64 x.Bd]) x:=⟨x.v,rfl,rfl,k⟩
def MV.f_Place:GO HM 0 AJ (·.An):=by
 rintro S d cs x ⟨rfl,⟨k0,a,b,c⟩⟩
 exact⟨rfl,k0⟩
def MV.f_To:GO HM 2 AJ (·.C):=by
 rintro S d cs x ⟨rfl,⟨k0,b,a,c⟩⟩
 exact⟨rfl,a⟩
def MV.f_Litres:GO HM 3 AJ (·.Bd):=by
 rintro S d cs x ⟨rfl,⟨k0,b,c,a⟩⟩
 exact⟨rfl,a⟩
structure DO where
 X:(List Int)
 Ap:(List Kh)
 At:(List P9)
 Ad:(List G9)
 Ba:(List MV)
instance:Inhabited DO:=⟨⟨default,default,default,default,default⟩⟩
def G0:BZ DO where
 sz:=5
 ag:=true
 rd:=λS m cs x=>∃a v1 b c d:Value,cs=[a,v1,b,c,d]∧Sl S m AJ a x.X∧Sl S m Gc v1 x.Ap∧Sl S m JX b x.At∧Sl S m Gd c x.Ad∧Sl S m HM d x.Ba
 len:=λ⟨_,_,_,_,_,m,_⟩=>by rw[m];rfl
 one:=by
  rintro S m cs x ⟨a,v1,b,c,d,rfl,k0,g,i,j,k⟩ v l
  simp only[rG,rT,sI] at l
  rcases l with rfl|rfl|rfl|rfl|rfl<;>first|rfl|exact Sl.one ‹_› |exact(‹_∧_›).2|(obtain ⟨_,_,rfl,_⟩:=Rd.fn ‹_›;rfl)|(obtain ⟨_,_,rfl,_⟩:=Rd.fnr ‹_›;rfl)
 mono:=by
  rintro S S' m h' cs x ⟨a,v1,b,c,d,rfl,k0,g,i,j,k⟩ s e
  exact⟨a,v1,b,c,d,rfl,k0.mono s e,g.mono s e,i.mono s e,j.mono s e,k.mono s e⟩
def G0.ex {S h v}{x:DO}(k:Rd S h G0 v x):∃a v1 b c d:Value,v= .agg #[a,v1,b,c,d]∧Sl S h AJ a x.X∧Sl S h Gc v1 x.Ap∧Sl S h JX b x.At∧Sl S h Gd c x.Ad∧Sl S h HM d x.Ba:=by obtain⟨_,rfl,a,v1,b,c,d,rfl,k⟩:=k;exact⟨a,v1,b,c,d,rfl,k⟩
def G0.mk {S h}{x:DO}{a v1 b c d:Value}(k0:Sl S h AJ a x.X) (g:Sl S h Gc v1 x.Ap) (i:Sl S h JX b x.At) (j:Sl S h Gd c x.Ad) (k:Sl S h HM d x.Ba):Rd S h G0 (.agg #[a,v1,b,c,d]) x:=⟨_,rfl,a,v1,b,c,d,rfl,k0,g,i,j,k⟩
def DO.f_Rain:GO G0 0 (BZ.sl AJ) (·.X):=by
 rintro S l cs x ⟨a,v1,b,c,d,rfl,k0,g,i,j,k⟩
 exact⟨_,rfl,k0⟩
def P8:GO G0 1 (BZ.sl Gc) (·.Ap):=by
 rintro S l cs x ⟨b,v1,c,d,g,rfl,k0,a,i,j,k⟩
 exact⟨_,rfl,a⟩
def Rh:GO G0 2 (BZ.sl JX) (·.At):=by
 rintro S l cs x ⟨b,v1,c,d,g,rfl,k0,i,a,j,k⟩
 exact⟨_,rfl,a⟩
def Lk:GO G0 3 (BZ.sl Gd) (·.Ad):=by
 rintro S l cs x ⟨b,v1,c,d,g,rfl,k0,i,j,a,k⟩
 exact⟨_,rfl,a⟩
def RK:GO G0 4 (BZ.sl HM) (·.Ba):=by
 rintro S l cs x ⟨b,v1,c,d,g,rfl,k0,i,j,k,a⟩
 exact⟨_,rfl,a⟩
structure BB where
 D:Int
 G:Int
 C:Int
 Be:Int
 Ag:(List Int)
instance:Inhabited BB:=⟨⟨default,default,default,default,default⟩⟩
def CJ:BZ BB where
 sz:=5
 ag:=true
 rd:=λS j cs x=>∃a:Value,cs=[.int .i64 x.D,.int .i64 x.G,.int .i64 x.C,.int .i64 x.Be,a]∧AH x.D∧AH x.G∧AH x.C∧AH x.Be∧Sl S j AJ a x.Ag
 len:=λ⟨_,j,_⟩=>by rw[j];rfl
 one:=by
  rintro S j cs x ⟨a,rfl,k0,b,c,d,g⟩ v i
  simp only[rG,rT,sI] at i
  rcases i with rfl|rfl|rfl|rfl|rfl<;>first|rfl|exact Sl.one ‹_› |exact(‹_∧_›).2|(obtain ⟨_,_,rfl,_⟩:=Rd.fn ‹_›;rfl)|(obtain ⟨_,_,rfl,_⟩:=Rd.fnr ‹_›;rfl)
 mono:=by
  rintro S S' j h' cs x ⟨a,rfl,k0,b,c,d,g⟩ s e
  exact⟨a,rfl,k0,b,c,d,g.mono s e⟩
def CJ.ex {S h v}{x:BB}(k:Rd S h CJ v x):∃a:Value,v= .agg #[.int .i64 x.D,.int .i64 x.G,.int .i64 x.C,.int .i64 x.Be,a]∧AH x.D∧AH x.G∧AH x.C∧AH x.Be∧Sl S h AJ a x.Ag:=by obtain⟨_,rfl,a,rfl,k⟩:=k;exact⟨a,rfl,k⟩
def CJ.mk {S h}{x:BB}{a:Value}(k0:AH x.D) (b:AH x.G) (c:AH x.C) (d:AH x.Be) (g:Sl S h AJ a x.Ag):Rd S h CJ (.agg #[.int .i64 x.D,.int .i64 x.G,.int .i64 x.C,.int .i64 x.Be,a]) x:=⟨_,rfl,a,rfl,k0,b,c,d,g⟩
def BB.f_Hour:GO CJ 0 AJ (·.D):=by
 rintro S i cs x ⟨a,rfl,k0,b,c,d,g⟩
 exact⟨rfl,k0⟩
def BB.f_To:GO CJ 2 AJ (·.C):=by
 rintro S i cs x ⟨b,rfl,k0,c,a,d,g⟩
 exact⟨rfl,a⟩
def Gy:GO CJ 3 AJ (·.Be):=by
 rintro S i cs x ⟨b,rfl,k0,c,d,a,g⟩
 exact⟨rfl,a⟩
def BB.f_Part:GO CJ 4 (BZ.sl AJ) (·.Ag):=by
 rintro S i cs x ⟨b,rfl,k0,c,d,g,a⟩
 exact⟨_,rfl,a⟩
structure AX where
 b:AU
 in_:DO
 s:A7
 moves:(List BB)
 peaks:(List Int)
 sent:(List BD)
instance:Inhabited AX:=⟨⟨default,default,default,default,default,default⟩⟩
def L0:BZ AX where
 sz:=26
 ag:=true
 rd:=λS h cs x=>∃v1 u w y z B C G a c d g i j k l m n o p q t:Value,cs=[.string x.b.H,v1,.int .i64 x.b.T,u,w,y,z,B,C,G,.int .i64 x.b.V,a,c,d,g,i,.int .i64 x.s.D,j,k,l,m,n,o,p,q,t]∧x.b.H.size≤maxLen∧Sl S h BZ.str v1 x.b.J∧AH x.b.T∧Sl S h Cw u x.b.A∧Sl S h Ct w x.b.E∧Sl S h HL y x.b.Am∧Sl S h Fc z x.b.Au∧Sl S h HN B x.b.Av∧Sl S h Dy C x.b.Ay∧Sl S h AJ G x.b.Ax∧AH x.b.V∧Sl S h AJ a x.in_.X∧Sl S h Gc c x.in_.Ap∧Sl S h JX d x.in_.At∧Sl S h Gd g x.in_.Ad∧Sl S h HM i x.in_.Ba∧AH x.s.D∧Sl S h (BZ.sl AJ) j x.s.F∧Sl S h AJ k x.s.O∧Sl S h BJ l x.s.M∧Sl S h Bz m x.s.P∧Sl S h AJ n x.s.S∧Sl S h AJ o x.s.U∧Sl S h CJ p x.moves∧Sl S h AJ q x.peaks∧Sl S h BJ t x.sent
 len:=λ⟨_,_,_,_,_,_,_,_,_,_,_,_,_,_,_,_,_,_,_,_,_,_,h,_⟩=>by rw[h];rfl
 one:=by
  rintro S h cs x ⟨v1,u,w,y,z,B,C,G,a,c,d,g,i,j,k,l,m,n,o,p,q,t,rfl,k0,k1,k2,k3,k4,k5,k6,k7,k8,k9,I,K,Q,W,Y,Z,aa,ab,ac,ad,ae,af,ah,ai,aj,ak⟩ v hv
  simp only[rG,rT,sI] at hv
  rcases hv with rfl|rfl|rfl|rfl|rfl|rfl|rfl|rfl|rfl|rfl|rfl|rfl|rfl|rfl|rfl|rfl|rfl|rfl|rfl|rfl|rfl|rfl|rfl|rfl|rfl|rfl<;>first|rfl|exact Sl.one ‹_› |exact(‹_∧_›).2|(obtain ⟨_,_,rfl,_⟩:=Rd.fn ‹_›;rfl)|(obtain ⟨_,_,rfl,_⟩:=Rd.fnr ‹_›;rfl)
 mono:=by
  rintro S S' h h' cs x ⟨v1,u,w,y,z,B,C,G,a,c,d,g,i,j,k,l,m,n,o,p,q,t,rfl,k0,k1,k2,k3,k4,k5,k6,k7,k8,k9,I,K,Q,W,Y,Z,aa,ab,ac,ad,ae,af,ah,ai,aj,ak⟩ s e
  exact⟨v1,u,w,y,z,B,C,G,a,c,d,g,i,j,k,l,m,n,o,p,q,t,rfl,k0,k1.mono s e,k2,k3.mono s e,k4.mono s e,k5.mono s e,k6.mono s e,k7.mono s e,k8.mono s e,k9.mono s e,I,K.mono s e,Q.mono s e,W.mono s e,Y.mono s e,Z.mono s e,aa,ab.mono s e,ac.mono s e,ad.mono s e,ae.mono s e,af.mono s e,ah.mono s e,ai.mono s e,aj.mono s e,ak.mono s e⟩
def L0.ex {S h v}{x:AX}(k:Rd S h L0 v x):∃v1 w y z B C G I a c d g i j l m n o p q t u:Value,v= .agg #[.string x.b.H,v1,.int .i64 x.b.T,w,y,z,B,C,G,I,.int .i64 x.b.V,a,c,d,g,i,.int .i64 x.s.D,j,l,m,n,o,p,q,t,u]∧x.b.H.size≤maxLen∧Sl S h BZ.str v1 x.b.J∧AH x.b.T∧Sl S h Cw w x.b.A∧Sl S h Ct y x.b.E∧Sl S h HL z x.b.Am∧Sl S h Fc B x.b.Au∧Sl S h HN C x.b.Av∧Sl S h Dy G x.b.Ay∧Sl S h AJ I x.b.Ax∧AH x.b.V∧Sl S h AJ a x.in_.X∧Sl S h Gc c x.in_.Ap∧Sl S h JX d x.in_.At∧Sl S h Gd g x.in_.Ad∧Sl S h HM i x.in_.Ba∧AH x.s.D∧Sl S h (BZ.sl AJ) j x.s.F∧Sl S h AJ l x.s.O∧Sl S h BJ m x.s.M∧Sl S h Bz n x.s.P∧Sl S h AJ o x.s.S∧Sl S h AJ p x.s.U∧Sl S h CJ q x.moves∧Sl S h AJ t x.peaks∧Sl S h BJ u x.sent:=by obtain⟨_,rfl,v1,w,y,z,B,C,G,I,a,c,d,g,i,j,l,m,n,o,p,q,t,u,rfl,k⟩:=k;exact⟨v1,w,y,z,B,C,G,I,a,c,d,g,i,j,l,m,n,o,p,q,t,u,rfl,k⟩
def L0.mk {S h}{x:AX}{v1 u v w y z B C a c d g i j k l m n o p q t:Value}(k0:x.b.H.size≤maxLen) (k1:Sl S h BZ.str v1 x.b.J) (k2:AH x.b.T) (k3:Sl S h Cw u x.b.A) (k4:Sl S h Ct v x.b.E) (k5:Sl S h HL w x.b.Am) (k6:Sl S h Fc y x.b.Au) (k7:Sl S h HN z x.b.Av) (k8:Sl S h Dy B x.b.Ay) (k9:Sl S h AJ C x.b.Ax) (G:AH x.b.V) (I:Sl S h AJ a x.in_.X) (K:Sl S h Gc c x.in_.Ap) (Q:Sl S h JX d x.in_.At) (W:Sl S h Gd g x.in_.Ad) (Y:Sl S h HM i x.in_.Ba) (Z:AH x.s.D) (aa:Sl S h (BZ.sl AJ) j x.s.F) (ab:Sl S h AJ k x.s.O) (ac:Sl S h BJ l x.s.M) (ad:Sl S h Bz m x.s.P) (ae:Sl S h AJ n x.s.S) (af:Sl S h AJ o x.s.U) (ag:Sl S h CJ p x.moves) (ah:Sl S h AJ q x.peaks) (ai:Sl S h BJ t x.sent):Rd S h L0 (.agg #[.string x.b.H,v1,.int .i64 x.b.T,u,v,w,y,z,B,C,.int .i64 x.b.V,a,c,d,g,i,.int .i64 x.s.D,j,k,l,m,n,o,p,q,t]) x:=⟨_,rfl,v1,u,v,w,y,z,B,C,a,c,d,g,i,j,k,l,m,n,o,p,q,t,rfl,k0,k1,k2,k3,k4,k5,k6,k7,k8,k9,G,I,K,Q,W,Y,Z,aa,ab,ac,ad,ae,af,ag,ah,ai⟩
structure AK where
 to_:Int
 delay:Int
 way:Int
 take:((List Int)→Option ((List Int)×(List Int)))
instance:Inhabited AK:=⟨⟨default,default,default,default⟩⟩
def BK:BZ AK where
 sz:=4
 ag:=true
 rd:=λS k cs x=>∃a:Value,cs=[.int .i64 x.to_,.int .i64 x.delay,.int .i64 x.way,a]∧AH x.to_∧AH x.delay∧AH x.way∧Rd S k (BZ.fnr prog (λS k vs (x:(List Int))=>∃b:Value,vs=[b]∧Sl S k AJ b x) (λS k v (y:((List Int)×(List Int)))=>∃b c:Value,v= .tuple #[b,c]∧Sl S k AJ b y.1∧Sl S k AJ c y.2)) a x.take
 len:=λ⟨_,k,_⟩=>by rw[k];rfl
 one:=by
  rintro S k cs x ⟨a,rfl,k0,d,g,i⟩ v j
  simp only[rG,rT,sI] at j
  rcases j with rfl|rfl|rfl|rfl<;>first|rfl|exact Sl.one ‹_› |exact(‹_∧_›).2|(obtain ⟨_,_,rfl,_⟩:=Rd.fn ‹_›;rfl)|(obtain ⟨_,_,rfl,_⟩:=Rd.fnr ‹_›;rfl)
 mono:=by
  rintro S S' k h' cs x ⟨a,rfl,k0,d,g,i⟩ s e
  exact⟨a,rfl,k0,d,g,i.mono'' s e⟩
def BK.ex {S d v}{x:AK}(k:Rd S d BK v x):∃b:Value,v= .agg #[.int .i64 x.to_,.int .i64 x.delay,.int .i64 x.way,b]∧AH x.to_∧AH x.delay∧AH x.way∧Rd S d (BZ.fnr prog (λS d vs (x:(List Int))=>∃a:Value,vs=[a]∧Sl S d AJ a x) (λS d v (y:((List Int)×(List Int)))=>∃a c:Value,v= .tuple #[a,c]∧Sl S d AJ a y.1∧Sl S d AJ c y.2)) b x.take:=by obtain⟨_,rfl,b,rfl,k⟩:=k;exact⟨b,rfl,k⟩
def BK.mk {S j}{x:AK}{b:Value}(k0:AH x.to_) (d:AH x.delay) (g:AH x.way) (i:Rd S j (BZ.fnr prog (λS j vs (x:(List Int))=>∃a:Value,vs=[a]∧Sl S j AJ a x) (λS j v (y:((List Int)×(List Int)))=>∃a c:Value,v= .tuple #[a,c]∧Sl S j AJ a y.1∧Sl S j AJ c y.2)) b x.take):Rd S j BK (.agg #[.int .i64 x.to_,.int .i64 x.delay,.int .i64 x.way,b]) x:=⟨_,rfl,b,rfl,k0,d,g,i⟩
def Kf:GO BK 0 AJ (·.to_):=by
 rintro S g cs x ⟨a,rfl,k0,b,c,d⟩
 exact⟨rfl,k0⟩
def OR:GO BK 1 AJ (·.delay):=by
 rintro S g cs x ⟨b,rfl,k0,a,c,d⟩
 exact⟨rfl,a⟩
def Pa:GO BK 2 AJ (·.way):=by
 rintro S g cs x ⟨b,rfl,k0,c,a,d⟩
 exact⟨rfl,a⟩
def PD:GO BK 3 (BZ.fnr prog (λS m vs (x:(List Int))=>∃a:Value,vs=[a]∧Sl S m AJ a x) (λS m v (y:((List Int)×(List Int)))=>∃a b:Value,v= .tuple #[a,b]∧Sl S m AJ a y.1∧Sl S m AJ b y.2)) (·.take):=by
 rintro S m cs x ⟨j,rfl,k0,k,l,c⟩
 obtain⟨_,rfl,d,g,rfl,i⟩:=c
 exact⟨d,g,rfl,i⟩
def L5:ByteArray:=ByteArray.mk #[0,1,2,2,3,3,3,3,4,4,4,4,4,4,4,4,5,5,5,5,5,5,5,5,5,5,5,5,5,5,5,5,6,6,6,6,6,6,6,6,6,6,6,6,6,6,6,6,6,6,6,6,6,6,6,6,6,6,6,6,6,6,6,6,7,7,7,7,7,7,7,7,7,7,7,7,7,7,7,7,7,7,7,7,7,7,7,7,7,7,7,7,7,7,7,7,7,7,7,7,7,7,7,7,7,7,7,7,7,7,7,7,7,7,7,7,7,7,7,7,7,7,7,7,7,7,7,7,8,8,8,8,8,8,8,8,8,8,8,8,8,8,8,8,8,8,8,8,8,8,8,8,8,8,8,8,8,8,8,8,8,8,8,8,8,8,8,8,8,8,8,8,8,8,8,8,8,8,8,8,8,8,8,8,8,8,8,8,8,8,8,8,8,8,8,8,8,8,8,8,8,8,8,8,8,8,8,8,8,8,8,8,8,8,8,8,8,8,8,8,8,8,8,8,8,8,8,8,8,8,8,8,8,8,8,8,8,8,8,8,8,8,8,8,8,8,8,8,8,8,8,8,8,8,8,8]
def Nj:List ByteArray:=([(ByteArray.mk #[97]),(ByteArray.mk #[99])]:List ByteArray)
def Nk:List Dm:=([(⟨(ByteArray.mk #[112]),0,2,120,([(⟨0,0⟩:BS)]:List BS),([100,50]:List Int),1,10,(-1),0,0,[]⟩:Dm)]:List Dm)
end Go.Proofs.YtblcgjadhemlbaaGreat
