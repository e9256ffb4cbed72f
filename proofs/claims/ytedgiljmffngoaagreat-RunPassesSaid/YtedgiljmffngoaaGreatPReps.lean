import Derived.Test.YtedgiljmffngoaaGreatPCore30
import Derived.Test.YtedgiljmffngoaaGreatPCore31
import Derived.Test.YtedgiljmffngoaaGreatPCore45
import Derived.Test.YtedgiljmffngoaaGreatPSortD
import Derived.Test.YtedgiljmffngoaaGreatRows
namespace Go.Proofs.YtedgiljmffngoaaGreat
set_option linter.all false
open Go.RowKit
open Go.Proofs.Tryz
structure BU where
 R:Int
 W:Int
instance:Inhabited BU:=⟨⟨default,default⟩⟩
@[reducible] def BU.v (x:BU):List Go.Value:=[.int .i64 x.R,.int .i64 x.W]
def BU.ok (x:BU):Prop:=AA x.R∧AA x.W
def CA:A6 BU where
 sz:=2
 ag:=true
 rd:=λ_ _ cs x=>cs=x.v∧x.ok
 len:=λ⟨b,_⟩=>by rw[b];rfl
 one:=λ{_ _ _ x} ⟨b,_⟩ v a=>by
  rw[b] at a;simp only[BU.v,Aae,Aaw,Abc] at a;rcases a with rfl|rfl<;>rfl
 mono:=λb _ _=>b
def CA.ex {S a v}{x:BU}(k:Rd S a CA v x):v= .agg #[.int .i64 x.R,.int .i64 x.W]∧x.ok:=by obtain⟨_,rfl,rfl,a⟩:=k;exact⟨rfl,a⟩
def CA.mk {S h}{x:BU}(k:x.ok):Rd S h CA (.agg #[.int .i64 x.R,.int .i64 x.W]) x:=⟨x.v,rfl,rfl,k⟩
def XZ:Ff CA 0 AB (·.R):=by
 rintro S b cs x ⟨rfl,⟨k0,a⟩⟩;exact⟨rfl,k0⟩
def Tj:Ff CA 1 AB (·.W):=by
 rintro S b cs x ⟨rfl,⟨k0,a⟩⟩;exact⟨rfl,a⟩
structure P5 where
 Bh:Int
 Bm:Int
instance:Inhabited P5:=⟨⟨default,default⟩⟩
@[reducible] def P5.v (x:P5):List Go.Value:=[.int .i64 x.Bh,.int .i64 x.Bm]
def P5.ok (x:P5):Prop:=AA x.Bh∧AA x.Bm
def Mp:A6 P5 where
 sz:=2
 ag:=true
 rd:=λ_ _ cs x=>cs=x.v∧x.ok
 len:=λ⟨b,_⟩=>by rw[b];rfl
 one:=λ{_ _ _ x} ⟨b,_⟩ v a=>by
  rw[b] at a;simp only[P5.v,Aae,Aaw,Abc] at a;rcases a with rfl|rfl<;>rfl
 mono:=λb _ _=>b
def Mp.ex {S a v}{x:P5}(k:Rd S a Mp v x):v= .agg #[.int .i64 x.Bh,.int .i64 x.Bm]∧x.ok:=by obtain⟨_,rfl,rfl,a⟩:=k;exact⟨rfl,a⟩
def Mp.mk {S h}{x:P5}(k:x.ok):Rd S h Mp (.agg #[.int .i64 x.Bh,.int .i64 x.Bm]) x:=⟨x.v,rfl,rfl,k⟩
structure Dw where
 J:ByteArray
 G:Int
 Ac:Int
 Av:Int
 Bn:(List BU)
 Be:(List Int)
 Y:Int
 T:Int
 Ak:Int
 Q:Int
 Bf:Int
 Aa:(List P5)
instance:Inhabited Dw:=⟨⟨default,default,default,default,default,default,default,default,default,default,default,default⟩⟩
def CJ:A6 Dw where
 sz:=12
 ag:=true
 rd:=λS u cs x=>∃b c a:Value,cs=[.string x.J,.int .i64 x.G,.int .i64 x.Ac,.int .i64 x.Av,b,c,.int .i64 x.Y,.int .i64 x.T,.int .i64 x.Ak,.int .i64 x.Q,.int .i64 x.Bf,a]∧x.J.size≤maxLen∧AA x.G∧AA x.Ac∧AA x.Av∧Sl S u CA b x.Bn∧Sl S u AB c x.Be∧AA x.Y∧AA x.T∧AA x.Ak∧AA x.Q∧AA x.Bf∧Sl S u Mp a x.Aa
 len:=λ⟨_,_,_,u,_⟩=>by rw[u];rfl
 one:=by
  rintro S u cs x ⟨b,c,a,rfl,k0,i,j,k,l,m,n,o,p,q,d,g⟩ v t;simp only[Aae,Aaw,Abc] at t;rcases t with rfl|rfl|rfl|rfl|rfl|rfl|rfl|rfl|rfl|rfl|rfl|rfl<;>first|rfl|exact Sl.one ‹_› |exact(‹_∧_›).2|(obtain ⟨_,_,rfl,_⟩:=Rd.fn ‹_›;rfl)|(obtain ⟨_,_,rfl,_⟩:=Rd.fnr ‹_›;rfl)
 mono:=by
  rintro S S' u h' cs x ⟨b,c,a,rfl,k0,i,j,k,l,m,n,o,p,q,d,g⟩ s e;exact⟨b,c,a,rfl,k0,i,j,k,l.mono s e,m.mono s e,n,o,p,q,d,g.mono s e⟩
def CJ.ex {S h v}{x:Dw}(k:Rd S h CJ v x):∃b c a:Value,v= .agg #[.string x.J,.int .i64 x.G,.int .i64 x.Ac,.int .i64 x.Av,b,c,.int .i64 x.Y,.int .i64 x.T,.int .i64 x.Ak,.int .i64 x.Q,.int .i64 x.Bf,a]∧x.J.size≤maxLen∧AA x.G∧AA x.Ac∧AA x.Av∧Sl S h CA b x.Bn∧Sl S h AB c x.Be∧AA x.Y∧AA x.T∧AA x.Ak∧AA x.Q∧AA x.Bf∧Sl S h Mp a x.Aa:=by obtain⟨_,rfl,b,c,a,rfl,k⟩:=k;exact⟨b,c,a,rfl,k⟩
def CJ.mk {S h}{x:Dw}{b c a:Value}(k0:x.J.size≤maxLen) (i:AA x.G) (j:AA x.Ac) (k:AA x.Av) (l:Sl S h CA b x.Bn) (m:Sl S h AB c x.Be) (n:AA x.Y) (o:AA x.T) (p:AA x.Ak) (q:AA x.Q) (d:AA x.Bf) (g:Sl S h Mp a x.Aa):Rd S h CJ (.agg #[.string x.J,.int .i64 x.G,.int .i64 x.Ac,.int .i64 x.Av,b,c,.int .i64 x.Y,.int .i64 x.T,.int .i64 x.Ak,.int .i64 x.Q,.int .i64 x.Bf,a]) x:=⟨_,rfl,b,c,a,rfl,k0,i,j,k,l,m,n,o,p,q,d,g⟩
def Dw.f_Name:Ff CJ 0 A6.str (·.J):=by
 rintro S s cs x ⟨d,g,a,rfl,k0,i,j,k,l,m,n,o,p,q,b,c⟩;exact⟨rfl,k0⟩
def Dw.f_Kind:Ff CJ 1 AB (·.G):=by
 rintro S s cs x ⟨g,i,a,rfl,k0,b,j,k,l,m,n,o,p,q,c,d⟩;exact⟨rfl,b⟩
def OL:Ff CJ 2 AB (·.Ac):=by
 rintro S s cs x ⟨g,i,a,rfl,k0,j,b,k,l,m,n,o,p,q,c,d⟩;exact⟨rfl,b⟩
def Dw.f_Num:Ff CJ 6 AB (·.Y):=by
 rintro S s cs x ⟨g,i,a,rfl,k0,j,k,l,m,n,b,o,p,q,c,d⟩;exact⟨rfl,b⟩
def Dw.f_Den:Ff CJ 7 AB (·.T):=by
 rintro S s cs x ⟨g,i,a,rfl,k0,j,k,l,m,n,o,b,p,q,c,d⟩;exact⟨rfl,b⟩
structure No where
 Az:(List BU)
 Ba:(List BU)
instance:Inhabited No:=⟨⟨default,default⟩⟩
def L5:A6 No where
 sz:=2
 ag:=true
 rd:=λS d cs x=>∃a v1:Value,cs=[a,v1]∧Sl S d CA a x.Az∧Sl S d CA v1 x.Ba
 len:=λ⟨_,_,d,_⟩=>by rw[d];rfl
 one:=by
  rintro S d cs x ⟨a,v1,rfl,k0,b⟩ v c;simp only[Aae,Aaw,Abc] at c;rcases c with rfl|rfl<;>first|rfl|exact Sl.one ‹_› |exact(‹_∧_›).2|(obtain ⟨_,_,rfl,_⟩:=Rd.fn ‹_›;rfl)|(obtain ⟨_,_,rfl,_⟩:=Rd.fnr ‹_›;rfl)
 mono:=by
  rintro S S' d h' cs x ⟨a,v1,rfl,k0,b⟩ s e;exact⟨a,v1,rfl,k0.mono s e,b.mono s e⟩
def L5.ex {S h v}{x:No}(k:Rd S h L5 v x):∃a v1:Value,v= .agg #[a,v1]∧Sl S h CA a x.Az∧Sl S h CA v1 x.Ba:=by obtain⟨_,rfl,a,v1,rfl,k⟩:=k;exact⟨a,v1,rfl,k⟩
def L5.mk {S h}{x:No}{a v1:Value}(k0:Sl S h CA a x.Az) (b:Sl S h CA v1 x.Ba):Rd S h L5 (.agg #[a,v1]) x:=⟨_,rfl,a,v1,rfl,k0,b⟩
def QV:Ff L5 0 (A6.sl CA) (·.Az):=by
 rintro S c cs x ⟨a,v1,rfl,k0,b⟩;exact⟨_,rfl,k0⟩
def QY:Ff L5 1 (A6.sl CA) (·.Ba):=by
 rintro S c cs x ⟨b,v1,rfl,k0,a⟩;exact⟨_,rfl,a⟩
structure BL where
 J:ByteArray
 G:Int
 D:Int
 B:Int
 Aw:(List BU)
 Ag:No
 U:Int
 Ad:Int
 Bc:Int
 Bd:Int
 Y:Int
 T:Int
 Ax:Int
 Ay:Int
 As:Int
 An:Int
 Q:Int
instance:Inhabited BL:=⟨⟨default,default,default,default,default,default,default,default,default,default,default,default,default,default,default,default,default⟩⟩
def B7:A6 BL where
 sz:=18
 ag:=true
 rd:=λS F cs x=>∃a b c:Value,cs=[.string x.J,.int .i64 x.G,.int .i64 x.D,.int .i64 x.B,a,b,c,.int .i64 x.U,.int .i64 x.Ad,.int .i64 x.Bc,.int .i64 x.Bd,.int .i64 x.Y,.int .i64 x.T,.int .i64 x.Ax,.int .i64 x.Ay,.int .i64 x.As,.int .i64 x.An,.int .i64 x.Q]∧x.J.size≤maxLen∧AA x.G∧AA x.D∧AA x.B∧Sl S F CA a x.Aw∧Sl S F CA b x.Ag.Az∧Sl S F CA c x.Ag.Ba∧AA x.U∧AA x.Ad∧AA x.Bc∧AA x.Bd∧AA x.Y∧AA x.T∧AA x.Ax∧AA x.Ay∧AA x.As∧AA x.An∧AA x.Q
 len:=λ⟨_,_,_,F,_⟩=>by rw[F];rfl
 one:=by
  rintro S F cs x ⟨a,b,c,rfl,k0,o,p,q,t,u,w,y,z,A,d,g,i,j,k,l,m,n⟩ v C;simp only[Aae,Aaw,Abc] at C;rcases C with rfl|rfl|rfl|rfl|rfl|rfl|rfl|rfl|rfl|rfl|rfl|rfl|rfl|rfl|rfl|rfl|rfl|rfl<;>first|rfl|exact Sl.one ‹_› |exact(‹_∧_›).2|(obtain ⟨_,_,rfl,_⟩:=Rd.fn ‹_›;rfl)|(obtain ⟨_,_,rfl,_⟩:=Rd.fnr ‹_›;rfl)
 mono:=by
  rintro S S' F h' cs x ⟨a,b,c,rfl,k0,o,p,q,t,u,w,y,z,A,d,g,i,j,k,l,m,n⟩ s e;exact⟨a,b,c,rfl,k0,o,p,q,t.mono s e,u.mono s e,w.mono s e,y,z,A,d,g,i,j,k,l,m,n⟩
def B7.ex {S h v}{x:BL}(k:Rd S h B7 v x):∃a b c:Value,v= .agg #[.string x.J,.int .i64 x.G,.int .i64 x.D,.int .i64 x.B,a,b,c,.int .i64 x.U,.int .i64 x.Ad,.int .i64 x.Bc,.int .i64 x.Bd,.int .i64 x.Y,.int .i64 x.T,.int .i64 x.Ax,.int .i64 x.Ay,.int .i64 x.As,.int .i64 x.An,.int .i64 x.Q]∧x.J.size≤maxLen∧AA x.G∧AA x.D∧AA x.B∧Sl S h CA a x.Aw∧Sl S h CA b x.Ag.Az∧Sl S h CA c x.Ag.Ba∧AA x.U∧AA x.Ad∧AA x.Bc∧AA x.Bd∧AA x.Y∧AA x.T∧AA x.Ax∧AA x.Ay∧AA x.As∧AA x.An∧AA x.Q:=by obtain⟨_,rfl,a,b,c,rfl,k⟩:=k;exact⟨a,b,c,rfl,k⟩
def B7.mk {S h}{x:BL}{a b c:Value}(k0:x.J.size≤maxLen) (o:AA x.G) (p:AA x.D) (q:AA x.B) (s:Sl S h CA a x.Aw) (t:Sl S h CA b x.Ag.Az) (u:Sl S h CA c x.Ag.Ba) (v:AA x.U) (w:AA x.Ad) (y:AA x.Bc) (d:AA x.Bd) (g:AA x.Y) (i:AA x.T) (j:AA x.Ax) (k:AA x.Ay) (l:AA x.As) (m:AA x.An) (n:AA x.Q):Rd S h B7 (.agg #[.string x.J,.int .i64 x.G,.int .i64 x.D,.int .i64 x.B,a,b,c,.int .i64 x.U,.int .i64 x.Ad,.int .i64 x.Bc,.int .i64 x.Bd,.int .i64 x.Y,.int .i64 x.T,.int .i64 x.Ax,.int .i64 x.Ay,.int .i64 x.As,.int .i64 x.An,.int .i64 x.Q]) x:=⟨_,rfl,a,b,c,rfl,k0,o,p,q,s,t,u,v,w,y,d,g,i,j,k,l,m,n⟩
def BL.f_Name:Ff B7 0 A6.str (·.J):=by
 rintro S z cs x ⟨l,m,n,rfl,k0,o,p,q,s,t,u,v,w,y,a,b,c,d,g,i,j,k⟩;exact⟨rfl,k0⟩
def BL.f_Kind:Ff B7 1 AB (·.G):=by
 rintro S z cs x ⟨m,n,o,rfl,k0,a,p,q,s,t,u,v,w,y,b,c,d,g,i,j,k,l⟩;exact⟨rfl,a⟩
def BL.f_From:Ff B7 2 AB (·.D):=by
 rintro S z cs x ⟨m,n,o,rfl,k0,p,a,q,s,t,u,v,w,y,b,c,d,g,i,j,k,l⟩;exact⟨rfl,a⟩
def BL.f_To:Ff B7 3 AB (·.B):=by
 rintro S z cs x ⟨m,n,o,rfl,k0,p,q,a,s,t,u,v,w,y,b,c,d,g,i,j,k,l⟩;exact⟨rfl,a⟩
def K4:Ff B7 4 (A6.sl CA) (·.Aw):=by
 rintro S z cs x ⟨m,n,o,rfl,k0,p,q,s,a,t,u,v,w,y,b,c,d,g,i,j,k,l⟩;exact⟨_,rfl,a⟩
def K5:Ff B7 5 L5 (·.Ag):=by
 rintro S z cs x ⟨n,o,p,rfl,k0,q,s,t,u,a,b,v,w,y,c,d,g,i,j,k,l,m⟩;exact⟨_,_,rfl,a,b⟩
def Fb:Ff B7 7 AB (·.U):=by
 rintro S z cs x ⟨m,n,o,rfl,k0,p,q,s,t,u,v,a,w,y,b,c,d,g,i,j,k,l⟩;exact⟨rfl,a⟩
def KI:Ff B7 8 AB (·.Ad):=by
 rintro S z cs x ⟨m,n,o,rfl,k0,p,q,s,t,u,v,w,a,y,b,c,d,g,i,j,k,l⟩;exact⟨rfl,a⟩
def OD:Ff B7 9 AB (·.Bc):=by
 rintro S z cs x ⟨m,n,o,rfl,k0,p,q,s,t,u,v,w,y,a,b,c,d,g,i,j,k,l⟩;exact⟨rfl,a⟩
def NN:Ff B7 10 AB (·.Bd):=by
 rintro S z cs x ⟨l,m,n,rfl,k0,o,p,q,s,t,u,v,w,y,a,b,c,d,g,i,j,k⟩;exact⟨rfl,a⟩
def BL.f_Num:Ff B7 11 AB (·.Y):=by
 rintro S z cs x ⟨l,m,n,rfl,k0,o,p,q,s,t,u,v,w,y,b,a,c,d,g,i,j,k⟩;exact⟨rfl,a⟩
def BL.f_Den:Ff B7 12 AB (·.T):=by
 rintro S z cs x ⟨l,m,n,rfl,k0,o,p,q,s,t,u,v,w,y,b,c,a,d,g,i,j,k⟩;exact⟨rfl,a⟩
def P3:Ff B7 13 AB (·.Ax):=by
 rintro S z cs x ⟨l,m,n,rfl,k0,o,p,q,s,t,u,v,w,y,b,c,d,a,g,i,j,k⟩;exact⟨rfl,a⟩
def P4:Ff B7 14 AB (·.Ay):=by
 rintro S z cs x ⟨l,m,n,rfl,k0,o,p,q,s,t,u,v,w,y,b,c,d,g,a,i,j,k⟩;exact⟨rfl,a⟩
def JL:Ff B7 15 AB (·.As):=by
 rintro S z cs x ⟨l,m,n,rfl,k0,o,p,q,s,t,u,v,w,y,b,c,d,g,i,a,j,k⟩;exact⟨rfl,a⟩
def JM:Ff B7 16 AB (·.An):=by
 rintro S z cs x ⟨l,m,n,rfl,k0,o,p,q,s,t,u,v,w,y,b,c,d,g,i,j,a,k⟩;exact⟨rfl,a⟩
structure OK where
 J:ByteArray
 Ar:Int
 Bo:Int
 Bl:Int
 Br:Int
 Bp:Int
 Bk:Int
instance:Inhabited OK:=⟨⟨default,default,default,default,default,default,default⟩⟩
@[reducible] def OK.v (x:OK):List Go.Value:=[.string x.J,.int .i64 x.Ar,.int .i64 x.Bo,.int .i64 x.Bl,.int .i64 x.Br,.int .i64 x.Bp,.int .i64 x.Bk]
def OK.ok (x:OK):Prop:=x.J.size≤maxLen∧AA x.Ar∧AA x.Bo∧AA x.Bl∧AA x.Br∧AA x.Bp∧AA x.Bk
def HO:A6 OK where
 sz:=7
 ag:=true
 rd:=λ_ _ cs x=>cs=x.v∧x.ok
 len:=λ⟨b,_⟩=>by rw[b];rfl
 one:=λ{_ _ _ x} ⟨b,_⟩ v a=>by
  rw[b] at a;simp only[OK.v,Aae,Aaw,Abc] at a;rcases a with rfl|rfl|rfl|rfl|rfl|rfl|rfl<;>rfl
 mono:=λb _ _=>b
def HO.ex {S a v}{x:OK}(k:Rd S a HO v x):v= .agg #[.string x.J,.int .i64 x.Ar,.int .i64 x.Bo,.int .i64 x.Bl,.int .i64 x.Br,.int .i64 x.Bp,.int .i64 x.Bk]∧x.ok:=by obtain⟨_,rfl,rfl,a⟩:=k;exact⟨rfl,a⟩
def HO.mk {S h}{x:OK}(k:x.ok):Rd S h HO (.agg #[.string x.J,.int .i64 x.Ar,.int .i64 x.Bo,.int .i64 x.Bl,.int .i64 x.Br,.int .i64 x.Bp,.int .i64 x.Bk]) x:=⟨x.v,rfl,rfl,k⟩
def OK.f_Name:Ff HO 0 A6.str (·.J):=by
 rintro S j cs x ⟨rfl,⟨k0,a,b,c,d,g,i⟩⟩;exact⟨rfl,k0⟩
structure LT where
 J:ByteArray
 G:Int
 X:Int
 S:Int
 Bq:Int
instance:Inhabited LT:=⟨⟨default,default,default,default,default⟩⟩
@[reducible] def LT.v (x:LT):List Go.Value:=[.string x.J,.int .i64 x.G,.int .i64 x.X,.int .i64 x.S,.int .i64 x.Bq]
def LT.ok (x:LT):Prop:=x.J.size≤maxLen∧AA x.G∧AA x.X∧AA x.S∧AA x.Bq
def Eh:A6 LT where
 sz:=5
 ag:=true
 rd:=λ_ _ cs x=>cs=x.v∧x.ok
 len:=λ⟨b,_⟩=>by rw[b];rfl
 one:=λ{_ _ _ x} ⟨b,_⟩ v a=>by
  rw[b] at a;simp only[LT.v,Aae,Aaw,Abc] at a;rcases a with rfl|rfl|rfl|rfl|rfl<;>rfl
 mono:=λb _ _=>b
def Eh.ex {S a v}{x:LT}(k:Rd S a Eh v x):v= .agg #[.string x.J,.int .i64 x.G,.int .i64 x.X,.int .i64 x.S,.int .i64 x.Bq]∧x.ok:=by obtain⟨_,rfl,rfl,a⟩:=k;exact⟨rfl,a⟩
def Eh.mk {S h}{x:LT}(k:x.ok):Rd S h Eh (.agg #[.string x.J,.int .i64 x.G,.int .i64 x.X,.int .i64 x.S,.int .i64 x.Bq]) x:=⟨x.v,rfl,rfl,k⟩
def LT.f_Name:Ff Eh 0 A6.str (·.J):=by
 rintro S g cs x ⟨rfl,⟨k0,a,b,c,d⟩⟩;exact⟨rfl,k0⟩
def LT.f_Kind:Ff Eh 1 AB (·.G):=by
 rintro S g cs x ⟨rfl,⟨k0,a,b,c,d⟩⟩;exact⟨rfl,a⟩
def LT.f_Err:Ff Eh 3 AB (·.S):=by
 rintro S g cs x ⟨rfl,⟨k0,b,c,a,d⟩⟩;exact⟨rfl,a⟩
structure Nn where
 J:ByteArray
 D:Int
 B:Int
 Bs:Int
 Bt:Int
 Bi:Int
 Bj:Int
instance:Inhabited Nn:=⟨⟨default,default,default,default,default,default,default⟩⟩
@[reducible] def Nn.v (x:Nn):List Go.Value:=[.string x.J,.int .i64 x.D,.int .i64 x.B,.int .i64 x.Bs,.int .i64 x.Bt,.int .i64 x.Bi,.int .i64 x.Bj]
def Nn.ok (x:Nn):Prop:=x.J.size≤maxLen∧AA x.D∧AA x.B∧AA x.Bs∧AA x.Bt∧AA x.Bi∧AA x.Bj
def Gy:A6 Nn where
 sz:=7
 ag:=true
 rd:=λ_ _ cs x=>cs=x.v∧x.ok
 len:=λ⟨b,_⟩=>by rw[b];rfl
 one:=λ{_ _ _ x} ⟨b,_⟩ v a=>by
  rw[b] at a;simp only[Nn.v,Aae,Aaw,Abc] at a;rcases a with rfl|rfl|rfl|rfl|rfl|rfl|rfl<;>rfl
 mono:=λb _ _=>b
def Gy.ex {S a v}{x:Nn}(k:Rd S a Gy v x):v= .agg #[.string x.J,.int .i64 x.D,.int .i64 x.B,.int .i64 x.Bs,.int .i64 x.Bt,.int .i64 x.Bi,.int .i64 x.Bj]∧x.ok:=by obtain⟨_,rfl,rfl,a⟩:=k;exact⟨rfl,a⟩
def Gy.mk {S h}{x:Nn}(k:x.ok):Rd S h Gy (.agg #[.string x.J,.int .i64 x.D,.int .i64 x.B,.int .i64 x.Bs,.int .i64 x.Bt,.int .i64 x.Bi,.int .i64 x.Bj]) x:=⟨x.v,rfl,rfl,k⟩
def Nn.f_Name:Ff Gy 0 A6.str (·.J):=by
 rintro S j cs x ⟨rfl,⟨k0,a,b,c,d,g,i⟩⟩;exact⟨rfl,k0⟩
def Nn.f_From:Ff Gy 1 AB (·.D):=by
 rintro S j cs x ⟨rfl,⟨k0,a,b,c,d,g,i⟩⟩;exact⟨rfl,a⟩
def Nn.f_To:Ff Gy 2 AB (·.B):=by
 rintro S j cs x ⟨rfl,⟨k0,b,a,c,d,g,i⟩⟩;exact⟨rfl,a⟩
structure JK where
 J:ByteArray
 Al:Int
instance:Inhabited JK:=⟨⟨default,default⟩⟩
@[reducible] def JK.v (x:JK):List Go.Value:=[.string x.J,.int .i64 x.Al]
def JK.ok (x:JK):Prop:=x.J.size≤maxLen∧AA x.Al
def DD:A6 JK where
 sz:=2
 ag:=true
 rd:=λ_ _ cs x=>cs=x.v∧x.ok
 len:=λ⟨b,_⟩=>by rw[b];rfl
 one:=λ{_ _ _ x} ⟨b,_⟩ v a=>by
  rw[b] at a;simp only[JK.v,Aae,Aaw,Abc] at a;rcases a with rfl|rfl<;>rfl
 mono:=λb _ _=>b
def DD.ex {S a v}{x:JK}(k:Rd S a DD v x):v= .agg #[.string x.J,.int .i64 x.Al]∧x.ok:=by obtain⟨_,rfl,rfl,a⟩:=k;exact⟨rfl,a⟩
def DD.mk {S h}{x:JK}(k:x.ok):Rd S h DD (.agg #[.string x.J,.int .i64 x.Al]) x:=⟨x.v,rfl,rfl,k⟩
def JK.f_Name:Ff DD 0 A6.str (·.J):=by
 rintro S b cs x ⟨rfl,⟨k0,a⟩⟩;exact⟨rfl,k0⟩
def JK.f_Room:Ff DD 1 AB (·.Al):=by
 rintro S b cs x ⟨rfl,⟨k0,a⟩⟩;exact⟨rfl,a⟩
structure AE where
 J:ByteArray
 I:(List ByteArray)
 P:Int
 A:(List Dw)
 F:(List BL)
 Ab:(List OK)
 Ae:(List LT)
 Af:(List Nn)
 Ai:(List JK)
 Al:(List Int)
 S:Int
instance:Inhabited AE:=⟨⟨default,default,default,default,default,default,default,default,default,default,default⟩⟩
def By:A6 AE where
 sz:=11
 ag:=true
 rd:=λS z cs x=>∃v1 a b c d g i j:Value,cs=[.string x.J,v1,.int .i64 x.P,a,b,c,d,g,i,j,.int .i64 x.S]∧x.J.size≤maxLen∧Sl S z A6.str v1 x.I∧AA x.P∧Sl S z CJ a x.A∧Sl S z B7 b x.F∧Sl S z HO c x.Ab∧Sl S z Eh d x.Ae∧Sl S z Gy g x.Af∧Sl S z DD i x.Ai∧Sl S z AB j x.Al∧AA x.S
 len:=λ⟨_,_,_,_,_,_,_,_,z,_⟩=>by rw[z];rfl
 one:=by
  rintro S z cs x ⟨v1,a,b,c,d,g,i,j,rfl,k0,l,m,n,o,p,q,t,u,w,k⟩ v y;simp only[Aae,Aaw,Abc] at y;rcases y with rfl|rfl|rfl|rfl|rfl|rfl|rfl|rfl|rfl|rfl|rfl<;>first|rfl|exact Sl.one ‹_› |exact(‹_∧_›).2|(obtain ⟨_,_,rfl,_⟩:=Rd.fn ‹_›;rfl)|(obtain ⟨_,_,rfl,_⟩:=Rd.fnr ‹_›;rfl)
 mono:=by
  rintro S S' z h' cs x ⟨v1,a,b,c,d,g,i,j,rfl,k0,l,m,n,o,p,q,t,u,w,k⟩ s e;exact⟨v1,a,b,c,d,g,i,j,rfl,k0,l.mono s e,m,n.mono s e,o.mono s e,p.mono s e,q.mono s e,t.mono s e,u.mono s e,w.mono s e,k⟩
def By.ex {S h v}{x:AE}(k:Rd S h By v x):∃v1 a b c d g i j:Value,v= .agg #[.string x.J,v1,.int .i64 x.P,a,b,c,d,g,i,j,.int .i64 x.S]∧x.J.size≤maxLen∧Sl S h A6.str v1 x.I∧AA x.P∧Sl S h CJ a x.A∧Sl S h B7 b x.F∧Sl S h HO c x.Ab∧Sl S h Eh d x.Ae∧Sl S h Gy g x.Af∧Sl S h DD i x.Ai∧Sl S h AB j x.Al∧AA x.S:=by obtain⟨_,rfl,v1,a,b,c,d,g,i,j,rfl,k⟩:=k;exact⟨v1,a,b,c,d,g,i,j,rfl,k⟩
def By.mk {S h}{x:AE}{v1 a b c d g i j:Value}(k0:x.J.size≤maxLen) (l:Sl S h A6.str v1 x.I) (m:AA x.P) (n:Sl S h CJ a x.A) (o:Sl S h B7 b x.F) (p:Sl S h HO c x.Ab) (q:Sl S h Eh d x.Ae) (s:Sl S h Gy g x.Af) (t:Sl S h DD i x.Ai) (u:Sl S h AB j x.Al) (k:AA x.S):Rd S h By (.agg #[.string x.J,v1,.int .i64 x.P,a,b,c,d,g,i,j,.int .i64 x.S]) x:=⟨_,rfl,v1,a,b,c,d,g,i,j,rfl,k0,l,m,n,o,p,q,s,t,u,k⟩
def AE.f_Name:Ff By 0 A6.str (·.J):=by
 rintro S v cs x ⟨v1,b,c,d,g,i,j,k,rfl,k0,l,m,n,o,p,q,s,t,u,a⟩;exact⟨rfl,k0⟩
def Hb:Ff By 1 (A6.sl A6.str) (·.I):=by
 rintro S v cs x ⟨v1,c,d,g,i,j,k,l,rfl,k0,a,m,n,o,p,q,s,t,u,b⟩;exact⟨_,rfl,a⟩
def Mw:Ff By 2 AB (·.P):=by
 rintro S v cs x ⟨v1,c,d,g,i,j,k,l,rfl,k0,m,a,n,o,p,q,s,t,u,b⟩;exact⟨rfl,a⟩
def BZ:Ff By 3 (A6.sl CJ) (·.A):=by
 rintro S v cs x ⟨v1,c,d,g,i,j,k,l,rfl,k0,m,n,a,o,p,q,s,t,u,b⟩;exact⟨_,rfl,a⟩
def Gn:Ff By 4 (A6.sl B7) (·.F):=by
 rintro S v cs x ⟨v1,c,d,g,i,j,k,l,rfl,k0,m,n,o,a,p,q,s,t,u,b⟩;exact⟨_,rfl,a⟩
def Ji:Ff By 5 (A6.sl HO) (·.Ab):=by
 rintro S v cs x ⟨v1,c,d,g,i,j,k,l,rfl,k0,m,n,o,p,a,q,s,t,u,b⟩;exact⟨_,rfl,a⟩
def KP:Ff By 6 (A6.sl Eh) (·.Ae):=by
 rintro S v cs x ⟨v1,c,d,g,i,j,k,l,rfl,k0,m,n,o,p,q,a,s,t,u,b⟩;exact⟨_,rfl,a⟩
def K6:Ff By 7 (A6.sl Gy) (·.Af):=by
 rintro S v cs x ⟨v1,c,d,g,i,j,k,l,rfl,k0,m,n,o,p,q,s,a,t,u,b⟩;exact⟨_,rfl,a⟩
def JV:Ff By 8 (A6.sl DD) (·.Ai):=by
 rintro S v cs x ⟨v1,c,d,g,i,j,k,l,rfl,k0,m,n,o,p,q,s,t,a,u,b⟩;exact⟨_,rfl,a⟩
def AE.f_Room:Ff By 9 (A6.sl AB) (·.Al):=by
 rintro S v cs x ⟨v1,c,d,g,i,j,k,l,rfl,k0,m,n,o,p,q,s,t,u,a,b⟩;exact⟨_,rfl,a⟩
def AE.f_Err:Ff By 10 AB (·.S):=by
 rintro S v cs x ⟨v1,b,c,d,g,i,j,k,rfl,k0,l,m,n,o,p,q,s,t,u,a⟩;exact⟨rfl,a⟩
structure AO where
 Ao:Int
 B:Int
 K:(List Int)
instance:Inhabited AO:=⟨⟨default,default,default⟩⟩
def AZ:A6 AO where
 sz:=3
 ag:=true
 rd:=λS g cs x=>∃a:Value,cs=[.int .i64 x.Ao,.int .i64 x.B,a]∧AA x.Ao∧AA x.B∧Sl S g AB a x.K
 len:=λ⟨_,g,_⟩=>by rw[g];rfl
 one:=by
  rintro S g cs x ⟨a,rfl,k0,b,c⟩ v d;simp only[Aae,Aaw,Abc] at d;rcases d with rfl|rfl|rfl<;>first|rfl|exact Sl.one ‹_› |exact(‹_∧_›).2|(obtain ⟨_,_,rfl,_⟩:=Rd.fn ‹_›;rfl)|(obtain ⟨_,_,rfl,_⟩:=Rd.fnr ‹_›;rfl)
 mono:=by
  rintro S S' g h' cs x ⟨a,rfl,k0,b,c⟩ s e;exact⟨a,rfl,k0,b,c.mono s e⟩
def AZ.ex {S h v}{x:AO}(k:Rd S h AZ v x):∃a:Value,v= .agg #[.int .i64 x.Ao,.int .i64 x.B,a]∧AA x.Ao∧AA x.B∧Sl S h AB a x.K:=by obtain⟨_,rfl,a,rfl,k⟩:=k;exact⟨a,rfl,k⟩
def AZ.mk {S h}{x:AO}{a:Value}(k0:AA x.Ao) (b:AA x.B) (c:Sl S h AB a x.K):Rd S h AZ (.agg #[.int .i64 x.Ao,.int .i64 x.B,a]) x:=⟨_,rfl,a,rfl,k0,b,c⟩
def Xa:Ff AZ 0 AB (·.Ao):=by
 rintro S d cs x ⟨a,rfl,k0,b,c⟩;exact⟨rfl,k0⟩
def AO.f_To:Ff AZ 1 AB (·.B):=by
 rintro S d cs x ⟨b,rfl,k0,a,c⟩;exact⟨rfl,a⟩
def AO.f_Part:Ff AZ 2 (A6.sl AB) (·.K):=by
 rintro S d cs x ⟨b,rfl,k0,c,a⟩;exact⟨_,rfl,a⟩
structure AQ where
 V:Int
 X:Int
 Au:Bool
 Am:Bool
instance:Inhabited AQ:=⟨⟨default,default,default,default⟩⟩
@[reducible] def AQ.v (x:AQ):List Go.Value:=[.int .i64 x.V,.int .i64 x.X,.bool x.Au,.bool x.Am]
def AQ.ok (x:AQ):Prop:=AA x.V∧AA x.X
def BJ:A6 AQ where
 sz:=4
 ag:=true
 rd:=λ_ _ cs x=>cs=x.v∧x.ok
 len:=λ⟨b,_⟩=>by rw[b];rfl
 one:=λ{_ _ _ x} ⟨b,_⟩ v a=>by
  rw[b] at a;simp only[AQ.v,Aae,Aaw,Abc] at a;rcases a with rfl|rfl|rfl|rfl<;>rfl
 mono:=λb _ _=>b
def BJ.ex {S a v}{x:AQ}(k:Rd S a BJ v x):v= .agg #[.int .i64 x.V,.int .i64 x.X,.bool x.Au,.bool x.Am]∧x.ok:=by obtain⟨_,rfl,rfl,a⟩:=k;exact⟨rfl,a⟩
def BJ.mk {S h}{x:AQ}(k:x.ok):Rd S h BJ (.agg #[.int .i64 x.V,.int .i64 x.X,.bool x.Au,.bool x.Am]) x:=⟨x.v,rfl,rfl,k⟩
def R9:Ff BJ 0 AB (·.V):=by
 rintro S b cs x ⟨rfl,⟨k0,a⟩⟩;exact⟨rfl,k0⟩
def VT:Ff BJ 3 A6.bool (·.Am):=by
 rintro S b cs x ⟨rfl,⟨k0,a⟩⟩;exact rfl
structure AF where
 C:Int
 E:(List (List Int))
 M:(List Int)
 H:(List AO)
 O:(List AQ)
 N:(List Int)
 L:(List Int)
instance:Inhabited AF:=⟨⟨default,default,default,default,default,default,default⟩⟩
def BA:A6 AF where
 sz:=7
 ag:=true
 rd:=λS p cs x=>∃v1 a b c d g:Value,cs=[.int .i64 x.C,v1,a,b,c,d,g]∧AA x.C∧Sl S p (A6.sl AB) v1 x.E∧Sl S p AB a x.M∧Sl S p AZ b x.H∧Sl S p BJ c x.O∧Sl S p AB d x.N∧Sl S p AB g x.L
 len:=λ⟨_,_,_,_,_,_,p,_⟩=>by rw[p];rfl
 one:=by
  rintro S p cs x ⟨v1,a,b,c,d,g,rfl,k0,i,j,k,l,m,n⟩ v o;simp only[Aae,Aaw,Abc] at o;rcases o with rfl|rfl|rfl|rfl|rfl|rfl|rfl<;>first|rfl|exact Sl.one ‹_› |exact(‹_∧_›).2|(obtain ⟨_,_,rfl,_⟩:=Rd.fn ‹_›;rfl)|(obtain ⟨_,_,rfl,_⟩:=Rd.fnr ‹_›;rfl)
 mono:=by
  rintro S S' p h' cs x ⟨v1,a,b,c,d,g,rfl,k0,i,j,k,l,m,n⟩ s e;exact⟨v1,a,b,c,d,g,rfl,k0,i.mono s e,j.mono s e,k.mono s e,l.mono s e,m.mono s e,n.mono s e⟩
def BA.ex {S h v}{x:AF}(k:Rd S h BA v x):∃v1 a b c d g:Value,v= .agg #[.int .i64 x.C,v1,a,b,c,d,g]∧AA x.C∧Sl S h (A6.sl AB) v1 x.E∧Sl S h AB a x.M∧Sl S h AZ b x.H∧Sl S h BJ c x.O∧Sl S h AB d x.N∧Sl S h AB g x.L:=by obtain⟨_,rfl,v1,a,b,c,d,g,rfl,k⟩:=k;exact⟨v1,a,b,c,d,g,rfl,k⟩
def BA.mk {S h}{x:AF}{v1 a b c d g:Value}(k0:AA x.C) (i:Sl S h (A6.sl AB) v1 x.E) (j:Sl S h AB a x.M) (k:Sl S h AZ b x.H) (l:Sl S h BJ c x.O) (m:Sl S h AB d x.N) (n:Sl S h AB g x.L):Rd S h BA (.agg #[.int .i64 x.C,v1,a,b,c,d,g]) x:=⟨_,rfl,v1,a,b,c,d,g,rfl,k0,i,j,k,l,m,n⟩
def AF.f_Hour:Ff BA 0 AB (·.C):=by
 rintro S o cs x ⟨v1,a,b,c,d,g,rfl,k0,i,j,k,l,m,n⟩;exact⟨rfl,k0⟩
def FL:Ff BA 1 (A6.sl (A6.sl AB)) (·.E):=by
 rintro S o cs x ⟨v1,b,c,d,g,i,rfl,k0,a,j,k,l,m,n⟩;exact⟨_,rfl,a⟩
def Jx:Ff BA 2 (A6.sl AB) (·.M):=by
 rintro S o cs x ⟨v1,b,c,d,g,i,rfl,k0,j,a,k,l,m,n⟩;exact⟨_,rfl,a⟩
def Fs:Ff BA 3 (A6.sl AZ) (·.H):=by
 rintro S o cs x ⟨v1,b,c,d,g,i,rfl,k0,j,k,a,l,m,n⟩;exact⟨_,rfl,a⟩
def Ix:Ff BA 4 (A6.sl BJ) (·.O):=by
 rintro S o cs x ⟨v1,b,c,d,g,i,rfl,k0,j,k,l,a,m,n⟩;exact⟨_,rfl,a⟩
def I1:Ff BA 5 (A6.sl AB) (·.N):=by
 rintro S o cs x ⟨v1,b,c,d,g,i,rfl,k0,j,k,l,m,a,n⟩;exact⟨_,rfl,a⟩
def HI:Ff BA 6 (A6.sl AB) (·.L):=by
 rintro S o cs x ⟨v1,b,c,d,g,i,rfl,k0,j,k,l,m,n,a⟩;exact⟨_,rfl,a⟩
structure LU where
 G:Int
 At:Int
instance:Inhabited LU:=⟨⟨default,default⟩⟩
@[reducible] def LU.v (x:LU):List Go.Value:=[.int .i64 x.G,.int .i64 x.At]
def LU.ok (x:LU):Prop:=AA x.G∧AA x.At
def Gm:A6 LU where
 sz:=2
 ag:=true
 rd:=λ_ _ cs x=>cs=x.v∧x.ok
 len:=λ⟨b,_⟩=>by rw[b];rfl
 one:=λ{_ _ _ x} ⟨b,_⟩ v a=>by
  rw[b] at a;simp only[LU.v,Aae,Aaw,Abc] at a;rcases a with rfl|rfl<;>rfl
 mono:=λb _ _=>b
def Gm.ex {S a v}{x:LU}(k:Rd S a Gm v x):v= .agg #[.int .i64 x.G,.int .i64 x.At]∧x.ok:=by obtain⟨_,rfl,rfl,a⟩:=k;exact⟨rfl,a⟩
def Gm.mk {S h}{x:LU}(k:x.ok):Rd S h Gm (.agg #[.int .i64 x.G,.int .i64 x.At]) x:=⟨x.v,rfl,rfl,k⟩
def LU.f_Kind:Ff Gm 0 AB (·.G):=by
 rintro S b cs x ⟨rfl,⟨k0,a⟩⟩;exact⟨rfl,k0⟩
structure SS where
 At:Int
 X:Int
instance:Inhabited SS:=⟨⟨default,default⟩⟩
@[reducible] def SS.v (x:SS):List Go.Value:=[.int .i64 x.At,.int .i64 x.X]
def SS.ok (x:SS):Prop:=AA x.At∧AA x.X
def Jy:A6 SS where
 sz:=2
 ag:=true
 rd:=λ_ _ cs x=>cs=x.v∧x.ok
 len:=λ⟨b,_⟩=>by rw[b];rfl
 one:=λ{_ _ _ x} ⟨b,_⟩ v a=>by
  rw[b] at a;simp only[SS.v,Aae,Aaw,Abc] at a;rcases a with rfl|rfl<;>rfl
 mono:=λb _ _=>b
def Jy.ex {S a v}{x:SS}(k:Rd S a Jy v x):v= .agg #[.int .i64 x.At,.int .i64 x.X]∧x.ok:=by obtain⟨_,rfl,rfl,a⟩:=k;exact⟨rfl,a⟩
def Jy.mk {S h}{x:SS}(k:x.ok):Rd S h Jy (.agg #[.int .i64 x.At,.int .i64 x.X]) x:=⟨x.v,rfl,rfl,k⟩
structure HV where
 Ar:Int
 Bg:Int
 Bb:Int
 B:Int
instance:Inhabited HV:=⟨⟨default,default,default,default⟩⟩
@[reducible] def HV.v (x:HV):List Go.Value:=[.int .i64 x.Ar,.int .i64 x.Bg,.int .i64 x.Bb,.int .i64 x.B]
def HV.ok (x:HV):Prop:=AA x.Ar∧AA x.Bg∧AA x.Bb∧AA x.B
def Gl:A6 HV where
 sz:=4
 ag:=true
 rd:=λ_ _ cs x=>cs=x.v∧x.ok
 len:=λ⟨b,_⟩=>by rw[b];rfl
 one:=λ{_ _ _ x} ⟨b,_⟩ v a=>by
  rw[b] at a;simp only[HV.v,Aae,Aaw,Abc] at a;rcases a with rfl|rfl|rfl|rfl<;>rfl
 mono:=λb _ _=>b
def Gl.ex {S a v}{x:HV}(k:Rd S a Gl v x):v= .agg #[.int .i64 x.Ar,.int .i64 x.Bg,.int .i64 x.Bb,.int .i64 x.B]∧x.ok:=by obtain⟨_,rfl,rfl,a⟩:=k;exact⟨rfl,a⟩
def Gl.mk {S h}{x:HV}(k:x.ok):Rd S h Gl (.agg #[.int .i64 x.Ar,.int .i64 x.Bg,.int .i64 x.Bb,.int .i64 x.B]) x:=⟨x.v,rfl,rfl,k⟩
def P2:Ff Gl 1 AB (·.Bg):=by
 rintro S d cs x ⟨rfl,⟨k0,a,b,c⟩⟩;exact⟨rfl,a⟩
def HV.f_Litres:Ff Gl 2 AB (·.Bb):=by
 rintro S d cs x ⟨rfl,⟨k0,b,a,c⟩⟩;exact⟨rfl,a⟩
def HV.f_To:Ff Gl 3 AB (·.B):=by
 rintro S d cs x ⟨rfl,⟨k0,b,c,a⟩⟩;exact⟨rfl,a⟩
structure Nm where
 Ar:Int
 D:Int
 B:Int
 Bb:Int
instance:Inhabited Nm:=⟨⟨default,default,default,default⟩⟩
@[reducible] def Nm.v (x:Nm):List Go.Value:=[.int .i64 x.Ar,.int .i64 x.D,.int .i64 x.B,.int .i64 x.Bb]
def Nm.ok (x:Nm):Prop:=AA x.Ar∧AA x.D∧AA x.B∧AA x.Bb
def Ha:A6 Nm where
 sz:=4
 ag:=true
 rd:=λ_ _ cs x=>cs=x.v∧x.ok
 len:=λ⟨b,_⟩=>by rw[b];rfl
 one:=λ{_ _ _ x} ⟨b,_⟩ v a=>by
  rw[b] at a;simp only[Nm.v,Aae,Aaw,Abc] at a;rcases a with rfl|rfl|rfl|rfl<;>rfl
 mono:=λb _ _=>b
def Ha.ex {S a v}{x:Nm}(k:Rd S a Ha v x):v= .agg #[.int .i64 x.Ar,.int .i64 x.D,.int .i64 x.B,.int .i64 x.Bb]∧x.ok:=by obtain⟨_,rfl,rfl,a⟩:=k;exact⟨rfl,a⟩
def Ha.mk {S h}{x:Nm}(k:x.ok):Rd S h Ha (.agg #[.int .i64 x.Ar,.int .i64 x.D,.int .i64 x.B,.int .i64 x.Bb]) x:=⟨x.v,rfl,rfl,k⟩
def Nm.f_From:Ff Ha 1 AB (·.D):=by
 rintro S d cs x ⟨rfl,⟨k0,a,b,c⟩⟩;exact⟨rfl,a⟩
def Nm.f_To:Ff Ha 2 AB (·.B):=by
 rintro S d cs x ⟨rfl,⟨k0,b,a,c⟩⟩;exact⟨rfl,a⟩
def Nm.f_Litres:Ff Ha 3 AB (·.Bb):=by
 rintro S d cs x ⟨rfl,⟨k0,b,c,a⟩⟩;exact⟨rfl,a⟩
structure Cs where
 Aa:(List Int)
 Ah:(List LU)
 Aj:(List SS)
 Z:(List HV)
 Aq:(List Nm)
instance:Inhabited Cs:=⟨⟨default,default,default,default,default⟩⟩
def G0:A6 Cs where
 sz:=5
 ag:=true
 rd:=λS m cs x=>∃a v1 b c d:Value,cs=[a,v1,b,c,d]∧Sl S m AB a x.Aa∧Sl S m Gm v1 x.Ah∧Sl S m Jy b x.Aj∧Sl S m Gl c x.Z∧Sl S m Ha d x.Aq
 len:=λ⟨_,_,_,_,_,m,_⟩=>by rw[m];rfl
 one:=by
  rintro S m cs x ⟨a,v1,b,c,d,rfl,k0,g,i,j,k⟩ v l;simp only[Aae,Aaw,Abc] at l;rcases l with rfl|rfl|rfl|rfl|rfl<;>first|rfl|exact Sl.one ‹_› |exact(‹_∧_›).2|(obtain ⟨_,_,rfl,_⟩:=Rd.fn ‹_›;rfl)|(obtain ⟨_,_,rfl,_⟩:=Rd.fnr ‹_›;rfl)
 mono:=by
  rintro S S' m h' cs x ⟨a,v1,b,c,d,rfl,k0,g,i,j,k⟩ s e;exact⟨a,v1,b,c,d,rfl,k0.mono s e,g.mono s e,i.mono s e,j.mono s e,k.mono s e⟩
def G0.ex {S h v}{x:Cs}(k:Rd S h G0 v x):∃a v1 b c d:Value,v= .agg #[a,v1,b,c,d]∧Sl S h AB a x.Aa∧Sl S h Gm v1 x.Ah∧Sl S h Jy b x.Aj∧Sl S h Gl c x.Z∧Sl S h Ha d x.Aq:=by obtain⟨_,rfl,a,v1,b,c,d,rfl,k⟩:=k;exact⟨a,v1,b,c,d,rfl,k⟩
def G0.mk {S h}{x:Cs}{a v1 b c d:Value}(k0:Sl S h AB a x.Aa) (g:Sl S h Gm v1 x.Ah) (i:Sl S h Jy b x.Aj) (j:Sl S h Gl c x.Z) (k:Sl S h Ha d x.Aq):Rd S h G0 (.agg #[a,v1,b,c,d]) x:=⟨_,rfl,a,v1,b,c,d,rfl,k0,g,i,j,k⟩
structure AI where
 C:Int
 D:Int
 B:Int
 Ap:Int
 K:(List Int)
instance:Inhabited AI:=⟨⟨default,default,default,default,default⟩⟩
def BO:A6 AI where
 sz:=5
 ag:=true
 rd:=λS j cs x=>∃a:Value,cs=[.int .i64 x.C,.int .i64 x.D,.int .i64 x.B,.int .i64 x.Ap,a]∧AA x.C∧AA x.D∧AA x.B∧AA x.Ap∧Sl S j AB a x.K
 len:=λ⟨_,j,_⟩=>by rw[j];rfl
 one:=by
  rintro S j cs x ⟨a,rfl,k0,b,c,d,g⟩ v i;simp only[Aae,Aaw,Abc] at i;rcases i with rfl|rfl|rfl|rfl|rfl<;>first|rfl|exact Sl.one ‹_› |exact(‹_∧_›).2|(obtain ⟨_,_,rfl,_⟩:=Rd.fn ‹_›;rfl)|(obtain ⟨_,_,rfl,_⟩:=Rd.fnr ‹_›;rfl)
 mono:=by
  rintro S S' j h' cs x ⟨a,rfl,k0,b,c,d,g⟩ s e;exact⟨a,rfl,k0,b,c,d,g.mono s e⟩
def BO.ex {S h v}{x:AI}(k:Rd S h BO v x):∃a:Value,v= .agg #[.int .i64 x.C,.int .i64 x.D,.int .i64 x.B,.int .i64 x.Ap,a]∧AA x.C∧AA x.D∧AA x.B∧AA x.Ap∧Sl S h AB a x.K:=by obtain⟨_,rfl,a,rfl,k⟩:=k;exact⟨a,rfl,k⟩
def BO.mk {S h}{x:AI}{a:Value}(k0:AA x.C) (b:AA x.D) (c:AA x.B) (d:AA x.Ap) (g:Sl S h AB a x.K):Rd S h BO (.agg #[.int .i64 x.C,.int .i64 x.D,.int .i64 x.B,.int .i64 x.Ap,a]) x:=⟨_,rfl,a,rfl,k0,b,c,d,g⟩
def AI.f_Hour:Ff BO 0 AB (·.C):=by
 rintro S i cs x ⟨a,rfl,k0,b,c,d,g⟩;exact⟨rfl,k0⟩
def AI.f_From:Ff BO 1 AB (·.D):=by
 rintro S i cs x ⟨b,rfl,k0,a,c,d,g⟩;exact⟨rfl,a⟩
def AI.f_To:Ff BO 2 AB (·.B):=by
 rintro S i cs x ⟨b,rfl,k0,c,a,d,g⟩;exact⟨rfl,a⟩
def AI.f_Part:Ff BO 4 (A6.sl AB) (·.K):=by
 rintro S i cs x ⟨b,rfl,k0,c,d,g,a⟩;exact⟨_,rfl,a⟩
structure AL where
 b:AE
 in_:Cs
 s:AF
 moves:(List AI)
 peaks:(List Int)
 sent:(List AO)
instance:Inhabited AL:=⟨⟨default,default,default,default,default,default⟩⟩
def NE:A6 AL where
 sz:=26
 ag:=true
 rd:=λS h cs x=>∃v1 u w y z B D G a c d g i j k l m n o p q t:Value,cs=[.string x.b.J,v1,.int .i64 x.b.P,u,w,y,z,B,D,G,.int .i64 x.b.S,a,c,d,g,i,.int .i64 x.s.C,j,k,l,m,n,o,p,q,t]∧x.b.J.size≤maxLen∧Sl S h A6.str v1 x.b.I∧AA x.b.P∧Sl S h CJ u x.b.A∧Sl S h B7 w x.b.F∧Sl S h HO y x.b.Ab∧Sl S h Eh z x.b.Ae∧Sl S h Gy B x.b.Af∧Sl S h DD D x.b.Ai∧Sl S h AB G x.b.Al∧AA x.b.S∧Sl S h AB a x.in_.Aa∧Sl S h Gm c x.in_.Ah∧Sl S h Jy d x.in_.Aj∧Sl S h Gl g x.in_.Z∧Sl S h Ha i x.in_.Aq∧AA x.s.C∧Sl S h (A6.sl AB) j x.s.E∧Sl S h AB k x.s.M∧Sl S h AZ l x.s.H∧Sl S h BJ m x.s.O∧Sl S h AB n x.s.N∧Sl S h AB o x.s.L∧Sl S h BO p x.moves∧Sl S h AB q x.peaks∧Sl S h AZ t x.sent
 len:=λ⟨_,_,_,_,_,_,_,_,_,_,_,_,_,_,_,_,_,_,_,_,_,_,h,_⟩=>by rw[h];rfl
 one:=by
  rintro S h cs x ⟨v1,u,w,y,z,B,D,G,a,c,d,g,i,j,k,l,m,n,o,p,q,t,rfl,k0,k1,k2,k3,k4,k5,k6,k7,k8,k9,K,Q,U,V,W,X,Y,aa,ab,ac,ad,ae,af,ah,ai,aj⟩ v hv;simp only[Aae,Aaw,Abc] at hv;rcases hv with rfl|rfl|rfl|rfl|rfl|rfl|rfl|rfl|rfl|rfl|rfl|rfl|rfl|rfl|rfl|rfl|rfl|rfl|rfl|rfl|rfl|rfl|rfl|rfl|rfl|rfl<;>first|rfl|exact Sl.one ‹_› |exact(‹_∧_›).2|(obtain ⟨_,_,rfl,_⟩:=Rd.fn ‹_›;rfl)|(obtain ⟨_,_,rfl,_⟩:=Rd.fnr ‹_›;rfl)
 mono:=by
  rintro S S' h h' cs x ⟨v1,u,w,y,z,B,D,G,a,c,d,g,i,j,k,l,m,n,o,p,q,t,rfl,k0,k1,k2,k3,k4,k5,k6,k7,k8,k9,K,Q,U,V,W,X,Y,aa,ab,ac,ad,ae,af,ah,ai,aj⟩ s e;exact⟨v1,u,w,y,z,B,D,G,a,c,d,g,i,j,k,l,m,n,o,p,q,t,rfl,k0,k1.mono s e,k2,k3.mono s e,k4.mono s e,k5.mono s e,k6.mono s e,k7.mono s e,k8.mono s e,k9.mono s e,K,Q.mono s e,U.mono s e,V.mono s e,W.mono s e,X.mono s e,Y,aa.mono s e,ab.mono s e,ac.mono s e,ad.mono s e,ae.mono s e,af.mono s e,ah.mono s e,ai.mono s e,aj.mono s e⟩
def NE.ex {S h v}{x:AL}(k:Rd S h NE v x):∃v1 w y z B D G K a c d g i j l m n o p q t u:Value,v= .agg #[.string x.b.J,v1,.int .i64 x.b.P,w,y,z,B,D,G,K,.int .i64 x.b.S,a,c,d,g,i,.int .i64 x.s.C,j,l,m,n,o,p,q,t,u]∧x.b.J.size≤maxLen∧Sl S h A6.str v1 x.b.I∧AA x.b.P∧Sl S h CJ w x.b.A∧Sl S h B7 y x.b.F∧Sl S h HO z x.b.Ab∧Sl S h Eh B x.b.Ae∧Sl S h Gy D x.b.Af∧Sl S h DD G x.b.Ai∧Sl S h AB K x.b.Al∧AA x.b.S∧Sl S h AB a x.in_.Aa∧Sl S h Gm c x.in_.Ah∧Sl S h Jy d x.in_.Aj∧Sl S h Gl g x.in_.Z∧Sl S h Ha i x.in_.Aq∧AA x.s.C∧Sl S h (A6.sl AB) j x.s.E∧Sl S h AB l x.s.M∧Sl S h AZ m x.s.H∧Sl S h BJ n x.s.O∧Sl S h AB o x.s.N∧Sl S h AB p x.s.L∧Sl S h BO q x.moves∧Sl S h AB t x.peaks∧Sl S h AZ u x.sent:=by obtain⟨_,rfl,v1,w,y,z,B,D,G,K,a,c,d,g,i,j,l,m,n,o,p,q,t,u,rfl,k⟩:=k;exact⟨v1,w,y,z,B,D,G,K,a,c,d,g,i,j,l,m,n,o,p,q,t,u,rfl,k⟩
def NE.mk {S h}{x:AL}{v1 u v w y z B D a c d g i j k l m n o p q t:Value}(k0:x.b.J.size≤maxLen) (k1:Sl S h A6.str v1 x.b.I) (k2:AA x.b.P) (k3:Sl S h CJ u x.b.A) (k4:Sl S h B7 v x.b.F) (k5:Sl S h HO w x.b.Ab) (k6:Sl S h Eh y x.b.Ae) (k7:Sl S h Gy z x.b.Af) (k8:Sl S h DD B x.b.Ai) (k9:Sl S h AB D x.b.Al) (G:AA x.b.S) (K:Sl S h AB a x.in_.Aa) (Q:Sl S h Gm c x.in_.Ah) (U:Sl S h Jy d x.in_.Aj) (V:Sl S h Gl g x.in_.Z) (W:Sl S h Ha i x.in_.Aq) (X:AA x.s.C) (Y:Sl S h (A6.sl AB) j x.s.E) (aa:Sl S h AB k x.s.M) (ab:Sl S h AZ l x.s.H) (ac:Sl S h BJ m x.s.O) (ad:Sl S h AB n x.s.N) (ae:Sl S h AB o x.s.L) (af:Sl S h BO p x.moves) (ag:Sl S h AB q x.peaks) (ah:Sl S h AZ t x.sent):Rd S h NE (.agg #[.string x.b.J,v1,.int .i64 x.b.P,u,v,w,y,z,B,D,.int .i64 x.b.S,a,c,d,g,i,.int .i64 x.s.C,j,k,l,m,n,o,p,q,t]) x:=⟨_,rfl,v1,u,v,w,y,z,B,D,a,c,d,g,i,j,k,l,m,n,o,p,q,t,rfl,k0,k1,k2,k3,k4,k5,k6,k7,k8,k9,G,K,Q,U,V,W,X,Y,aa,ab,ac,ad,ae,af,ag,ah⟩
structure AD where
 to_:Int
 delay:Int
 way:Int
 take:((List Int)→Option ((List Int)×(List Int)))
instance:Inhabited AD:=⟨⟨default,default,default,default⟩⟩
def A0:A6 AD where
 sz:=4
 ag:=true
 rd:=λS k cs x=>∃a:Value,cs=[.int .i64 x.to_,.int .i64 x.delay,.int .i64 x.way,a]∧AA x.to_∧AA x.delay∧AA x.way∧Rd S k (A6.fnr prog (λS k vs (x:(List Int))=>∃b:Value,vs=[b]∧Sl S k AB b x) (λS k v (y:((List Int)×(List Int)))=>∃b c:Value,v= .tuple #[b,c]∧Sl S k AB b y.1∧Sl S k AB c y.2)) a x.take
 len:=λ⟨_,k,_⟩=>by rw[k];rfl
 one:=by
  rintro S k cs x ⟨a,rfl,k0,d,g,i⟩ v j;simp only[Aae,Aaw,Abc] at j;rcases j with rfl|rfl|rfl|rfl<;>first|rfl|exact Sl.one ‹_› |exact(‹_∧_›).2|(obtain ⟨_,_,rfl,_⟩:=Rd.fn ‹_›;rfl)|(obtain ⟨_,_,rfl,_⟩:=Rd.fnr ‹_›;rfl)
 mono:=by
  rintro S S' k h' cs x ⟨a,rfl,k0,d,g,i⟩ s e;exact⟨a,rfl,k0,d,g,i.mono'' s e⟩
def A0.ex {S d v}{x:AD}(k:Rd S d A0 v x):∃b:Value,v= .agg #[.int .i64 x.to_,.int .i64 x.delay,.int .i64 x.way,b]∧AA x.to_∧AA x.delay∧AA x.way∧Rd S d (A6.fnr prog (λS d vs (x:(List Int))=>∃a:Value,vs=[a]∧Sl S d AB a x) (λS d v (y:((List Int)×(List Int)))=>∃a c:Value,v= .tuple #[a,c]∧Sl S d AB a y.1∧Sl S d AB c y.2)) b x.take:=by obtain⟨_,rfl,b,rfl,k⟩:=k;exact⟨b,rfl,k⟩
def A0.mk {S j}{x:AD}{b:Value}(k0:AA x.to_) (d:AA x.delay) (g:AA x.way) (i:Rd S j (A6.fnr prog (λS j vs (x:(List Int))=>∃a:Value,vs=[a]∧Sl S j AB a x) (λS j v (y:((List Int)×(List Int)))=>∃a c:Value,v= .tuple #[a,c]∧Sl S j AB a y.1∧Sl S j AB c y.2)) b x.take):Rd S j A0 (.agg #[.int .i64 x.to_,.int .i64 x.delay,.int .i64 x.way,b]) x:=⟨_,rfl,b,rfl,k0,d,g,i⟩
def LS:Ff A0 0 AB (·.to_):=by
 rintro S g cs x ⟨a,rfl,k0,b,c,d⟩;exact⟨rfl,k0⟩
def Mu:Ff A0 1 AB (·.delay):=by
 rintro S g cs x ⟨b,rfl,k0,a,c,d⟩;exact⟨rfl,a⟩
def Nl:Ff A0 2 AB (·.way):=by
 rintro S g cs x ⟨b,rfl,k0,c,a,d⟩;exact⟨rfl,a⟩
def NF:Ff A0 3 (A6.fnr prog (λS m vs (x:(List Int))=>∃a:Value,vs=[a]∧Sl S m AB a x) (λS m v (y:((List Int)×(List Int)))=>∃a b:Value,v= .tuple #[a,b]∧Sl S m AB a y.1∧Sl S m AB b y.2)) (·.take):=by
 rintro S m cs x ⟨j,rfl,k0,k,l,c⟩;obtain⟨_,rfl,d,g,rfl,i⟩:=c;exact⟨d,g,rfl,i⟩
structure AT where
 rest_:ByteArray
 bad:Bool
instance:Inhabited AT:=⟨⟨default,default⟩⟩
@[reducible] def AT.v (x:AT):List Go.Value:=[.string x.rest_,.bool x.bad]
def AT.ok (x:AT):Prop:=x.rest_.size≤maxLen
def E3:A6 AT where
 sz:=2
 ag:=true
 rd:=λ_ _ cs x=>cs=x.v∧x.ok
 len:=λ⟨b,_⟩=>by rw[b];rfl
 one:=λ{_ _ _ x} ⟨b,_⟩ v a=>by
  rw[b] at a;simp only[AT.v,Aae,Aaw,Abc] at a;rcases a with rfl|rfl<;>rfl
 mono:=λb _ _=>b
def E3.ex {S a v}{x:AT}(k:Rd S a E3 v x):v= .agg #[.string x.rest_,.bool x.bad]∧x.ok:=by obtain⟨_,rfl,rfl,a⟩:=k;exact⟨rfl,a⟩
def E3.mk {S h}{x:AT}(k:x.ok):Rd S h E3 (.agg #[.string x.rest_,.bool x.bad]) x:=⟨x.v,rfl,rfl,k⟩
def Lv:Ff E3 0 A6.str (·.rest_):=by
 rintro S a cs x ⟨rfl,k0⟩;exact⟨rfl,k0⟩
def Mt:Ff E3 1 A6.bool (·.bad):=by
 rintro S a cs x ⟨rfl,k0⟩;exact rfl
structure AH where
 group:ByteArray
 name:ByteArray
instance:Inhabited AH:=⟨⟨default,default⟩⟩
@[reducible] def AH.v (x:AH):List Go.Value:=[.string x.group,.string x.name]
def AH.ok (x:AH):Prop:=x.group.size≤maxLen∧x.name.size≤maxLen
def MG:A6 AH where
 sz:=2
 ag:=true
 rd:=λ_ _ cs x=>cs=x.v∧x.ok
 len:=λ⟨b,_⟩=>by rw[b];rfl
 one:=λ{_ _ _ x} ⟨b,_⟩ v a=>by
  rw[b] at a;simp only[AH.v,Aae,Aaw,Abc] at a;rcases a with rfl|rfl<;>rfl
 mono:=λb _ _=>b
def MG.ex {S a v}{x:AH}(k:Rd S a MG v x):v= .agg #[.string x.group,.string x.name]∧x.ok:=by obtain⟨_,rfl,rfl,a⟩:=k;exact⟨rfl,a⟩
def MG.mk {S h}{x:AH}(k:x.ok):Rd S h MG (.agg #[.string x.group,.string x.name]) x:=⟨x.v,rfl,rfl,k⟩
structure AJ where
 hi:Int
 lo:Int
instance:Inhabited AJ:=⟨⟨default,default⟩⟩
@[reducible] def AJ.v (x:AJ):List Go.Value:=[.int .i64 x.hi,.int .u64 x.lo]
def AJ.ok (x:AJ):Prop:=AA x.hi∧IntKind.has .u64 x.lo
def HZ:A6 AJ where
 sz:=2
 ag:=true
 rd:=λ_ _ cs x=>cs=x.v∧x.ok
 len:=λ⟨b,_⟩=>by rw[b];rfl
 one:=λ{_ _ _ x} ⟨b,_⟩ v a=>by
  rw[b] at a;simp only[AJ.v,Aae,Aaw,Abc] at a;rcases a with rfl|rfl<;>rfl
 mono:=λb _ _=>b
def HZ.ex {S a v}{x:AJ}(k:Rd S a HZ v x):v= .agg #[.int .i64 x.hi,.int .u64 x.lo]∧x.ok:=by obtain⟨_,rfl,rfl,a⟩:=k;exact⟨rfl,a⟩
def HZ.mk {S h}{x:AJ}(k:x.ok):Rd S h HZ (.agg #[.int .i64 x.hi,.int .u64 x.lo]) x:=⟨x.v,rfl,rfl,k⟩
def Ti:Ff HZ 0 AB (·.hi):=by
 rintro S b cs x ⟨rfl,⟨k0,a⟩⟩;exact⟨rfl,k0⟩
def Mv:Ff HZ 1 (A6.intk .u64) (·.lo):=by
 rintro S b cs x ⟨rfl,⟨k0,a⟩⟩;exact⟨rfl,a⟩
structure AC where
 sort:Int
 place:Int
 owner:Int
instance:Inhabited AC:=⟨⟨default,default,default⟩⟩
@[reducible] def AC.v (x:AC):List Go.Value:=[.int .i64 x.sort,.int .i64 x.place,.int .i64 x.owner]
def AC.ok (x:AC):Prop:=AA x.sort∧AA x.place∧AA x.owner
def Lh:A6 AC where
 sz:=3
 ag:=true
 rd:=λ_ _ cs x=>cs=x.v∧x.ok
 len:=λ⟨b,_⟩=>by rw[b];rfl
 one:=λ{_ _ _ x} ⟨b,_⟩ v a=>by
  rw[b] at a;simp only[AC.v,Aae,Aaw,Abc] at a;rcases a with rfl|rfl|rfl<;>rfl
 mono:=λb _ _=>b
def Lh.ex {S a v}{x:AC}(k:Rd S a Lh v x):v= .agg #[.int .i64 x.sort,.int .i64 x.place,.int .i64 x.owner]∧x.ok:=by obtain⟨_,rfl,rfl,a⟩:=k;exact⟨rfl,a⟩
def Lh.mk {S h}{x:AC}(k:x.ok):Rd S h Lh (.agg #[.int .i64 x.sort,.int .i64 x.place,.int .i64 x.owner]) x:=⟨x.v,rfl,rfl,k⟩
def NG:ByteArray:=ByteArray.mk #[0,1,2,2,3,3,3,3,4,4,4,4,4,4,4,4,5,5,5,5,5,5,5,5,5,5,5,5,5,5,5,5,6,6,6,6,6,6,6,6,6,6,6,6,6,6,6,6,6,6,6,6,6,6,6,6,6,6,6,6,6,6,6,6,7,7,7,7,7,7,7,7,7,7,7,7,7,7,7,7,7,7,7,7,7,7,7,7,7,7,7,7,7,7,7,7,7,7,7,7,7,7,7,7,7,7,7,7,7,7,7,7,7,7,7,7,7,7,7,7,7,7,7,7,7,7,7,7,8,8,8,8,8,8,8,8,8,8,8,8,8,8,8,8,8,8,8,8,8,8,8,8,8,8,8,8,8,8,8,8,8,8,8,8,8,8,8,8,8,8,8,8,8,8,8,8,8,8,8,8,8,8,8,8,8,8,8,8,8,8,8,8,8,8,8,8,8,8,8,8,8,8,8,8,8,8,8,8,8,8,8,8,8,8,8,8,8,8,8,8,8,8,8,8,8,8,8,8,8,8,8,8,8,8,8,8,8,8,8,8,8,8,8,8,8,8,8,8,8,8,8,8,8,8,8,8]
def Pc:List ByteArray:=([(ByteArray.mk #[112,117,98,108,105,99])]:List ByteArray)
def Pb:List Dw:=([(⟨(ByteArray.mk #[116,111,112]),0,0,100,([(⟨0,0⟩:BU),(⟨100,200⟩:BU)]:List BU),([60]:List Int),1,10,1,0,0,[]⟩:Dw),(⟨(ByteArray.mk #[109,105,100]),0,1,100,([(⟨0,0⟩:BU),(⟨100,200⟩:BU)]:List BU),([20]:List Int),0,0,2,1,0,[]⟩:Dw),(⟨(ByteArray.mk #[108,111,119]),0,2,30,([(⟨0,0⟩:BU),(⟨100,200⟩:BU)]:List BU),([30]:List Int),1,2,(-1),0,0,[]⟩:Dw)]:List Dw)
def Rc:List Cs:=([(⟨([10]:List Int),[],[],[],[]⟩:Cs)]:List Cs)
def Rb:List AI:=([(⟨3,0,0,0,([10]:List Int)⟩:AI),(⟨3,0,0,0,([2,3]:List Int)⟩:AI),(⟨5,0,0,0,([7]:List Int)⟩:AI),(⟨4,1,0,0,([9]:List Int)⟩:AI)]:List AI)
end Go.Proofs.YtedgiljmffngoaaGreat
