import Derived.Test.YtedgiljmffngoaaGreatFCore31
import Derived.Test.YtedgiljmffngoaaGreatFCore45
import Derived.Test.YtedgiljmffngoaaGreatFSortD
import Derived.Test.YtedgiljmffngoaaGreatRows
namespace Go.Proofs.YtedgiljmffngoaaGreat
set_option linter.all false
open Go.RowKit
open Go.Proofs.Tryz
structure CP where
 Ax:Int
 Ay:Int
instance:Inhabited CP:=⟨⟨default,default⟩⟩
@[reducible] def CP.v (x:CP):List Go.Value:=[.int .i64 x.Ax,.int .i64 x.Ay]
def CP.ok (x:CP):Prop:=AA x.Ax∧AA x.Ay
def B9:BB CP where
 sz:=2
 ag:=true
 rd:=λ_ _ cs x=>cs=x.v∧x.ok
 len:=λ⟨b,_⟩=>by rw[b];rfl
 one:=λ{_ _ _ x} ⟨b,_⟩ v a=>by
  rw[b] at a;simp only[CP.v,gK,gV,hU] at a;rcases a with rfl|rfl<;>rfl
 mono:=λb _ _=>b
def B9.ex {S a v}{x:CP}(k:Rd S a B9 v x):v= .agg #[.int .i64 x.Ax,.int .i64 x.Ay]∧x.ok:=by obtain⟨_,rfl,rfl,a⟩:=k;exact⟨rfl,a⟩
def B9.mk {S h}{x:CP}(k:x.ok):Rd S h B9 (.agg #[.int .i64 x.Ax,.int .i64 x.Ay]) x:=⟨x.v,rfl,rfl,k⟩
def Tq:Co B9 0 AB (·.Ax):=by
 rintro S b cs x ⟨rfl,⟨k0,a⟩⟩;exact⟨rfl,k0⟩
def Qs:Co B9 1 AB (·.Ay):=by
 rintro S b cs x ⟨rfl,⟨k0,a⟩⟩;exact⟨rfl,a⟩
structure Lu where
 Bg:Int
 Bk:Int
instance:Inhabited Lu:=⟨⟨default,default⟩⟩
@[reducible] def Lu.v (x:Lu):List Go.Value:=[.int .i64 x.Bg,.int .i64 x.Bk]
def Lu.ok (x:Lu):Prop:=AA x.Bg∧AA x.Bk
def KG:BB Lu where
 sz:=2
 ag:=true
 rd:=λ_ _ cs x=>cs=x.v∧x.ok
 len:=λ⟨b,_⟩=>by rw[b];rfl
 one:=λ{_ _ _ x} ⟨b,_⟩ v a=>by
  rw[b] at a;simp only[Lu.v,gK,gV,hU] at a;rcases a with rfl|rfl<;>rfl
 mono:=λb _ _=>b
def KG.ex {S a v}{x:Lu}(k:Rd S a KG v x):v= .agg #[.int .i64 x.Bg,.int .i64 x.Bk]∧x.ok:=by obtain⟨_,rfl,rfl,a⟩:=k;exact⟨rfl,a⟩
def KG.mk {S h}{x:Lu}(k:x.ok):Rd S h KG (.agg #[.int .i64 x.Bg,.int .i64 x.Bk]) x:=⟨x.v,rfl,rfl,k⟩
def RO:Co KG 0 AB (·.Bg):=by
 rintro S b cs x ⟨rfl,⟨k0,a⟩⟩;exact⟨rfl,k0⟩
def SQ:Co KG 1 AB (·.Bk):=by
 rintro S b cs x ⟨rfl,⟨k0,a⟩⟩;exact⟨rfl,a⟩
structure Cb where
 C:ByteArray
 L:Int
 Al:Int
 Az:Int
 Bt:(List CP)
 Bf:(List Int)
 T:Int
 S:Int
 Ac:Int
 M:Int
 Be:Int
 Aa:(List Lu)
instance:Inhabited Cb:=⟨⟨default,default,default,default,default,default,default,default,default,default,default,default⟩⟩
def BX:BB Cb where
 sz:=12
 ag:=true
 rd:=λS u cs x=>∃b c a:Value,cs=[.string x.C,.int .i64 x.L,.int .i64 x.Al,.int .i64 x.Az,b,c,.int .i64 x.T,.int .i64 x.S,.int .i64 x.Ac,.int .i64 x.M,.int .i64 x.Be,a]∧x.C.size≤maxLen∧AA x.L∧AA x.Al∧AA x.Az∧Sl S u B9 b x.Bt∧Sl S u AB c x.Bf∧AA x.T∧AA x.S∧AA x.Ac∧AA x.M∧AA x.Be∧Sl S u KG a x.Aa
 len:=λ⟨_,_,_,u,_⟩=>by rw[u];rfl
 one:=by
  rintro S u cs x ⟨b,c,a,rfl,k0,i,j,k,l,m,n,o,p,q,d,g⟩ v t;simp only[gK,gV,hU] at t;rcases t with rfl|rfl|rfl|rfl|rfl|rfl|rfl|rfl|rfl|rfl|rfl|rfl<;>first|rfl|exact Sl.one ‹_› |exact(‹_∧_›).2|(obtain ⟨_,_,rfl,_⟩:=Rd.fn ‹_›;rfl)|(obtain ⟨_,_,rfl,_⟩:=Rd.fnr ‹_›;rfl)
 mono:=by
  rintro S S' u h' cs x ⟨b,c,a,rfl,k0,i,j,k,l,m,n,o,p,q,d,g⟩ s e;exact⟨b,c,a,rfl,k0,i,j,k,l.mono s e,m.mono s e,n,o,p,q,d,g.mono s e⟩
def BX.ex {S h v}{x:Cb}(k:Rd S h BX v x):∃b c a:Value,v= .agg #[.string x.C,.int .i64 x.L,.int .i64 x.Al,.int .i64 x.Az,b,c,.int .i64 x.T,.int .i64 x.S,.int .i64 x.Ac,.int .i64 x.M,.int .i64 x.Be,a]∧x.C.size≤maxLen∧AA x.L∧AA x.Al∧AA x.Az∧Sl S h B9 b x.Bt∧Sl S h AB c x.Bf∧AA x.T∧AA x.S∧AA x.Ac∧AA x.M∧AA x.Be∧Sl S h KG a x.Aa:=by obtain⟨_,rfl,b,c,a,rfl,k⟩:=k;exact⟨b,c,a,rfl,k⟩
def BX.mk {S h}{x:Cb}{b c a:Value}(k0:x.C.size≤maxLen) (i:AA x.L) (j:AA x.Al) (k:AA x.Az) (l:Sl S h B9 b x.Bt) (m:Sl S h AB c x.Bf) (n:AA x.T) (o:AA x.S) (p:AA x.Ac) (q:AA x.M) (d:AA x.Be) (g:Sl S h KG a x.Aa):Rd S h BX (.agg #[.string x.C,.int .i64 x.L,.int .i64 x.Al,.int .i64 x.Az,b,c,.int .i64 x.T,.int .i64 x.S,.int .i64 x.Ac,.int .i64 x.M,.int .i64 x.Be,a]) x:=⟨_,rfl,b,c,a,rfl,k0,i,j,k,l,m,n,o,p,q,d,g⟩
def Cb.f_Name:Co BX 0 BB.str (·.C):=by
 rintro S s cs x ⟨d,g,a,rfl,k0,i,j,k,l,m,n,o,p,q,b,c⟩;exact⟨rfl,k0⟩
def Cb.f_Kind:Co BX 1 AB (·.L):=by
 rintro S s cs x ⟨g,i,a,rfl,k0,b,j,k,l,m,n,o,p,q,c,d⟩;exact⟨rfl,b⟩
def Mz:Co BX 2 AB (·.Al):=by
 rintro S s cs x ⟨g,i,a,rfl,k0,j,b,k,l,m,n,o,p,q,c,d⟩;exact⟨rfl,b⟩
def SO:Co BX 3 AB (·.Az):=by
 rintro S s cs x ⟨g,i,a,rfl,k0,j,k,b,l,m,n,o,p,q,c,d⟩;exact⟨rfl,b⟩
def Qu:Co BX 4 (BB.sl B9) (·.Bt):=by
 rintro S s cs x ⟨g,i,a,rfl,k0,j,k,l,b,m,n,o,p,q,c,d⟩;exact⟨_,rfl,b⟩
def Qt:Co BX 5 (BB.sl AB) (·.Bf):=by
 rintro S s cs x ⟨g,i,a,rfl,k0,j,k,l,m,b,n,o,p,q,c,d⟩;exact⟨_,rfl,b⟩
def Cb.f_Num:Co BX 6 AB (·.T):=by
 rintro S s cs x ⟨g,i,a,rfl,k0,j,k,l,m,n,b,o,p,q,c,d⟩;exact⟨rfl,b⟩
def Cb.f_Den:Co BX 7 AB (·.S):=by
 rintro S s cs x ⟨g,i,a,rfl,k0,j,k,l,m,n,o,b,p,q,c,d⟩;exact⟨rfl,b⟩
def RL:Co BX 8 AB (·.Ac):=by
 rintro S s cs x ⟨g,i,a,rfl,k0,j,k,l,m,n,o,p,b,q,c,d⟩;exact⟨rfl,b⟩
def Cb.f_Delay:Co BX 9 AB (·.M):=by
 rintro S s cs x ⟨g,i,a,rfl,k0,j,k,l,m,n,o,p,q,b,c,d⟩;exact⟨rfl,b⟩
def Qv:Co BX 10 AB (·.Be):=by
 rintro S s cs x ⟨d,g,b,rfl,k0,i,j,k,l,m,n,o,p,q,a,c⟩;exact⟨rfl,a⟩
def Cb.f_Rain:Co BX 11 (BB.sl KG) (·.Aa):=by
 rintro S s cs x ⟨d,g,b,rfl,k0,i,j,k,l,m,n,o,p,q,c,a⟩;exact⟨_,rfl,a⟩
structure MX where
 Ba:(List CP)
 Bb:(List CP)
instance:Inhabited MX:=⟨⟨default,default⟩⟩
def MA:BB MX where
 sz:=2
 ag:=true
 rd:=λS g cs x=>∃a b:Value,cs=[a,b]∧Sl S g B9 a x.Ba∧Sl S g B9 b x.Bb
 len:=λ⟨_,_,g,_⟩=>by rw[g];rfl
 one:=by
  rintro S g cs x ⟨a,b,rfl,k0,c⟩ v d;simp only[gK,gV,hU] at d;rcases d with rfl|rfl<;>first|rfl|exact Sl.one ‹_› |exact(‹_∧_›).2|(obtain ⟨_,_,rfl,_⟩:=Rd.fn ‹_›;rfl)|(obtain ⟨_,_,rfl,_⟩:=Rd.fnr ‹_›;rfl)
 mono:=by
  rintro S S' g h' cs x ⟨a,b,rfl,k0,c⟩ s e;exact⟨a,b,rfl,k0.mono s e,c.mono s e⟩
def MA.ex {S h v}{x:MX}(k:Rd S h MA v x):∃a b:Value,v= .agg #[a,b]∧Sl S h B9 a x.Ba∧Sl S h B9 b x.Bb:=by obtain⟨_,rfl,a,b,rfl,k⟩:=k;exact⟨a,b,rfl,k⟩
def MA.mk {S h}{x:MX}{a b:Value}(k0:Sl S h B9 a x.Ba) (c:Sl S h B9 b x.Bb):Rd S h MA (.agg #[a,b]) x:=⟨_,rfl,a,b,rfl,k0,c⟩
def Om:Co MA 0 (BB.sl B9) (·.Ba):=by
 rintro S d cs x ⟨a,b,rfl,k0,c⟩;exact⟨_,rfl,k0⟩
def On:Co MA 1 (BB.sl B9) (·.Bb):=by
 rintro S d cs x ⟨b,c,rfl,k0,a⟩;exact⟨_,rfl,a⟩
structure BY where
 C:ByteArray
 L:Int
 D:Int
 B:Int
 Bd:(List CP)
 Ao:MX
 Ad:Int
 Ar:Int
 Au:Int
 Av:Int
 T:Int
 S:Int
 As:Int
 At:Int
 Ap:Int
 Am:Int
 M:Int
instance:Inhabited BY:=⟨⟨default,default,default,default,default,default,default,default,default,default,default,default,default,default,default,default,default⟩⟩
def Bu:BB BY where
 sz:=18
 ag:=true
 rd:=λS G cs x=>∃a b c:Value,cs=[.string x.C,.int .i64 x.L,.int .i64 x.D,.int .i64 x.B,a,b,c,.int .i64 x.Ad,.int .i64 x.Ar,.int .i64 x.Au,.int .i64 x.Av,.int .i64 x.T,.int .i64 x.S,.int .i64 x.As,.int .i64 x.At,.int .i64 x.Ap,.int .i64 x.Am,.int .i64 x.M]∧x.C.size≤maxLen∧AA x.L∧AA x.D∧AA x.B∧Sl S G B9 a x.Bd∧Sl S G B9 b x.Ao.Ba∧Sl S G B9 c x.Ao.Bb∧AA x.Ad∧AA x.Ar∧AA x.Au∧AA x.Av∧AA x.T∧AA x.S∧AA x.As∧AA x.At∧AA x.Ap∧AA x.Am∧AA x.M
 len:=λ⟨_,_,_,G,_⟩=>by rw[G];rfl
 one:=by
  rintro S G cs x ⟨a,b,c,rfl,k0,o,p,q,t,u,w,y,z,A,d,g,i,j,k,l,m,n⟩ v F;simp only[gK,gV,hU] at F;rcases F with rfl|rfl|rfl|rfl|rfl|rfl|rfl|rfl|rfl|rfl|rfl|rfl|rfl|rfl|rfl|rfl|rfl|rfl<;>first|rfl|exact Sl.one ‹_› |exact(‹_∧_›).2|(obtain ⟨_,_,rfl,_⟩:=Rd.fn ‹_›;rfl)|(obtain ⟨_,_,rfl,_⟩:=Rd.fnr ‹_›;rfl)
 mono:=by
  rintro S S' G h' cs x ⟨a,b,c,rfl,k0,o,p,q,t,u,w,y,z,A,d,g,i,j,k,l,m,n⟩ s e;exact⟨a,b,c,rfl,k0,o,p,q,t.mono s e,u.mono s e,w.mono s e,y,z,A,d,g,i,j,k,l,m,n⟩
def Bu.ex {S h v}{x:BY}(k:Rd S h Bu v x):∃a b c:Value,v= .agg #[.string x.C,.int .i64 x.L,.int .i64 x.D,.int .i64 x.B,a,b,c,.int .i64 x.Ad,.int .i64 x.Ar,.int .i64 x.Au,.int .i64 x.Av,.int .i64 x.T,.int .i64 x.S,.int .i64 x.As,.int .i64 x.At,.int .i64 x.Ap,.int .i64 x.Am,.int .i64 x.M]∧x.C.size≤maxLen∧AA x.L∧AA x.D∧AA x.B∧Sl S h B9 a x.Bd∧Sl S h B9 b x.Ao.Ba∧Sl S h B9 c x.Ao.Bb∧AA x.Ad∧AA x.Ar∧AA x.Au∧AA x.Av∧AA x.T∧AA x.S∧AA x.As∧AA x.At∧AA x.Ap∧AA x.Am∧AA x.M:=by obtain⟨_,rfl,a,b,c,rfl,k⟩:=k;exact⟨a,b,c,rfl,k⟩
def Bu.mk {S h}{x:BY}{a b c:Value}(k0:x.C.size≤maxLen) (o:AA x.L) (p:AA x.D) (q:AA x.B) (s:Sl S h B9 a x.Bd) (t:Sl S h B9 b x.Ao.Ba) (u:Sl S h B9 c x.Ao.Bb) (v:AA x.Ad) (w:AA x.Ar) (y:AA x.Au) (d:AA x.Av) (g:AA x.T) (i:AA x.S) (j:AA x.As) (k:AA x.At) (l:AA x.Ap) (m:AA x.Am) (n:AA x.M):Rd S h Bu (.agg #[.string x.C,.int .i64 x.L,.int .i64 x.D,.int .i64 x.B,a,b,c,.int .i64 x.Ad,.int .i64 x.Ar,.int .i64 x.Au,.int .i64 x.Av,.int .i64 x.T,.int .i64 x.S,.int .i64 x.As,.int .i64 x.At,.int .i64 x.Ap,.int .i64 x.Am,.int .i64 x.M]) x:=⟨_,rfl,a,b,c,rfl,k0,o,p,q,s,t,u,v,w,y,d,g,i,j,k,l,m,n⟩
def BY.f_Name:Co Bu 0 BB.str (·.C):=by
 rintro S z cs x ⟨l,m,n,rfl,k0,o,p,q,s,t,u,v,w,y,a,b,c,d,g,i,j,k⟩;exact⟨rfl,k0⟩
def BY.f_Kind:Co Bu 1 AB (·.L):=by
 rintro S z cs x ⟨m,n,o,rfl,k0,a,p,q,s,t,u,v,w,y,b,c,d,g,i,j,k,l⟩;exact⟨rfl,a⟩
def BY.f_From:Co Bu 2 AB (·.D):=by
 rintro S z cs x ⟨m,n,o,rfl,k0,p,a,q,s,t,u,v,w,y,b,c,d,g,i,j,k,l⟩;exact⟨rfl,a⟩
def BY.f_To:Co Bu 3 AB (·.B):=by
 rintro S z cs x ⟨m,n,o,rfl,k0,p,q,a,s,t,u,v,w,y,b,c,d,g,i,j,k,l⟩;exact⟨rfl,a⟩
def KH:Co Bu 4 (BB.sl B9) (·.Bd):=by
 rintro S z cs x ⟨m,n,o,rfl,k0,p,q,s,a,t,u,v,w,y,b,c,d,g,i,j,k,l⟩;exact⟨_,rfl,a⟩
def KI:Co Bu 5 MA (·.Ao):=by
 rintro S z cs x ⟨n,o,p,rfl,k0,q,s,t,u,a,b,v,w,y,c,d,g,i,j,k,l,m⟩;exact⟨_,_,rfl,a,b⟩
def Dm:Co Bu 7 AB (·.Ad):=by
 rintro S z cs x ⟨m,n,o,rfl,k0,p,q,s,t,u,v,a,w,y,b,c,d,g,i,j,k,l⟩;exact⟨rfl,a⟩
def JK:Co Bu 8 AB (·.Ar):=by
 rintro S z cs x ⟨m,n,o,rfl,k0,p,q,s,t,u,v,w,a,y,b,c,d,g,i,j,k,l⟩;exact⟨rfl,a⟩
def Mt:Co Bu 9 AB (·.Au):=by
 rintro S z cs x ⟨m,n,o,rfl,k0,p,q,s,t,u,v,w,y,a,b,c,d,g,i,j,k,l⟩;exact⟨rfl,a⟩
def MB:Co Bu 10 AB (·.Av):=by
 rintro S z cs x ⟨l,m,n,rfl,k0,o,p,q,s,t,u,v,w,y,a,b,c,d,g,i,j,k⟩;exact⟨rfl,a⟩
def BY.f_Num:Co Bu 11 AB (·.T):=by
 rintro S z cs x ⟨l,m,n,rfl,k0,o,p,q,s,t,u,v,w,y,b,a,c,d,g,i,j,k⟩;exact⟨rfl,a⟩
def BY.f_Den:Co Bu 12 AB (·.S):=by
 rintro S z cs x ⟨l,m,n,rfl,k0,o,p,q,s,t,u,v,w,y,b,c,a,d,g,i,j,k⟩;exact⟨rfl,a⟩
def OJ:Co Bu 13 AB (·.As):=by
 rintro S z cs x ⟨l,m,n,rfl,k0,o,p,q,s,t,u,v,w,y,b,c,d,a,g,i,j,k⟩;exact⟨rfl,a⟩
def OK:Co Bu 14 AB (·.At):=by
 rintro S z cs x ⟨l,m,n,rfl,k0,o,p,q,s,t,u,v,w,y,b,c,d,g,a,i,j,k⟩;exact⟨rfl,a⟩
def H3:Co Bu 15 AB (·.Ap):=by
 rintro S z cs x ⟨l,m,n,rfl,k0,o,p,q,s,t,u,v,w,y,b,c,d,g,i,a,j,k⟩;exact⟨rfl,a⟩
def H4:Co Bu 16 AB (·.Am):=by
 rintro S z cs x ⟨l,m,n,rfl,k0,o,p,q,s,t,u,v,w,y,b,c,d,g,i,j,a,k⟩;exact⟨rfl,a⟩
def BY.f_Delay:Co Bu 17 AB (·.M):=by
 rintro S z cs x ⟨l,m,n,rfl,k0,o,p,q,s,t,u,v,w,y,b,c,d,g,i,j,k,a⟩;exact⟨rfl,a⟩
structure IK where
 C:ByteArray
 Ab:Int
 Bl:Int
 Bm:Int
 Bn:Int
 Bo:Int
 Bp:Int
instance:Inhabited IK:=⟨⟨default,default,default,default,default,default,default⟩⟩
@[reducible] def IK.v (x:IK):List Go.Value:=[.string x.C,.int .i64 x.Ab,.int .i64 x.Bl,.int .i64 x.Bm,.int .i64 x.Bn,.int .i64 x.Bo,.int .i64 x.Bp]
def IK.ok (x:IK):Prop:=x.C.size≤maxLen∧AA x.Ab∧AA x.Bl∧AA x.Bm∧AA x.Bn∧AA x.Bo∧AA x.Bp
def DL:BB IK where
 sz:=7
 ag:=true
 rd:=λ_ _ cs x=>cs=x.v∧x.ok
 len:=λ⟨b,_⟩=>by rw[b];rfl
 one:=λ{_ _ _ x} ⟨b,_⟩ v a=>by
  rw[b] at a;simp only[IK.v,gK,gV,hU] at a;rcases a with rfl|rfl|rfl|rfl|rfl|rfl|rfl<;>rfl
 mono:=λb _ _=>b
def DL.ex {S a v}{x:IK}(k:Rd S a DL v x):v= .agg #[.string x.C,.int .i64 x.Ab,.int .i64 x.Bl,.int .i64 x.Bm,.int .i64 x.Bn,.int .i64 x.Bo,.int .i64 x.Bp]∧x.ok:=by obtain⟨_,rfl,rfl,a⟩:=k;exact⟨rfl,a⟩
def DL.mk {S h}{x:IK}(k:x.ok):Rd S h DL (.agg #[.string x.C,.int .i64 x.Ab,.int .i64 x.Bl,.int .i64 x.Bm,.int .i64 x.Bn,.int .i64 x.Bo,.int .i64 x.Bp]) x:=⟨x.v,rfl,rfl,k⟩
def IK.f_Name:Co DL 0 BB.str (·.C):=by
 rintro S j cs x ⟨rfl,⟨k0,a,b,c,d,g,i⟩⟩;exact⟨rfl,k0⟩
def IK.f_Place:Co DL 1 AB (·.Ab):=by
 rintro S j cs x ⟨rfl,⟨k0,a,b,c,d,g,i⟩⟩;exact⟨rfl,a⟩
def RI:Co DL 2 AB (·.Bl):=by
 rintro S j cs x ⟨rfl,⟨k0,b,a,c,d,g,i⟩⟩;exact⟨rfl,a⟩
def SK:Co DL 3 AB (·.Bm):=by
 rintro S j cs x ⟨rfl,⟨k0,b,c,a,d,g,i⟩⟩;exact⟨rfl,a⟩
def Qr:Co DL 4 AB (·.Bn):=by
 rintro S j cs x ⟨rfl,⟨k0,b,c,d,a,g,i⟩⟩;exact⟨rfl,a⟩
def RH:Co DL 5 AB (·.Bo):=by
 rintro S j cs x ⟨rfl,⟨k0,b,c,d,g,a,i⟩⟩;exact⟨rfl,a⟩
def Qq:Co DL 6 AB (·.Bp):=by
 rintro S j cs x ⟨rfl,⟨k0,b,c,d,g,i,a⟩⟩;exact⟨rfl,a⟩
structure Hi where
 C:ByteArray
 L:Int
 V:Int
 G:Int
 Bq:Int
instance:Inhabited Hi:=⟨⟨default,default,default,default,default⟩⟩
@[reducible] def Hi.v (x:Hi):List Go.Value:=[.string x.C,.int .i64 x.L,.int .i64 x.V,.int .i64 x.G,.int .i64 x.Bq]
def Hi.ok (x:Hi):Prop:=x.C.size≤maxLen∧AA x.L∧AA x.V∧AA x.G∧AA x.Bq
def Cw:BB Hi where
 sz:=5
 ag:=true
 rd:=λ_ _ cs x=>cs=x.v∧x.ok
 len:=λ⟨b,_⟩=>by rw[b];rfl
 one:=λ{_ _ _ x} ⟨b,_⟩ v a=>by
  rw[b] at a;simp only[Hi.v,gK,gV,hU] at a;rcases a with rfl|rfl|rfl|rfl|rfl<;>rfl
 mono:=λb _ _=>b
def Cw.ex {S a v}{x:Hi}(k:Rd S a Cw v x):v= .agg #[.string x.C,.int .i64 x.L,.int .i64 x.V,.int .i64 x.G,.int .i64 x.Bq]∧x.ok:=by obtain⟨_,rfl,rfl,a⟩:=k;exact⟨rfl,a⟩
def Cw.mk {S h}{x:Hi}(k:x.ok):Rd S h Cw (.agg #[.string x.C,.int .i64 x.L,.int .i64 x.V,.int .i64 x.G,.int .i64 x.Bq]) x:=⟨x.v,rfl,rfl,k⟩
def Hi.f_Name:Co Cw 0 BB.str (·.C):=by
 rintro S g cs x ⟨rfl,⟨k0,a,b,c,d⟩⟩;exact⟨rfl,k0⟩
def Hi.f_Kind:Co Cw 1 AB (·.L):=by
 rintro S g cs x ⟨rfl,⟨k0,a,b,c,d⟩⟩;exact⟨rfl,a⟩
def Hi.f_Target:Co Cw 2 AB (·.V):=by
 rintro S g cs x ⟨rfl,⟨k0,b,a,c,d⟩⟩;exact⟨rfl,a⟩
def Hi.f_Err:Co Cw 3 AB (·.G):=by
 rintro S g cs x ⟨rfl,⟨k0,b,c,a,d⟩⟩;exact⟨rfl,a⟩
def Qz:Co Cw 4 AB (·.Bq):=by
 rintro S g cs x ⟨rfl,⟨k0,b,c,d,a⟩⟩;exact⟨rfl,a⟩
structure IL where
 C:ByteArray
 D:Int
 B:Int
 Br:Int
 Bs:Int
 Bh:Int
 Bi:Int
instance:Inhabited IL:=⟨⟨default,default,default,default,default,default,default⟩⟩
@[reducible] def IL.v (x:IL):List Go.Value:=[.string x.C,.int .i64 x.D,.int .i64 x.B,.int .i64 x.Br,.int .i64 x.Bs,.int .i64 x.Bh,.int .i64 x.Bi]
def IL.ok (x:IL):Prop:=x.C.size≤maxLen∧AA x.D∧AA x.B∧AA x.Br∧AA x.Bs∧AA x.Bh∧AA x.Bi
def DM:BB IL where
 sz:=7
 ag:=true
 rd:=λ_ _ cs x=>cs=x.v∧x.ok
 len:=λ⟨b,_⟩=>by rw[b];rfl
 one:=λ{_ _ _ x} ⟨b,_⟩ v a=>by
  rw[b] at a;simp only[IL.v,gK,gV,hU] at a;rcases a with rfl|rfl|rfl|rfl|rfl|rfl|rfl<;>rfl
 mono:=λb _ _=>b
def DM.ex {S a v}{x:IL}(k:Rd S a DM v x):v= .agg #[.string x.C,.int .i64 x.D,.int .i64 x.B,.int .i64 x.Br,.int .i64 x.Bs,.int .i64 x.Bh,.int .i64 x.Bi]∧x.ok:=by obtain⟨_,rfl,rfl,a⟩:=k;exact⟨rfl,a⟩
def DM.mk {S h}{x:IL}(k:x.ok):Rd S h DM (.agg #[.string x.C,.int .i64 x.D,.int .i64 x.B,.int .i64 x.Br,.int .i64 x.Bs,.int .i64 x.Bh,.int .i64 x.Bi]) x:=⟨x.v,rfl,rfl,k⟩
def IL.f_Name:Co DM 0 BB.str (·.C):=by
 rintro S j cs x ⟨rfl,⟨k0,a,b,c,d,g,i⟩⟩;exact⟨rfl,k0⟩
def IL.f_From:Co DM 1 AB (·.D):=by
 rintro S j cs x ⟨rfl,⟨k0,a,b,c,d,g,i⟩⟩;exact⟨rfl,a⟩
def IL.f_To:Co DM 2 AB (·.B):=by
 rintro S j cs x ⟨rfl,⟨k0,b,a,c,d,g,i⟩⟩;exact⟨rfl,a⟩
def RK:Co DM 3 AB (·.Br):=by
 rintro S j cs x ⟨rfl,⟨k0,b,c,a,d,g,i⟩⟩;exact⟨rfl,a⟩
def SL:Co DM 4 AB (·.Bs):=by
 rintro S j cs x ⟨rfl,⟨k0,b,c,d,a,g,i⟩⟩;exact⟨rfl,a⟩
def Tp:Co DM 5 AB (·.Bh):=by
 rintro S j cs x ⟨rfl,⟨k0,b,c,d,g,a,i⟩⟩;exact⟨rfl,a⟩
def RJ:Co DM 6 AB (·.Bi):=by
 rintro S j cs x ⟨rfl,⟨k0,b,c,d,g,i,a⟩⟩;exact⟨rfl,a⟩
structure G6 where
 C:ByteArray
 X:Int
instance:Inhabited G6:=⟨⟨default,default⟩⟩
@[reducible] def G6.v (x:G6):List Go.Value:=[.string x.C,.int .i64 x.X]
def G6.ok (x:G6):Prop:=x.C.size≤maxLen∧AA x.X
def Cd:BB G6 where
 sz:=2
 ag:=true
 rd:=λ_ _ cs x=>cs=x.v∧x.ok
 len:=λ⟨b,_⟩=>by rw[b];rfl
 one:=λ{_ _ _ x} ⟨b,_⟩ v a=>by
  rw[b] at a;simp only[G6.v,gK,gV,hU] at a;rcases a with rfl|rfl<;>rfl
 mono:=λb _ _=>b
def Cd.ex {S a v}{x:G6}(k:Rd S a Cd v x):v= .agg #[.string x.C,.int .i64 x.X]∧x.ok:=by obtain⟨_,rfl,rfl,a⟩:=k;exact⟨rfl,a⟩
def Cd.mk {S h}{x:G6}(k:x.ok):Rd S h Cd (.agg #[.string x.C,.int .i64 x.X]) x:=⟨x.v,rfl,rfl,k⟩
def G6.f_Name:Co Cd 0 BB.str (·.C):=by
 rintro S b cs x ⟨rfl,⟨k0,a⟩⟩;exact⟨rfl,k0⟩
def G6.f_Room:Co Cd 1 AB (·.X):=by
 rintro S b cs x ⟨rfl,⟨k0,a⟩⟩;exact⟨rfl,a⟩
structure AO where
 C:ByteArray
 I:(List ByteArray)
 H:Int
 E:(List Cb)
 J:(List BY)
 U:(List IK)
 W:(List Hi)
 Y:(List IL)
 Z:(List G6)
 X:(List Int)
 G:Int
instance:Inhabited AO:=⟨⟨default,default,default,default,default,default,default,default,default,default,default⟩⟩
def BW:BB AO where
 sz:=11
 ag:=true
 rd:=λS A cs x=>∃a b c d g i j k:Value,cs=[.string x.C,a,.int .i64 x.H,b,c,d,g,i,j,k,.int .i64 x.G]∧x.C.size≤maxLen∧Sl S A BB.str a x.I∧AA x.H∧Sl S A BX b x.E∧Sl S A Bu c x.J∧Sl S A DL d x.U∧Sl S A Cw g x.W∧Sl S A DM i x.Y∧Sl S A Cd j x.Z∧Sl S A AB k x.X∧AA x.G
 len:=λ⟨_,_,_,_,_,_,_,_,A,_⟩=>by rw[A];rfl
 one:=by
  rintro S A cs x ⟨a,b,c,d,g,i,j,k,rfl,k0,m,n,o,p,q,t,u,w,y,l⟩ v z;simp only[gK,gV,hU] at z;rcases z with rfl|rfl|rfl|rfl|rfl|rfl|rfl|rfl|rfl|rfl|rfl<;>first|rfl|exact Sl.one ‹_› |exact(‹_∧_›).2|(obtain ⟨_,_,rfl,_⟩:=Rd.fn ‹_›;rfl)|(obtain ⟨_,_,rfl,_⟩:=Rd.fnr ‹_›;rfl)
 mono:=by
  rintro S S' A h' cs x ⟨a,b,c,d,g,i,j,k,rfl,k0,m,n,o,p,q,t,u,w,y,l⟩ s e;exact⟨a,b,c,d,g,i,j,k,rfl,k0,m.mono s e,n,o.mono s e,p.mono s e,q.mono s e,t.mono s e,u.mono s e,w.mono s e,y.mono s e,l⟩
def BW.ex {S h v}{x:AO}(k:Rd S h BW v x):∃a b c d g i j l:Value,v= .agg #[.string x.C,a,.int .i64 x.H,b,c,d,g,i,j,l,.int .i64 x.G]∧x.C.size≤maxLen∧Sl S h BB.str a x.I∧AA x.H∧Sl S h BX b x.E∧Sl S h Bu c x.J∧Sl S h DL d x.U∧Sl S h Cw g x.W∧Sl S h DM i x.Y∧Sl S h Cd j x.Z∧Sl S h AB l x.X∧AA x.G:=by obtain⟨_,rfl,a,b,c,d,g,i,j,l,rfl,k⟩:=k;exact⟨a,b,c,d,g,i,j,l,rfl,k⟩
def BW.mk {S h}{x:AO}{a b c d g i j k:Value}(k0:x.C.size≤maxLen) (m:Sl S h BB.str a x.I) (n:AA x.H) (o:Sl S h BX b x.E) (p:Sl S h Bu c x.J) (q:Sl S h DL d x.U) (s:Sl S h Cw g x.W) (t:Sl S h DM i x.Y) (u:Sl S h Cd j x.Z) (v:Sl S h AB k x.X) (l:AA x.G):Rd S h BW (.agg #[.string x.C,a,.int .i64 x.H,b,c,d,g,i,j,k,.int .i64 x.G]) x:=⟨_,rfl,a,b,c,d,g,i,j,k,rfl,k0,m,n,o,p,q,s,t,u,v,l⟩
def AO.f_Name:Co BW 0 BB.str (·.C):=by
 rintro S w cs x ⟨b,c,d,g,i,j,k,l,rfl,k0,m,n,o,p,q,s,t,u,v,a⟩;exact⟨rfl,k0⟩
def Fp:Co BW 1 (BB.sl BB.str) (·.I):=by
 rintro S w cs x ⟨c,d,g,i,j,k,l,m,rfl,k0,a,n,o,p,q,s,t,u,v,b⟩;exact⟨_,rfl,a⟩
def Lh:Co BW 2 AB (·.H):=by
 rintro S w cs x ⟨c,d,g,i,j,k,l,m,rfl,k0,n,a,o,p,q,s,t,u,v,b⟩;exact⟨rfl,a⟩
def B3:Co BW 3 (BB.sl BX) (·.E):=by
 rintro S w cs x ⟨c,d,g,i,j,k,l,m,rfl,k0,n,o,a,p,q,s,t,u,v,b⟩;exact⟨_,rfl,a⟩
def Ec:Co BW 4 (BB.sl Bu) (·.J):=by
 rintro S w cs x ⟨c,d,g,i,j,k,l,m,rfl,k0,n,o,p,a,q,s,t,u,v,b⟩;exact⟨_,rfl,a⟩
def Id:Co BW 5 (BB.sl DL) (·.U):=by
 rintro S w cs x ⟨c,d,g,i,j,k,l,m,rfl,k0,n,o,p,q,a,s,t,u,v,b⟩;exact⟨_,rfl,a⟩
def JY:Co BW 6 (BB.sl Cw) (·.W):=by
 rintro S w cs x ⟨c,d,g,i,j,k,l,m,rfl,k0,n,o,p,q,s,a,t,u,v,b⟩;exact⟨_,rfl,a⟩
def KK:Co BW 7 (BB.sl DM) (·.Y):=by
 rintro S w cs x ⟨c,d,g,i,j,k,l,m,rfl,k0,n,o,p,q,s,t,a,u,v,b⟩;exact⟨_,rfl,a⟩
def IM:Co BW 8 (BB.sl Cd) (·.Z):=by
 rintro S w cs x ⟨c,d,g,i,j,k,l,m,rfl,k0,n,o,p,q,s,t,u,a,v,b⟩;exact⟨_,rfl,a⟩
def AO.f_Room:Co BW 9 (BB.sl AB) (·.X):=by
 rintro S w cs x ⟨c,d,g,i,j,k,l,m,rfl,k0,n,o,p,q,s,t,u,v,a,b⟩;exact⟨_,rfl,a⟩
def AO.f_Err:Co BW 10 AB (·.G):=by
 rintro S w cs x ⟨b,c,d,g,i,j,k,l,rfl,k0,m,n,o,p,q,s,t,u,v,a⟩;exact⟨rfl,a⟩
structure BM where
 Aq:Int
 B:Int
 R:(List Int)
instance:Inhabited BM:=⟨⟨default,default,default⟩⟩
def A3:BB BM where
 sz:=3
 ag:=true
 rd:=λS g cs x=>∃a:Value,cs=[.int .i64 x.Aq,.int .i64 x.B,a]∧AA x.Aq∧AA x.B∧Sl S g AB a x.R
 len:=λ⟨_,g,_⟩=>by rw[g];rfl
 one:=by
  rintro S g cs x ⟨a,rfl,k0,b,c⟩ v d;simp only[gK,gV,hU] at d;rcases d with rfl|rfl|rfl<;>first|rfl|exact Sl.one ‹_› |exact(‹_∧_›).2|(obtain ⟨_,_,rfl,_⟩:=Rd.fn ‹_›;rfl)|(obtain ⟨_,_,rfl,_⟩:=Rd.fnr ‹_›;rfl)
 mono:=by
  rintro S S' g h' cs x ⟨a,rfl,k0,b,c⟩ s e;exact⟨a,rfl,k0,b,c.mono s e⟩
def A3.ex {S h v}{x:BM}(k:Rd S h A3 v x):∃a:Value,v= .agg #[.int .i64 x.Aq,.int .i64 x.B,a]∧AA x.Aq∧AA x.B∧Sl S h AB a x.R:=by obtain⟨_,rfl,a,rfl,k⟩:=k;exact⟨a,rfl,k⟩
def A3.mk {S h}{x:BM}{a:Value}(k0:AA x.Aq) (b:AA x.B) (c:Sl S h AB a x.R):Rd S h A3 (.agg #[.int .i64 x.Aq,.int .i64 x.B,a]) x:=⟨_,rfl,a,rfl,k0,b,c⟩
def Tr:Co A3 0 AB (·.Aq):=by
 rintro S d cs x ⟨a,rfl,k0,b,c⟩;exact⟨rfl,k0⟩
def BM.f_To:Co A3 1 AB (·.B):=by
 rintro S d cs x ⟨b,rfl,k0,a,c⟩;exact⟨rfl,a⟩
def BM.f_Part:Co A3 2 (BB.sl AB) (·.R):=by
 rintro S d cs x ⟨b,rfl,k0,c,a⟩;exact⟨_,rfl,a⟩
structure BE where
 Ah:Int
 V:Int
 An:Bool
 Ae:Bool
instance:Inhabited BE:=⟨⟨default,default,default,default⟩⟩
@[reducible] def BE.v (x:BE):List Go.Value:=[.int .i64 x.Ah,.int .i64 x.V,.bool x.An,.bool x.Ae]
def BE.ok (x:BE):Prop:=AA x.Ah∧AA x.V
def BK:BB BE where
 sz:=4
 ag:=true
 rd:=λ_ _ cs x=>cs=x.v∧x.ok
 len:=λ⟨b,_⟩=>by rw[b];rfl
 one:=λ{_ _ _ x} ⟨b,_⟩ v a=>by
  rw[b] at a;simp only[BE.v,gK,gV,hU] at a;rcases a with rfl|rfl|rfl|rfl<;>rfl
 mono:=λb _ _=>b
def BK.ex {S a v}{x:BE}(k:Rd S a BK v x):v= .agg #[.int .i64 x.Ah,.int .i64 x.V,.bool x.An,.bool x.Ae]∧x.ok:=by obtain⟨_,rfl,rfl,a⟩:=k;exact⟨rfl,a⟩
def BK.mk {S h}{x:BE}(k:x.ok):Rd S h BK (.agg #[.int .i64 x.Ah,.int .i64 x.V,.bool x.An,.bool x.Ae]) x:=⟨x.v,rfl,rfl,k⟩
def Po:Co BK 0 AB (·.Ah):=by
 rintro S b cs x ⟨rfl,⟨k0,a⟩⟩;exact⟨rfl,k0⟩
def BE.f_Target:Co BK 1 AB (·.V):=by
 rintro S b cs x ⟨rfl,⟨k0,a⟩⟩;exact⟨rfl,a⟩
def RN:Co BK 2 BB.bool (·.An):=by
 rintro S b cs x ⟨rfl,⟨k0,a⟩⟩;exact rfl
def SP:Co BK 3 BB.bool (·.Ae):=by
 rintro S b cs x ⟨rfl,⟨k0,a⟩⟩;exact rfl
structure AJ where
 A:Int
 F:(List (List Int))
 K:(List Int)
 P:(List BM)
 Q:(List BE)
 O:(List Int)
 N:(List Int)
instance:Inhabited AJ:=⟨⟨default,default,default,default,default,default,default⟩⟩
def A7:BB AJ where
 sz:=7
 ag:=true
 rd:=λS q cs x=>∃a b c d g i:Value,cs=[.int .i64 x.A,a,b,c,d,g,i]∧AA x.A∧Sl S q (BB.sl AB) a x.F∧Sl S q AB b x.K∧Sl S q A3 c x.P∧Sl S q BK d x.Q∧Sl S q AB g x.O∧Sl S q AB i x.N
 len:=λ⟨_,_,_,_,_,_,q,_⟩=>by rw[q];rfl
 one:=by
  rintro S q cs x ⟨a,b,c,d,g,i,rfl,k0,j,k,l,m,n,o⟩ v p;simp only[gK,gV,hU] at p;rcases p with rfl|rfl|rfl|rfl|rfl|rfl|rfl<;>first|rfl|exact Sl.one ‹_› |exact(‹_∧_›).2|(obtain ⟨_,_,rfl,_⟩:=Rd.fn ‹_›;rfl)|(obtain ⟨_,_,rfl,_⟩:=Rd.fnr ‹_›;rfl)
 mono:=by
  rintro S S' q h' cs x ⟨a,b,c,d,g,i,rfl,k0,j,k,l,m,n,o⟩ s e;exact⟨a,b,c,d,g,i,rfl,k0,j.mono s e,k.mono s e,l.mono s e,m.mono s e,n.mono s e,o.mono s e⟩
def A7.ex {S h v}{x:AJ}(k:Rd S h A7 v x):∃a b c d g i:Value,v= .agg #[.int .i64 x.A,a,b,c,d,g,i]∧AA x.A∧Sl S h (BB.sl AB) a x.F∧Sl S h AB b x.K∧Sl S h A3 c x.P∧Sl S h BK d x.Q∧Sl S h AB g x.O∧Sl S h AB i x.N:=by obtain⟨_,rfl,a,b,c,d,g,i,rfl,k⟩:=k;exact⟨a,b,c,d,g,i,rfl,k⟩
def A7.mk {S h}{x:AJ}{a b c d g i:Value}(k0:AA x.A) (j:Sl S h (BB.sl AB) a x.F) (k:Sl S h AB b x.K) (l:Sl S h A3 c x.P) (m:Sl S h BK d x.Q) (n:Sl S h AB g x.O) (o:Sl S h AB i x.N):Rd S h A7 (.agg #[.int .i64 x.A,a,b,c,d,g,i]) x:=⟨_,rfl,a,b,c,d,g,i,rfl,k0,j,k,l,m,n,o⟩
def AJ.f_Hour:Co A7 0 AB (·.A):=by
 rintro S p cs x ⟨a,b,c,d,g,i,rfl,k0,j,k,l,m,n,o⟩;exact⟨rfl,k0⟩
def Dg:Co A7 1 (BB.sl (BB.sl AB)) (·.F):=by
 rintro S p cs x ⟨b,c,d,g,i,j,rfl,k0,a,k,l,m,n,o⟩;exact⟨_,rfl,a⟩
def Iz:Co A7 2 (BB.sl AB) (·.K):=by
 rintro S p cs x ⟨b,c,d,g,i,j,rfl,k0,k,a,l,m,n,o⟩;exact⟨_,rfl,a⟩
def Dt:Co A7 3 (BB.sl A3) (·.P):=by
 rintro S p cs x ⟨b,c,d,g,i,j,rfl,k0,k,l,a,m,n,o⟩;exact⟨_,rfl,a⟩
def Hh:Co A7 4 (BB.sl BK) (·.Q):=by
 rintro S p cs x ⟨b,c,d,g,i,j,rfl,k0,k,l,m,a,n,o⟩;exact⟨_,rfl,a⟩
def Hm:Co A7 5 (BB.sl AB) (·.O):=by
 rintro S p cs x ⟨b,c,d,g,i,j,rfl,k0,k,l,m,n,a,o⟩;exact⟨_,rfl,a⟩
def FE:Co A7 6 (BB.sl AB) (·.N):=by
 rintro S p cs x ⟨b,c,d,g,i,j,rfl,k0,k,l,m,n,o,a⟩;exact⟨_,rfl,a⟩
structure KJ where
 L:Int
 Af:Int
instance:Inhabited KJ:=⟨⟨default,default⟩⟩
@[reducible] def KJ.v (x:KJ):List Go.Value:=[.int .i64 x.L,.int .i64 x.Af]
def KJ.ok (x:KJ):Prop:=AA x.L∧AA x.Af
def D0:BB KJ where
 sz:=2
 ag:=true
 rd:=λ_ _ cs x=>cs=x.v∧x.ok
 len:=λ⟨b,_⟩=>by rw[b];rfl
 one:=λ{_ _ _ x} ⟨b,_⟩ v a=>by
  rw[b] at a;simp only[KJ.v,gK,gV,hU] at a;rcases a with rfl|rfl<;>rfl
 mono:=λb _ _=>b
def D0.ex {S a v}{x:KJ}(k:Rd S a D0 v x):v= .agg #[.int .i64 x.L,.int .i64 x.Af]∧x.ok:=by obtain⟨_,rfl,rfl,a⟩:=k;exact⟨rfl,a⟩
def D0.mk {S h}{x:KJ}(k:x.ok):Rd S h D0 (.agg #[.int .i64 x.L,.int .i64 x.Af]) x:=⟨x.v,rfl,rfl,k⟩
def KJ.f_Kind:Co D0 0 AB (·.L):=by
 rintro S b cs x ⟨rfl,⟨k0,a⟩⟩;exact⟨rfl,k0⟩
def KJ.f_Link:Co D0 1 AB (·.Af):=by
 rintro S b cs x ⟨rfl,⟨k0,a⟩⟩;exact⟨rfl,a⟩
structure PC where
 Af:Int
 V:Int
instance:Inhabited PC:=⟨⟨default,default⟩⟩
@[reducible] def PC.v (x:PC):List Go.Value:=[.int .i64 x.Af,.int .i64 x.V]
def PC.ok (x:PC):Prop:=AA x.Af∧AA x.V
def H2:BB PC where
 sz:=2
 ag:=true
 rd:=λ_ _ cs x=>cs=x.v∧x.ok
 len:=λ⟨b,_⟩=>by rw[b];rfl
 one:=λ{_ _ _ x} ⟨b,_⟩ v a=>by
  rw[b] at a;simp only[PC.v,gK,gV,hU] at a;rcases a with rfl|rfl<;>rfl
 mono:=λb _ _=>b
def H2.ex {S a v}{x:PC}(k:Rd S a H2 v x):v= .agg #[.int .i64 x.Af,.int .i64 x.V]∧x.ok:=by obtain⟨_,rfl,rfl,a⟩:=k;exact⟨rfl,a⟩
def H2.mk {S h}{x:PC}(k:x.ok):Rd S h H2 (.agg #[.int .i64 x.Af,.int .i64 x.V]) x:=⟨x.v,rfl,rfl,k⟩
def PC.f_Link:Co H2 0 AB (·.Af):=by
 rintro S b cs x ⟨rfl,⟨k0,a⟩⟩;exact⟨rfl,k0⟩
def PC.f_Target:Co H2 1 AB (·.V):=by
 rintro S b cs x ⟨rfl,⟨k0,a⟩⟩;exact⟨rfl,a⟩
structure I0 where
 Ab:Int
 Bj:Int
 Bc:Int
 B:Int
instance:Inhabited I0:=⟨⟨default,default,default,default⟩⟩
@[reducible] def I0.v (x:I0):List Go.Value:=[.int .i64 x.Ab,.int .i64 x.Bj,.int .i64 x.Bc,.int .i64 x.B]
def I0.ok (x:I0):Prop:=AA x.Ab∧AA x.Bj∧AA x.Bc∧AA x.B
def D3:BB I0 where
 sz:=4
 ag:=true
 rd:=λ_ _ cs x=>cs=x.v∧x.ok
 len:=λ⟨b,_⟩=>by rw[b];rfl
 one:=λ{_ _ _ x} ⟨b,_⟩ v a=>by
  rw[b] at a;simp only[I0.v,gK,gV,hU] at a;rcases a with rfl|rfl|rfl|rfl<;>rfl
 mono:=λb _ _=>b
def D3.ex {S a v}{x:I0}(k:Rd S a D3 v x):v= .agg #[.int .i64 x.Ab,.int .i64 x.Bj,.int .i64 x.Bc,.int .i64 x.B]∧x.ok:=by obtain⟨_,rfl,rfl,a⟩:=k;exact⟨rfl,a⟩
def D3.mk {S h}{x:I0}(k:x.ok):Rd S h D3 (.agg #[.int .i64 x.Ab,.int .i64 x.Bj,.int .i64 x.Bc,.int .i64 x.B]) x:=⟨x.v,rfl,rfl,k⟩
def I0.f_Place:Co D3 0 AB (·.Ab):=by
 rintro S d cs x ⟨rfl,⟨k0,a,b,c⟩⟩;exact⟨rfl,k0⟩
def OI:Co D3 1 AB (·.Bj):=by
 rintro S d cs x ⟨rfl,⟨k0,a,b,c⟩⟩;exact⟨rfl,a⟩
def I0.f_Litres:Co D3 2 AB (·.Bc):=by
 rintro S d cs x ⟨rfl,⟨k0,b,a,c⟩⟩;exact⟨rfl,a⟩
def I0.f_To:Co D3 3 AB (·.B):=by
 rintro S d cs x ⟨rfl,⟨k0,b,c,a⟩⟩;exact⟨rfl,a⟩
structure KQ where
 Ab:Int
 D:Int
 B:Int
 Bc:Int
instance:Inhabited KQ:=⟨⟨default,default,default,default⟩⟩
@[reducible] def KQ.v (x:KQ):List Go.Value:=[.int .i64 x.Ab,.int .i64 x.D,.int .i64 x.B,.int .i64 x.Bc]
def KQ.ok (x:KQ):Prop:=AA x.Ab∧AA x.D∧AA x.B∧AA x.Bc
def Ea:BB KQ where
 sz:=4
 ag:=true
 rd:=λ_ _ cs x=>cs=x.v∧x.ok
 len:=λ⟨b,_⟩=>by rw[b];rfl
 one:=λ{_ _ _ x} ⟨b,_⟩ v a=>by
  rw[b] at a;simp only[KQ.v,gK,gV,hU] at a;rcases a with rfl|rfl|rfl|rfl<;>rfl
 mono:=λb _ _=>b
def Ea.ex {S a v}{x:KQ}(k:Rd S a Ea v x):v= .agg #[.int .i64 x.Ab,.int .i64 x.D,.int .i64 x.B,.int .i64 x.Bc]∧x.ok:=by obtain⟨_,rfl,rfl,a⟩:=k;exact⟨rfl,a⟩
def Ea.mk {S h}{x:KQ}(k:x.ok):Rd S h Ea (.agg #[.int .i64 x.Ab,.int .i64 x.D,.int .i64 x.B,.int .i64 x.Bc]) x:=⟨x.v,rfl,rfl,k⟩
def KQ.f_Place:Co Ea 0 AB (·.Ab):=by
 rintro S d cs x ⟨rfl,⟨k0,a,b,c⟩⟩;exact⟨rfl,k0⟩
def KQ.f_From:Co Ea 1 AB (·.D):=by
 rintro S d cs x ⟨rfl,⟨k0,a,b,c⟩⟩;exact⟨rfl,a⟩
def KQ.f_To:Co Ea 2 AB (·.B):=by
 rintro S d cs x ⟨rfl,⟨k0,b,a,c⟩⟩;exact⟨rfl,a⟩
def KQ.f_Litres:Co Ea 3 AB (·.Bc):=by
 rintro S d cs x ⟨rfl,⟨k0,b,c,a⟩⟩;exact⟨rfl,a⟩
structure E5 where
 Aa:(List Int)
 Ai:(List KJ)
 Aj:(List PC)
 Ak:(List I0)
 Ag:(List KQ)
instance:Inhabited E5:=⟨⟨default,default,default,default,default⟩⟩
def DD:BB E5 where
 sz:=5
 ag:=true
 rd:=λS n cs x=>∃a b c d g:Value,cs=[a,b,c,d,g]∧Sl S n AB a x.Aa∧Sl S n D0 b x.Ai∧Sl S n H2 c x.Aj∧Sl S n D3 d x.Ak∧Sl S n Ea g x.Ag
 len:=λ⟨_,_,_,_,_,n,_⟩=>by rw[n];rfl
 one:=by
  rintro S n cs x ⟨a,b,c,d,g,rfl,k0,i,j,k,l⟩ v m;simp only[gK,gV,hU] at m;rcases m with rfl|rfl|rfl|rfl|rfl<;>first|rfl|exact Sl.one ‹_› |exact(‹_∧_›).2|(obtain ⟨_,_,rfl,_⟩:=Rd.fn ‹_›;rfl)|(obtain ⟨_,_,rfl,_⟩:=Rd.fnr ‹_›;rfl)
 mono:=by
  rintro S S' n h' cs x ⟨a,b,c,d,g,rfl,k0,i,j,k,l⟩ s e;exact⟨a,b,c,d,g,rfl,k0.mono s e,i.mono s e,j.mono s e,k.mono s e,l.mono s e⟩
def DD.ex {S h v}{x:E5}(k:Rd S h DD v x):∃a b c d g:Value,v= .agg #[a,b,c,d,g]∧Sl S h AB a x.Aa∧Sl S h D0 b x.Ai∧Sl S h H2 c x.Aj∧Sl S h D3 d x.Ak∧Sl S h Ea g x.Ag:=by obtain⟨_,rfl,a,b,c,d,g,rfl,k⟩:=k;exact⟨a,b,c,d,g,rfl,k⟩
def DD.mk {S h}{x:E5}{a b c d g:Value}(k0:Sl S h AB a x.Aa) (i:Sl S h D0 b x.Ai) (j:Sl S h H2 c x.Aj) (k:Sl S h D3 d x.Ak) (l:Sl S h Ea g x.Ag):Rd S h DD (.agg #[a,b,c,d,g]) x:=⟨_,rfl,a,b,c,d,g,rfl,k0,i,j,k,l⟩
def E5.f_Rain:Co DD 0 (BB.sl AB) (·.Aa):=by
 rintro S m cs x ⟨a,b,c,d,g,rfl,k0,i,j,k,l⟩;exact⟨_,rfl,k0⟩
def P3:Co DD 1 (BB.sl D0) (·.Ai):=by
 rintro S m cs x ⟨b,c,d,g,i,rfl,k0,a,j,k,l⟩;exact⟨_,rfl,a⟩
def RM:Co DD 2 (BB.sl H2) (·.Aj):=by
 rintro S m cs x ⟨b,c,d,g,i,rfl,k0,j,a,k,l⟩;exact⟨_,rfl,a⟩
def Qw:Co DD 3 (BB.sl D3) (·.Ak):=by
 rintro S m cs x ⟨b,c,d,g,i,rfl,k0,j,k,a,l⟩;exact⟨_,rfl,a⟩
def Qy:Co DD 4 (BB.sl Ea) (·.Ag):=by
 rintro S m cs x ⟨b,c,d,g,i,rfl,k0,j,k,l,a⟩;exact⟨_,rfl,a⟩
structure AX where
 A:Int
 D:Int
 B:Int
 Aw:Int
 R:(List Int)
instance:Inhabited AX:=⟨⟨default,default,default,default,default⟩⟩
def BJ:BB AX where
 sz:=5
 ag:=true
 rd:=λS j cs x=>∃a:Value,cs=[.int .i64 x.A,.int .i64 x.D,.int .i64 x.B,.int .i64 x.Aw,a]∧AA x.A∧AA x.D∧AA x.B∧AA x.Aw∧Sl S j AB a x.R
 len:=λ⟨_,j,_⟩=>by rw[j];rfl
 one:=by
  rintro S j cs x ⟨a,rfl,k0,b,c,d,g⟩ v i;simp only[gK,gV,hU] at i;rcases i with rfl|rfl|rfl|rfl|rfl<;>first|rfl|exact Sl.one ‹_› |exact(‹_∧_›).2|(obtain ⟨_,_,rfl,_⟩:=Rd.fn ‹_›;rfl)|(obtain ⟨_,_,rfl,_⟩:=Rd.fnr ‹_›;rfl)
 mono:=by
  rintro S S' j h' cs x ⟨a,rfl,k0,b,c,d,g⟩ s e;exact⟨a,rfl,k0,b,c,d,g.mono s e⟩
def BJ.ex {S h v}{x:AX}(k:Rd S h BJ v x):∃a:Value,v= .agg #[.int .i64 x.A,.int .i64 x.D,.int .i64 x.B,.int .i64 x.Aw,a]∧AA x.A∧AA x.D∧AA x.B∧AA x.Aw∧Sl S h AB a x.R:=by obtain⟨_,rfl,a,rfl,k⟩:=k;exact⟨a,rfl,k⟩
def BJ.mk {S h}{x:AX}{a:Value}(k0:AA x.A) (b:AA x.D) (c:AA x.B) (d:AA x.Aw) (g:Sl S h AB a x.R):Rd S h BJ (.agg #[.int .i64 x.A,.int .i64 x.D,.int .i64 x.B,.int .i64 x.Aw,a]) x:=⟨_,rfl,a,rfl,k0,b,c,d,g⟩
def AX.f_Hour:Co BJ 0 AB (·.A):=by
 rintro S i cs x ⟨a,rfl,k0,b,c,d,g⟩;exact⟨rfl,k0⟩
def AX.f_From:Co BJ 1 AB (·.D):=by
 rintro S i cs x ⟨b,rfl,k0,a,c,d,g⟩;exact⟨rfl,a⟩
def AX.f_To:Co BJ 2 AB (·.B):=by
 rintro S i cs x ⟨b,rfl,k0,c,a,d,g⟩;exact⟨rfl,a⟩
def TE:Co BJ 3 AB (·.Aw):=by
 rintro S i cs x ⟨b,rfl,k0,c,d,a,g⟩;exact⟨rfl,a⟩
def AX.f_Part:Co BJ 4 (BB.sl AB) (·.R):=by
 rintro S i cs x ⟨b,rfl,k0,c,d,g,a⟩;exact⟨_,rfl,a⟩
structure A5 where
 b:AO
 in_:E5
 s:AJ
 moves:(List AX)
 peaks:(List Int)
 sent:(List BM)
instance:Inhabited A5:=⟨⟨default,default,default,default,default,default⟩⟩
def DH:BB A5 where
 sz:=26
 ag:=true
 rd:=λS h cs x=>∃u w y z B D M V a c d g i j k l m n o p q t:Value,cs=[.string x.b.C,u,.int .i64 x.b.H,w,y,z,B,D,M,V,.int .i64 x.b.G,a,c,d,g,i,.int .i64 x.s.A,j,k,l,m,n,o,p,q,t]∧x.b.C.size≤maxLen∧Sl S h BB.str u x.b.I∧AA x.b.H∧Sl S h BX w x.b.E∧Sl S h Bu y x.b.J∧Sl S h DL z x.b.U∧Sl S h Cw B x.b.W∧Sl S h DM D x.b.Y∧Sl S h Cd M x.b.Z∧Sl S h AB V x.b.X∧AA x.b.G∧Sl S h AB a x.in_.Aa∧Sl S h D0 c x.in_.Ai∧Sl S h H2 d x.in_.Aj∧Sl S h D3 g x.in_.Ak∧Sl S h Ea i x.in_.Ag∧AA x.s.A∧Sl S h (BB.sl AB) j x.s.F∧Sl S h AB k x.s.K∧Sl S h A3 l x.s.P∧Sl S h BK m x.s.Q∧Sl S h AB n x.s.O∧Sl S h AB o x.s.N∧Sl S h BJ p x.moves∧Sl S h AB q x.peaks∧Sl S h A3 t x.sent
 len:=λ⟨_,_,_,_,_,_,_,_,_,_,_,_,_,_,_,_,_,_,_,_,_,_,h,_⟩=>by rw[h];rfl
 one:=by
  rintro S h cs x ⟨u,w,y,z,B,D,M,V,a,c,d,g,i,j,k,l,m,n,o,p,q,t,rfl,k0,k1,k2,k3,k4,k5,k6,k7,k8,k9,aa,ab,ac,ad,ae,af,ah,ai,aj,ak,al,am,an,ao,ap,aq⟩ v hv;simp only[gK,gV,hU] at hv;rcases hv with rfl|rfl|rfl|rfl|rfl|rfl|rfl|rfl|rfl|rfl|rfl|rfl|rfl|rfl|rfl|rfl|rfl|rfl|rfl|rfl|rfl|rfl|rfl|rfl|rfl|rfl<;>first|rfl|exact Sl.one ‹_› |exact(‹_∧_›).2|(obtain ⟨_,_,rfl,_⟩:=Rd.fn ‹_›;rfl)|(obtain ⟨_,_,rfl,_⟩:=Rd.fnr ‹_›;rfl)
 mono:=by
  rintro S S' h h' cs x ⟨u,w,y,z,B,D,M,V,a,c,d,g,i,j,k,l,m,n,o,p,q,t,rfl,k0,k1,k2,k3,k4,k5,k6,k7,k8,k9,aa,ab,ac,ad,ae,af,ah,ai,aj,ak,al,am,an,ao,ap,aq⟩ s e;exact⟨u,w,y,z,B,D,M,V,a,c,d,g,i,j,k,l,m,n,o,p,q,t,rfl,k0,k1.mono s e,k2,k3.mono s e,k4.mono s e,k5.mono s e,k6.mono s e,k7.mono s e,k8.mono s e,k9.mono s e,aa,ab.mono s e,ac.mono s e,ad.mono s e,ae.mono s e,af.mono s e,ah,ai.mono s e,aj.mono s e,ak.mono s e,al.mono s e,am.mono s e,an.mono s e,ao.mono s e,ap.mono s e,aq.mono s e⟩
def DH.ex {S h v}{x:A5}(k:Rd S h DH v x):∃w y z B D M V v9 a c d g i j l m n o p q t u:Value,v= .agg #[.string x.b.C,w,.int .i64 x.b.H,y,z,B,D,M,V,v9,.int .i64 x.b.G,a,c,d,g,i,.int .i64 x.s.A,j,l,m,n,o,p,q,t,u]∧x.b.C.size≤maxLen∧Sl S h BB.str w x.b.I∧AA x.b.H∧Sl S h BX y x.b.E∧Sl S h Bu z x.b.J∧Sl S h DL B x.b.U∧Sl S h Cw D x.b.W∧Sl S h DM M x.b.Y∧Sl S h Cd V x.b.Z∧Sl S h AB v9 x.b.X∧AA x.b.G∧Sl S h AB a x.in_.Aa∧Sl S h D0 c x.in_.Ai∧Sl S h H2 d x.in_.Aj∧Sl S h D3 g x.in_.Ak∧Sl S h Ea i x.in_.Ag∧AA x.s.A∧Sl S h (BB.sl AB) j x.s.F∧Sl S h AB l x.s.K∧Sl S h A3 m x.s.P∧Sl S h BK n x.s.Q∧Sl S h AB o x.s.O∧Sl S h AB p x.s.N∧Sl S h BJ q x.moves∧Sl S h AB t x.peaks∧Sl S h A3 u x.sent:=by obtain⟨_,rfl,w,y,z,B,D,M,V,v9,a,c,d,g,i,j,l,m,n,o,p,q,t,u,rfl,k⟩:=k;exact⟨w,y,z,B,D,M,V,v9,a,c,d,g,i,j,l,m,n,o,p,q,t,u,rfl,k⟩
def DH.mk {S h}{x:A5}{u v w y z B D M a c d g i j k l m n o p q t:Value}(k0:x.b.C.size≤maxLen) (k1:Sl S h BB.str u x.b.I) (k2:AA x.b.H) (k3:Sl S h BX v x.b.E) (k4:Sl S h Bu w x.b.J) (k5:Sl S h DL y x.b.U) (k6:Sl S h Cw z x.b.W) (k7:Sl S h DM B x.b.Y) (k8:Sl S h Cd D x.b.Z) (k9:Sl S h AB M x.b.X) (V:AA x.b.G) (aa:Sl S h AB a x.in_.Aa) (ab:Sl S h D0 c x.in_.Ai) (ac:Sl S h H2 d x.in_.Aj) (ad:Sl S h D3 g x.in_.Ak) (ae:Sl S h Ea i x.in_.Ag) (af:AA x.s.A) (ag:Sl S h (BB.sl AB) j x.s.F) (ah:Sl S h AB k x.s.K) (ai:Sl S h A3 l x.s.P) (aj:Sl S h BK m x.s.Q) (ak:Sl S h AB n x.s.O) (al:Sl S h AB o x.s.N) (am:Sl S h BJ p x.moves) (an:Sl S h AB q x.peaks) (ao:Sl S h A3 t x.sent):Rd S h DH (.agg #[.string x.b.C,u,.int .i64 x.b.H,v,w,y,z,B,D,M,.int .i64 x.b.G,a,c,d,g,i,.int .i64 x.s.A,j,k,l,m,n,o,p,q,t]) x:=⟨_,rfl,u,v,w,y,z,B,D,M,a,c,d,g,i,j,k,l,m,n,o,p,q,t,rfl,k0,k1,k2,k3,k4,k5,k6,k7,k8,k9,V,aa,ab,ac,ad,ae,af,ag,ah,ai,aj,ak,al,am,an,ao⟩
def Qo:Co DH 0 BW (·.b):=by
 rintro S h cs x ⟨v1,v3,v4,v5,v6,v7,v8,v9,c,d,g,i,j,k,l,m,n,o,p,q,s,t,rfl,k0,u,v,w,y,z,A,B,C,D,a,F,G,H,I,J,K,M,Q,U,V,W,X,Y,Z,aa⟩;exact⟨_,_,_,_,_,_,_,_,rfl,k0,u,v,w,y,z,A,B,C,D,a⟩
def Pa:Co DH 11 DD (·.in_):=by
 rintro S h cs x ⟨K,M,Q,U,V,W,X,Y,i,j,k,l,m,n,o,p,q,s,t,u,v,w,rfl,k0,Z,k2,k3,k4,k5,k6,k7,k8,k9,y,a,b,c,d,g,z,A,B,C,D,F,G,H,I,J⟩;exact⟨_,_,_,_,_,rfl,a,b,c,d,g⟩
def Qn:Co DH 16 A7 (·.s):=by
 rintro S h cs x ⟨M,Q,U,V,W,X,Y,Z,k,l,m,n,o,p,q,t,u,v,w,y,z,A,rfl,k0,k1,k2,k3,k4,k5,k6,k7,k8,k9,B,C,D,F,G,H,a,b,c,d,g,i,j,I,J,K⟩;exact⟨_,_,_,_,_,_,rfl,a,b,c,d,g,i,j⟩
def Ok:Co DH 23 (BB.sl BJ) (·.moves):=by
 rintro S h cs x ⟨K,M,Q,U,V,W,X,Y,b,c,d,g,i,j,k,l,m,n,o,p,q,s,rfl,k0,Z,k2,k3,k4,k5,k6,k7,k8,k9,t,u,v,w,y,z,A,B,C,D,F,G,H,a,I,J⟩;exact⟨_,rfl,a⟩
def Oj:Co DH 24 (BB.sl AB) (·.peaks):=by
 rintro S h cs x ⟨K,M,Q,U,V,W,X,Y,b,c,d,g,i,j,k,l,m,n,o,p,q,s,rfl,k0,Z,k2,k3,k4,k5,k6,k7,k8,k9,t,u,v,w,y,z,A,B,C,D,F,G,H,I,a,J⟩;exact⟨_,rfl,a⟩
def PB:Co DH 25 (BB.sl A3) (·.sent):=by
 rintro S h cs x ⟨K,M,Q,U,V,W,X,Y,b,c,d,g,i,j,k,l,m,n,o,p,q,s,rfl,k0,Z,k2,k3,k4,k5,k6,k7,k8,k9,t,u,v,w,y,z,A,B,C,D,F,G,H,I,J,a⟩;exact⟨_,rfl,a⟩
structure AE where
 to_:Int
 delay:Int
 way:Int
 take:((List Int)→Option ((List Int)×(List Int)))
instance:Inhabited AE:=⟨⟨default,default,default,default⟩⟩
def A0:BB AE where
 sz:=4
 ag:=true
 rd:=λS j cs x=>∃a:Value,cs=[.int .i64 x.to_,.int .i64 x.delay,.int .i64 x.way,a]∧AA x.to_∧AA x.delay∧AA x.way∧Rd S j (BB.fnr prog (λS j vs (x:(List Int))=>∃b:Value,vs=[b]∧Sl S j AB b x) (λS j v (y:((List Int)×(List Int)))=>∃b w1:Value,v= .tuple #[b,w1]∧Sl S j AB b y.1∧Sl S j AB w1 y.2)) a x.take
 len:=λ⟨_,j,_⟩=>by rw[j];rfl
 one:=by
  rintro S j cs x ⟨a,rfl,k0,c,d,g⟩ v i;simp only[gK,gV,hU] at i;rcases i with rfl|rfl|rfl|rfl<;>first|rfl|exact Sl.one ‹_› |exact(‹_∧_›).2|(obtain ⟨_,_,rfl,_⟩:=Rd.fn ‹_›;rfl)|(obtain ⟨_,_,rfl,_⟩:=Rd.fnr ‹_›;rfl)
 mono:=by
  rintro S S' j h' cs x ⟨a,rfl,k0,c,d,g⟩ s e;exact⟨a,rfl,k0,c,d,g.mono'' s e⟩
def A0.ex {S c v}{x:AE}(k:Rd S c A0 v x):∃b:Value,v= .agg #[.int .i64 x.to_,.int .i64 x.delay,.int .i64 x.way,b]∧AA x.to_∧AA x.delay∧AA x.way∧Rd S c (BB.fnr prog (λS c vs (x:(List Int))=>∃a:Value,vs=[a]∧Sl S c AB a x) (λS c v (y:((List Int)×(List Int)))=>∃a w1:Value,v= .tuple #[a,w1]∧Sl S c AB a y.1∧Sl S c AB w1 y.2)) b x.take:=by obtain⟨_,rfl,b,rfl,k⟩:=k;exact⟨b,rfl,k⟩
def A0.mk {S i}{x:AE}{b:Value}(k0:AA x.to_) (c:AA x.delay) (d:AA x.way) (g:Rd S i (BB.fnr prog (λS i vs (x:(List Int))=>∃a:Value,vs=[a]∧Sl S i AB a x) (λS i v (y:((List Int)×(List Int)))=>∃a w1:Value,v= .tuple #[a,w1]∧Sl S i AB a y.1∧Sl S i AB w1 y.2)) b x.take):Rd S i A0 (.agg #[.int .i64 x.to_,.int .i64 x.delay,.int .i64 x.way,b]) x:=⟨_,rfl,b,rfl,k0,c,d,g⟩
def KY:Co A0 0 AB (·.to_):=by
 rintro S g cs x ⟨a,rfl,k0,b,c,d⟩;exact⟨rfl,k0⟩
def Lf:Co A0 1 AB (·.delay):=by
 rintro S g cs x ⟨b,rfl,k0,a,c,d⟩;exact⟨rfl,a⟩
def MW:Co A0 2 AB (·.way):=by
 rintro S g cs x ⟨b,rfl,k0,c,a,d⟩;exact⟨rfl,a⟩
def Lt:Co A0 3 (BB.fnr prog (λS l vs (x:(List Int))=>∃a:Value,vs=[a]∧Sl S l AB a x) (λS l v (y:((List Int)×(List Int)))=>∃a w1:Value,v= .tuple #[a,w1]∧Sl S l AB a y.1∧Sl S l AB w1 y.2)) (·.take):=by
 rintro S l cs x ⟨i,rfl,k0,j,k,b⟩;obtain⟨_,rfl,c,d,rfl,g⟩:=b;exact⟨c,d,rfl,g⟩
structure AV where
 rest_:ByteArray
 bad:Bool
instance:Inhabited AV:=⟨⟨default,default⟩⟩
@[reducible] def AV.v (x:AV):List Go.Value:=[.string x.rest_,.bool x.bad]
def AV.ok (x:AV):Prop:=x.rest_.size≤maxLen
def Da:BB AV where
 sz:=2
 ag:=true
 rd:=λ_ _ cs x=>cs=x.v∧x.ok
 len:=λ⟨b,_⟩=>by rw[b];rfl
 one:=λ{_ _ _ x} ⟨b,_⟩ v a=>by
  rw[b] at a;simp only[AV.v,gK,gV,hU] at a;rcases a with rfl|rfl<;>rfl
 mono:=λb _ _=>b
def Da.ex {S a v}{x:AV}(k:Rd S a Da v x):v= .agg #[.string x.rest_,.bool x.bad]∧x.ok:=by obtain⟨_,rfl,rfl,a⟩:=k;exact⟨rfl,a⟩
def Da.mk {S h}{x:AV}(k:x.ok):Rd S h Da (.agg #[.string x.rest_,.bool x.bad]) x:=⟨x.v,rfl,rfl,k⟩
def Kr:Co Da 0 BB.str (·.rest_):=by
 rintro S a cs x ⟨rfl,k0⟩;exact⟨rfl,k0⟩
def Le:Co Da 1 BB.bool (·.bad):=by
 rintro S a cs x ⟨rfl,k0⟩;exact rfl
structure AG where
 group:ByteArray
 name:ByteArray
instance:Inhabited AG:=⟨⟨default,default⟩⟩
@[reducible] def AG.v (x:AG):List Go.Value:=[.string x.group,.string x.name]
def AG.ok (x:AG):Prop:=x.group.size≤maxLen∧x.name.size≤maxLen
def G4:BB AG where
 sz:=2
 ag:=true
 rd:=λ_ _ cs x=>cs=x.v∧x.ok
 len:=λ⟨b,_⟩=>by rw[b];rfl
 one:=λ{_ _ _ x} ⟨b,_⟩ v a=>by
  rw[b] at a;simp only[AG.v,gK,gV,hU] at a;rcases a with rfl|rfl<;>rfl
 mono:=λb _ _=>b
def G4.ex {S a v}{x:AG}(k:Rd S a G4 v x):v= .agg #[.string x.group,.string x.name]∧x.ok:=by obtain⟨_,rfl,rfl,a⟩:=k;exact⟨rfl,a⟩
def G4.mk {S h}{x:AG}(k:x.ok):Rd S h G4 (.agg #[.string x.group,.string x.name]) x:=⟨x.v,rfl,rfl,k⟩
def OC:Co G4 0 BB.str (·.group):=by
 rintro S b cs x ⟨rfl,⟨k0,a⟩⟩;exact⟨rfl,k0⟩
def Ol:Co G4 1 BB.str (·.name):=by
 rintro S b cs x ⟨rfl,⟨k0,a⟩⟩;exact⟨rfl,a⟩
structure AH where
 hi:Int
 lo:Int
instance:Inhabited AH:=⟨⟨default,default⟩⟩
@[reducible] def AH.v (x:AH):List Go.Value:=[.int .i64 x.hi,.int .u64 x.lo]
def AH.ok (x:AH):Prop:=AA x.hi∧IntKind.has .u64 x.lo
def Fo:BB AH where
 sz:=2
 ag:=true
 rd:=λ_ _ cs x=>cs=x.v∧x.ok
 len:=λ⟨b,_⟩=>by rw[b];rfl
 one:=λ{_ _ _ x} ⟨b,_⟩ v a=>by
  rw[b] at a;simp only[AH.v,gK,gV,hU] at a;rcases a with rfl|rfl<;>rfl
 mono:=λb _ _=>b
def Fo.ex {S a v}{x:AH}(k:Rd S a Fo v x):v= .agg #[.int .i64 x.hi,.int .u64 x.lo]∧x.ok:=by obtain⟨_,rfl,rfl,a⟩:=k;exact⟨rfl,a⟩
def Fo.mk {S h}{x:AH}(k:x.ok):Rd S h Fo (.agg #[.int .i64 x.hi,.int .u64 x.lo]) x:=⟨x.v,rfl,rfl,k⟩
def Qp:Co Fo 0 AB (·.hi):=by
 rintro S b cs x ⟨rfl,⟨k0,a⟩⟩;exact⟨rfl,k0⟩
def Lg:Co Fo 1 (BB.intk .u64) (·.lo):=by
 rintro S b cs x ⟨rfl,⟨k0,a⟩⟩;exact⟨rfl,a⟩
structure AC where
 sort:Int
 place:Int
 owner:Int
instance:Inhabited AC:=⟨⟨default,default,default⟩⟩
@[reducible] def AC.v (x:AC):List Go.Value:=[.int .i64 x.sort,.int .i64 x.place,.int .i64 x.owner]
def AC.ok (x:AC):Prop:=AA x.sort∧AA x.place∧AA x.owner
def EJ:BB AC where
 sz:=3
 ag:=true
 rd:=λ_ _ cs x=>cs=x.v∧x.ok
 len:=λ⟨b,_⟩=>by rw[b];rfl
 one:=λ{_ _ _ x} ⟨b,_⟩ v a=>by
  rw[b] at a;simp only[AC.v,gK,gV,hU] at a;rcases a with rfl|rfl|rfl<;>rfl
 mono:=λb _ _=>b
def EJ.ex {S a v}{x:AC}(k:Rd S a EJ v x):v= .agg #[.int .i64 x.sort,.int .i64 x.place,.int .i64 x.owner]∧x.ok:=by obtain⟨_,rfl,rfl,a⟩:=k;exact⟨rfl,a⟩
def EJ.mk {S h}{x:AC}(k:x.ok):Rd S h EJ (.agg #[.int .i64 x.sort,.int .i64 x.place,.int .i64 x.owner]) x:=⟨x.v,rfl,rfl,k⟩
def OB:Co EJ 0 AB (·.sort):=by
 rintro S c cs x ⟨rfl,⟨k0,a,b⟩⟩;exact⟨rfl,k0⟩
def Nq:Co EJ 1 AB (·.place):=by
 rintro S c cs x ⟨rfl,⟨k0,a,b⟩⟩;exact⟨rfl,a⟩
def Nr:Co EJ 2 AB (·.owner):=by
 rintro S c cs x ⟨rfl,⟨k0,b,a⟩⟩;exact⟨rfl,a⟩
def Q1:ByteArray:=ByteArray.mk #[0,1,2,2,3,3,3,3,4,4,4,4,4,4,4,4,5,5,5,5,5,5,5,5,5,5,5,5,5,5,5,5,6,6,6,6,6,6,6,6,6,6,6,6,6,6,6,6,6,6,6,6,6,6,6,6,6,6,6,6,6,6,6,6,7,7,7,7,7,7,7,7,7,7,7,7,7,7,7,7,7,7,7,7,7,7,7,7,7,7,7,7,7,7,7,7,7,7,7,7,7,7,7,7,7,7,7,7,7,7,7,7,7,7,7,7,7,7,7,7,7,7,7,7,7,7,7,7,8,8,8,8,8,8,8,8,8,8,8,8,8,8,8,8,8,8,8,8,8,8,8,8,8,8,8,8,8,8,8,8,8,8,8,8,8,8,8,8,8,8,8,8,8,8,8,8,8,8,8,8,8,8,8,8,8,8,8,8,8,8,8,8,8,8,8,8,8,8,8,8,8,8,8,8,8,8,8,8,8,8,8,8,8,8,8,8,8,8,8,8,8,8,8,8,8,8,8,8,8,8,8,8,8,8,8,8,8,8,8,8,8,8,8,8,8,8,8,8,8,8,8,8,8,8,8,8]
def Nv:List ByteArray:=([(ByteArray.mk #[112,117,98,108,105,99])]:List ByteArray)
def Nu:List Cb:=([(⟨(ByteArray.mk #[116,111,112]),0,0,100,([(⟨0,0⟩:CP),(⟨100,200⟩:CP)]:List CP),([60]:List Int),1,10,1,0,0,[]⟩:Cb),(⟨(ByteArray.mk #[109,105,100]),0,1,100,([(⟨0,0⟩:CP),(⟨100,200⟩:CP)]:List CP),([20]:List Int),0,0,2,1,0,[]⟩:Cb),(⟨(ByteArray.mk #[108,111,119]),0,2,30,([(⟨0,0⟩:CP),(⟨100,200⟩:CP)]:List CP),([30]:List Int),1,2,(-1),0,0,[]⟩:Cb)]:List Cb)
def PO:List E5:=([(⟨([10]:List Int),[],[],[],[]⟩:E5)]:List E5)
def PN:List AX:=([(⟨3,0,0,0,([10]:List Int)⟩:AX),(⟨3,0,0,0,([2,3]:List Int)⟩:AX),(⟨5,0,0,0,([7]:List Int)⟩:AX),(⟨4,1,0,0,([9]:List Int)⟩:AX)]:List AX)
end Go.Proofs.YtedgiljmffngoaaGreat
