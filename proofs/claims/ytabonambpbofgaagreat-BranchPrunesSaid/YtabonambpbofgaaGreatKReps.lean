import Derived.Test.YtabonambpbofgaaGreatKCore31
import Derived.Test.YtabonambpbofgaaGreatKSortD
import Derived.Test.YtabonambpbofgaaGreatRows
namespace Go.Proofs.YtabonambpbofgaaGreat
set_option linter.all false
open Go.RowKit
open Go.Proofs.Tryz
structure By where
 Q:Int
 X:Int
instance:Inhabited By:=⟨⟨default,default⟩⟩
@[reducible] def By.v (x:By):List Go.Value:=[.int .i64 x.Q,.int .i64 x.X]
def By.ok (x:By):Prop:=AA x.Q∧AA x.X
def CH:A7 By where
 sz:=2
 ag:=true
 rd:=λ_ _ cs x=>cs=x.v∧x.ok
 len:=λ⟨b,_⟩=>by rw[b];rfl
 one:=λ{_ _ _ x} ⟨b,_⟩ v a=>by
  rw[b] at a;simp only[By.v,Abr,Ab5,Aci] at a;rcases a with rfl|rfl<;>rfl
 mono:=λb _ _=>b
def CH.ex {S a v}{x:By}(k:Rd S a CH v x):v= .agg #[.int .i64 x.Q,.int .i64 x.X]∧x.ok:=by obtain⟨_,rfl,rfl,a⟩:=k;exact⟨rfl,a⟩
def CH.mk {S h}{x:By}(k:x.ok):Rd S h CH (.agg #[.int .i64 x.Q,.int .i64 x.X]) x:=⟨x.v,rfl,rfl,k⟩
def XZ:Fg CH 0 AB (·.Q):=by
 rintro S b cs x ⟨rfl,⟨k0,a⟩⟩;exact⟨rfl,k0⟩
def TZ:Fg CH 1 AB (·.X):=by
 rintro S b cs x ⟨rfl,⟨k0,a⟩⟩;exact⟨rfl,a⟩
structure Le where
 Bf:Int
 Bq:Int
instance:Inhabited Le:=⟨⟨default,default⟩⟩
@[reducible] def Le.v (x:Le):List Go.Value:=[.int .i64 x.Bf,.int .i64 x.Bq]
def Le.ok (x:Le):Prop:=AA x.Bf∧AA x.Bq
def J8:A7 Le where
 sz:=2
 ag:=true
 rd:=λ_ _ cs x=>cs=x.v∧x.ok
 len:=λ⟨b,_⟩=>by rw[b];rfl
 one:=λ{_ _ _ x} ⟨b,_⟩ v a=>by
  rw[b] at a;simp only[Le.v,Abr,Ab5,Aci] at a;rcases a with rfl|rfl<;>rfl
 mono:=λb _ _=>b
def J8.ex {S a v}{x:Le}(k:Rd S a J8 v x):v= .agg #[.int .i64 x.Bf,.int .i64 x.Bq]∧x.ok:=by obtain⟨_,rfl,rfl,a⟩:=k;exact⟨rfl,a⟩
def J8.mk {S h}{x:Le}(k:x.ok):Rd S h J8 (.agg #[.int .i64 x.Bf,.int .i64 x.Bq]) x:=⟨x.v,rfl,rfl,k⟩
structure Cp where
 E:ByteArray
 F:Int
 Au:Int
 Av:Int
 Bl:(List By)
 An:(List Int)
 Y:Int
 S:Int
 Ao:Int
 R:Int
 Bg:Int
 T:(List Le)
instance:Inhabited Cp:=⟨⟨default,default,default,default,default,default,default,default,default,default,default,default⟩⟩
def B4:A7 Cp where
 sz:=12
 ag:=true
 rd:=λS u cs x=>∃b c a:Value,cs=[.string x.E,.int .i64 x.F,.int .i64 x.Au,.int .i64 x.Av,b,c,.int .i64 x.Y,.int .i64 x.S,.int .i64 x.Ao,.int .i64 x.R,.int .i64 x.Bg,a]∧x.E.size≤maxLen∧AA x.F∧AA x.Au∧AA x.Av∧Sl S u CH b x.Bl∧Sl S u AB c x.An∧AA x.Y∧AA x.S∧AA x.Ao∧AA x.R∧AA x.Bg∧Sl S u J8 a x.T
 len:=λ⟨_,_,_,u,_⟩=>by rw[u];rfl
 one:=by
  rintro S u cs x ⟨b,c,a,rfl,k0,i,j,k,l,m,n,o,p,q,d,g⟩ v t;simp only[Abr,Ab5,Aci] at t;rcases t with rfl|rfl|rfl|rfl|rfl|rfl|rfl|rfl|rfl|rfl|rfl|rfl<;>first|rfl|exact Sl.one ‹_› |exact(‹_∧_›).2|(obtain ⟨_,_,rfl,_⟩:=Rd.fn ‹_›;rfl)|(obtain ⟨_,_,rfl,_⟩:=Rd.fnr ‹_›;rfl)
 mono:=by
  rintro S S' u h' cs x ⟨b,c,a,rfl,k0,i,j,k,l,m,n,o,p,q,d,g⟩ s e;exact⟨b,c,a,rfl,k0,i,j,k,l.mono s e,m.mono s e,n,o,p,q,d,g.mono s e⟩
def B4.ex {S h v}{x:Cp}(k:Rd S h B4 v x):∃b c a:Value,v= .agg #[.string x.E,.int .i64 x.F,.int .i64 x.Au,.int .i64 x.Av,b,c,.int .i64 x.Y,.int .i64 x.S,.int .i64 x.Ao,.int .i64 x.R,.int .i64 x.Bg,a]∧x.E.size≤maxLen∧AA x.F∧AA x.Au∧AA x.Av∧Sl S h CH b x.Bl∧Sl S h AB c x.An∧AA x.Y∧AA x.S∧AA x.Ao∧AA x.R∧AA x.Bg∧Sl S h J8 a x.T:=by obtain⟨_,rfl,b,c,a,rfl,k⟩:=k;exact⟨b,c,a,rfl,k⟩
def B4.mk {S h}{x:Cp}{b c a:Value}(k0:x.E.size≤maxLen) (i:AA x.F) (j:AA x.Au) (k:AA x.Av) (l:Sl S h CH b x.Bl) (m:Sl S h AB c x.An) (n:AA x.Y) (o:AA x.S) (p:AA x.Ao) (q:AA x.R) (d:AA x.Bg) (g:Sl S h J8 a x.T):Rd S h B4 (.agg #[.string x.E,.int .i64 x.F,.int .i64 x.Au,.int .i64 x.Av,b,c,.int .i64 x.Y,.int .i64 x.S,.int .i64 x.Ao,.int .i64 x.R,.int .i64 x.Bg,a]) x:=⟨_,rfl,b,c,a,rfl,k0,i,j,k,l,m,n,o,p,q,d,g⟩
def Cp.f_Name:Fg B4 0 A7.str (·.E):=by
 rintro S s cs x ⟨d,g,a,rfl,k0,i,j,k,l,m,n,o,p,q,b,c⟩;exact⟨rfl,k0⟩
def Cp.f_Kind:Fg B4 1 AB (·.F):=by
 rintro S s cs x ⟨g,i,a,rfl,k0,b,j,k,l,m,n,o,p,q,c,d⟩;exact⟨rfl,b⟩
def OQ:Fg B4 2 AB (·.Au):=by
 rintro S s cs x ⟨g,i,a,rfl,k0,j,b,k,l,m,n,o,p,q,c,d⟩;exact⟨rfl,b⟩
def PQ:Fg B4 4 (A7.sl CH) (·.Bl):=by
 rintro S s cs x ⟨g,i,a,rfl,k0,j,k,l,b,m,n,o,p,q,c,d⟩;exact⟨_,rfl,b⟩
def PP:Fg B4 5 (A7.sl AB) (·.An):=by
 rintro S s cs x ⟨g,i,a,rfl,k0,j,k,l,m,b,n,o,p,q,c,d⟩;exact⟨_,rfl,b⟩
def Cp.f_Num:Fg B4 6 AB (·.Y):=by
 rintro S s cs x ⟨g,i,a,rfl,k0,j,k,l,m,n,b,o,p,q,c,d⟩;exact⟨rfl,b⟩
def Cp.f_Den:Fg B4 7 AB (·.S):=by
 rintro S s cs x ⟨g,i,a,rfl,k0,j,k,l,m,n,o,b,p,q,c,d⟩;exact⟨rfl,b⟩
def Cp.f_Rain:Fg B4 11 (A7.sl J8) (·.T):=by
 rintro S s cs x ⟨d,g,b,rfl,k0,i,j,k,l,m,n,o,p,q,c,a⟩;exact⟨_,rfl,a⟩
def Tb:L4 B4 4 (A7.sl CH) (λx y=>{ x with Bl:=y}):=by
 refine⟨by decide,?_⟩;rintro S v c x vs y ⟨t,d,g,rfl,k0,i,j,k,u,l,m,n,o,p,a,b⟩ ⟨q,rfl,s⟩;exact⟨q,d,g,rfl,k0,i,j,k,s,l,m,n,o,p,a,b⟩
def Ta:L4 B4 5 (A7.sl AB) (λx y=>{ x with An:=y}):=by
 refine⟨by decide,?_⟩;rintro S v c x vs y ⟨d,t,g,rfl,k0,i,j,k,l,u,m,n,o,p,a,b⟩ ⟨q,rfl,s⟩;exact⟨d,q,g,rfl,k0,i,j,k,l,s,m,n,o,p,a,b⟩
def Cp.u_Rain:L4 B4 11 (A7.sl J8) (λx y=>{ x with T:=y}):=by
 refine⟨by decide,?_⟩;rintro S v c x vs y ⟨g,i,u,rfl,k0,j,k,l,m,n,o,p,q,s,a,t⟩ ⟨b,rfl,d⟩;exact⟨g,i,b,rfl,k0,j,k,l,m,n,o,p,q,s,a,d⟩
structure Lg where
 Aw:(List By)
 Ax:(List By)
instance:Inhabited Lg:=⟨⟨default,default⟩⟩
def K5:A7 Lg where
 sz:=2
 ag:=true
 rd:=λS d cs x=>∃a v1:Value,cs=[a,v1]∧Sl S d CH a x.Aw∧Sl S d CH v1 x.Ax
 len:=λ⟨_,_,d,_⟩=>by rw[d];rfl
 one:=by
  rintro S d cs x ⟨a,v1,rfl,k0,b⟩ v c;simp only[Abr,Ab5,Aci] at c;rcases c with rfl|rfl<;>first|rfl|exact Sl.one ‹_› |exact(‹_∧_›).2|(obtain ⟨_,_,rfl,_⟩:=Rd.fn ‹_›;rfl)|(obtain ⟨_,_,rfl,_⟩:=Rd.fnr ‹_›;rfl)
 mono:=by
  rintro S S' d h' cs x ⟨a,v1,rfl,k0,b⟩ s e;exact⟨a,v1,rfl,k0.mono s e,b.mono s e⟩
def K5.ex {S h v}{x:Lg}(k:Rd S h K5 v x):∃a v1:Value,v= .agg #[a,v1]∧Sl S h CH a x.Aw∧Sl S h CH v1 x.Ax:=by obtain⟨_,rfl,a,v1,rfl,k⟩:=k;exact⟨a,v1,rfl,k⟩
def K5.mk {S h}{x:Lg}{a v1:Value}(k0:Sl S h CH a x.Aw) (b:Sl S h CH v1 x.Ax):Rd S h K5 (.agg #[a,v1]) x:=⟨_,rfl,a,v1,rfl,k0,b⟩
def OH:Fg K5 0 (A7.sl CH) (·.Aw):=by
 rintro S c cs x ⟨a,v1,rfl,k0,b⟩;exact⟨_,rfl,k0⟩
def OI:Fg K5 1 (A7.sl CH) (·.Ax):=by
 rintro S c cs x ⟨b,v1,rfl,k0,a⟩;exact⟨_,rfl,a⟩
def Xb:L4 K5 0 (A7.sl CH) (λx y=>{ x with Aw:=y}):=by
 refine⟨by decide,?_⟩;rintro S j c x vs y ⟨i,a,rfl,k0,b⟩ ⟨d,rfl,g⟩;exact⟨d,a,rfl,g,b⟩
def Xc:L4 K5 1 (A7.sl CH) (λx y=>{ x with Ax:=y}):=by
 refine⟨by decide,?_⟩;rintro S j c x vs y ⟨a,g,rfl,k0,i⟩ ⟨b,rfl,d⟩;exact⟨a,b,rfl,k0,d⟩
structure BB where
 E:ByteArray
 F:Int
 M:Int
 D:Int
 As:(List By)
 Ad:Lg
 W:Int
 Ag:Int
 Bb:Int
 Bc:Int
 Y:Int
 S:Int
 Az:Int
 Ba:Int
 Aq:Int
 Al:Int
 R:Int
instance:Inhabited BB:=⟨⟨default,default,default,default,default,default,default,default,default,default,default,default,default,default,default,default,default⟩⟩
def CD:A7 BB where
 sz:=18
 ag:=true
 rd:=λS C cs x=>∃a b c:Value,cs=[.string x.E,.int .i64 x.F,.int .i64 x.M,.int .i64 x.D,a,b,c,.int .i64 x.W,.int .i64 x.Ag,.int .i64 x.Bb,.int .i64 x.Bc,.int .i64 x.Y,.int .i64 x.S,.int .i64 x.Az,.int .i64 x.Ba,.int .i64 x.Aq,.int .i64 x.Al,.int .i64 x.R]∧x.E.size≤maxLen∧AA x.F∧AA x.M∧AA x.D∧Sl S C CH a x.As∧Sl S C CH b x.Ad.Aw∧Sl S C CH c x.Ad.Ax∧AA x.W∧AA x.Ag∧AA x.Bb∧AA x.Bc∧AA x.Y∧AA x.S∧AA x.Az∧AA x.Ba∧AA x.Aq∧AA x.Al∧AA x.R
 len:=λ⟨_,_,_,C,_⟩=>by rw[C];rfl
 one:=by
  rintro S C cs x ⟨a,b,c,rfl,k0,o,p,q,t,u,w,y,z,A,d,g,i,j,k,l,m,n⟩ v B;simp only[Abr,Ab5,Aci] at B;rcases B with rfl|rfl|rfl|rfl|rfl|rfl|rfl|rfl|rfl|rfl|rfl|rfl|rfl|rfl|rfl|rfl|rfl|rfl<;>first|rfl|exact Sl.one ‹_› |exact(‹_∧_›).2|(obtain ⟨_,_,rfl,_⟩:=Rd.fn ‹_›;rfl)|(obtain ⟨_,_,rfl,_⟩:=Rd.fnr ‹_›;rfl)
 mono:=by
  rintro S S' C h' cs x ⟨a,b,c,rfl,k0,o,p,q,t,u,w,y,z,A,d,g,i,j,k,l,m,n⟩ s e;exact⟨a,b,c,rfl,k0,o,p,q,t.mono s e,u.mono s e,w.mono s e,y,z,A,d,g,i,j,k,l,m,n⟩
def CD.ex {S h v}{x:BB}(k:Rd S h CD v x):∃a b c:Value,v= .agg #[.string x.E,.int .i64 x.F,.int .i64 x.M,.int .i64 x.D,a,b,c,.int .i64 x.W,.int .i64 x.Ag,.int .i64 x.Bb,.int .i64 x.Bc,.int .i64 x.Y,.int .i64 x.S,.int .i64 x.Az,.int .i64 x.Ba,.int .i64 x.Aq,.int .i64 x.Al,.int .i64 x.R]∧x.E.size≤maxLen∧AA x.F∧AA x.M∧AA x.D∧Sl S h CH a x.As∧Sl S h CH b x.Ad.Aw∧Sl S h CH c x.Ad.Ax∧AA x.W∧AA x.Ag∧AA x.Bb∧AA x.Bc∧AA x.Y∧AA x.S∧AA x.Az∧AA x.Ba∧AA x.Aq∧AA x.Al∧AA x.R:=by obtain⟨_,rfl,a,b,c,rfl,k⟩:=k;exact⟨a,b,c,rfl,k⟩
def CD.mk {S h}{x:BB}{a b c:Value}(k0:x.E.size≤maxLen) (o:AA x.F) (p:AA x.M) (q:AA x.D) (s:Sl S h CH a x.As) (t:Sl S h CH b x.Ad.Aw) (u:Sl S h CH c x.Ad.Ax) (v:AA x.W) (w:AA x.Ag) (y:AA x.Bb) (d:AA x.Bc) (g:AA x.Y) (i:AA x.S) (j:AA x.Az) (k:AA x.Ba) (l:AA x.Aq) (m:AA x.Al) (n:AA x.R):Rd S h CD (.agg #[.string x.E,.int .i64 x.F,.int .i64 x.M,.int .i64 x.D,a,b,c,.int .i64 x.W,.int .i64 x.Ag,.int .i64 x.Bb,.int .i64 x.Bc,.int .i64 x.Y,.int .i64 x.S,.int .i64 x.Az,.int .i64 x.Ba,.int .i64 x.Aq,.int .i64 x.Al,.int .i64 x.R]) x:=⟨_,rfl,a,b,c,rfl,k0,o,p,q,s,t,u,v,w,y,d,g,i,j,k,l,m,n⟩
def BB.f_Name:Fg CD 0 A7.str (·.E):=by
 rintro S z cs x ⟨l,m,n,rfl,k0,o,p,q,s,t,u,v,w,y,a,b,c,d,g,i,j,k⟩;exact⟨rfl,k0⟩
def BB.f_Kind:Fg CD 1 AB (·.F):=by
 rintro S z cs x ⟨m,n,o,rfl,k0,a,p,q,s,t,u,v,w,y,b,c,d,g,i,j,k,l⟩;exact⟨rfl,a⟩
def BB.f_To:Fg CD 3 AB (·.D):=by
 rintro S z cs x ⟨m,n,o,rfl,k0,p,q,a,s,t,u,v,w,y,b,c,d,g,i,j,k,l⟩;exact⟨rfl,a⟩
def KY:Fg CD 4 (A7.sl CH) (·.As):=by
 rintro S z cs x ⟨m,n,o,rfl,k0,p,q,s,a,t,u,v,w,y,b,c,d,g,i,j,k,l⟩;exact⟨_,rfl,a⟩
def IX:Fg CD 5 K5 (·.Ad):=by
 rintro S z cs x ⟨n,o,p,rfl,k0,q,s,t,u,a,b,v,w,y,c,d,g,i,j,k,l,m⟩;exact⟨_,_,rfl,a,b⟩
def Gm:Fg CD 7 AB (·.W):=by
 rintro S z cs x ⟨m,n,o,rfl,k0,p,q,s,t,u,v,a,w,y,b,c,d,g,i,j,k,l⟩;exact⟨rfl,a⟩
def Kp:Fg CD 8 AB (·.Ag):=by
 rintro S z cs x ⟨m,n,o,rfl,k0,p,q,s,t,u,v,w,a,y,b,c,d,g,i,j,k,l⟩;exact⟨rfl,a⟩
def OG:Fg CD 9 AB (·.Bb):=by
 rintro S z cs x ⟨m,n,o,rfl,k0,p,q,s,t,u,v,w,y,a,b,c,d,g,i,j,k,l⟩;exact⟨rfl,a⟩
def Nd:Fg CD 10 AB (·.Bc):=by
 rintro S z cs x ⟨l,m,n,rfl,k0,o,p,q,s,t,u,v,w,y,a,b,c,d,g,i,j,k⟩;exact⟨rfl,a⟩
def BB.f_Num:Fg CD 11 AB (·.Y):=by
 rintro S z cs x ⟨l,m,n,rfl,k0,o,p,q,s,t,u,v,w,y,b,a,c,d,g,i,j,k⟩;exact⟨rfl,a⟩
def BB.f_Den:Fg CD 12 AB (·.S):=by
 rintro S z cs x ⟨l,m,n,rfl,k0,o,p,q,s,t,u,v,w,y,b,c,a,d,g,i,j,k⟩;exact⟨rfl,a⟩
def P2:Fg CD 13 AB (·.Az):=by
 rintro S z cs x ⟨l,m,n,rfl,k0,o,p,q,s,t,u,v,w,y,b,c,d,a,g,i,j,k⟩;exact⟨rfl,a⟩
def P3:Fg CD 14 AB (·.Ba):=by
 rintro S z cs x ⟨l,m,n,rfl,k0,o,p,q,s,t,u,v,w,y,b,c,d,g,a,i,j,k⟩;exact⟨rfl,a⟩
def J5:Fg CD 15 AB (·.Aq):=by
 rintro S z cs x ⟨l,m,n,rfl,k0,o,p,q,s,t,u,v,w,y,b,c,d,g,i,a,j,k⟩;exact⟨rfl,a⟩
def J6:Fg CD 16 AB (·.Al):=by
 rintro S z cs x ⟨l,m,n,rfl,k0,o,p,q,s,t,u,v,w,y,b,c,d,g,i,j,a,k⟩;exact⟨rfl,a⟩
def VX:L4 CD 4 (A7.sl CH) (λx y=>{ x with As:=y}):=by
 refine⟨by decide,?_⟩;rintro S D c x vs y ⟨B,m,n,rfl,k0,o,p,q,C,s,t,u,v,w,a,b,d,g,i,j,k,l⟩ ⟨z,rfl,A⟩;exact⟨z,m,n,rfl,k0,o,p,q,A,s,t,u,v,w,a,b,d,g,i,j,k,l⟩
def lW:L4 CD 5 K5 (λx y=>{ x with Ad:=y}):=by
 refine⟨by decide,?_⟩;rintro S G c x vs y ⟨m,B,C,rfl,k0,n,o,p,q,D,F,s,t,u,a,b,d,g,i,j,k,l⟩ ⟨v,w,rfl,z,A⟩;exact⟨m,v,w,rfl,k0,n,o,p,q,z,A,s,t,u,a,b,d,g,i,j,k,l⟩
structure Kn where
 E:ByteArray
 Ap:Int
 Br:Int
 Bp:Int
 Bv:Int
 Bs:Int
 Bo:Int
instance:Inhabited Kn:=⟨⟨default,default,default,default,default,default,default⟩⟩
@[reducible] def Kn.v (x:Kn):List Go.Value:=[.string x.E,.int .i64 x.Ap,.int .i64 x.Br,.int .i64 x.Bp,.int .i64 x.Bv,.int .i64 x.Bs,.int .i64 x.Bo]
def Kn.ok (x:Kn):Prop:=x.E.size≤maxLen∧AA x.Ap∧AA x.Br∧AA x.Bp∧AA x.Bv∧AA x.Bs∧AA x.Bo
def HN:A7 Kn where
 sz:=7
 ag:=true
 rd:=λ_ _ cs x=>cs=x.v∧x.ok
 len:=λ⟨b,_⟩=>by rw[b];rfl
 one:=λ{_ _ _ x} ⟨b,_⟩ v a=>by
  rw[b] at a;simp only[Kn.v,Abr,Ab5,Aci] at a;rcases a with rfl|rfl|rfl|rfl|rfl|rfl|rfl<;>rfl
 mono:=λb _ _=>b
def HN.ex {S a v}{x:Kn}(k:Rd S a HN v x):v= .agg #[.string x.E,.int .i64 x.Ap,.int .i64 x.Br,.int .i64 x.Bp,.int .i64 x.Bv,.int .i64 x.Bs,.int .i64 x.Bo]∧x.ok:=by obtain⟨_,rfl,rfl,a⟩:=k;exact⟨rfl,a⟩
def HN.mk {S h}{x:Kn}(k:x.ok):Rd S h HN (.agg #[.string x.E,.int .i64 x.Ap,.int .i64 x.Br,.int .i64 x.Bp,.int .i64 x.Bv,.int .i64 x.Bs,.int .i64 x.Bo]) x:=⟨x.v,rfl,rfl,k⟩
def Kn.f_Name:Fg HN 0 A7.str (·.E):=by
 rintro S j cs x ⟨rfl,⟨k0,a,b,c,d,g,i⟩⟩;exact⟨rfl,k0⟩
structure JK where
 E:ByteArray
 F:Int
 Aa:Int
 K:Int
 Bt:Int
instance:Inhabited JK:=⟨⟨default,default,default,default,default⟩⟩
@[reducible] def JK.v (x:JK):List Go.Value:=[.string x.E,.int .i64 x.F,.int .i64 x.Aa,.int .i64 x.K,.int .i64 x.Bt]
def JK.ok (x:JK):Prop:=x.E.size≤maxLen∧AA x.F∧AA x.Aa∧AA x.K∧AA x.Bt
def Ex:A7 JK where
 sz:=5
 ag:=true
 rd:=λ_ _ cs x=>cs=x.v∧x.ok
 len:=λ⟨b,_⟩=>by rw[b];rfl
 one:=λ{_ _ _ x} ⟨b,_⟩ v a=>by
  rw[b] at a;simp only[JK.v,Abr,Ab5,Aci] at a;rcases a with rfl|rfl|rfl|rfl|rfl<;>rfl
 mono:=λb _ _=>b
def Ex.ex {S a v}{x:JK}(k:Rd S a Ex v x):v= .agg #[.string x.E,.int .i64 x.F,.int .i64 x.Aa,.int .i64 x.K,.int .i64 x.Bt]∧x.ok:=by obtain⟨_,rfl,rfl,a⟩:=k;exact⟨rfl,a⟩
def Ex.mk {S h}{x:JK}(k:x.ok):Rd S h Ex (.agg #[.string x.E,.int .i64 x.F,.int .i64 x.Aa,.int .i64 x.K,.int .i64 x.Bt]) x:=⟨x.v,rfl,rfl,k⟩
def JK.f_Name:Fg Ex 0 A7.str (·.E):=by
 rintro S g cs x ⟨rfl,⟨k0,a,b,c,d⟩⟩;exact⟨rfl,k0⟩
def JK.f_Kind:Fg Ex 1 AB (·.F):=by
 rintro S g cs x ⟨rfl,⟨k0,a,b,c,d⟩⟩;exact⟨rfl,a⟩
def JK.f_Err:Fg Ex 3 AB (·.K):=by
 rintro S g cs x ⟨rfl,⟨k0,b,c,a,d⟩⟩;exact⟨rfl,a⟩
structure Ko where
 E:ByteArray
 M:Int
 D:Int
 Bw:Int
 Bx:Int
 Bj:Int
 Bm:Int
instance:Inhabited Ko:=⟨⟨default,default,default,default,default,default,default⟩⟩
@[reducible] def Ko.v (x:Ko):List Go.Value:=[.string x.E,.int .i64 x.M,.int .i64 x.D,.int .i64 x.Bw,.int .i64 x.Bx,.int .i64 x.Bj,.int .i64 x.Bm]
def Ko.ok (x:Ko):Prop:=x.E.size≤maxLen∧AA x.M∧AA x.D∧AA x.Bw∧AA x.Bx∧AA x.Bj∧AA x.Bm
def G7:A7 Ko where
 sz:=7
 ag:=true
 rd:=λ_ _ cs x=>cs=x.v∧x.ok
 len:=λ⟨b,_⟩=>by rw[b];rfl
 one:=λ{_ _ _ x} ⟨b,_⟩ v a=>by
  rw[b] at a;simp only[Ko.v,Abr,Ab5,Aci] at a;rcases a with rfl|rfl|rfl|rfl|rfl|rfl|rfl<;>rfl
 mono:=λb _ _=>b
def G7.ex {S a v}{x:Ko}(k:Rd S a G7 v x):v= .agg #[.string x.E,.int .i64 x.M,.int .i64 x.D,.int .i64 x.Bw,.int .i64 x.Bx,.int .i64 x.Bj,.int .i64 x.Bm]∧x.ok:=by obtain⟨_,rfl,rfl,a⟩:=k;exact⟨rfl,a⟩
def G7.mk {S h}{x:Ko}(k:x.ok):Rd S h G7 (.agg #[.string x.E,.int .i64 x.M,.int .i64 x.D,.int .i64 x.Bw,.int .i64 x.Bx,.int .i64 x.Bj,.int .i64 x.Bm]) x:=⟨x.v,rfl,rfl,k⟩
def Ko.f_Name:Fg G7 0 A7.str (·.E):=by
 rintro S j cs x ⟨rfl,⟨k0,a,b,c,d,g,i⟩⟩;exact⟨rfl,k0⟩
def Ko.f_To:Fg G7 2 AB (·.D):=by
 rintro S j cs x ⟨rfl,⟨k0,b,a,c,d,g,i⟩⟩;exact⟨rfl,a⟩
structure G0 where
 E:ByteArray
 Aj:Int
instance:Inhabited G0:=⟨⟨default,default⟩⟩
@[reducible] def G0.v (x:G0):List Go.Value:=[.string x.E,.int .i64 x.Aj]
def G0.ok (x:G0):Prop:=x.E.size≤maxLen∧AA x.Aj
def Dc:A7 G0 where
 sz:=2
 ag:=true
 rd:=λ_ _ cs x=>cs=x.v∧x.ok
 len:=λ⟨b,_⟩=>by rw[b];rfl
 one:=λ{_ _ _ x} ⟨b,_⟩ v a=>by
  rw[b] at a;simp only[G0.v,Abr,Ab5,Aci] at a;rcases a with rfl|rfl<;>rfl
 mono:=λb _ _=>b
def Dc.ex {S a v}{x:G0}(k:Rd S a Dc v x):v= .agg #[.string x.E,.int .i64 x.Aj]∧x.ok:=by obtain⟨_,rfl,rfl,a⟩:=k;exact⟨rfl,a⟩
def Dc.mk {S h}{x:G0}(k:x.ok):Rd S h Dc (.agg #[.string x.E,.int .i64 x.Aj]) x:=⟨x.v,rfl,rfl,k⟩
def G0.f_Name:Fg Dc 0 A7.str (·.E):=by
 rintro S b cs x ⟨rfl,⟨k0,a⟩⟩;exact⟨rfl,k0⟩
def G0.f_Room:Fg Dc 1 AB (·.Aj):=by
 rintro S b cs x ⟨rfl,⟨k0,a⟩⟩;exact⟨rfl,a⟩
structure AF where
 E:ByteArray
 H:(List ByteArray)
 J:Int
 A:(List Cp)
 C:(List BB)
 Af:(List Kn)
 Ah:(List JK)
 Ai:(List Ko)
 Ak:(List G0)
 Aj:(List Int)
 K:Int
instance:Inhabited AF:=⟨⟨default,default,default,default,default,default,default,default,default,default,default⟩⟩
def B5:A7 AF where
 sz:=11
 ag:=true
 rd:=λS z cs x=>∃v1 a b c d g i j:Value,cs=[.string x.E,v1,.int .i64 x.J,a,b,c,d,g,i,j,.int .i64 x.K]∧x.E.size≤maxLen∧Sl S z A7.str v1 x.H∧AA x.J∧Sl S z B4 a x.A∧Sl S z CD b x.C∧Sl S z HN c x.Af∧Sl S z Ex d x.Ah∧Sl S z G7 g x.Ai∧Sl S z Dc i x.Ak∧Sl S z AB j x.Aj∧AA x.K
 len:=λ⟨_,_,_,_,_,_,_,_,z,_⟩=>by rw[z];rfl
 one:=by
  rintro S z cs x ⟨v1,a,b,c,d,g,i,j,rfl,k0,l,m,n,o,p,q,t,u,w,k⟩ v y;simp only[Abr,Ab5,Aci] at y;rcases y with rfl|rfl|rfl|rfl|rfl|rfl|rfl|rfl|rfl|rfl|rfl<;>first|rfl|exact Sl.one ‹_› |exact(‹_∧_›).2|(obtain ⟨_,_,rfl,_⟩:=Rd.fn ‹_›;rfl)|(obtain ⟨_,_,rfl,_⟩:=Rd.fnr ‹_›;rfl)
 mono:=by
  rintro S S' z h' cs x ⟨v1,a,b,c,d,g,i,j,rfl,k0,l,m,n,o,p,q,t,u,w,k⟩ s e;exact⟨v1,a,b,c,d,g,i,j,rfl,k0,l.mono s e,m,n.mono s e,o.mono s e,p.mono s e,q.mono s e,t.mono s e,u.mono s e,w.mono s e,k⟩
def B5.ex {S h v}{x:AF}(k:Rd S h B5 v x):∃v1 a b c d g i j:Value,v= .agg #[.string x.E,v1,.int .i64 x.J,a,b,c,d,g,i,j,.int .i64 x.K]∧x.E.size≤maxLen∧Sl S h A7.str v1 x.H∧AA x.J∧Sl S h B4 a x.A∧Sl S h CD b x.C∧Sl S h HN c x.Af∧Sl S h Ex d x.Ah∧Sl S h G7 g x.Ai∧Sl S h Dc i x.Ak∧Sl S h AB j x.Aj∧AA x.K:=by obtain⟨_,rfl,v1,a,b,c,d,g,i,j,rfl,k⟩:=k;exact⟨v1,a,b,c,d,g,i,j,rfl,k⟩
def B5.mk {S h}{x:AF}{v1 a b c d g i j:Value}(k0:x.E.size≤maxLen) (l:Sl S h A7.str v1 x.H) (m:AA x.J) (n:Sl S h B4 a x.A) (o:Sl S h CD b x.C) (p:Sl S h HN c x.Af) (q:Sl S h Ex d x.Ah) (s:Sl S h G7 g x.Ai) (t:Sl S h Dc i x.Ak) (u:Sl S h AB j x.Aj) (k:AA x.K):Rd S h B5 (.agg #[.string x.E,v1,.int .i64 x.J,a,b,c,d,g,i,j,.int .i64 x.K]) x:=⟨_,rfl,v1,a,b,c,d,g,i,j,rfl,k0,l,m,n,o,p,q,s,t,u,k⟩
def AF.f_Name:Fg B5 0 A7.str (·.E):=by
 rintro S v cs x ⟨v1,b,c,d,g,i,j,k,rfl,k0,l,m,n,o,p,q,s,t,u,a⟩;exact⟨rfl,k0⟩
def IH:Fg B5 1 (A7.sl A7.str) (·.H):=by
 rintro S v cs x ⟨v1,c,d,g,i,j,k,l,rfl,k0,a,m,n,o,p,q,s,t,u,b⟩;exact⟨_,rfl,a⟩
def NG:Fg B5 2 AB (·.J):=by
 rintro S v cs x ⟨v1,c,d,g,i,j,k,l,rfl,k0,m,a,n,o,p,q,s,t,u,b⟩;exact⟨rfl,a⟩
def Cv:Fg B5 3 (A7.sl B4) (·.A):=by
 rintro S v cs x ⟨v1,c,d,g,i,j,k,l,rfl,k0,m,n,a,o,p,q,s,t,u,b⟩;exact⟨_,rfl,a⟩
def HW:Fg B5 4 (A7.sl CD) (·.C):=by
 rintro S v cs x ⟨v1,c,d,g,i,j,k,l,rfl,k0,m,n,o,a,p,q,s,t,u,b⟩;exact⟨_,rfl,a⟩
def KP:Fg B5 5 (A7.sl HN) (·.Af):=by
 rintro S v cs x ⟨v1,c,d,g,i,j,k,l,rfl,k0,m,n,o,p,a,q,s,t,u,b⟩;exact⟨_,rfl,a⟩
def Kw:Fg B5 6 (A7.sl Ex) (·.Ah):=by
 rintro S v cs x ⟨v1,c,d,g,i,j,k,l,rfl,k0,m,n,o,p,q,a,s,t,u,b⟩;exact⟨_,rfl,a⟩
def Lf:Fg B5 7 (A7.sl G7) (·.Ai):=by
 rintro S v cs x ⟨v1,c,d,g,i,j,k,l,rfl,k0,m,n,o,p,q,s,a,t,u,b⟩;exact⟨_,rfl,a⟩
def KC:Fg B5 8 (A7.sl Dc) (·.Ak):=by
 rintro S v cs x ⟨v1,c,d,g,i,j,k,l,rfl,k0,m,n,o,p,q,s,t,a,u,b⟩;exact⟨_,rfl,a⟩
def AF.f_Room:Fg B5 9 (A7.sl AB) (·.Aj):=by
 rintro S v cs x ⟨v1,c,d,g,i,j,k,l,rfl,k0,m,n,o,p,q,s,t,u,a,b⟩;exact⟨_,rfl,a⟩
def AF.f_Err:Fg B5 10 AB (·.K):=by
 rintro S v cs x ⟨v1,b,c,d,g,i,j,k,rfl,k0,l,m,n,o,p,q,s,t,u,a⟩;exact⟨rfl,a⟩
structure AT where
 At:Int
 D:Int
 V:(List Int)
instance:Inhabited AT:=⟨⟨default,default,default⟩⟩
def A0:A7 AT where
 sz:=3
 ag:=true
 rd:=λS g cs x=>∃a:Value,cs=[.int .i64 x.At,.int .i64 x.D,a]∧AA x.At∧AA x.D∧Sl S g AB a x.V
 len:=λ⟨_,g,_⟩=>by rw[g];rfl
 one:=by
  rintro S g cs x ⟨a,rfl,k0,b,c⟩ v d;simp only[Abr,Ab5,Aci] at d;rcases d with rfl|rfl|rfl<;>first|rfl|exact Sl.one ‹_› |exact(‹_∧_›).2|(obtain ⟨_,_,rfl,_⟩:=Rd.fn ‹_›;rfl)|(obtain ⟨_,_,rfl,_⟩:=Rd.fnr ‹_›;rfl)
 mono:=by
  rintro S S' g h' cs x ⟨a,rfl,k0,b,c⟩ s e;exact⟨a,rfl,k0,b,c.mono s e⟩
def A0.ex {S h v}{x:AT}(k:Rd S h A0 v x):∃a:Value,v= .agg #[.int .i64 x.At,.int .i64 x.D,a]∧AA x.At∧AA x.D∧Sl S h AB a x.V:=by obtain⟨_,rfl,a,rfl,k⟩:=k;exact⟨a,rfl,k⟩
def A0.mk {S h}{x:AT}{a:Value}(k0:AA x.At) (b:AA x.D) (c:Sl S h AB a x.V):Rd S h A0 (.agg #[.int .i64 x.At,.int .i64 x.D,a]) x:=⟨_,rfl,a,rfl,k0,b,c⟩
def Xa:Fg A0 0 AB (·.At):=by
 rintro S d cs x ⟨a,rfl,k0,b,c⟩;exact⟨rfl,k0⟩
def AT.f_To:Fg A0 1 AB (·.D):=by
 rintro S d cs x ⟨b,rfl,k0,a,c⟩;exact⟨rfl,a⟩
def AT.f_Part:Fg A0 2 (A7.sl AB) (·.V):=by
 rintro S d cs x ⟨b,rfl,k0,c,a⟩;exact⟨_,rfl,a⟩
def AT.u_Part:L4 A0 2 (A7.sl AB) (λx y=>{ x with V:=y}):=by
 refine⟨by decide,?_⟩;rintro S j c x vs y ⟨g,rfl,k0,a,i⟩ ⟨b,rfl,d⟩;exact⟨b,rfl,k0,a,d⟩
structure A4 where
 Z:Int
 Aa:Int
 Ay:Bool
 Am:Bool
instance:Inhabited A4:=⟨⟨default,default,default,default⟩⟩
@[reducible] def A4.v (x:A4):List Go.Value:=[.int .i64 x.Z,.int .i64 x.Aa,.bool x.Ay,.bool x.Am]
def A4.ok (x:A4):Prop:=AA x.Z∧AA x.Aa
def BT:A7 A4 where
 sz:=4
 ag:=true
 rd:=λ_ _ cs x=>cs=x.v∧x.ok
 len:=λ⟨b,_⟩=>by rw[b];rfl
 one:=λ{_ _ _ x} ⟨b,_⟩ v a=>by
  rw[b] at a;simp only[A4.v,Abr,Ab5,Aci] at a;rcases a with rfl|rfl|rfl|rfl<;>rfl
 mono:=λb _ _=>b
def BT.ex {S a v}{x:A4}(k:Rd S a BT v x):v= .agg #[.int .i64 x.Z,.int .i64 x.Aa,.bool x.Ay,.bool x.Am]∧x.ok:=by obtain⟨_,rfl,rfl,a⟩:=k;exact⟨rfl,a⟩
def BT.mk {S h}{x:A4}(k:x.ok):Rd S h BT (.agg #[.int .i64 x.Z,.int .i64 x.Aa,.bool x.Ay,.bool x.Am]) x:=⟨x.v,rfl,rfl,k⟩
def Rs:Fg BT 0 AB (·.Z):=by
 rintro S b cs x ⟨rfl,⟨k0,a⟩⟩;exact⟨rfl,k0⟩
def VY:Fg BT 3 A7.bool (·.Am):=by
 rintro S b cs x ⟨rfl,⟨k0,a⟩⟩;exact rfl
structure AI where
 B:Int
 G:(List (List Int))
 N:(List Int)
 I:(List AT)
 P:(List A4)
 L:(List Int)
 O:(List Int)
instance:Inhabited AI:=⟨⟨default,default,default,default,default,default,default⟩⟩
def BO:A7 AI where
 sz:=7
 ag:=true
 rd:=λS p cs x=>∃v1 a b c d g:Value,cs=[.int .i64 x.B,v1,a,b,c,d,g]∧AA x.B∧Sl S p (A7.sl AB) v1 x.G∧Sl S p AB a x.N∧Sl S p A0 b x.I∧Sl S p BT c x.P∧Sl S p AB d x.L∧Sl S p AB g x.O
 len:=λ⟨_,_,_,_,_,_,p,_⟩=>by rw[p];rfl
 one:=by
  rintro S p cs x ⟨v1,a,b,c,d,g,rfl,k0,i,j,k,l,m,n⟩ v o;simp only[Abr,Ab5,Aci] at o;rcases o with rfl|rfl|rfl|rfl|rfl|rfl|rfl<;>first|rfl|exact Sl.one ‹_› |exact(‹_∧_›).2|(obtain ⟨_,_,rfl,_⟩:=Rd.fn ‹_›;rfl)|(obtain ⟨_,_,rfl,_⟩:=Rd.fnr ‹_›;rfl)
 mono:=by
  rintro S S' p h' cs x ⟨v1,a,b,c,d,g,rfl,k0,i,j,k,l,m,n⟩ s e;exact⟨v1,a,b,c,d,g,rfl,k0,i.mono s e,j.mono s e,k.mono s e,l.mono s e,m.mono s e,n.mono s e⟩
def BO.ex {S h v}{x:AI}(k:Rd S h BO v x):∃v1 a b c d g:Value,v= .agg #[.int .i64 x.B,v1,a,b,c,d,g]∧AA x.B∧Sl S h (A7.sl AB) v1 x.G∧Sl S h AB a x.N∧Sl S h A0 b x.I∧Sl S h BT c x.P∧Sl S h AB d x.L∧Sl S h AB g x.O:=by obtain⟨_,rfl,v1,a,b,c,d,g,rfl,k⟩:=k;exact⟨v1,a,b,c,d,g,rfl,k⟩
def BO.mk {S h}{x:AI}{v1 a b c d g:Value}(k0:AA x.B) (i:Sl S h (A7.sl AB) v1 x.G) (j:Sl S h AB a x.N) (k:Sl S h A0 b x.I) (l:Sl S h BT c x.P) (m:Sl S h AB d x.L) (n:Sl S h AB g x.O):Rd S h BO (.agg #[.int .i64 x.B,v1,a,b,c,d,g]) x:=⟨_,rfl,v1,a,b,c,d,g,rfl,k0,i,j,k,l,m,n⟩
def AI.f_Hour:Fg BO 0 AB (·.B):=by
 rintro S o cs x ⟨v1,a,b,c,d,g,rfl,k0,i,j,k,l,m,n⟩;exact⟨rfl,k0⟩
def Mm:Fg BO 1 (A7.sl (A7.sl AB)) (·.G):=by
 rintro S o cs x ⟨v1,b,c,d,g,i,rfl,k0,a,j,k,l,m,n⟩;exact⟨_,rfl,a⟩
def LZ:Fg BO 2 (A7.sl AB) (·.N):=by
 rintro S o cs x ⟨v1,b,c,d,g,i,rfl,k0,j,a,k,l,m,n⟩;exact⟨_,rfl,a⟩
def La:Fg BO 3 (A7.sl A0) (·.I):=by
 rintro S o cs x ⟨v1,b,c,d,g,i,rfl,k0,j,k,a,l,m,n⟩;exact⟨_,rfl,a⟩
def Lb:Fg BO 4 (A7.sl BT) (·.P):=by
 rintro S o cs x ⟨v1,b,c,d,g,i,rfl,k0,j,k,l,a,m,n⟩;exact⟨_,rfl,a⟩
def AI.f_In:Fg BO 5 (A7.sl AB) (·.L):=by
 rintro S o cs x ⟨v1,b,c,d,g,i,rfl,k0,j,k,l,m,a,n⟩;exact⟨_,rfl,a⟩
def Mn:Fg BO 6 (A7.sl AB) (·.O):=by
 rintro S o cs x ⟨v1,b,c,d,g,i,rfl,k0,j,k,l,m,n,a⟩;exact⟨_,rfl,a⟩
structure AG where
 group:ByteArray
 name:ByteArray
instance:Inhabited AG:=⟨⟨default,default⟩⟩
@[reducible] def AG.v (x:AG):List Go.Value:=[.string x.group,.string x.name]
def AG.ok (x:AG):Prop:=x.group.size≤maxLen∧x.name.size≤maxLen
def Mk:A7 AG where
 sz:=2
 ag:=true
 rd:=λ_ _ cs x=>cs=x.v∧x.ok
 len:=λ⟨b,_⟩=>by rw[b];rfl
 one:=λ{_ _ _ x} ⟨b,_⟩ v a=>by
  rw[b] at a;simp only[AG.v,Abr,Ab5,Aci] at a;rcases a with rfl|rfl<;>rfl
 mono:=λb _ _=>b
def Mk.ex {S a v}{x:AG}(k:Rd S a Mk v x):v= .agg #[.string x.group,.string x.name]∧x.ok:=by obtain⟨_,rfl,rfl,a⟩:=k;exact⟨rfl,a⟩
def Mk.mk {S h}{x:AG}(k:x.ok):Rd S h Mk (.agg #[.string x.group,.string x.name]) x:=⟨x.v,rfl,rfl,k⟩
structure G1 where
 F:Int
 Ar:Int
instance:Inhabited G1:=⟨⟨default,default⟩⟩
@[reducible] def G1.v (x:G1):List Go.Value:=[.int .i64 x.F,.int .i64 x.Ar]
def G1.ok (x:G1):Prop:=AA x.F∧AA x.Ar
def C3:A7 G1 where
 sz:=2
 ag:=true
 rd:=λ_ _ cs x=>cs=x.v∧x.ok
 len:=λ⟨b,_⟩=>by rw[b];rfl
 one:=λ{_ _ _ x} ⟨b,_⟩ v a=>by
  rw[b] at a;simp only[G1.v,Abr,Ab5,Aci] at a;rcases a with rfl|rfl<;>rfl
 mono:=λb _ _=>b
def C3.ex {S a v}{x:G1}(k:Rd S a C3 v x):v= .agg #[.int .i64 x.F,.int .i64 x.Ar]∧x.ok:=by obtain⟨_,rfl,rfl,a⟩:=k;exact⟨rfl,a⟩
def C3.mk {S h}{x:G1}(k:x.ok):Rd S h C3 (.agg #[.int .i64 x.F,.int .i64 x.Ar]) x:=⟨x.v,rfl,rfl,k⟩
def G1.f_Kind:Fg C3 0 AB (·.F):=by
 rintro S b cs x ⟨rfl,⟨k0,a⟩⟩;exact⟨rfl,k0⟩
structure LA where
 Ar:Int
 Aa:Int
instance:Inhabited LA:=⟨⟨default,default⟩⟩
@[reducible] def LA.v (x:LA):List Go.Value:=[.int .i64 x.Ar,.int .i64 x.Aa]
def LA.ok (x:LA):Prop:=AA x.Ar∧AA x.Aa
def FX:A7 LA where
 sz:=2
 ag:=true
 rd:=λ_ _ cs x=>cs=x.v∧x.ok
 len:=λ⟨b,_⟩=>by rw[b];rfl
 one:=λ{_ _ _ x} ⟨b,_⟩ v a=>by
  rw[b] at a;simp only[LA.v,Abr,Ab5,Aci] at a;rcases a with rfl|rfl<;>rfl
 mono:=λb _ _=>b
def FX.ex {S a v}{x:LA}(k:Rd S a FX v x):v= .agg #[.int .i64 x.Ar,.int .i64 x.Aa]∧x.ok:=by obtain⟨_,rfl,rfl,a⟩:=k;exact⟨rfl,a⟩
def FX.mk {S h}{x:LA}(k:x.ok):Rd S h FX (.agg #[.int .i64 x.Ar,.int .i64 x.Aa]) x:=⟨x.v,rfl,rfl,k⟩
structure FM where
 Ap:Int
 Bh:Int
 Bd:Int
 D:Int
instance:Inhabited FM:=⟨⟨default,default,default,default⟩⟩
@[reducible] def FM.v (x:FM):List Go.Value:=[.int .i64 x.Ap,.int .i64 x.Bh,.int .i64 x.Bd,.int .i64 x.D]
def FM.ok (x:FM):Prop:=AA x.Ap∧AA x.Bh∧AA x.Bd∧AA x.D
def DU:A7 FM where
 sz:=4
 ag:=true
 rd:=λ_ _ cs x=>cs=x.v∧x.ok
 len:=λ⟨b,_⟩=>by rw[b];rfl
 one:=λ{_ _ _ x} ⟨b,_⟩ v a=>by
  rw[b] at a;simp only[FM.v,Abr,Ab5,Aci] at a;rcases a with rfl|rfl|rfl|rfl<;>rfl
 mono:=λb _ _=>b
def DU.ex {S a v}{x:FM}(k:Rd S a DU v x):v= .agg #[.int .i64 x.Ap,.int .i64 x.Bh,.int .i64 x.Bd,.int .i64 x.D]∧x.ok:=by obtain⟨_,rfl,rfl,a⟩:=k;exact⟨rfl,a⟩
def DU.mk {S h}{x:FM}(k:x.ok):Rd S h DU (.agg #[.int .i64 x.Ap,.int .i64 x.Bh,.int .i64 x.Bd,.int .i64 x.D]) x:=⟨x.v,rfl,rfl,k⟩
def P1:Fg DU 1 AB (·.Bh):=by
 rintro S d cs x ⟨rfl,⟨k0,a,b,c⟩⟩;exact⟨rfl,a⟩
def FM.f_Litres:Fg DU 2 AB (·.Bd):=by
 rintro S d cs x ⟨rfl,⟨k0,b,a,c⟩⟩;exact⟨rfl,a⟩
def FM.f_To:Fg DU 3 AB (·.D):=by
 rintro S d cs x ⟨rfl,⟨k0,b,c,a⟩⟩;exact⟨rfl,a⟩
structure Iw where
 Ap:Int
 M:Int
 D:Int
 Bd:Int
instance:Inhabited Iw:=⟨⟨default,default,default,default⟩⟩
@[reducible] def Iw.v (x:Iw):List Go.Value:=[.int .i64 x.Ap,.int .i64 x.M,.int .i64 x.D,.int .i64 x.Bd]
def Iw.ok (x:Iw):Prop:=AA x.Ap∧AA x.M∧AA x.D∧AA x.Bd
def Du:A7 Iw where
 sz:=4
 ag:=true
 rd:=λ_ _ cs x=>cs=x.v∧x.ok
 len:=λ⟨b,_⟩=>by rw[b];rfl
 one:=λ{_ _ _ x} ⟨b,_⟩ v a=>by
  rw[b] at a;simp only[Iw.v,Abr,Ab5,Aci] at a;rcases a with rfl|rfl|rfl|rfl<;>rfl
 mono:=λb _ _=>b
def Du.ex {S a v}{x:Iw}(k:Rd S a Du v x):v= .agg #[.int .i64 x.Ap,.int .i64 x.M,.int .i64 x.D,.int .i64 x.Bd]∧x.ok:=by obtain⟨_,rfl,rfl,a⟩:=k;exact⟨rfl,a⟩
def Du.mk {S h}{x:Iw}(k:x.ok):Rd S h Du (.agg #[.int .i64 x.Ap,.int .i64 x.M,.int .i64 x.D,.int .i64 x.Bd]) x:=⟨x.v,rfl,rfl,k⟩
def Iw.f_To:Fg Du 2 AB (·.D):=by
 rintro S d cs x ⟨rfl,⟨k0,b,a,c⟩⟩;exact⟨rfl,a⟩
def Iw.f_Litres:Fg Du 3 AB (·.Bd):=by
 rintro S d cs x ⟨rfl,⟨k0,b,c,a⟩⟩;exact⟨rfl,a⟩
structure B3 where
 T:(List Int)
 Ab:(List G1)
 Ac:(List LA)
 U:(List FM)
 Ae:(List Iw)
instance:Inhabited B3:=⟨⟨default,default,default,default,default⟩⟩
def Cf:A7 B3 where
 sz:=5
 ag:=true
 rd:=λS m cs x=>∃a v1 b c d:Value,cs=[a,v1,b,c,d]∧Sl S m AB a x.T∧Sl S m C3 v1 x.Ab∧Sl S m FX b x.Ac∧Sl S m DU c x.U∧Sl S m Du d x.Ae
 len:=λ⟨_,_,_,_,_,m,_⟩=>by rw[m];rfl
 one:=by
  rintro S m cs x ⟨a,v1,b,c,d,rfl,k0,g,i,j,k⟩ v l;simp only[Abr,Ab5,Aci] at l;rcases l with rfl|rfl|rfl|rfl|rfl<;>first|rfl|exact Sl.one ‹_› |exact(‹_∧_›).2|(obtain ⟨_,_,rfl,_⟩:=Rd.fn ‹_›;rfl)|(obtain ⟨_,_,rfl,_⟩:=Rd.fnr ‹_›;rfl)
 mono:=by
  rintro S S' m h' cs x ⟨a,v1,b,c,d,rfl,k0,g,i,j,k⟩ s e;exact⟨a,v1,b,c,d,rfl,k0.mono s e,g.mono s e,i.mono s e,j.mono s e,k.mono s e⟩
def Cf.ex {S h v}{x:B3}(k:Rd S h Cf v x):∃a v1 b c d:Value,v= .agg #[a,v1,b,c,d]∧Sl S h AB a x.T∧Sl S h C3 v1 x.Ab∧Sl S h FX b x.Ac∧Sl S h DU c x.U∧Sl S h Du d x.Ae:=by obtain⟨_,rfl,a,v1,b,c,d,rfl,k⟩:=k;exact⟨a,v1,b,c,d,rfl,k⟩
def Cf.mk {S h}{x:B3}{a v1 b c d:Value}(k0:Sl S h AB a x.T) (g:Sl S h C3 v1 x.Ab) (i:Sl S h FX b x.Ac) (j:Sl S h DU c x.U) (k:Sl S h Du d x.Ae):Rd S h Cf (.agg #[a,v1,b,c,d]) x:=⟨_,rfl,a,v1,b,c,d,rfl,k0,g,i,j,k⟩
def B3.f_Rain:Fg Cf 0 (A7.sl AB) (·.T):=by
 rintro S l cs x ⟨a,v1,b,c,d,rfl,k0,g,i,j,k⟩;exact⟨_,rfl,k0⟩
def Kv:Fg Cf 1 (A7.sl C3) (·.Ab):=by
 rintro S l cs x ⟨b,v1,c,d,g,rfl,k0,a,i,j,k⟩;exact⟨_,rfl,a⟩
def L7:Fg Cf 2 (A7.sl FX) (·.Ac):=by
 rintro S l cs x ⟨b,v1,c,d,g,rfl,k0,i,a,j,k⟩;exact⟨_,rfl,a⟩
def Lc:Fg Cf 3 (A7.sl DU) (·.U):=by
 rintro S l cs x ⟨b,v1,c,d,g,rfl,k0,i,j,a,k⟩;exact⟨_,rfl,a⟩
def Ld:Fg Cf 4 (A7.sl Du) (·.Ae):=by
 rintro S l cs x ⟨b,v1,c,d,g,rfl,k0,i,j,k,a⟩;exact⟨_,rfl,a⟩
def B3.u_Rain:L4 Cf 0 (A7.sl AB) (λx y=>{ x with T:=y}):=by
 refine⟨by decide,?_⟩;rintro S p c x vs y ⟨o,a,b,d,g,rfl,k0,i,j,k,l⟩ ⟨m,rfl,n⟩;exact⟨m,a,b,d,g,rfl,n,i,j,k,l⟩
structure DQ where
 a:(List Int)
 b:(List Int)
instance:Inhabited DQ:=⟨⟨default,default⟩⟩
def Ef:A7 DQ where
 sz:=2
 ag:=true
 rd:=λS i cs x=>∃c v1:Value,cs=[c,v1]∧Sl S i AB c x.a∧Sl S i AB v1 x.b
 len:=λ⟨_,_,i,_⟩=>by rw[i];rfl
 one:=by
  rintro S i cs x ⟨c,v1,rfl,k0,d⟩ v g;simp only[Abr,Ab5,Aci] at g;rcases g with rfl|rfl<;>first|rfl|exact Sl.one ‹_› |exact(‹_∧_›).2|(obtain ⟨_,_,rfl,_⟩:=Rd.fn ‹_›;rfl)|(obtain ⟨_,_,rfl,_⟩:=Rd.fnr ‹_›;rfl)
 mono:=by
  rintro S S' i h' cs x ⟨c,v1,rfl,k0,d⟩ s e;exact⟨c,v1,rfl,k0.mono s e,d.mono s e⟩
def Ef.ex {S h v}{x:DQ}(k:Rd S h Ef v x):∃c v1:Value,v= .agg #[c,v1]∧Sl S h AB c x.a∧Sl S h AB v1 x.b:=by obtain⟨_,rfl,c,v1,rfl,k⟩:=k;exact⟨c,v1,rfl,k⟩
def Ef.mk {S h}{x:DQ}{c v1:Value}(k0:Sl S h AB c x.a) (d:Sl S h AB v1 x.b):Rd S h Ef (.agg #[c,v1]) x:=⟨_,rfl,c,v1,rfl,k0,d⟩
def DQ.f_a:Fg Ef 0 (A7.sl AB) (·.a):=by
 rintro S d cs x ⟨b,v1,rfl,k0,c⟩;exact⟨_,rfl,k0⟩
def DQ.f_b:Fg Ef 1 (A7.sl AB) (·.b):=by
 rintro S d cs x ⟨c,v1,rfl,k0,a⟩;exact⟨_,rfl,a⟩
structure J0 where
 a:(List G1)
 b:(List G1)
instance:Inhabited J0:=⟨⟨default,default⟩⟩
def Km:A7 J0 where
 sz:=2
 ag:=true
 rd:=λS i cs x=>∃c v1:Value,cs=[c,v1]∧Sl S i C3 c x.a∧Sl S i C3 v1 x.b
 len:=λ⟨_,_,i,_⟩=>by rw[i];rfl
 one:=by
  rintro S i cs x ⟨c,v1,rfl,k0,d⟩ v g;simp only[Abr,Ab5,Aci] at g;rcases g with rfl|rfl<;>first|rfl|exact Sl.one ‹_› |exact(‹_∧_›).2|(obtain ⟨_,_,rfl,_⟩:=Rd.fn ‹_›;rfl)|(obtain ⟨_,_,rfl,_⟩:=Rd.fnr ‹_›;rfl)
 mono:=by
  rintro S S' i h' cs x ⟨c,v1,rfl,k0,d⟩ s e;exact⟨c,v1,rfl,k0.mono s e,d.mono s e⟩
def Km.ex {S h v}{x:J0}(k:Rd S h Km v x):∃c v1:Value,v= .agg #[c,v1]∧Sl S h C3 c x.a∧Sl S h C3 v1 x.b:=by obtain⟨_,rfl,c,v1,rfl,k⟩:=k;exact⟨c,v1,rfl,k⟩
def Km.mk {S h}{x:J0}{c v1:Value}(k0:Sl S h C3 c x.a) (d:Sl S h C3 v1 x.b):Rd S h Km (.agg #[c,v1]) x:=⟨_,rfl,c,v1,rfl,k0,d⟩
def J0.f_a:Fg Km 0 (A7.sl C3) (·.a):=by
 rintro S d cs x ⟨b,v1,rfl,k0,c⟩;exact⟨_,rfl,k0⟩
def J0.f_b:Fg Km 1 (A7.sl C3) (·.b):=by
 rintro S d cs x ⟨c,v1,rfl,k0,a⟩;exact⟨_,rfl,a⟩
structure NF where
 a:(List LA)
 b:(List LA)
instance:Inhabited NF:=⟨⟨default,default⟩⟩
def NZ:A7 NF where
 sz:=2
 ag:=true
 rd:=λS i cs x=>∃c v1:Value,cs=[c,v1]∧Sl S i FX c x.a∧Sl S i FX v1 x.b
 len:=λ⟨_,_,i,_⟩=>by rw[i];rfl
 one:=by
  rintro S i cs x ⟨c,v1,rfl,k0,d⟩ v g;simp only[Abr,Ab5,Aci] at g;rcases g with rfl|rfl<;>first|rfl|exact Sl.one ‹_› |exact(‹_∧_›).2|(obtain ⟨_,_,rfl,_⟩:=Rd.fn ‹_›;rfl)|(obtain ⟨_,_,rfl,_⟩:=Rd.fnr ‹_›;rfl)
 mono:=by
  rintro S S' i h' cs x ⟨c,v1,rfl,k0,d⟩ s e;exact⟨c,v1,rfl,k0.mono s e,d.mono s e⟩
def NZ.ex {S h v}{x:NF}(k:Rd S h NZ v x):∃c v1:Value,v= .agg #[c,v1]∧Sl S h FX c x.a∧Sl S h FX v1 x.b:=by obtain⟨_,rfl,c,v1,rfl,k⟩:=k;exact⟨c,v1,rfl,k⟩
def NZ.mk {S h}{x:NF}{c v1:Value}(k0:Sl S h FX c x.a) (d:Sl S h FX v1 x.b):Rd S h NZ (.agg #[c,v1]) x:=⟨_,rfl,c,v1,rfl,k0,d⟩
def NF.f_a:Fg NZ 0 (A7.sl FX) (·.a):=by
 rintro S d cs x ⟨b,v1,rfl,k0,c⟩;exact⟨_,rfl,k0⟩
def NF.f_b:Fg NZ 1 (A7.sl FX) (·.b):=by
 rintro S d cs x ⟨c,v1,rfl,k0,a⟩;exact⟨_,rfl,a⟩
structure K8 where
 a:(List FM)
 b:(List FM)
instance:Inhabited K8:=⟨⟨default,default⟩⟩
def L5:A7 K8 where
 sz:=2
 ag:=true
 rd:=λS i cs x=>∃c v1:Value,cs=[c,v1]∧Sl S i DU c x.a∧Sl S i DU v1 x.b
 len:=λ⟨_,_,i,_⟩=>by rw[i];rfl
 one:=by
  rintro S i cs x ⟨c,v1,rfl,k0,d⟩ v g;simp only[Abr,Ab5,Aci] at g;rcases g with rfl|rfl<;>first|rfl|exact Sl.one ‹_› |exact(‹_∧_›).2|(obtain ⟨_,_,rfl,_⟩:=Rd.fn ‹_›;rfl)|(obtain ⟨_,_,rfl,_⟩:=Rd.fnr ‹_›;rfl)
 mono:=by
  rintro S S' i h' cs x ⟨c,v1,rfl,k0,d⟩ s e;exact⟨c,v1,rfl,k0.mono s e,d.mono s e⟩
def L5.ex {S h v}{x:K8}(k:Rd S h L5 v x):∃c v1:Value,v= .agg #[c,v1]∧Sl S h DU c x.a∧Sl S h DU v1 x.b:=by obtain⟨_,rfl,c,v1,rfl,k⟩:=k;exact⟨c,v1,rfl,k⟩
def L5.mk {S h}{x:K8}{c v1:Value}(k0:Sl S h DU c x.a) (d:Sl S h DU v1 x.b):Rd S h L5 (.agg #[c,v1]) x:=⟨_,rfl,c,v1,rfl,k0,d⟩
def K8.f_a:Fg L5 0 (A7.sl DU) (·.a):=by
 rintro S d cs x ⟨b,v1,rfl,k0,c⟩;exact⟨_,rfl,k0⟩
def K8.f_b:Fg L5 1 (A7.sl DU) (·.b):=by
 rintro S d cs x ⟨c,v1,rfl,k0,a⟩;exact⟨_,rfl,a⟩
structure K9 where
 a:(List Iw)
 b:(List Iw)
instance:Inhabited K9:=⟨⟨default,default⟩⟩
def L6:A7 K9 where
 sz:=2
 ag:=true
 rd:=λS i cs x=>∃c v1:Value,cs=[c,v1]∧Sl S i Du c x.a∧Sl S i Du v1 x.b
 len:=λ⟨_,_,i,_⟩=>by rw[i];rfl
 one:=by
  rintro S i cs x ⟨c,v1,rfl,k0,d⟩ v g;simp only[Abr,Ab5,Aci] at g;rcases g with rfl|rfl<;>first|rfl|exact Sl.one ‹_› |exact(‹_∧_›).2|(obtain ⟨_,_,rfl,_⟩:=Rd.fn ‹_›;rfl)|(obtain ⟨_,_,rfl,_⟩:=Rd.fnr ‹_›;rfl)
 mono:=by
  rintro S S' i h' cs x ⟨c,v1,rfl,k0,d⟩ s e;exact⟨c,v1,rfl,k0.mono s e,d.mono s e⟩
def L6.ex {S h v}{x:K9}(k:Rd S h L6 v x):∃c v1:Value,v= .agg #[c,v1]∧Sl S h Du c x.a∧Sl S h Du v1 x.b:=by obtain⟨_,rfl,c,v1,rfl,k⟩:=k;exact⟨c,v1,rfl,k⟩
def L6.mk {S h}{x:K9}{c v1:Value}(k0:Sl S h Du c x.a) (d:Sl S h Du v1 x.b):Rd S h L6 (.agg #[c,v1]) x:=⟨_,rfl,c,v1,rfl,k0,d⟩
def K9.f_a:Fg L6 0 (A7.sl Du) (·.a):=by
 rintro S d cs x ⟨b,v1,rfl,k0,c⟩;exact⟨_,rfl,k0⟩
def K9.f_b:Fg L6 1 (A7.sl Du) (·.b):=by
 rintro S d cs x ⟨c,v1,rfl,k0,a⟩;exact⟨_,rfl,a⟩
structure AX where
 B:Int
 M:Int
 D:Int
 Be:Int
 V:(List Int)
instance:Inhabited AX:=⟨⟨default,default,default,default,default⟩⟩
def CC:A7 AX where
 sz:=5
 ag:=true
 rd:=λS j cs x=>∃a:Value,cs=[.int .i64 x.B,.int .i64 x.M,.int .i64 x.D,.int .i64 x.Be,a]∧AA x.B∧AA x.M∧AA x.D∧AA x.Be∧Sl S j AB a x.V
 len:=λ⟨_,j,_⟩=>by rw[j];rfl
 one:=by
  rintro S j cs x ⟨a,rfl,k0,b,c,d,g⟩ v i;simp only[Abr,Ab5,Aci] at i;rcases i with rfl|rfl|rfl|rfl|rfl<;>first|rfl|exact Sl.one ‹_› |exact(‹_∧_›).2|(obtain ⟨_,_,rfl,_⟩:=Rd.fn ‹_›;rfl)|(obtain ⟨_,_,rfl,_⟩:=Rd.fnr ‹_›;rfl)
 mono:=by
  rintro S S' j h' cs x ⟨a,rfl,k0,b,c,d,g⟩ s e;exact⟨a,rfl,k0,b,c,d,g.mono s e⟩
def CC.ex {S h v}{x:AX}(k:Rd S h CC v x):∃a:Value,v= .agg #[.int .i64 x.B,.int .i64 x.M,.int .i64 x.D,.int .i64 x.Be,a]∧AA x.B∧AA x.M∧AA x.D∧AA x.Be∧Sl S h AB a x.V:=by obtain⟨_,rfl,a,rfl,k⟩:=k;exact⟨a,rfl,k⟩
def CC.mk {S h}{x:AX}{a:Value}(k0:AA x.B) (b:AA x.M) (c:AA x.D) (d:AA x.Be) (g:Sl S h AB a x.V):Rd S h CC (.agg #[.int .i64 x.B,.int .i64 x.M,.int .i64 x.D,.int .i64 x.Be,a]) x:=⟨_,rfl,a,rfl,k0,b,c,d,g⟩
def AX.f_Hour:Fg CC 0 AB (·.B):=by
 rintro S i cs x ⟨a,rfl,k0,b,c,d,g⟩;exact⟨rfl,k0⟩
def AX.f_To:Fg CC 2 AB (·.D):=by
 rintro S i cs x ⟨b,rfl,k0,c,a,d,g⟩;exact⟨rfl,a⟩
def AX.f_Part:Fg CC 4 (A7.sl AB) (·.V):=by
 rintro S i cs x ⟨b,rfl,k0,c,d,g,a⟩;exact⟨_,rfl,a⟩
def AX.u_Part:L4 CC 4 (A7.sl AB) (λx y=>{ x with V:=y}):=by
 refine⟨by decide,?_⟩;rintro S l c x vs y ⟨j,rfl,k0,a,b,d,k⟩ ⟨g,rfl,i⟩;exact⟨g,rfl,k0,a,b,d,i⟩
structure AM where
 b:AF
 in_:B3
 s:AI
 moves:(List AX)
 peaks:(List Int)
 sent:(List AT)
instance:Inhabited AM:=⟨⟨default,default,default,default,default,default⟩⟩
def MU:A7 AM where
 sz:=26
 ag:=true
 rd:=λS h cs x=>∃v1 u w y z D F M a c d g i j k l m n o p q t:Value,cs=[.string x.b.E,v1,.int .i64 x.b.J,u,w,y,z,D,F,M,.int .i64 x.b.K,a,c,d,g,i,.int .i64 x.s.B,j,k,l,m,n,o,p,q,t]∧x.b.E.size≤maxLen∧Sl S h A7.str v1 x.b.H∧AA x.b.J∧Sl S h B4 u x.b.A∧Sl S h CD w x.b.C∧Sl S h HN y x.b.Af∧Sl S h Ex z x.b.Ah∧Sl S h G7 D x.b.Ai∧Sl S h Dc F x.b.Ak∧Sl S h AB M x.b.Aj∧AA x.b.K∧Sl S h AB a x.in_.T∧Sl S h C3 c x.in_.Ab∧Sl S h FX d x.in_.Ac∧Sl S h DU g x.in_.U∧Sl S h Du i x.in_.Ae∧AA x.s.B∧Sl S h (A7.sl AB) j x.s.G∧Sl S h AB k x.s.N∧Sl S h A0 l x.s.I∧Sl S h BT m x.s.P∧Sl S h AB n x.s.L∧Sl S h AB o x.s.O∧Sl S h CC p x.moves∧Sl S h AB q x.peaks∧Sl S h A0 t x.sent
 len:=λ⟨_,_,_,_,_,_,_,_,_,_,_,_,_,_,_,_,_,_,_,_,_,_,h,_⟩=>by rw[h];rfl
 one:=by
  rintro S h cs x ⟨v1,u,w,y,z,D,F,M,a,c,d,g,i,j,k,l,m,n,o,p,q,t,rfl,k0,k1,k2,k3,k4,k5,k6,k7,k8,k9,Q,V,W,X,Y,Z,aa,ab,ac,ad,ae,af,ah,ai,aj,ak⟩ v hv;simp only[Abr,Ab5,Aci] at hv;rcases hv with rfl|rfl|rfl|rfl|rfl|rfl|rfl|rfl|rfl|rfl|rfl|rfl|rfl|rfl|rfl|rfl|rfl|rfl|rfl|rfl|rfl|rfl|rfl|rfl|rfl|rfl<;>first|rfl|exact Sl.one ‹_› |exact(‹_∧_›).2|(obtain ⟨_,_,rfl,_⟩:=Rd.fn ‹_›;rfl)|(obtain ⟨_,_,rfl,_⟩:=Rd.fnr ‹_›;rfl)
 mono:=by
  rintro S S' h h' cs x ⟨v1,u,w,y,z,D,F,M,a,c,d,g,i,j,k,l,m,n,o,p,q,t,rfl,k0,k1,k2,k3,k4,k5,k6,k7,k8,k9,Q,V,W,X,Y,Z,aa,ab,ac,ad,ae,af,ah,ai,aj,ak⟩ s e;exact⟨v1,u,w,y,z,D,F,M,a,c,d,g,i,j,k,l,m,n,o,p,q,t,rfl,k0,k1.mono s e,k2,k3.mono s e,k4.mono s e,k5.mono s e,k6.mono s e,k7.mono s e,k8.mono s e,k9.mono s e,Q,V.mono s e,W.mono s e,X.mono s e,Y.mono s e,Z.mono s e,aa,ab.mono s e,ac.mono s e,ad.mono s e,ae.mono s e,af.mono s e,ah.mono s e,ai.mono s e,aj.mono s e,ak.mono s e⟩
def MU.ex {S h v}{x:AM}(k:Rd S h MU v x):∃v1 w y z D F M Q a c d g i j l m n o p q t u:Value,v= .agg #[.string x.b.E,v1,.int .i64 x.b.J,w,y,z,D,F,M,Q,.int .i64 x.b.K,a,c,d,g,i,.int .i64 x.s.B,j,l,m,n,o,p,q,t,u]∧x.b.E.size≤maxLen∧Sl S h A7.str v1 x.b.H∧AA x.b.J∧Sl S h B4 w x.b.A∧Sl S h CD y x.b.C∧Sl S h HN z x.b.Af∧Sl S h Ex D x.b.Ah∧Sl S h G7 F x.b.Ai∧Sl S h Dc M x.b.Ak∧Sl S h AB Q x.b.Aj∧AA x.b.K∧Sl S h AB a x.in_.T∧Sl S h C3 c x.in_.Ab∧Sl S h FX d x.in_.Ac∧Sl S h DU g x.in_.U∧Sl S h Du i x.in_.Ae∧AA x.s.B∧Sl S h (A7.sl AB) j x.s.G∧Sl S h AB l x.s.N∧Sl S h A0 m x.s.I∧Sl S h BT n x.s.P∧Sl S h AB o x.s.L∧Sl S h AB p x.s.O∧Sl S h CC q x.moves∧Sl S h AB t x.peaks∧Sl S h A0 u x.sent:=by obtain⟨_,rfl,v1,w,y,z,D,F,M,Q,a,c,d,g,i,j,l,m,n,o,p,q,t,u,rfl,k⟩:=k;exact⟨v1,w,y,z,D,F,M,Q,a,c,d,g,i,j,l,m,n,o,p,q,t,u,rfl,k⟩
def MU.mk {S h}{x:AM}{v1 u v w y z D F a c d g i j k l m n o p q t:Value}(k0:x.b.E.size≤maxLen) (k1:Sl S h A7.str v1 x.b.H) (k2:AA x.b.J) (k3:Sl S h B4 u x.b.A) (k4:Sl S h CD v x.b.C) (k5:Sl S h HN w x.b.Af) (k6:Sl S h Ex y x.b.Ah) (k7:Sl S h G7 z x.b.Ai) (k8:Sl S h Dc D x.b.Ak) (k9:Sl S h AB F x.b.Aj) (M:AA x.b.K) (Q:Sl S h AB a x.in_.T) (V:Sl S h C3 c x.in_.Ab) (W:Sl S h FX d x.in_.Ac) (X:Sl S h DU g x.in_.U) (Y:Sl S h Du i x.in_.Ae) (Z:AA x.s.B) (aa:Sl S h (A7.sl AB) j x.s.G) (ab:Sl S h AB k x.s.N) (ac:Sl S h A0 l x.s.I) (ad:Sl S h BT m x.s.P) (ae:Sl S h AB n x.s.L) (af:Sl S h AB o x.s.O) (ag:Sl S h CC p x.moves) (ah:Sl S h AB q x.peaks) (ai:Sl S h A0 t x.sent):Rd S h MU (.agg #[.string x.b.E,v1,.int .i64 x.b.J,u,v,w,y,z,D,F,.int .i64 x.b.K,a,c,d,g,i,.int .i64 x.s.B,j,k,l,m,n,o,p,q,t]) x:=⟨_,rfl,v1,u,v,w,y,z,D,F,a,c,d,g,i,j,k,l,m,n,o,p,q,t,rfl,k0,k1,k2,k3,k4,k5,k6,k7,k8,k9,M,Q,V,W,X,Y,Z,aa,ab,ac,ad,ae,af,ag,ah,ai⟩
def AM.f_b:Fg MU 0 B5 (·.b):=by
 rintro S h cs x ⟨v1,v3,v4,v5,v6,v7,v8,v9,c,d,g,i,j,k,l,m,n,o,p,q,s,t,rfl,k0,u,v,w,y,z,A,B,C,D,a,F,G,H,I,J,K,M,Q,U,V,W,X,Y,Z,aa⟩;exact⟨_,_,_,_,_,_,_,_,rfl,k0,u,v,w,y,z,A,B,C,D,a⟩
structure AD where
 to_:Int
 delay:Int
 way:Int
 take:((List Int)→Option ((List Int)×(List Int)))
instance:Inhabited AD:=⟨⟨default,default,default,default⟩⟩
def A3:A7 AD where
 sz:=4
 ag:=true
 rd:=λS k cs x=>∃a:Value,cs=[.int .i64 x.to_,.int .i64 x.delay,.int .i64 x.way,a]∧AA x.to_∧AA x.delay∧AA x.way∧Rd S k (A7.fnr prog (λS k vs (x:(List Int))=>∃b:Value,vs=[b]∧Sl S k AB b x) (λS k v (y:((List Int)×(List Int)))=>∃b c:Value,v= .tuple #[b,c]∧Sl S k AB b y.1∧Sl S k AB c y.2)) a x.take
 len:=λ⟨_,k,_⟩=>by rw[k];rfl
 one:=by
  rintro S k cs x ⟨a,rfl,k0,d,g,i⟩ v j;simp only[Abr,Ab5,Aci] at j;rcases j with rfl|rfl|rfl|rfl<;>first|rfl|exact Sl.one ‹_› |exact(‹_∧_›).2|(obtain ⟨_,_,rfl,_⟩:=Rd.fn ‹_›;rfl)|(obtain ⟨_,_,rfl,_⟩:=Rd.fnr ‹_›;rfl)
 mono:=by
  rintro S S' k h' cs x ⟨a,rfl,k0,d,g,i⟩ s e;exact⟨a,rfl,k0,d,g,i.mono'' s e⟩
def A3.ex {S d v}{x:AD}(k:Rd S d A3 v x):∃b:Value,v= .agg #[.int .i64 x.to_,.int .i64 x.delay,.int .i64 x.way,b]∧AA x.to_∧AA x.delay∧AA x.way∧Rd S d (A7.fnr prog (λS d vs (x:(List Int))=>∃a:Value,vs=[a]∧Sl S d AB a x) (λS d v (y:((List Int)×(List Int)))=>∃a c:Value,v= .tuple #[a,c]∧Sl S d AB a y.1∧Sl S d AB c y.2)) b x.take:=by obtain⟨_,rfl,b,rfl,k⟩:=k;exact⟨b,rfl,k⟩
def A3.mk {S j}{x:AD}{b:Value}(k0:AA x.to_) (d:AA x.delay) (g:AA x.way) (i:Rd S j (A7.fnr prog (λS j vs (x:(List Int))=>∃a:Value,vs=[a]∧Sl S j AB a x) (λS j v (y:((List Int)×(List Int)))=>∃a c:Value,v= .tuple #[a,c]∧Sl S j AB a y.1∧Sl S j AB c y.2)) b x.take):Rd S j A3 (.agg #[.int .i64 x.to_,.int .i64 x.delay,.int .i64 x.way,b]) x:=⟨_,rfl,b,rfl,k0,d,g,i⟩
def Lw:Fg A3 0 AB (·.to_):=by
 rintro S g cs x ⟨a,rfl,k0,b,c,d⟩;exact⟨rfl,k0⟩
def NE:Fg A3 1 AB (·.delay):=by
 rintro S g cs x ⟨b,rfl,k0,a,c,d⟩;exact⟨rfl,a⟩
def Nw:Fg A3 2 AB (·.way):=by
 rintro S g cs x ⟨b,rfl,k0,c,a,d⟩;exact⟨rfl,a⟩
def NT:Fg A3 3 (A7.fnr prog (λS m vs (x:(List Int))=>∃a:Value,vs=[a]∧Sl S m AB a x) (λS m v (y:((List Int)×(List Int)))=>∃a b:Value,v= .tuple #[a,b]∧Sl S m AB a y.1∧Sl S m AB b y.2)) (·.take):=by
 rintro S m cs x ⟨j,rfl,k0,k,l,c⟩;obtain⟨_,rfl,d,g,rfl,i⟩:=c;exact⟨d,g,rfl,i⟩
structure BS where
 Bk:Int
 Bi:Int
 Bu:Int
 L:B3
 Bn:(List Int)
instance:Inhabited BS:=⟨⟨default,default,default,default,default⟩⟩
def Ca:A7 BS where
 sz:=9
 ag:=true
 rd:=λS u cs x=>∃a b c d g i:Value,cs=[.int .i64 x.Bk,.int .i64 x.Bi,.int .i64 x.Bu,a,b,c,d,g,i]∧AA x.Bk∧AA x.Bi∧AA x.Bu∧Sl S u AB a x.L.T∧Sl S u C3 b x.L.Ab∧Sl S u FX c x.L.Ac∧Sl S u DU d x.L.U∧Sl S u Du g x.L.Ae∧Sl S u AB i x.Bn
 len:=λ⟨_,_,_,_,_,_,u,_⟩=>by rw[u];rfl
 one:=by
  rintro S u cs x ⟨a,b,c,d,g,i,rfl,k0,j,k,l,m,n,o,p,q⟩ v t;simp only[Abr,Ab5,Aci] at t;rcases t with rfl|rfl|rfl|rfl|rfl|rfl|rfl|rfl|rfl<;>first|rfl|exact Sl.one ‹_› |exact(‹_∧_›).2|(obtain ⟨_,_,rfl,_⟩:=Rd.fn ‹_›;rfl)|(obtain ⟨_,_,rfl,_⟩:=Rd.fnr ‹_›;rfl)
 mono:=by
  rintro S S' u h' cs x ⟨a,b,c,d,g,i,rfl,k0,j,k,l,m,n,o,p,q⟩ s e;exact⟨a,b,c,d,g,i,rfl,k0,j,k,l.mono s e,m.mono s e,n.mono s e,o.mono s e,p.mono s e,q.mono s e⟩
def Ca.ex {S h v}{x:BS}(k:Rd S h Ca v x):∃a b c d g i:Value,v= .agg #[.int .i64 x.Bk,.int .i64 x.Bi,.int .i64 x.Bu,a,b,c,d,g,i]∧AA x.Bk∧AA x.Bi∧AA x.Bu∧Sl S h AB a x.L.T∧Sl S h C3 b x.L.Ab∧Sl S h FX c x.L.Ac∧Sl S h DU d x.L.U∧Sl S h Du g x.L.Ae∧Sl S h AB i x.Bn:=by obtain⟨_,rfl,a,b,c,d,g,i,rfl,k⟩:=k;exact⟨a,b,c,d,g,i,rfl,k⟩
def Ca.mk {S h}{x:BS}{a b c d g i:Value}(k0:AA x.Bk) (j:AA x.Bi) (k:AA x.Bu) (l:Sl S h AB a x.L.T) (m:Sl S h C3 b x.L.Ab) (n:Sl S h FX c x.L.Ac) (o:Sl S h DU d x.L.U) (p:Sl S h Du g x.L.Ae) (q:Sl S h AB i x.Bn):Rd S h Ca (.agg #[.int .i64 x.Bk,.int .i64 x.Bi,.int .i64 x.Bu,a,b,c,d,g,i]) x:=⟨_,rfl,a,b,c,d,g,i,rfl,k0,j,k,l,m,n,o,p,q⟩
def LY:Fg Ca 0 AB (·.Bk):=by
 rintro S s cs x ⟨a,b,c,d,g,i,rfl,k0,j,k,l,m,n,o,p,q⟩;exact⟨rfl,k0⟩
def LX:Fg Ca 1 AB (·.Bi):=by
 rintro S s cs x ⟨b,c,d,g,i,j,rfl,k0,a,k,l,m,n,o,p,q⟩;exact⟨rfl,a⟩
def BS.f_In:Fg Ca 3 Cf (·.L):=by
 rintro S s cs x ⟨i,j,k,l,m,n,rfl,k0,o,p,a,b,c,d,g,q⟩;exact⟨_,_,_,_,_,rfl,a,b,c,d,g⟩
def Nc:Fg Ca 8 (A7.sl AB) (·.Bn):=by
 rintro S s cs x ⟨b,c,d,g,i,j,rfl,k0,k,l,m,n,o,p,q,a⟩;exact⟨_,rfl,a⟩
def NW:ByteArray:=ByteArray.mk #[0,1,2,2,3,3,3,3,4,4,4,4,4,4,4,4,5,5,5,5,5,5,5,5,5,5,5,5,5,5,5,5,6,6,6,6,6,6,6,6,6,6,6,6,6,6,6,6,6,6,6,6,6,6,6,6,6,6,6,6,6,6,6,6,7,7,7,7,7,7,7,7,7,7,7,7,7,7,7,7,7,7,7,7,7,7,7,7,7,7,7,7,7,7,7,7,7,7,7,7,7,7,7,7,7,7,7,7,7,7,7,7,7,7,7,7,7,7,7,7,7,7,7,7,7,7,7,7,8,8,8,8,8,8,8,8,8,8,8,8,8,8,8,8,8,8,8,8,8,8,8,8,8,8,8,8,8,8,8,8,8,8,8,8,8,8,8,8,8,8,8,8,8,8,8,8,8,8,8,8,8,8,8,8,8,8,8,8,8,8,8,8,8,8,8,8,8,8,8,8,8,8,8,8,8,8,8,8,8,8,8,8,8,8,8,8,8,8,8,8,8,8,8,8,8,8,8,8,8,8,8,8,8,8,8,8,8,8,8,8,8,8,8,8,8,8,8,8,8,8,8,8,8,8,8,8]
def PY:List Cp:=([(⟨(ByteArray.mk #[112]),0,2,1000,([(⟨0,0⟩:By)]:List By),([100]:List Int),1,10,(-1),0,0,[]⟩:Cp)]:List Cp)
end Go.Proofs.YtabonambpbofgaaGreat
