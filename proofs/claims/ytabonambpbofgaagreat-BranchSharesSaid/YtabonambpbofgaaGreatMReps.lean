import Derived.Test.YtabonambpbofgaaGreatMCore31
import Derived.Test.YtabonambpbofgaaGreatMCore47
import Derived.Test.YtabonambpbofgaaGreatRows
namespace Go.Proofs.YtabonambpbofgaaGreat
set_option linter.all false
open Go.RowKit
open Go.Proofs.Tryz
structure BU where
 P:Int
 X:Int
instance:Inhabited BU:=⟨⟨default,default⟩⟩
@[reducible] def BU.v (x:BU):List Go.Value:=[.int .i64 x.P,.int .i64 x.X]
def BU.ok (x:BU):Prop:=AA x.P∧AA x.X
def CA:A5 BU where
 sz:=2
 ag:=true
 rd:=λ_ _ cs x=>cs=x.v∧x.ok
 len:=λ⟨b,_⟩=>by rw[b];rfl
 one:=λ{_ _ _ x} ⟨b,_⟩ v a=>by
  rw[b] at a;simp only[BU.v,Aay,Abc,Abn] at a;rcases a with rfl|rfl<;>rfl
 mono:=λb _ _=>b
def CA.ex {S a v}{x:BU}(k:Rd S a CA v x):v= .agg #[.int .i64 x.P,.int .i64 x.X]∧x.ok:=by obtain⟨_,rfl,rfl,a⟩:=k;exact⟨rfl,a⟩
def CA.mk {S h}{x:BU}(k:x.ok):Rd S h CA (.agg #[.int .i64 x.P,.int .i64 x.X]) x:=⟨x.v,rfl,rfl,k⟩
def XG:Fd CA 0 AB (·.P):=by
 rintro S b cs x ⟨rfl,⟨k0,a⟩⟩;exact⟨rfl,k0⟩
def TN:Fd CA 1 AB (·.X):=by
 rintro S b cs x ⟨rfl,⟨k0,a⟩⟩;exact⟨rfl,a⟩
structure LK where
 Bf:Int
 Bo:Int
instance:Inhabited LK:=⟨⟨default,default⟩⟩
@[reducible] def LK.v (x:LK):List Go.Value:=[.int .i64 x.Bf,.int .i64 x.Bo]
def LK.ok (x:LK):Prop:=AA x.Bf∧AA x.Bo
def Jt:A5 LK where
 sz:=2
 ag:=true
 rd:=λ_ _ cs x=>cs=x.v∧x.ok
 len:=λ⟨b,_⟩=>by rw[b];rfl
 one:=λ{_ _ _ x} ⟨b,_⟩ v a=>by
  rw[b] at a;simp only[LK.v,Aay,Abc,Abn] at a;rcases a with rfl|rfl<;>rfl
 mono:=λb _ _=>b
def Jt.ex {S a v}{x:LK}(k:Rd S a Jt v x):v= .agg #[.int .i64 x.Bf,.int .i64 x.Bo]∧x.ok:=by obtain⟨_,rfl,rfl,a⟩:=k;exact⟨rfl,a⟩
def Jt.mk {S h}{x:LK}(k:x.ok):Rd S h Jt (.agg #[.int .i64 x.Bf,.int .i64 x.Bo]) x:=⟨x.v,rfl,rfl,k⟩
structure Ca where
 D:ByteArray
 F:Int
 At:Int
 Au:Int
 Bj:(List BU)
 An:(List Int)
 Y:Int
 S:Int
 Ao:Int
 Q:Int
 Bg:Int
 T:(List LK)
instance:Inhabited Ca:=⟨⟨default,default,default,default,default,default,default,default,default,default,default,default⟩⟩
def BY:A5 Ca where
 sz:=12
 ag:=true
 rd:=λS u cs x=>∃b c a:Value,cs=[.string x.D,.int .i64 x.F,.int .i64 x.At,.int .i64 x.Au,b,c,.int .i64 x.Y,.int .i64 x.S,.int .i64 x.Ao,.int .i64 x.Q,.int .i64 x.Bg,a]∧x.D.size≤maxLen∧AA x.F∧AA x.At∧AA x.Au∧Sl S u CA b x.Bj∧Sl S u AB c x.An∧AA x.Y∧AA x.S∧AA x.Ao∧AA x.Q∧AA x.Bg∧Sl S u Jt a x.T
 len:=λ⟨_,_,_,u,_⟩=>by rw[u];rfl
 one:=by
  rintro S u cs x ⟨b,c,a,rfl,k0,i,j,k,l,m,n,o,p,q,d,g⟩ v t;simp only[Aay,Abc,Abn] at t;rcases t with rfl|rfl|rfl|rfl|rfl|rfl|rfl|rfl|rfl|rfl|rfl|rfl<;>first|rfl|exact Sl.one ‹_› |exact(‹_∧_›).2|(obtain ⟨_,_,rfl,_⟩:=Rd.fn ‹_›;rfl)|(obtain ⟨_,_,rfl,_⟩:=Rd.fnr ‹_›;rfl)
 mono:=by
  rintro S S' u h' cs x ⟨b,c,a,rfl,k0,i,j,k,l,m,n,o,p,q,d,g⟩ s e;exact⟨b,c,a,rfl,k0,i,j,k,l.mono s e,m.mono s e,n,o,p,q,d,g.mono s e⟩
def BY.ex {S h v}{x:Ca}(k:Rd S h BY v x):∃b c a:Value,v= .agg #[.string x.D,.int .i64 x.F,.int .i64 x.At,.int .i64 x.Au,b,c,.int .i64 x.Y,.int .i64 x.S,.int .i64 x.Ao,.int .i64 x.Q,.int .i64 x.Bg,a]∧x.D.size≤maxLen∧AA x.F∧AA x.At∧AA x.Au∧Sl S h CA b x.Bj∧Sl S h AB c x.An∧AA x.Y∧AA x.S∧AA x.Ao∧AA x.Q∧AA x.Bg∧Sl S h Jt a x.T:=by obtain⟨_,rfl,b,c,a,rfl,k⟩:=k;exact⟨b,c,a,rfl,k⟩
def BY.mk {S h}{x:Ca}{b c a:Value}(k0:x.D.size≤maxLen) (i:AA x.F) (j:AA x.At) (k:AA x.Au) (l:Sl S h CA b x.Bj) (m:Sl S h AB c x.An) (n:AA x.Y) (o:AA x.S) (p:AA x.Ao) (q:AA x.Q) (d:AA x.Bg) (g:Sl S h Jt a x.T):Rd S h BY (.agg #[.string x.D,.int .i64 x.F,.int .i64 x.At,.int .i64 x.Au,b,c,.int .i64 x.Y,.int .i64 x.S,.int .i64 x.Ao,.int .i64 x.Q,.int .i64 x.Bg,a]) x:=⟨_,rfl,b,c,a,rfl,k0,i,j,k,l,m,n,o,p,q,d,g⟩
def Ca.f_Name:Fd BY 0 A5.str (·.D):=by
 rintro S s cs x ⟨d,g,a,rfl,k0,i,j,k,l,m,n,o,p,q,b,c⟩;exact⟨rfl,k0⟩
def Ca.f_Kind:Fd BY 1 AB (·.F):=by
 rintro S s cs x ⟨g,i,a,rfl,k0,b,j,k,l,m,n,o,p,q,c,d⟩;exact⟨rfl,b⟩
def N5:Fd BY 2 AB (·.At):=by
 rintro S s cs x ⟨g,i,a,rfl,k0,j,b,k,l,m,n,o,p,q,c,d⟩;exact⟨rfl,b⟩
def O8:Fd BY 4 (A5.sl CA) (·.Bj):=by
 rintro S s cs x ⟨g,i,a,rfl,k0,j,k,l,b,m,n,o,p,q,c,d⟩;exact⟨_,rfl,b⟩
def O7:Fd BY 5 (A5.sl AB) (·.An):=by
 rintro S s cs x ⟨g,i,a,rfl,k0,j,k,l,m,b,n,o,p,q,c,d⟩;exact⟨_,rfl,b⟩
def Ca.f_Num:Fd BY 6 AB (·.Y):=by
 rintro S s cs x ⟨g,i,a,rfl,k0,j,k,l,m,n,b,o,p,q,c,d⟩;exact⟨rfl,b⟩
def Ca.f_Den:Fd BY 7 AB (·.S):=by
 rintro S s cs x ⟨g,i,a,rfl,k0,j,k,l,m,n,o,b,p,q,c,d⟩;exact⟨rfl,b⟩
def Ca.f_Rain:Fd BY 11 (A5.sl Jt) (·.T):=by
 rintro S s cs x ⟨d,g,b,rfl,k0,i,j,k,l,m,n,o,p,q,c,a⟩;exact⟨_,rfl,a⟩
def TP:L7 BY 4 (A5.sl CA) (λx y=>{ x with Bj:=y}):=by
 refine⟨by decide,?_⟩;rintro S v c x vs y ⟨t,d,g,rfl,k0,i,j,k,u,l,m,n,o,p,a,b⟩ ⟨q,rfl,s⟩;exact⟨q,d,g,rfl,k0,i,j,k,s,l,m,n,o,p,a,b⟩
def TO:L7 BY 5 (A5.sl AB) (λx y=>{ x with An:=y}):=by
 refine⟨by decide,?_⟩;rintro S v c x vs y ⟨d,t,g,rfl,k0,i,j,k,l,u,m,n,o,p,a,b⟩ ⟨q,rfl,s⟩;exact⟨d,q,g,rfl,k0,i,j,k,l,s,m,n,o,p,a,b⟩
def Ca.u_Rain:L7 BY 11 (A5.sl Jt) (λx y=>{ x with T:=y}):=by
 refine⟨by decide,?_⟩;rintro S v c x vs y ⟨g,i,u,rfl,k0,j,k,l,m,n,o,p,q,s,a,t⟩ ⟨b,rfl,d⟩;exact⟨g,i,b,rfl,k0,j,k,l,m,n,o,p,q,s,a,d⟩
structure LN where
 Av:(List BU)
 Aw:(List BU)
instance:Inhabited LN:=⟨⟨default,default⟩⟩
def Kp:A5 LN where
 sz:=2
 ag:=true
 rd:=λS d cs x=>∃a v1:Value,cs=[a,v1]∧Sl S d CA a x.Av∧Sl S d CA v1 x.Aw
 len:=λ⟨_,_,d,_⟩=>by rw[d];rfl
 one:=by
  rintro S d cs x ⟨a,v1,rfl,k0,b⟩ v c;simp only[Aay,Abc,Abn] at c;rcases c with rfl|rfl<;>first|rfl|exact Sl.one ‹_› |exact(‹_∧_›).2|(obtain ⟨_,_,rfl,_⟩:=Rd.fn ‹_›;rfl)|(obtain ⟨_,_,rfl,_⟩:=Rd.fnr ‹_›;rfl)
 mono:=by
  rintro S S' d h' cs x ⟨a,v1,rfl,k0,b⟩ s e;exact⟨a,v1,rfl,k0.mono s e,b.mono s e⟩
def Kp.ex {S h v}{x:LN}(k:Rd S h Kp v x):∃a v1:Value,v= .agg #[a,v1]∧Sl S h CA a x.Av∧Sl S h CA v1 x.Aw:=by obtain⟨_,rfl,a,v1,rfl,k⟩:=k;exact⟨a,v1,rfl,k⟩
def Kp.mk {S h}{x:LN}{a v1:Value}(k0:Sl S h CA a x.Av) (b:Sl S h CA v1 x.Aw):Rd S h Kp (.agg #[a,v1]) x:=⟨_,rfl,a,v1,rfl,k0,b⟩
def N0:Fd Kp 0 (A5.sl CA) (·.Av):=by
 rintro S c cs x ⟨a,v1,rfl,k0,b⟩;exact⟨_,rfl,k0⟩
def N1:Fd Kp 1 (A5.sl CA) (·.Aw):=by
 rintro S c cs x ⟨b,v1,rfl,k0,a⟩;exact⟨_,rfl,a⟩
def XH:L7 Kp 0 (A5.sl CA) (λx y=>{ x with Av:=y}):=by
 refine⟨by decide,?_⟩;rintro S j c x vs y ⟨i,a,rfl,k0,b⟩ ⟨d,rfl,g⟩;exact⟨d,a,rfl,g,b⟩
def XI:L7 Kp 1 (A5.sl CA) (λx y=>{ x with Aw:=y}):=by
 refine⟨by decide,?_⟩;rintro S j c x vs y ⟨a,g,rfl,k0,i⟩ ⟨b,rfl,d⟩;exact⟨a,b,rfl,k0,d⟩
structure A8 where
 D:ByteArray
 F:Int
 M:Int
 E:Int
 As:(List BU)
 Ad:LN
 V:Int
 Ag:Int
 Bb:Int
 Bc:Int
 Y:Int
 S:Int
 Ay:Int
 Az:Int
 Aq:Int
 Al:Int
 Q:Int
instance:Inhabited A8:=⟨⟨default,default,default,default,default,default,default,default,default,default,default,default,default,default,default,default,default⟩⟩
def B8:A5 A8 where
 sz:=18
 ag:=true
 rd:=λS C cs x=>∃a b c:Value,cs=[.string x.D,.int .i64 x.F,.int .i64 x.M,.int .i64 x.E,a,b,c,.int .i64 x.V,.int .i64 x.Ag,.int .i64 x.Bb,.int .i64 x.Bc,.int .i64 x.Y,.int .i64 x.S,.int .i64 x.Ay,.int .i64 x.Az,.int .i64 x.Aq,.int .i64 x.Al,.int .i64 x.Q]∧x.D.size≤maxLen∧AA x.F∧AA x.M∧AA x.E∧Sl S C CA a x.As∧Sl S C CA b x.Ad.Av∧Sl S C CA c x.Ad.Aw∧AA x.V∧AA x.Ag∧AA x.Bb∧AA x.Bc∧AA x.Y∧AA x.S∧AA x.Ay∧AA x.Az∧AA x.Aq∧AA x.Al∧AA x.Q
 len:=λ⟨_,_,_,C,_⟩=>by rw[C];rfl
 one:=by
  rintro S C cs x ⟨a,b,c,rfl,k0,o,p,q,t,u,w,y,z,A,d,g,i,j,k,l,m,n⟩ v B;simp only[Aay,Abc,Abn] at B;rcases B with rfl|rfl|rfl|rfl|rfl|rfl|rfl|rfl|rfl|rfl|rfl|rfl|rfl|rfl|rfl|rfl|rfl|rfl<;>first|rfl|exact Sl.one ‹_› |exact(‹_∧_›).2|(obtain ⟨_,_,rfl,_⟩:=Rd.fn ‹_›;rfl)|(obtain ⟨_,_,rfl,_⟩:=Rd.fnr ‹_›;rfl)
 mono:=by
  rintro S S' C h' cs x ⟨a,b,c,rfl,k0,o,p,q,t,u,w,y,z,A,d,g,i,j,k,l,m,n⟩ s e;exact⟨a,b,c,rfl,k0,o,p,q,t.mono s e,u.mono s e,w.mono s e,y,z,A,d,g,i,j,k,l,m,n⟩
def B8.ex {S h v}{x:A8}(k:Rd S h B8 v x):∃a b c:Value,v= .agg #[.string x.D,.int .i64 x.F,.int .i64 x.M,.int .i64 x.E,a,b,c,.int .i64 x.V,.int .i64 x.Ag,.int .i64 x.Bb,.int .i64 x.Bc,.int .i64 x.Y,.int .i64 x.S,.int .i64 x.Ay,.int .i64 x.Az,.int .i64 x.Aq,.int .i64 x.Al,.int .i64 x.Q]∧x.D.size≤maxLen∧AA x.F∧AA x.M∧AA x.E∧Sl S h CA a x.As∧Sl S h CA b x.Ad.Av∧Sl S h CA c x.Ad.Aw∧AA x.V∧AA x.Ag∧AA x.Bb∧AA x.Bc∧AA x.Y∧AA x.S∧AA x.Ay∧AA x.Az∧AA x.Aq∧AA x.Al∧AA x.Q:=by obtain⟨_,rfl,a,b,c,rfl,k⟩:=k;exact⟨a,b,c,rfl,k⟩
def B8.mk {S h}{x:A8}{a b c:Value}(k0:x.D.size≤maxLen) (o:AA x.F) (p:AA x.M) (q:AA x.E) (s:Sl S h CA a x.As) (t:Sl S h CA b x.Ad.Av) (u:Sl S h CA c x.Ad.Aw) (v:AA x.V) (w:AA x.Ag) (y:AA x.Bb) (d:AA x.Bc) (g:AA x.Y) (i:AA x.S) (j:AA x.Ay) (k:AA x.Az) (l:AA x.Aq) (m:AA x.Al) (n:AA x.Q):Rd S h B8 (.agg #[.string x.D,.int .i64 x.F,.int .i64 x.M,.int .i64 x.E,a,b,c,.int .i64 x.V,.int .i64 x.Ag,.int .i64 x.Bb,.int .i64 x.Bc,.int .i64 x.Y,.int .i64 x.S,.int .i64 x.Ay,.int .i64 x.Az,.int .i64 x.Aq,.int .i64 x.Al,.int .i64 x.Q]) x:=⟨_,rfl,a,b,c,rfl,k0,o,p,q,s,t,u,v,w,y,d,g,i,j,k,l,m,n⟩
def A8.f_Name:Fd B8 0 A5.str (·.D):=by
 rintro S z cs x ⟨l,m,n,rfl,k0,o,p,q,s,t,u,v,w,y,a,b,c,d,g,i,j,k⟩;exact⟨rfl,k0⟩
def A8.f_Kind:Fd B8 1 AB (·.F):=by
 rintro S z cs x ⟨m,n,o,rfl,k0,a,p,q,s,t,u,v,w,y,b,c,d,g,i,j,k,l⟩;exact⟨rfl,a⟩
def A8.f_To:Fd B8 3 AB (·.E):=by
 rintro S z cs x ⟨m,n,o,rfl,k0,p,q,a,s,t,u,v,w,y,b,c,d,g,i,j,k,l⟩;exact⟨rfl,a⟩
def KL:Fd B8 4 (A5.sl CA) (·.As):=by
 rintro S z cs x ⟨m,n,o,rfl,k0,p,q,s,a,t,u,v,w,y,b,c,d,g,i,j,k,l⟩;exact⟨_,rfl,a⟩
def IE:Fd B8 5 Kp (·.Ad):=by
 rintro S z cs x ⟨n,o,p,rfl,k0,q,s,t,u,a,b,v,w,y,c,d,g,i,j,k,l,m⟩;exact⟨_,_,rfl,a,b⟩
def GV:Fd B8 7 AB (·.V):=by
 rintro S z cs x ⟨m,n,o,rfl,k0,p,q,s,t,u,v,a,w,y,b,c,d,g,i,j,k,l⟩;exact⟨rfl,a⟩
def Ke:Fd B8 8 AB (·.Ag):=by
 rintro S z cs x ⟨m,n,o,rfl,k0,p,q,s,t,u,v,w,a,y,b,c,d,g,i,j,k,l⟩;exact⟨rfl,a⟩
def Nz:Fd B8 9 AB (·.Bb):=by
 rintro S z cs x ⟨m,n,o,rfl,k0,p,q,s,t,u,v,w,y,a,b,c,d,g,i,j,k,l⟩;exact⟨rfl,a⟩
def NF:Fd B8 10 AB (·.Bc):=by
 rintro S z cs x ⟨l,m,n,rfl,k0,o,p,q,s,t,u,v,w,y,a,b,c,d,g,i,j,k⟩;exact⟨rfl,a⟩
def A8.f_Num:Fd B8 11 AB (·.Y):=by
 rintro S z cs x ⟨l,m,n,rfl,k0,o,p,q,s,t,u,v,w,y,b,a,c,d,g,i,j,k⟩;exact⟨rfl,a⟩
def A8.f_Den:Fd B8 12 AB (·.S):=by
 rintro S z cs x ⟨l,m,n,rfl,k0,o,p,q,s,t,u,v,w,y,b,c,a,d,g,i,j,k⟩;exact⟨rfl,a⟩
def Ph:Fd B8 13 AB (·.Ay):=by
 rintro S z cs x ⟨l,m,n,rfl,k0,o,p,q,s,t,u,v,w,y,b,c,d,a,g,i,j,k⟩;exact⟨rfl,a⟩
def Pi:Fd B8 14 AB (·.Az):=by
 rintro S z cs x ⟨l,m,n,rfl,k0,o,p,q,s,t,u,v,w,y,b,c,d,g,a,i,j,k⟩;exact⟨rfl,a⟩
def Jq:Fd B8 15 AB (·.Aq):=by
 rintro S z cs x ⟨l,m,n,rfl,k0,o,p,q,s,t,u,v,w,y,b,c,d,g,i,a,j,k⟩;exact⟨rfl,a⟩
def Jr:Fd B8 16 AB (·.Al):=by
 rintro S z cs x ⟨l,m,n,rfl,k0,o,p,q,s,t,u,v,w,y,b,c,d,g,i,j,a,k⟩;exact⟨rfl,a⟩
def VF:L7 B8 4 (A5.sl CA) (λx y=>{ x with As:=y}):=by
 refine⟨by decide,?_⟩;rintro S D c x vs y ⟨B,m,n,rfl,k0,o,p,q,C,s,t,u,v,w,a,b,d,g,i,j,k,l⟩ ⟨z,rfl,A⟩;exact⟨z,m,n,rfl,k0,o,p,q,A,s,t,u,v,w,a,b,d,g,i,j,k,l⟩
def kU:L7 B8 5 Kp (λx y=>{ x with Ad:=y}):=by
 refine⟨by decide,?_⟩;rintro S G c x vs y ⟨m,B,C,rfl,k0,n,o,p,q,D,F,s,t,u,a,b,d,g,i,j,k,l⟩ ⟨v,w,rfl,z,A⟩;exact⟨m,v,w,rfl,k0,n,o,p,q,z,A,s,t,u,a,b,d,g,i,j,k,l⟩
structure Kc where
 D:ByteArray
 Ap:Int
 Bp:Int
 Bn:Int
 Bv:Int
 Bq:Int
 Bm:Int
instance:Inhabited Kc:=⟨⟨default,default,default,default,default,default,default⟩⟩
@[reducible] def Kc.v (x:Kc):List Go.Value:=[.string x.D,.int .i64 x.Ap,.int .i64 x.Bp,.int .i64 x.Bn,.int .i64 x.Bv,.int .i64 x.Bq,.int .i64 x.Bm]
def Kc.ok (x:Kc):Prop:=x.D.size≤maxLen∧AA x.Ap∧AA x.Bp∧AA x.Bn∧AA x.Bv∧AA x.Bq∧AA x.Bm
def G7:A5 Kc where
 sz:=7
 ag:=true
 rd:=λ_ _ cs x=>cs=x.v∧x.ok
 len:=λ⟨b,_⟩=>by rw[b];rfl
 one:=λ{_ _ _ x} ⟨b,_⟩ v a=>by
  rw[b] at a;simp only[Kc.v,Aay,Abc,Abn] at a;rcases a with rfl|rfl|rfl|rfl|rfl|rfl|rfl<;>rfl
 mono:=λb _ _=>b
def G7.ex {S a v}{x:Kc}(k:Rd S a G7 v x):v= .agg #[.string x.D,.int .i64 x.Ap,.int .i64 x.Bp,.int .i64 x.Bn,.int .i64 x.Bv,.int .i64 x.Bq,.int .i64 x.Bm]∧x.ok:=by obtain⟨_,rfl,rfl,a⟩:=k;exact⟨rfl,a⟩
def G7.mk {S h}{x:Kc}(k:x.ok):Rd S h G7 (.agg #[.string x.D,.int .i64 x.Ap,.int .i64 x.Bp,.int .i64 x.Bn,.int .i64 x.Bv,.int .i64 x.Bq,.int .i64 x.Bm]) x:=⟨x.v,rfl,rfl,k⟩
def Kc.f_Name:Fd G7 0 A5.str (·.D):=by
 rintro S j cs x ⟨rfl,⟨k0,a,b,c,d,g,i⟩⟩;exact⟨rfl,k0⟩
structure Iz where
 D:ByteArray
 F:Int
 Aa:Int
 K:Int
 Br:Int
instance:Inhabited Iz:=⟨⟨default,default,default,default,default⟩⟩
@[reducible] def Iz.v (x:Iz):List Go.Value:=[.string x.D,.int .i64 x.F,.int .i64 x.Aa,.int .i64 x.K,.int .i64 x.Br]
def Iz.ok (x:Iz):Prop:=x.D.size≤maxLen∧AA x.F∧AA x.Aa∧AA x.K∧AA x.Br
def Eg:A5 Iz where
 sz:=5
 ag:=true
 rd:=λ_ _ cs x=>cs=x.v∧x.ok
 len:=λ⟨b,_⟩=>by rw[b];rfl
 one:=λ{_ _ _ x} ⟨b,_⟩ v a=>by
  rw[b] at a;simp only[Iz.v,Aay,Abc,Abn] at a;rcases a with rfl|rfl|rfl|rfl|rfl<;>rfl
 mono:=λb _ _=>b
def Eg.ex {S a v}{x:Iz}(k:Rd S a Eg v x):v= .agg #[.string x.D,.int .i64 x.F,.int .i64 x.Aa,.int .i64 x.K,.int .i64 x.Br]∧x.ok:=by obtain⟨_,rfl,rfl,a⟩:=k;exact⟨rfl,a⟩
def Eg.mk {S h}{x:Iz}(k:x.ok):Rd S h Eg (.agg #[.string x.D,.int .i64 x.F,.int .i64 x.Aa,.int .i64 x.K,.int .i64 x.Br]) x:=⟨x.v,rfl,rfl,k⟩
def Iz.f_Name:Fd Eg 0 A5.str (·.D):=by
 rintro S g cs x ⟨rfl,⟨k0,a,b,c,d⟩⟩;exact⟨rfl,k0⟩
def Iz.f_Kind:Fd Eg 1 AB (·.F):=by
 rintro S g cs x ⟨rfl,⟨k0,a,b,c,d⟩⟩;exact⟨rfl,a⟩
def Iz.f_Err:Fd Eg 3 AB (·.K):=by
 rintro S g cs x ⟨rfl,⟨k0,b,c,a,d⟩⟩;exact⟨rfl,a⟩
structure Kd where
 D:ByteArray
 M:Int
 E:Int
 Bw:Int
 Bx:Int
 Bi:Int
 Bk:Int
instance:Inhabited Kd:=⟨⟨default,default,default,default,default,default,default⟩⟩
@[reducible] def Kd.v (x:Kd):List Go.Value:=[.string x.D,.int .i64 x.M,.int .i64 x.E,.int .i64 x.Bw,.int .i64 x.Bx,.int .i64 x.Bi,.int .i64 x.Bk]
def Kd.ok (x:Kd):Prop:=x.D.size≤maxLen∧AA x.M∧AA x.E∧AA x.Bw∧AA x.Bx∧AA x.Bi∧AA x.Bk
def Gr:A5 Kd where
 sz:=7
 ag:=true
 rd:=λ_ _ cs x=>cs=x.v∧x.ok
 len:=λ⟨b,_⟩=>by rw[b];rfl
 one:=λ{_ _ _ x} ⟨b,_⟩ v a=>by
  rw[b] at a;simp only[Kd.v,Aay,Abc,Abn] at a;rcases a with rfl|rfl|rfl|rfl|rfl|rfl|rfl<;>rfl
 mono:=λb _ _=>b
def Gr.ex {S a v}{x:Kd}(k:Rd S a Gr v x):v= .agg #[.string x.D,.int .i64 x.M,.int .i64 x.E,.int .i64 x.Bw,.int .i64 x.Bx,.int .i64 x.Bi,.int .i64 x.Bk]∧x.ok:=by obtain⟨_,rfl,rfl,a⟩:=k;exact⟨rfl,a⟩
def Gr.mk {S h}{x:Kd}(k:x.ok):Rd S h Gr (.agg #[.string x.D,.int .i64 x.M,.int .i64 x.E,.int .i64 x.Bw,.int .i64 x.Bx,.int .i64 x.Bi,.int .i64 x.Bk]) x:=⟨x.v,rfl,rfl,k⟩
def Kd.f_Name:Fd Gr 0 A5.str (·.D):=by
 rintro S j cs x ⟨rfl,⟨k0,a,b,c,d,g,i⟩⟩;exact⟨rfl,k0⟩
def Kd.f_To:Fd Gr 2 AB (·.E):=by
 rintro S j cs x ⟨rfl,⟨k0,b,a,c,d,g,i⟩⟩;exact⟨rfl,a⟩
structure Gi where
 D:ByteArray
 Aj:Int
instance:Inhabited Gi:=⟨⟨default,default⟩⟩
@[reducible] def Gi.v (x:Gi):List Go.Value:=[.string x.D,.int .i64 x.Aj]
def Gi.ok (x:Gi):Prop:=x.D.size≤maxLen∧AA x.Aj
def DM:A5 Gi where
 sz:=2
 ag:=true
 rd:=λ_ _ cs x=>cs=x.v∧x.ok
 len:=λ⟨b,_⟩=>by rw[b];rfl
 one:=λ{_ _ _ x} ⟨b,_⟩ v a=>by
  rw[b] at a;simp only[Gi.v,Aay,Abc,Abn] at a;rcases a with rfl|rfl<;>rfl
 mono:=λb _ _=>b
def DM.ex {S a v}{x:Gi}(k:Rd S a DM v x):v= .agg #[.string x.D,.int .i64 x.Aj]∧x.ok:=by obtain⟨_,rfl,rfl,a⟩:=k;exact⟨rfl,a⟩
def DM.mk {S h}{x:Gi}(k:x.ok):Rd S h DM (.agg #[.string x.D,.int .i64 x.Aj]) x:=⟨x.v,rfl,rfl,k⟩
def Gi.f_Name:Fd DM 0 A5.str (·.D):=by
 rintro S b cs x ⟨rfl,⟨k0,a⟩⟩;exact⟨rfl,k0⟩
def Gi.f_Room:Fd DM 1 AB (·.Aj):=by
 rintro S b cs x ⟨rfl,⟨k0,a⟩⟩;exact⟨rfl,a⟩
structure AF where
 D:ByteArray
 H:(List ByteArray)
 J:Int
 A:(List Ca)
 C:(List A8)
 Af:(List Kc)
 Ah:(List Iz)
 Ai:(List Kd)
 Ak:(List Gi)
 Aj:(List Int)
 K:Int
instance:Inhabited AF:=⟨⟨default,default,default,default,default,default,default,default,default,default,default⟩⟩
def BZ:A5 AF where
 sz:=11
 ag:=true
 rd:=λS z cs x=>∃v1 a b c d g i j:Value,cs=[.string x.D,v1,.int .i64 x.J,a,b,c,d,g,i,j,.int .i64 x.K]∧x.D.size≤maxLen∧Sl S z A5.str v1 x.H∧AA x.J∧Sl S z BY a x.A∧Sl S z B8 b x.C∧Sl S z G7 c x.Af∧Sl S z Eg d x.Ah∧Sl S z Gr g x.Ai∧Sl S z DM i x.Ak∧Sl S z AB j x.Aj∧AA x.K
 len:=λ⟨_,_,_,_,_,_,_,_,z,_⟩=>by rw[z];rfl
 one:=by
  rintro S z cs x ⟨v1,a,b,c,d,g,i,j,rfl,k0,l,m,n,o,p,q,t,u,w,k⟩ v y;simp only[Aay,Abc,Abn] at y;rcases y with rfl|rfl|rfl|rfl|rfl|rfl|rfl|rfl|rfl|rfl|rfl<;>first|rfl|exact Sl.one ‹_› |exact(‹_∧_›).2|(obtain ⟨_,_,rfl,_⟩:=Rd.fn ‹_›;rfl)|(obtain ⟨_,_,rfl,_⟩:=Rd.fnr ‹_›;rfl)
 mono:=by
  rintro S S' z h' cs x ⟨v1,a,b,c,d,g,i,j,rfl,k0,l,m,n,o,p,q,t,u,w,k⟩ s e;exact⟨v1,a,b,c,d,g,i,j,rfl,k0,l.mono s e,m,n.mono s e,o.mono s e,p.mono s e,q.mono s e,t.mono s e,u.mono s e,w.mono s e,k⟩
def BZ.ex {S h v}{x:AF}(k:Rd S h BZ v x):∃v1 a b c d g i j:Value,v= .agg #[.string x.D,v1,.int .i64 x.J,a,b,c,d,g,i,j,.int .i64 x.K]∧x.D.size≤maxLen∧Sl S h A5.str v1 x.H∧AA x.J∧Sl S h BY a x.A∧Sl S h B8 b x.C∧Sl S h G7 c x.Af∧Sl S h Eg d x.Ah∧Sl S h Gr g x.Ai∧Sl S h DM i x.Ak∧Sl S h AB j x.Aj∧AA x.K:=by obtain⟨_,rfl,v1,a,b,c,d,g,i,j,rfl,k⟩:=k;exact⟨v1,a,b,c,d,g,i,j,rfl,k⟩
def BZ.mk {S h}{x:AF}{v1 a b c d g i j:Value}(k0:x.D.size≤maxLen) (l:Sl S h A5.str v1 x.H) (m:AA x.J) (n:Sl S h BY a x.A) (o:Sl S h B8 b x.C) (p:Sl S h G7 c x.Af) (q:Sl S h Eg d x.Ah) (s:Sl S h Gr g x.Ai) (t:Sl S h DM i x.Ak) (u:Sl S h AB j x.Aj) (k:AA x.K):Rd S h BZ (.agg #[.string x.D,v1,.int .i64 x.J,a,b,c,d,g,i,j,.int .i64 x.K]) x:=⟨_,rfl,v1,a,b,c,d,g,i,j,rfl,k0,l,m,n,o,p,q,s,t,u,k⟩
def AF.f_Name:Fd BZ 0 A5.str (·.D):=by
 rintro S v cs x ⟨v1,b,c,d,g,i,j,k,rfl,k0,l,m,n,o,p,q,s,t,u,a⟩;exact⟨rfl,k0⟩
def H0:Fd BZ 1 (A5.sl A5.str) (·.H):=by
 rintro S v cs x ⟨v1,c,d,g,i,j,k,l,rfl,k0,a,m,n,o,p,q,s,t,u,b⟩;exact⟨_,rfl,a⟩
def Mu:Fd BZ 2 AB (·.J):=by
 rintro S v cs x ⟨v1,c,d,g,i,j,k,l,rfl,k0,m,a,n,o,p,q,s,t,u,b⟩;exact⟨rfl,a⟩
def Ce:Fd BZ 3 (A5.sl BY) (·.A):=by
 rintro S v cs x ⟨v1,c,d,g,i,j,k,l,rfl,k0,m,n,a,o,p,q,s,t,u,b⟩;exact⟨_,rfl,a⟩
def HG:Fd BZ 4 (A5.sl B8) (·.C):=by
 rintro S v cs x ⟨v1,c,d,g,i,j,k,l,rfl,k0,m,n,o,a,p,q,s,t,u,b⟩;exact⟨_,rfl,a⟩
def KC:Fd BZ 5 (A5.sl G7) (·.Af):=by
 rintro S v cs x ⟨v1,c,d,g,i,j,k,l,rfl,k0,m,n,o,p,a,q,s,t,u,b⟩;exact⟨_,rfl,a⟩
def Ki:Fd BZ 6 (A5.sl Eg) (·.Ah):=by
 rintro S v cs x ⟨v1,c,d,g,i,j,k,l,rfl,k0,m,n,o,p,q,a,s,t,u,b⟩;exact⟨_,rfl,a⟩
def LM:Fd BZ 7 (A5.sl Gr) (·.Ai):=by
 rintro S v cs x ⟨v1,c,d,g,i,j,k,l,rfl,k0,m,n,o,p,q,s,a,t,u,b⟩;exact⟨_,rfl,a⟩
def Jy:Fd BZ 8 (A5.sl DM) (·.Ak):=by
 rintro S v cs x ⟨v1,c,d,g,i,j,k,l,rfl,k0,m,n,o,p,q,s,t,a,u,b⟩;exact⟨_,rfl,a⟩
def AF.f_Room:Fd BZ 9 (A5.sl AB) (·.Aj):=by
 rintro S v cs x ⟨v1,c,d,g,i,j,k,l,rfl,k0,m,n,o,p,q,s,t,u,a,b⟩;exact⟨_,rfl,a⟩
def AF.f_Err:Fd BZ 10 AB (·.K):=by
 rintro S v cs x ⟨v1,b,c,d,g,i,j,k,rfl,k0,l,m,n,o,p,q,s,t,u,a⟩;exact⟨rfl,a⟩
structure AV where
 Ba:Int
 E:Int
 W:(List Int)
instance:Inhabited AV:=⟨⟨default,default,default⟩⟩
def AX:A5 AV where
 sz:=3
 ag:=true
 rd:=λS g cs x=>∃a:Value,cs=[.int .i64 x.Ba,.int .i64 x.E,a]∧AA x.Ba∧AA x.E∧Sl S g AB a x.W
 len:=λ⟨_,g,_⟩=>by rw[g];rfl
 one:=by
  rintro S g cs x ⟨a,rfl,k0,b,c⟩ v d;simp only[Aay,Abc,Abn] at d;rcases d with rfl|rfl|rfl<;>first|rfl|exact Sl.one ‹_› |exact(‹_∧_›).2|(obtain ⟨_,_,rfl,_⟩:=Rd.fn ‹_›;rfl)|(obtain ⟨_,_,rfl,_⟩:=Rd.fnr ‹_›;rfl)
 mono:=by
  rintro S S' g h' cs x ⟨a,rfl,k0,b,c⟩ s e;exact⟨a,rfl,k0,b,c.mono s e⟩
def AX.ex {S h v}{x:AV}(k:Rd S h AX v x):∃a:Value,v= .agg #[.int .i64 x.Ba,.int .i64 x.E,a]∧AA x.Ba∧AA x.E∧Sl S h AB a x.W:=by obtain⟨_,rfl,a,rfl,k⟩:=k;exact⟨a,rfl,k⟩
def AX.mk {S h}{x:AV}{a:Value}(k0:AA x.Ba) (b:AA x.E) (c:Sl S h AB a x.W):Rd S h AX (.agg #[.int .i64 x.Ba,.int .i64 x.E,a]) x:=⟨_,rfl,a,rfl,k0,b,c⟩
def AV.f_To:Fd AX 1 AB (·.E):=by
 rintro S d cs x ⟨b,rfl,k0,a,c⟩;exact⟨rfl,a⟩
def AV.f_Part:Fd AX 2 (A5.sl AB) (·.W):=by
 rintro S d cs x ⟨b,rfl,k0,c,a⟩;exact⟨_,rfl,a⟩
def AV.u_Part:L7 AX 2 (A5.sl AB) (λx y=>{ x with W:=y}):=by
 refine⟨by decide,?_⟩;rintro S j c x vs y ⟨g,rfl,k0,a,i⟩ ⟨b,rfl,d⟩;exact⟨b,rfl,k0,a,d⟩
structure A0 where
 Z:Int
 Aa:Int
 Ax:Bool
 Am:Bool
instance:Inhabited A0:=⟨⟨default,default,default,default⟩⟩
@[reducible] def A0.v (x:A0):List Go.Value:=[.int .i64 x.Z,.int .i64 x.Aa,.bool x.Ax,.bool x.Am]
def A0.ok (x:A0):Prop:=AA x.Z∧AA x.Aa
def BQ:A5 A0 where
 sz:=4
 ag:=true
 rd:=λ_ _ cs x=>cs=x.v∧x.ok
 len:=λ⟨b,_⟩=>by rw[b];rfl
 one:=λ{_ _ _ x} ⟨b,_⟩ v a=>by
  rw[b] at a;simp only[A0.v,Aay,Abc,Abn] at a;rcases a with rfl|rfl|rfl|rfl<;>rfl
 mono:=λb _ _=>b
def BQ.ex {S a v}{x:A0}(k:Rd S a BQ v x):v= .agg #[.int .i64 x.Z,.int .i64 x.Aa,.bool x.Ax,.bool x.Am]∧x.ok:=by obtain⟨_,rfl,rfl,a⟩:=k;exact⟨rfl,a⟩
def BQ.mk {S h}{x:A0}(k:x.ok):Rd S h BQ (.agg #[.int .i64 x.Z,.int .i64 x.Aa,.bool x.Ax,.bool x.Am]) x:=⟨x.v,rfl,rfl,k⟩
def Rg:Fd BQ 0 AB (·.Z):=by
 rintro S b cs x ⟨rfl,⟨k0,a⟩⟩;exact⟨rfl,k0⟩
def VG:Fd BQ 3 A5.bool (·.Am):=by
 rintro S b cs x ⟨rfl,⟨k0,a⟩⟩;exact rfl
structure AN where
 B:Int
 G:(List (List Int))
 N:(List Int)
 I:(List AV)
 R:(List A0)
 L:(List Int)
 O:(List Int)
instance:Inhabited AN:=⟨⟨default,default,default,default,default,default,default⟩⟩
def B3:A5 AN where
 sz:=7
 ag:=true
 rd:=λS p cs x=>∃v1 a b c d g:Value,cs=[.int .i64 x.B,v1,a,b,c,d,g]∧AA x.B∧Sl S p (A5.sl AB) v1 x.G∧Sl S p AB a x.N∧Sl S p AX b x.I∧Sl S p BQ c x.R∧Sl S p AB d x.L∧Sl S p AB g x.O
 len:=λ⟨_,_,_,_,_,_,p,_⟩=>by rw[p];rfl
 one:=by
  rintro S p cs x ⟨v1,a,b,c,d,g,rfl,k0,i,j,k,l,m,n⟩ v o;simp only[Aay,Abc,Abn] at o;rcases o with rfl|rfl|rfl|rfl|rfl|rfl|rfl<;>first|rfl|exact Sl.one ‹_› |exact(‹_∧_›).2|(obtain ⟨_,_,rfl,_⟩:=Rd.fn ‹_›;rfl)|(obtain ⟨_,_,rfl,_⟩:=Rd.fnr ‹_›;rfl)
 mono:=by
  rintro S S' p h' cs x ⟨v1,a,b,c,d,g,rfl,k0,i,j,k,l,m,n⟩ s e;exact⟨v1,a,b,c,d,g,rfl,k0,i.mono s e,j.mono s e,k.mono s e,l.mono s e,m.mono s e,n.mono s e⟩
def B3.ex {S h v}{x:AN}(k:Rd S h B3 v x):∃v1 a b c d g:Value,v= .agg #[.int .i64 x.B,v1,a,b,c,d,g]∧AA x.B∧Sl S h (A5.sl AB) v1 x.G∧Sl S h AB a x.N∧Sl S h AX b x.I∧Sl S h BQ c x.R∧Sl S h AB d x.L∧Sl S h AB g x.O:=by obtain⟨_,rfl,v1,a,b,c,d,g,rfl,k⟩:=k;exact⟨v1,a,b,c,d,g,rfl,k⟩
def B3.mk {S h}{x:AN}{v1 a b c d g:Value}(k0:AA x.B) (i:Sl S h (A5.sl AB) v1 x.G) (j:Sl S h AB a x.N) (k:Sl S h AX b x.I) (l:Sl S h BQ c x.R) (m:Sl S h AB d x.L) (n:Sl S h AB g x.O):Rd S h B3 (.agg #[.int .i64 x.B,v1,a,b,c,d,g]) x:=⟨_,rfl,v1,a,b,c,d,g,rfl,k0,i,j,k,l,m,n⟩
def AN.f_Hour:Fd B3 0 AB (·.B):=by
 rintro S o cs x ⟨v1,a,b,c,d,g,rfl,k0,i,j,k,l,m,n⟩;exact⟨rfl,k0⟩
def Qo:Fd B3 1 (A5.sl (A5.sl AB)) (·.G):=by
 rintro S o cs x ⟨v1,b,c,d,g,i,rfl,k0,a,j,k,l,m,n⟩;exact⟨_,rfl,a⟩
def Ny:Fd B3 2 (A5.sl AB) (·.N):=by
 rintro S o cs x ⟨v1,b,c,d,g,i,rfl,k0,j,a,k,l,m,n⟩;exact⟨_,rfl,a⟩
def O5:Fd B3 3 (A5.sl AX) (·.I):=by
 rintro S o cs x ⟨v1,b,c,d,g,i,rfl,k0,j,k,a,l,m,n⟩;exact⟨_,rfl,a⟩
def O6:Fd B3 4 (A5.sl BQ) (·.R):=by
 rintro S o cs x ⟨v1,b,c,d,g,i,rfl,k0,j,k,l,a,m,n⟩;exact⟨_,rfl,a⟩
def AN.f_In:Fd B3 5 (A5.sl AB) (·.L):=by
 rintro S o cs x ⟨v1,b,c,d,g,i,rfl,k0,j,k,l,m,a,n⟩;exact⟨_,rfl,a⟩
def Qp:Fd B3 6 (A5.sl AB) (·.O):=by
 rintro S o cs x ⟨v1,b,c,d,g,i,rfl,k0,j,k,l,m,n,a⟩;exact⟨_,rfl,a⟩
structure AG where
 group:ByteArray
 name:ByteArray
instance:Inhabited AG:=⟨⟨default,default⟩⟩
@[reducible] def AG.v (x:AG):List Go.Value:=[.string x.group,.string x.name]
def AG.ok (x:AG):Prop:=x.group.size≤maxLen∧x.name.size≤maxLen
def MS:A5 AG where
 sz:=2
 ag:=true
 rd:=λ_ _ cs x=>cs=x.v∧x.ok
 len:=λ⟨b,_⟩=>by rw[b];rfl
 one:=λ{_ _ _ x} ⟨b,_⟩ v a=>by
  rw[b] at a;simp only[AG.v,Aay,Abc,Abn] at a;rcases a with rfl|rfl<;>rfl
 mono:=λb _ _=>b
def MS.ex {S a v}{x:AG}(k:Rd S a MS v x):v= .agg #[.string x.group,.string x.name]∧x.ok:=by obtain⟨_,rfl,rfl,a⟩:=k;exact⟨rfl,a⟩
def MS.mk {S h}{x:AG}(k:x.ok):Rd S h MS (.agg #[.string x.group,.string x.name]) x:=⟨x.v,rfl,rfl,k⟩
structure Gj where
 F:Int
 Ar:Int
instance:Inhabited Gj:=⟨⟨default,default⟩⟩
@[reducible] def Gj.v (x:Gj):List Go.Value:=[.int .i64 x.F,.int .i64 x.Ar]
def Gj.ok (x:Gj):Prop:=AA x.F∧AA x.Ar
def Cm:A5 Gj where
 sz:=2
 ag:=true
 rd:=λ_ _ cs x=>cs=x.v∧x.ok
 len:=λ⟨b,_⟩=>by rw[b];rfl
 one:=λ{_ _ _ x} ⟨b,_⟩ v a=>by
  rw[b] at a;simp only[Gj.v,Aay,Abc,Abn] at a;rcases a with rfl|rfl<;>rfl
 mono:=λb _ _=>b
def Cm.ex {S a v}{x:Gj}(k:Rd S a Cm v x):v= .agg #[.int .i64 x.F,.int .i64 x.Ar]∧x.ok:=by obtain⟨_,rfl,rfl,a⟩:=k;exact⟨rfl,a⟩
def Cm.mk {S h}{x:Gj}(k:x.ok):Rd S h Cm (.agg #[.int .i64 x.F,.int .i64 x.Ar]) x:=⟨x.v,rfl,rfl,k⟩
def Gj.f_Kind:Fd Cm 0 AB (·.F):=by
 rintro S b cs x ⟨rfl,⟨k0,a⟩⟩;exact⟨rfl,k0⟩
structure Kt where
 Ar:Int
 Aa:Int
instance:Inhabited Kt:=⟨⟨default,default⟩⟩
@[reducible] def Kt.v (x:Kt):List Go.Value:=[.int .i64 x.Ar,.int .i64 x.Aa]
def Kt.ok (x:Kt):Prop:=AA x.Ar∧AA x.Aa
def FD:A5 Kt where
 sz:=2
 ag:=true
 rd:=λ_ _ cs x=>cs=x.v∧x.ok
 len:=λ⟨b,_⟩=>by rw[b];rfl
 one:=λ{_ _ _ x} ⟨b,_⟩ v a=>by
  rw[b] at a;simp only[Kt.v,Aay,Abc,Abn] at a;rcases a with rfl|rfl<;>rfl
 mono:=λb _ _=>b
def FD.ex {S a v}{x:Kt}(k:Rd S a FD v x):v= .agg #[.int .i64 x.Ar,.int .i64 x.Aa]∧x.ok:=by obtain⟨_,rfl,rfl,a⟩:=k;exact⟨rfl,a⟩
def FD.mk {S h}{x:Kt}(k:x.ok):Rd S h FD (.agg #[.int .i64 x.Ar,.int .i64 x.Aa]) x:=⟨x.v,rfl,rfl,k⟩
structure E4 where
 Ap:Int
 Bh:Int
 Bd:Int
 E:Int
instance:Inhabited E4:=⟨⟨default,default,default,default⟩⟩
@[reducible] def E4.v (x:E4):List Go.Value:=[.int .i64 x.Ap,.int .i64 x.Bh,.int .i64 x.Bd,.int .i64 x.E]
def E4.ok (x:E4):Prop:=AA x.Ap∧AA x.Bh∧AA x.Bd∧AA x.E
def DE:A5 E4 where
 sz:=4
 ag:=true
 rd:=λ_ _ cs x=>cs=x.v∧x.ok
 len:=λ⟨b,_⟩=>by rw[b];rfl
 one:=λ{_ _ _ x} ⟨b,_⟩ v a=>by
  rw[b] at a;simp only[E4.v,Aay,Abc,Abn] at a;rcases a with rfl|rfl|rfl|rfl<;>rfl
 mono:=λb _ _=>b
def DE.ex {S a v}{x:E4}(k:Rd S a DE v x):v= .agg #[.int .i64 x.Ap,.int .i64 x.Bh,.int .i64 x.Bd,.int .i64 x.E]∧x.ok:=by obtain⟨_,rfl,rfl,a⟩:=k;exact⟨rfl,a⟩
def DE.mk {S h}{x:E4}(k:x.ok):Rd S h DE (.agg #[.int .i64 x.Ap,.int .i64 x.Bh,.int .i64 x.Bd,.int .i64 x.E]) x:=⟨x.v,rfl,rfl,k⟩
def Pg:Fd DE 1 AB (·.Bh):=by
 rintro S d cs x ⟨rfl,⟨k0,a,b,c⟩⟩;exact⟨rfl,a⟩
def E4.f_Litres:Fd DE 2 AB (·.Bd):=by
 rintro S d cs x ⟨rfl,⟨k0,b,a,c⟩⟩;exact⟨rfl,a⟩
def E4.f_To:Fd DE 3 AB (·.E):=by
 rintro S d cs x ⟨rfl,⟨k0,b,c,a⟩⟩;exact⟨rfl,a⟩
structure Ih where
 Ap:Int
 M:Int
 E:Int
 Bd:Int
instance:Inhabited Ih:=⟨⟨default,default,default,default⟩⟩
@[reducible] def Ih.v (x:Ih):List Go.Value:=[.int .i64 x.Ap,.int .i64 x.M,.int .i64 x.E,.int .i64 x.Bd]
def Ih.ok (x:Ih):Prop:=AA x.Ap∧AA x.M∧AA x.E∧AA x.Bd
def Da:A5 Ih where
 sz:=4
 ag:=true
 rd:=λ_ _ cs x=>cs=x.v∧x.ok
 len:=λ⟨b,_⟩=>by rw[b];rfl
 one:=λ{_ _ _ x} ⟨b,_⟩ v a=>by
  rw[b] at a;simp only[Ih.v,Aay,Abc,Abn] at a;rcases a with rfl|rfl|rfl|rfl<;>rfl
 mono:=λb _ _=>b
def Da.ex {S a v}{x:Ih}(k:Rd S a Da v x):v= .agg #[.int .i64 x.Ap,.int .i64 x.M,.int .i64 x.E,.int .i64 x.Bd]∧x.ok:=by obtain⟨_,rfl,rfl,a⟩:=k;exact⟨rfl,a⟩
def Da.mk {S h}{x:Ih}(k:x.ok):Rd S h Da (.agg #[.int .i64 x.Ap,.int .i64 x.M,.int .i64 x.E,.int .i64 x.Bd]) x:=⟨x.v,rfl,rfl,k⟩
def Ih.f_To:Fd Da 2 AB (·.E):=by
 rintro S d cs x ⟨rfl,⟨k0,b,a,c⟩⟩;exact⟨rfl,a⟩
def Ih.f_Litres:Fd Da 3 AB (·.Bd):=by
 rintro S d cs x ⟨rfl,⟨k0,b,c,a⟩⟩;exact⟨rfl,a⟩
structure By where
 T:(List Int)
 Ab:(List Gj)
 Ac:(List Kt)
 U:(List E4)
 Ae:(List Ih)
instance:Inhabited By:=⟨⟨default,default,default,default,default⟩⟩
def CZ:A5 By where
 sz:=5
 ag:=true
 rd:=λS m cs x=>∃a v1 b c d:Value,cs=[a,v1,b,c,d]∧Sl S m AB a x.T∧Sl S m Cm v1 x.Ab∧Sl S m FD b x.Ac∧Sl S m DE c x.U∧Sl S m Da d x.Ae
 len:=λ⟨_,_,_,_,_,m,_⟩=>by rw[m];rfl
 one:=by
  rintro S m cs x ⟨a,v1,b,c,d,rfl,k0,g,i,j,k⟩ v l;simp only[Aay,Abc,Abn] at l;rcases l with rfl|rfl|rfl|rfl|rfl<;>first|rfl|exact Sl.one ‹_› |exact(‹_∧_›).2|(obtain ⟨_,_,rfl,_⟩:=Rd.fn ‹_›;rfl)|(obtain ⟨_,_,rfl,_⟩:=Rd.fnr ‹_›;rfl)
 mono:=by
  rintro S S' m h' cs x ⟨a,v1,b,c,d,rfl,k0,g,i,j,k⟩ s e;exact⟨a,v1,b,c,d,rfl,k0.mono s e,g.mono s e,i.mono s e,j.mono s e,k.mono s e⟩
def CZ.ex {S h v}{x:By}(k:Rd S h CZ v x):∃a v1 b c d:Value,v= .agg #[a,v1,b,c,d]∧Sl S h AB a x.T∧Sl S h Cm v1 x.Ab∧Sl S h FD b x.Ac∧Sl S h DE c x.U∧Sl S h Da d x.Ae:=by obtain⟨_,rfl,a,v1,b,c,d,rfl,k⟩:=k;exact⟨a,v1,b,c,d,rfl,k⟩
def CZ.mk {S h}{x:By}{a v1 b c d:Value}(k0:Sl S h AB a x.T) (g:Sl S h Cm v1 x.Ab) (i:Sl S h FD b x.Ac) (j:Sl S h DE c x.U) (k:Sl S h Da d x.Ae):Rd S h CZ (.agg #[a,v1,b,c,d]) x:=⟨_,rfl,a,v1,b,c,d,rfl,k0,g,i,j,k⟩
def By.f_Rain:Fd CZ 0 (A5.sl AB) (·.T):=by
 rintro S l cs x ⟨a,v1,b,c,d,rfl,k0,g,i,j,k⟩;exact⟨_,rfl,k0⟩
def Kh:Fd CZ 1 (A5.sl Cm) (·.Ab):=by
 rintro S l cs x ⟨b,v1,c,d,g,rfl,k0,a,i,j,k⟩;exact⟨_,rfl,a⟩
def Lh:Fd CZ 2 (A5.sl FD) (·.Ac):=by
 rintro S l cs x ⟨b,v1,c,d,g,rfl,k0,i,a,j,k⟩;exact⟨_,rfl,a⟩
def LH:Fd CZ 3 (A5.sl DE) (·.U):=by
 rintro S l cs x ⟨b,v1,c,d,g,rfl,k0,i,j,a,k⟩;exact⟨_,rfl,a⟩
def LI:Fd CZ 4 (A5.sl Da) (·.Ae):=by
 rintro S l cs x ⟨b,v1,c,d,g,rfl,k0,i,j,k,a⟩;exact⟨_,rfl,a⟩
def By.u_Rain:L7 CZ 0 (A5.sl AB) (λx y=>{ x with T:=y}):=by
 refine⟨by decide,?_⟩;rintro S p c x vs y ⟨o,a,b,d,g,rfl,k0,i,j,k,l⟩ ⟨m,rfl,n⟩;exact⟨m,a,b,d,g,rfl,n,i,j,k,l⟩
structure DC where
 a:(List Int)
 b:(List Int)
instance:Inhabited DC:=⟨⟨default,default⟩⟩
def EK:A5 DC where
 sz:=2
 ag:=true
 rd:=λS i cs x=>∃c v1:Value,cs=[c,v1]∧Sl S i AB c x.a∧Sl S i AB v1 x.b
 len:=λ⟨_,_,i,_⟩=>by rw[i];rfl
 one:=by
  rintro S i cs x ⟨c,v1,rfl,k0,d⟩ v g;simp only[Aay,Abc,Abn] at g;rcases g with rfl|rfl<;>first|rfl|exact Sl.one ‹_› |exact(‹_∧_›).2|(obtain ⟨_,_,rfl,_⟩:=Rd.fn ‹_›;rfl)|(obtain ⟨_,_,rfl,_⟩:=Rd.fnr ‹_›;rfl)
 mono:=by
  rintro S S' i h' cs x ⟨c,v1,rfl,k0,d⟩ s e;exact⟨c,v1,rfl,k0.mono s e,d.mono s e⟩
def EK.ex {S h v}{x:DC}(k:Rd S h EK v x):∃c v1:Value,v= .agg #[c,v1]∧Sl S h AB c x.a∧Sl S h AB v1 x.b:=by obtain⟨_,rfl,c,v1,rfl,k⟩:=k;exact⟨c,v1,rfl,k⟩
def EK.mk {S h}{x:DC}{c v1:Value}(k0:Sl S h AB c x.a) (d:Sl S h AB v1 x.b):Rd S h EK (.agg #[c,v1]) x:=⟨_,rfl,c,v1,rfl,k0,d⟩
def DC.f_a:Fd EK 0 (A5.sl AB) (·.a):=by
 rintro S d cs x ⟨b,v1,rfl,k0,c⟩;exact⟨_,rfl,k0⟩
def DC.f_b:Fd EK 1 (A5.sl AB) (·.b):=by
 rintro S d cs x ⟨c,v1,rfl,k0,a⟩;exact⟨_,rfl,a⟩
structure Jj where
 a:(List Gj)
 b:(List Gj)
instance:Inhabited Jj:=⟨⟨default,default⟩⟩
def Kb:A5 Jj where
 sz:=2
 ag:=true
 rd:=λS i cs x=>∃c v1:Value,cs=[c,v1]∧Sl S i Cm c x.a∧Sl S i Cm v1 x.b
 len:=λ⟨_,_,i,_⟩=>by rw[i];rfl
 one:=by
  rintro S i cs x ⟨c,v1,rfl,k0,d⟩ v g;simp only[Aay,Abc,Abn] at g;rcases g with rfl|rfl<;>first|rfl|exact Sl.one ‹_› |exact(‹_∧_›).2|(obtain ⟨_,_,rfl,_⟩:=Rd.fn ‹_›;rfl)|(obtain ⟨_,_,rfl,_⟩:=Rd.fnr ‹_›;rfl)
 mono:=by
  rintro S S' i h' cs x ⟨c,v1,rfl,k0,d⟩ s e;exact⟨c,v1,rfl,k0.mono s e,d.mono s e⟩
def Kb.ex {S h v}{x:Jj}(k:Rd S h Kb v x):∃c v1:Value,v= .agg #[c,v1]∧Sl S h Cm c x.a∧Sl S h Cm v1 x.b:=by obtain⟨_,rfl,c,v1,rfl,k⟩:=k;exact⟨c,v1,rfl,k⟩
def Kb.mk {S h}{x:Jj}{c v1:Value}(k0:Sl S h Cm c x.a) (d:Sl S h Cm v1 x.b):Rd S h Kb (.agg #[c,v1]) x:=⟨_,rfl,c,v1,rfl,k0,d⟩
def Jj.f_a:Fd Kb 0 (A5.sl Cm) (·.a):=by
 rintro S d cs x ⟨b,v1,rfl,k0,c⟩;exact⟨_,rfl,k0⟩
def Jj.f_b:Fd Kb 1 (A5.sl Cm) (·.b):=by
 rintro S d cs x ⟨c,v1,rfl,k0,a⟩;exact⟨_,rfl,a⟩
structure Mt where
 a:(List Kt)
 b:(List Kt)
instance:Inhabited Mt:=⟨⟨default,default⟩⟩
def NA:A5 Mt where
 sz:=2
 ag:=true
 rd:=λS i cs x=>∃c v1:Value,cs=[c,v1]∧Sl S i FD c x.a∧Sl S i FD v1 x.b
 len:=λ⟨_,_,i,_⟩=>by rw[i];rfl
 one:=by
  rintro S i cs x ⟨c,v1,rfl,k0,d⟩ v g;simp only[Aay,Abc,Abn] at g;rcases g with rfl|rfl<;>first|rfl|exact Sl.one ‹_› |exact(‹_∧_›).2|(obtain ⟨_,_,rfl,_⟩:=Rd.fn ‹_›;rfl)|(obtain ⟨_,_,rfl,_⟩:=Rd.fnr ‹_›;rfl)
 mono:=by
  rintro S S' i h' cs x ⟨c,v1,rfl,k0,d⟩ s e;exact⟨c,v1,rfl,k0.mono s e,d.mono s e⟩
def NA.ex {S h v}{x:Mt}(k:Rd S h NA v x):∃c v1:Value,v= .agg #[c,v1]∧Sl S h FD c x.a∧Sl S h FD v1 x.b:=by obtain⟨_,rfl,c,v1,rfl,k⟩:=k;exact⟨c,v1,rfl,k⟩
def NA.mk {S h}{x:Mt}{c v1:Value}(k0:Sl S h FD c x.a) (d:Sl S h FD v1 x.b):Rd S h NA (.agg #[c,v1]) x:=⟨_,rfl,c,v1,rfl,k0,d⟩
def Mt.f_a:Fd NA 0 (A5.sl FD) (·.a):=by
 rintro S d cs x ⟨b,v1,rfl,k0,c⟩;exact⟨_,rfl,k0⟩
def Mt.f_b:Fd NA 1 (A5.sl FD) (·.b):=by
 rintro S d cs x ⟨c,v1,rfl,k0,a⟩;exact⟨_,rfl,a⟩
structure Kr where
 a:(List E4)
 b:(List E4)
instance:Inhabited Kr:=⟨⟨default,default⟩⟩
def Lf:A5 Kr where
 sz:=2
 ag:=true
 rd:=λS i cs x=>∃c v1:Value,cs=[c,v1]∧Sl S i DE c x.a∧Sl S i DE v1 x.b
 len:=λ⟨_,_,i,_⟩=>by rw[i];rfl
 one:=by
  rintro S i cs x ⟨c,v1,rfl,k0,d⟩ v g;simp only[Aay,Abc,Abn] at g;rcases g with rfl|rfl<;>first|rfl|exact Sl.one ‹_› |exact(‹_∧_›).2|(obtain ⟨_,_,rfl,_⟩:=Rd.fn ‹_›;rfl)|(obtain ⟨_,_,rfl,_⟩:=Rd.fnr ‹_›;rfl)
 mono:=by
  rintro S S' i h' cs x ⟨c,v1,rfl,k0,d⟩ s e;exact⟨c,v1,rfl,k0.mono s e,d.mono s e⟩
def Lf.ex {S h v}{x:Kr}(k:Rd S h Lf v x):∃c v1:Value,v= .agg #[c,v1]∧Sl S h DE c x.a∧Sl S h DE v1 x.b:=by obtain⟨_,rfl,c,v1,rfl,k⟩:=k;exact⟨c,v1,rfl,k⟩
def Lf.mk {S h}{x:Kr}{c v1:Value}(k0:Sl S h DE c x.a) (d:Sl S h DE v1 x.b):Rd S h Lf (.agg #[c,v1]) x:=⟨_,rfl,c,v1,rfl,k0,d⟩
def Kr.f_a:Fd Lf 0 (A5.sl DE) (·.a):=by
 rintro S d cs x ⟨b,v1,rfl,k0,c⟩;exact⟨_,rfl,k0⟩
def Kr.f_b:Fd Lf 1 (A5.sl DE) (·.b):=by
 rintro S d cs x ⟨c,v1,rfl,k0,a⟩;exact⟨_,rfl,a⟩
structure Ks where
 a:(List Ih)
 b:(List Ih)
instance:Inhabited Ks:=⟨⟨default,default⟩⟩
def Lg:A5 Ks where
 sz:=2
 ag:=true
 rd:=λS i cs x=>∃c v1:Value,cs=[c,v1]∧Sl S i Da c x.a∧Sl S i Da v1 x.b
 len:=λ⟨_,_,i,_⟩=>by rw[i];rfl
 one:=by
  rintro S i cs x ⟨c,v1,rfl,k0,d⟩ v g;simp only[Aay,Abc,Abn] at g;rcases g with rfl|rfl<;>first|rfl|exact Sl.one ‹_› |exact(‹_∧_›).2|(obtain ⟨_,_,rfl,_⟩:=Rd.fn ‹_›;rfl)|(obtain ⟨_,_,rfl,_⟩:=Rd.fnr ‹_›;rfl)
 mono:=by
  rintro S S' i h' cs x ⟨c,v1,rfl,k0,d⟩ s e;exact⟨c,v1,rfl,k0.mono s e,d.mono s e⟩
def Lg.ex {S h v}{x:Ks}(k:Rd S h Lg v x):∃c v1:Value,v= .agg #[c,v1]∧Sl S h Da c x.a∧Sl S h Da v1 x.b:=by obtain⟨_,rfl,c,v1,rfl,k⟩:=k;exact⟨c,v1,rfl,k⟩
def Lg.mk {S h}{x:Ks}{c v1:Value}(k0:Sl S h Da c x.a) (d:Sl S h Da v1 x.b):Rd S h Lg (.agg #[c,v1]) x:=⟨_,rfl,c,v1,rfl,k0,d⟩
def Ks.f_a:Fd Lg 0 (A5.sl Da) (·.a):=by
 rintro S d cs x ⟨b,v1,rfl,k0,c⟩;exact⟨_,rfl,k0⟩
def Ks.f_b:Fd Lg 1 (A5.sl Da) (·.b):=by
 rintro S d cs x ⟨c,v1,rfl,k0,a⟩;exact⟨_,rfl,a⟩
structure AT where
 B:Int
 M:Int
 E:Int
 Be:Int
 W:(List Int)
instance:Inhabited AT:=⟨⟨default,default,default,default,default⟩⟩
def B7:A5 AT where
 sz:=5
 ag:=true
 rd:=λS j cs x=>∃a:Value,cs=[.int .i64 x.B,.int .i64 x.M,.int .i64 x.E,.int .i64 x.Be,a]∧AA x.B∧AA x.M∧AA x.E∧AA x.Be∧Sl S j AB a x.W
 len:=λ⟨_,j,_⟩=>by rw[j];rfl
 one:=by
  rintro S j cs x ⟨a,rfl,k0,b,c,d,g⟩ v i;simp only[Aay,Abc,Abn] at i;rcases i with rfl|rfl|rfl|rfl|rfl<;>first|rfl|exact Sl.one ‹_› |exact(‹_∧_›).2|(obtain ⟨_,_,rfl,_⟩:=Rd.fn ‹_›;rfl)|(obtain ⟨_,_,rfl,_⟩:=Rd.fnr ‹_›;rfl)
 mono:=by
  rintro S S' j h' cs x ⟨a,rfl,k0,b,c,d,g⟩ s e;exact⟨a,rfl,k0,b,c,d,g.mono s e⟩
def B7.ex {S h v}{x:AT}(k:Rd S h B7 v x):∃a:Value,v= .agg #[.int .i64 x.B,.int .i64 x.M,.int .i64 x.E,.int .i64 x.Be,a]∧AA x.B∧AA x.M∧AA x.E∧AA x.Be∧Sl S h AB a x.W:=by obtain⟨_,rfl,a,rfl,k⟩:=k;exact⟨a,rfl,k⟩
def B7.mk {S h}{x:AT}{a:Value}(k0:AA x.B) (b:AA x.M) (c:AA x.E) (d:AA x.Be) (g:Sl S h AB a x.W):Rd S h B7 (.agg #[.int .i64 x.B,.int .i64 x.M,.int .i64 x.E,.int .i64 x.Be,a]) x:=⟨_,rfl,a,rfl,k0,b,c,d,g⟩
def AT.f_Hour:Fd B7 0 AB (·.B):=by
 rintro S i cs x ⟨a,rfl,k0,b,c,d,g⟩;exact⟨rfl,k0⟩
def AT.f_To:Fd B7 2 AB (·.E):=by
 rintro S i cs x ⟨b,rfl,k0,c,a,d,g⟩;exact⟨rfl,a⟩
def AT.f_Part:Fd B7 4 (A5.sl AB) (·.W):=by
 rintro S i cs x ⟨b,rfl,k0,c,d,g,a⟩;exact⟨_,rfl,a⟩
def AT.u_Part:L7 B7 4 (A5.sl AB) (λx y=>{ x with W:=y}):=by
 refine⟨by decide,?_⟩;rintro S l c x vs y ⟨j,rfl,k0,a,b,d,k⟩ ⟨g,rfl,i⟩;exact⟨g,rfl,k0,a,b,d,i⟩
structure AK where
 b:AF
 in_:By
 s:AN
 moves:(List AT)
 peaks:(List Int)
 sent:(List AV)
instance:Inhabited AK:=⟨⟨default,default,default,default,default,default⟩⟩
def L6:A5 AK where
 sz:=26
 ag:=true
 rd:=λS h cs x=>∃v1 u w y z F M Q a c d g i j k l m n o p q t:Value,cs=[.string x.b.D,v1,.int .i64 x.b.J,u,w,y,z,F,M,Q,.int .i64 x.b.K,a,c,d,g,i,.int .i64 x.s.B,j,k,l,m,n,o,p,q,t]∧x.b.D.size≤maxLen∧Sl S h A5.str v1 x.b.H∧AA x.b.J∧Sl S h BY u x.b.A∧Sl S h B8 w x.b.C∧Sl S h G7 y x.b.Af∧Sl S h Eg z x.b.Ah∧Sl S h Gr F x.b.Ai∧Sl S h DM M x.b.Ak∧Sl S h AB Q x.b.Aj∧AA x.b.K∧Sl S h AB a x.in_.T∧Sl S h Cm c x.in_.Ab∧Sl S h FD d x.in_.Ac∧Sl S h DE g x.in_.U∧Sl S h Da i x.in_.Ae∧AA x.s.B∧Sl S h (A5.sl AB) j x.s.G∧Sl S h AB k x.s.N∧Sl S h AX l x.s.I∧Sl S h BQ m x.s.R∧Sl S h AB n x.s.L∧Sl S h AB o x.s.O∧Sl S h B7 p x.moves∧Sl S h AB q x.peaks∧Sl S h AX t x.sent
 len:=λ⟨_,_,_,_,_,_,_,_,_,_,_,_,_,_,_,_,_,_,_,_,_,_,h,_⟩=>by rw[h];rfl
 one:=by
  rintro S h cs x ⟨v1,u,w,y,z,F,M,Q,a,c,d,g,i,j,k,l,m,n,o,p,q,t,rfl,k0,k1,k2,k3,k4,k5,k6,k7,k8,k9,V,W,X,Y,Z,aa,ab,ac,ad,ae,af,ah,ai,aj,ak,al⟩ v hv;simp only[Aay,Abc,Abn] at hv;rcases hv with rfl|rfl|rfl|rfl|rfl|rfl|rfl|rfl|rfl|rfl|rfl|rfl|rfl|rfl|rfl|rfl|rfl|rfl|rfl|rfl|rfl|rfl|rfl|rfl|rfl|rfl<;>first|rfl|exact Sl.one ‹_› |exact(‹_∧_›).2|(obtain ⟨_,_,rfl,_⟩:=Rd.fn ‹_›;rfl)|(obtain ⟨_,_,rfl,_⟩:=Rd.fnr ‹_›;rfl)
 mono:=by
  rintro S S' h h' cs x ⟨v1,u,w,y,z,F,M,Q,a,c,d,g,i,j,k,l,m,n,o,p,q,t,rfl,k0,k1,k2,k3,k4,k5,k6,k7,k8,k9,V,W,X,Y,Z,aa,ab,ac,ad,ae,af,ah,ai,aj,ak,al⟩ s e;exact⟨v1,u,w,y,z,F,M,Q,a,c,d,g,i,j,k,l,m,n,o,p,q,t,rfl,k0,k1.mono s e,k2,k3.mono s e,k4.mono s e,k5.mono s e,k6.mono s e,k7.mono s e,k8.mono s e,k9.mono s e,V,W.mono s e,X.mono s e,Y.mono s e,Z.mono s e,aa.mono s e,ab,ac.mono s e,ad.mono s e,ae.mono s e,af.mono s e,ah.mono s e,ai.mono s e,aj.mono s e,ak.mono s e,al.mono s e⟩
def L6.ex {S h v}{x:AK}(k:Rd S h L6 v x):∃v1 w y z F M Q V a c d g i j l m n o p q t u:Value,v= .agg #[.string x.b.D,v1,.int .i64 x.b.J,w,y,z,F,M,Q,V,.int .i64 x.b.K,a,c,d,g,i,.int .i64 x.s.B,j,l,m,n,o,p,q,t,u]∧x.b.D.size≤maxLen∧Sl S h A5.str v1 x.b.H∧AA x.b.J∧Sl S h BY w x.b.A∧Sl S h B8 y x.b.C∧Sl S h G7 z x.b.Af∧Sl S h Eg F x.b.Ah∧Sl S h Gr M x.b.Ai∧Sl S h DM Q x.b.Ak∧Sl S h AB V x.b.Aj∧AA x.b.K∧Sl S h AB a x.in_.T∧Sl S h Cm c x.in_.Ab∧Sl S h FD d x.in_.Ac∧Sl S h DE g x.in_.U∧Sl S h Da i x.in_.Ae∧AA x.s.B∧Sl S h (A5.sl AB) j x.s.G∧Sl S h AB l x.s.N∧Sl S h AX m x.s.I∧Sl S h BQ n x.s.R∧Sl S h AB o x.s.L∧Sl S h AB p x.s.O∧Sl S h B7 q x.moves∧Sl S h AB t x.peaks∧Sl S h AX u x.sent:=by obtain⟨_,rfl,v1,w,y,z,F,M,Q,V,a,c,d,g,i,j,l,m,n,o,p,q,t,u,rfl,k⟩:=k;exact⟨v1,w,y,z,F,M,Q,V,a,c,d,g,i,j,l,m,n,o,p,q,t,u,rfl,k⟩
def L6.mk {S h}{x:AK}{v1 u v w y z F M a c d g i j k l m n o p q t:Value}(k0:x.b.D.size≤maxLen) (k1:Sl S h A5.str v1 x.b.H) (k2:AA x.b.J) (k3:Sl S h BY u x.b.A) (k4:Sl S h B8 v x.b.C) (k5:Sl S h G7 w x.b.Af) (k6:Sl S h Eg y x.b.Ah) (k7:Sl S h Gr z x.b.Ai) (k8:Sl S h DM F x.b.Ak) (k9:Sl S h AB M x.b.Aj) (Q:AA x.b.K) (V:Sl S h AB a x.in_.T) (W:Sl S h Cm c x.in_.Ab) (X:Sl S h FD d x.in_.Ac) (Y:Sl S h DE g x.in_.U) (Z:Sl S h Da i x.in_.Ae) (aa:AA x.s.B) (ab:Sl S h (A5.sl AB) j x.s.G) (ac:Sl S h AB k x.s.N) (ad:Sl S h AX l x.s.I) (ae:Sl S h BQ m x.s.R) (af:Sl S h AB n x.s.L) (ag:Sl S h AB o x.s.O) (ah:Sl S h B7 p x.moves) (ai:Sl S h AB q x.peaks) (aj:Sl S h AX t x.sent):Rd S h L6 (.agg #[.string x.b.D,v1,.int .i64 x.b.J,u,v,w,y,z,F,M,.int .i64 x.b.K,a,c,d,g,i,.int .i64 x.s.B,j,k,l,m,n,o,p,q,t]) x:=⟨_,rfl,v1,u,v,w,y,z,F,M,a,c,d,g,i,j,k,l,m,n,o,p,q,t,rfl,k0,k1,k2,k3,k4,k5,k6,k7,k8,k9,Q,V,W,X,Y,Z,aa,ab,ac,ad,ae,af,ag,ah,ai,aj⟩
def AK.f_b:Fd L6 0 BZ (·.b):=by
 rintro S h cs x ⟨v1,v3,v4,v5,v6,v7,v8,v9,c,d,g,i,j,k,l,m,n,o,p,q,s,t,rfl,k0,u,v,w,y,z,A,B,C,D,a,F,G,H,I,J,K,M,Q,U,V,W,X,Y,Z,aa⟩;exact⟨_,_,_,_,_,_,_,_,rfl,k0,u,v,w,y,z,A,B,C,D,a⟩
structure AC where
 to_:Int
 delay:Int
 way:Int
 take:((List Int)→Option ((List Int)×(List Int)))
instance:Inhabited AC:=⟨⟨default,default,default,default⟩⟩
def AW:A5 AC where
 sz:=4
 ag:=true
 rd:=λS k cs x=>∃a:Value,cs=[.int .i64 x.to_,.int .i64 x.delay,.int .i64 x.way,a]∧AA x.to_∧AA x.delay∧AA x.way∧Rd S k (A5.fnr prog (λS k vs (x:(List Int))=>∃b:Value,vs=[b]∧Sl S k AB b x) (λS k v (y:((List Int)×(List Int)))=>∃b c:Value,v= .tuple #[b,c]∧Sl S k AB b y.1∧Sl S k AB c y.2)) a x.take
 len:=λ⟨_,k,_⟩=>by rw[k];rfl
 one:=by
  rintro S k cs x ⟨a,rfl,k0,d,g,i⟩ v j;simp only[Aay,Abc,Abn] at j;rcases j with rfl|rfl|rfl|rfl<;>first|rfl|exact Sl.one ‹_› |exact(‹_∧_›).2|(obtain ⟨_,_,rfl,_⟩:=Rd.fn ‹_›;rfl)|(obtain ⟨_,_,rfl,_⟩:=Rd.fnr ‹_›;rfl)
 mono:=by
  rintro S S' k h' cs x ⟨a,rfl,k0,d,g,i⟩ s e;exact⟨a,rfl,k0,d,g,i.mono'' s e⟩
def AW.ex {S d v}{x:AC}(k:Rd S d AW v x):∃b:Value,v= .agg #[.int .i64 x.to_,.int .i64 x.delay,.int .i64 x.way,b]∧AA x.to_∧AA x.delay∧AA x.way∧Rd S d (A5.fnr prog (λS d vs (x:(List Int))=>∃a:Value,vs=[a]∧Sl S d AB a x) (λS d v (y:((List Int)×(List Int)))=>∃a c:Value,v= .tuple #[a,c]∧Sl S d AB a y.1∧Sl S d AB c y.2)) b x.take:=by obtain⟨_,rfl,b,rfl,k⟩:=k;exact⟨b,rfl,k⟩
def AW.mk {S j}{x:AC}{b:Value}(k0:AA x.to_) (d:AA x.delay) (g:AA x.way) (i:Rd S j (A5.fnr prog (λS j vs (x:(List Int))=>∃a:Value,vs=[a]∧Sl S j AB a x) (λS j v (y:((List Int)×(List Int)))=>∃a c:Value,v= .tuple #[a,c]∧Sl S j AB a y.1∧Sl S j AB c y.2)) b x.take):Rd S j AW (.agg #[.int .i64 x.to_,.int .i64 x.delay,.int .i64 x.way,b]) x:=⟨_,rfl,b,rfl,k0,d,g,i⟩
def LZ:Fd AW 0 AB (·.to_):=by
 rintro S g cs x ⟨a,rfl,k0,b,c,d⟩;exact⟨rfl,k0⟩
def Ms:Fd AW 1 AB (·.delay):=by
 rintro S g cs x ⟨b,rfl,k0,a,c,d⟩;exact⟨rfl,a⟩
def Nb:Fd AW 2 AB (·.way):=by
 rintro S g cs x ⟨b,rfl,k0,c,a,d⟩;exact⟨rfl,a⟩
def M2:Fd AW 3 (A5.fnr prog (λS m vs (x:(List Int))=>∃a:Value,vs=[a]∧Sl S m AB a x) (λS m v (y:((List Int)×(List Int)))=>∃a b:Value,v= .tuple #[a,b]∧Sl S m AB a y.1∧Sl S m AB b y.2)) (·.take):=by
 rintro S m cs x ⟨j,rfl,k0,k,l,c⟩;obtain⟨_,rfl,d,g,rfl,i⟩:=c;exact⟨d,g,rfl,i⟩
structure BJ where
 Bs:Int
 Bt:Int
 Bu:Int
 L:By
 Bl:(List Int)
instance:Inhabited BJ:=⟨⟨default,default,default,default,default⟩⟩
def DL:A5 BJ where
 sz:=9
 ag:=true
 rd:=λS u cs x=>∃a b c d g i:Value,cs=[.int .i64 x.Bs,.int .i64 x.Bt,.int .i64 x.Bu,a,b,c,d,g,i]∧AA x.Bs∧AA x.Bt∧AA x.Bu∧Sl S u AB a x.L.T∧Sl S u Cm b x.L.Ab∧Sl S u FD c x.L.Ac∧Sl S u DE d x.L.U∧Sl S u Da g x.L.Ae∧Sl S u AB i x.Bl
 len:=λ⟨_,_,_,_,_,_,u,_⟩=>by rw[u];rfl
 one:=by
  rintro S u cs x ⟨a,b,c,d,g,i,rfl,k0,j,k,l,m,n,o,p,q⟩ v t;simp only[Aay,Abc,Abn] at t;rcases t with rfl|rfl|rfl|rfl|rfl|rfl|rfl|rfl|rfl<;>first|rfl|exact Sl.one ‹_› |exact(‹_∧_›).2|(obtain ⟨_,_,rfl,_⟩:=Rd.fn ‹_›;rfl)|(obtain ⟨_,_,rfl,_⟩:=Rd.fnr ‹_›;rfl)
 mono:=by
  rintro S S' u h' cs x ⟨a,b,c,d,g,i,rfl,k0,j,k,l,m,n,o,p,q⟩ s e;exact⟨a,b,c,d,g,i,rfl,k0,j,k,l.mono s e,m.mono s e,n.mono s e,o.mono s e,p.mono s e,q.mono s e⟩
def DL.ex {S h v}{x:BJ}(k:Rd S h DL v x):∃a b c d g i:Value,v= .agg #[.int .i64 x.Bs,.int .i64 x.Bt,.int .i64 x.Bu,a,b,c,d,g,i]∧AA x.Bs∧AA x.Bt∧AA x.Bu∧Sl S h AB a x.L.T∧Sl S h Cm b x.L.Ab∧Sl S h FD c x.L.Ac∧Sl S h DE d x.L.U∧Sl S h Da g x.L.Ae∧Sl S h AB i x.Bl:=by obtain⟨_,rfl,a,b,c,d,g,i,rfl,k⟩:=k;exact⟨a,b,c,d,g,i,rfl,k⟩
def DL.mk {S h}{x:BJ}{a b c d g i:Value}(k0:AA x.Bs) (j:AA x.Bt) (k:AA x.Bu) (l:Sl S h AB a x.L.T) (m:Sl S h Cm b x.L.Ab) (n:Sl S h FD c x.L.Ac) (o:Sl S h DE d x.L.U) (p:Sl S h Da g x.L.Ae) (q:Sl S h AB i x.Bl):Rd S h DL (.agg #[.int .i64 x.Bs,.int .i64 x.Bt,.int .i64 x.Bu,a,b,c,d,g,i]) x:=⟨_,rfl,a,b,c,d,g,i,rfl,k0,j,k,l,m,n,o,p,q⟩
def BJ.f_In:Fd DL 3 CZ (·.L):=by
 rintro S s cs x ⟨i,j,k,l,m,n,rfl,k0,o,p,a,b,c,d,g,q⟩;exact⟨_,_,_,_,_,rfl,a,b,c,d,g⟩
def NE:Fd DL 8 (A5.sl AB) (·.Bl):=by
 rintro S s cs x ⟨b,c,d,g,i,j,rfl,k0,k,l,m,n,o,p,q,a⟩;exact⟨_,rfl,a⟩
def M6:ByteArray:=ByteArray.mk #[0,1,2,2,3,3,3,3,4,4,4,4,4,4,4,4,5,5,5,5,5,5,5,5,5,5,5,5,5,5,5,5,6,6,6,6,6,6,6,6,6,6,6,6,6,6,6,6,6,6,6,6,6,6,6,6,6,6,6,6,6,6,6,6,7,7,7,7,7,7,7,7,7,7,7,7,7,7,7,7,7,7,7,7,7,7,7,7,7,7,7,7,7,7,7,7,7,7,7,7,7,7,7,7,7,7,7,7,7,7,7,7,7,7,7,7,7,7,7,7,7,7,7,7,7,7,7,7,8,8,8,8,8,8,8,8,8,8,8,8,8,8,8,8,8,8,8,8,8,8,8,8,8,8,8,8,8,8,8,8,8,8,8,8,8,8,8,8,8,8,8,8,8,8,8,8,8,8,8,8,8,8,8,8,8,8,8,8,8,8,8,8,8,8,8,8,8,8,8,8,8,8,8,8,8,8,8,8,8,8,8,8,8,8,8,8,8,8,8,8,8,8,8,8,8,8,8,8,8,8,8,8,8,8,8,8,8,8,8,8,8,8,8,8,8,8,8,8,8,8,8,8,8,8,8,8]
def PE:List Ca:=([(⟨(ByteArray.mk #[112]),0,2,1000,([(⟨0,0⟩:BU)]:List BU),([100]:List Int),1,10,(-1),0,0,[]⟩:Ca)]:List Ca)
end Go.Proofs.YtabonambpbofgaaGreat
