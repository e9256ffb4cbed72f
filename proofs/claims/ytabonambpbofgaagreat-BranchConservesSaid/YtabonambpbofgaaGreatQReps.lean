import Derived.Test.YtabonambpbofgaaGreatQCore31
import Derived.Test.YtabonambpbofgaaGreatQSortD
import Derived.Test.YtabonambpbofgaaGreatRows
namespace Go.Proofs.YtabonambpbofgaaGreat
set_option linter.all false
open Go.RowKit
open Go.Proofs.Tryz
variable {C H a b c d g j k l m n o p t u w y:Value}
structure B3 where
 R:Int
 X:Int
instance:Inhabited B3:=⟨⟨default,default⟩⟩
@[reducible] def B3.v (x:B3):List Go.Value:=[.int .i64 x.R,.int .i64 x.X]
def B3.ok(x:B3):Prop:=AB x.R/\AB x.X
def CH:A9 B3 where
 sz:=2
 ag:=true
 rd:=λ_ _ cs x=>cs=x.v/\x.ok
 len:=λ⟨b,_⟩=>by rw[b];rfl
 one:=λ{_ _ _ x} ⟨b,_⟩ v a=>by
  rw[b]at a;simp only[B3.v,Agv,Aha,Ahp]at a;rcases a with rfl|rfl<;>rfl
 mono:=λb _ _=>b
def CH.ex{S a v}{x:B3}(k:Rd S a CH v x):v= .agg #[.int .i64 x.R,.int .i64 x.X]/\x.ok:=by obtain⟨_,rfl,rfl,a⟩:=k;exact⟨rfl,a⟩
def CH.mk{S h}{x:B3}(k:x.ok):Rd S h CH (.agg #[.int .i64 x.R,.int .i64 x.X]) x:=⟨x.v,rfl,rfl,k⟩
def Zb:FB CH 0 AC (·.R):=by
 rintro S b cs x⟨rfl,⟨k0,a⟩⟩;exact⟨rfl,k0⟩
def VG:FB CH 1 AC (·.X):=by
 rintro S b cs x⟨rfl,⟨k0,a⟩⟩;exact⟨rfl,a⟩
structure Mf where
 Bg:Int
 Bp:Int
instance:Inhabited Mf:=⟨⟨default,default⟩⟩
@[reducible] def Mf.v (x:Mf):List Go.Value:=[.int .i64 x.Bg,.int .i64 x.Bp]
def Mf.ok(x:Mf):Prop:=AB x.Bg/\AB x.Bp
def Kt:A9 Mf where
 sz:=2
 ag:=true
 rd:=λ_ _ cs x=>cs=x.v/\x.ok
 len:=λ⟨b,_⟩=>by rw[b];rfl
 one:=λ{_ _ _ x} ⟨b,_⟩ v a=>by
  rw[b]at a;simp only[Mf.v,Agv,Aha,Ahp]at a;rcases a with rfl|rfl<;>rfl
 mono:=λb _ _=>b
def Kt.ex{S a v}{x:Mf}(k:Rd S a Kt v x):v= .agg #[.int .i64 x.Bg,.int .i64 x.Bp]/\x.ok:=by obtain⟨_,rfl,rfl,a⟩:=k;exact⟨rfl,a⟩
def Kt.mk{S h}{x:Mf}(k:x.ok):Rd S h Kt (.agg #[.int .i64 x.Bg,.int .i64 x.Bp]) x:=⟨x.v,rfl,rfl,k⟩
structure Ce where
 G:ByteArray
 H:Int
 At:Int
 Au:Int
 Bk:(List B3)
 An:xq
 Y:Int
 T:Int
 Ao:Int
 S:Int
 Bh:Int
 U:(List Mf)
instance:Inhabited Ce:=⟨⟨default,default,default,default,default,default,default,default,default,default,default,default⟩⟩
def B4:A9 Ce where
 sz:=12
 ag:=true
 rd:=λS u cs x=>∃b c a:Value,cs=[.string x.G,.int .i64 x.H,.int .i64 x.At,.int .i64 x.Au,b,c,.int .i64 x.Y,.int .i64 x.T,.int .i64 x.Ao,.int .i64 x.S,.int .i64 x.Bh,a]/\x.G.size<=maxLen/\AB x.H/\AB x.At/\AB x.Au/\Sl S u CH b x.Bk/\Sl S u AC c x.An/\AB x.Y/\AB x.T/\AB x.Ao/\AB x.S/\AB x.Bh/\Sl S u Kt a x.U
 len:=λ⟨_,_,_,u,_⟩=>by rw[u];rfl
 one:=by
  rintro S u cs x⟨b,c,a,rfl,k0,i,j,k,l,m,n,o,p,q,d,g⟩ v t;simp only[Agv,Aha,Ahp]at t;rcases t with rfl|rfl|rfl|rfl|rfl|rfl|rfl|rfl|rfl|rfl|rfl|rfl<;>first|rfl|exact Sl.one ‹_› |exact(‹_/\_›).2|(obtain ⟨_,_,rfl,_⟩:=Rd.fn ‹_›;rfl)|(obtain ⟨_,_,rfl,_⟩:=Rd.fnr ‹_›;rfl)
 mono:=by
  rintro S S' u h' cs x ⟨b,c,a,rfl,k0,i,j,k,l,m,n,o,p,q,d,g⟩ s e;exact⟨b,c,a,rfl,k0,i,j,k,l.mono s e,m.mono s e,n,o,p,q,d,g.mono s e⟩
def B4.ex{S h v}{x:Ce}(k:Rd S h B4 v x):∃b c a:Value,v= .agg #[.string x.G,.int .i64 x.H,.int .i64 x.At,.int .i64 x.Au,b,c,.int .i64 x.Y,.int .i64 x.T,.int .i64 x.Ao,.int .i64 x.S,.int .i64 x.Bh,a]/\x.G.size<=maxLen/\AB x.H/\AB x.At/\AB x.Au/\Sl S h CH b x.Bk/\Sl S h AC c x.An/\AB x.Y/\AB x.T/\AB x.Ao/\AB x.S/\AB x.Bh/\Sl S h Kt a x.U:=by obtain⟨_,rfl,b,c,a,rfl,k⟩:=k;exact⟨b,c,a,rfl,k⟩
def B4.mk{S h}{x:Ce}(k0:x.G.size<=maxLen)(i:AB x.H)(j:AB x.At)(k:AB x.Au)(l:Sl S h CH b x.Bk)(m:Sl S h AC c x.An)(n:AB x.Y)(o:AB x.T)(p:AB x.Ao)(q:AB x.S)(d:AB x.Bh)(g:Sl S h Kt a x.U):Rd S h B4 (.agg #[.string x.G,.int .i64 x.H,.int .i64 x.At,.int .i64 x.Au,b,c,.int .i64 x.Y,.int .i64 x.T,.int .i64 x.Ao,.int .i64 x.S,.int .i64 x.Bh,a]) x:=⟨_,rfl,b,c,a,rfl,k0,i,j,k,l,m,n,o,p,q,d,g⟩
def Ce.f_Name:FB B4 0 A9.str (·.G):=by
 rintro S s cs x⟨d,g,a,rfl,k0,i,j,k,l,m,n,o,p,q,b,c⟩;exact⟨rfl,k0⟩
def Ce.f_Kind:FB B4 1 AC (·.H):=by
 rintro S s cs x⟨g,i,a,rfl,k0,b,j,k,l,m,n,o,p,q,c,d⟩;exact⟨rfl,b⟩
def PY:FB B4 2 AC (·.At):=by
 rintro S s cs x⟨g,i,a,rfl,k0,j,b,k,l,m,n,o,p,q,c,d⟩;exact⟨rfl,b⟩
def Qd:FB B4 4 (A9.sl CH) (·.Bk):=by
 rintro S s cs x⟨g,i,a,rfl,k0,j,k,l,b,m,n,o,p,q,c,d⟩;exact⟨_,rfl,b⟩
def Qc:FB B4 5 (A9.sl AC) (·.An):=by
 rintro S s cs x⟨g,i,a,rfl,k0,j,k,l,m,b,n,o,p,q,c,d⟩;exact⟨_,rfl,b⟩
def Ce.f_Num:FB B4 6 AC (·.Y):=by
 rintro S s cs x⟨g,i,a,rfl,k0,j,k,l,m,n,b,o,p,q,c,d⟩;exact⟨rfl,b⟩
def Ce.f_Den:FB B4 7 AC (·.T):=by
 rintro S s cs x⟨g,i,a,rfl,k0,j,k,l,m,n,o,b,p,q,c,d⟩;exact⟨rfl,b⟩
def Ce.f_Rain:FB B4 11 (A9.sl Kt) (·.U):=by
 rintro S s cs x⟨d,g,b,rfl,k0,i,j,k,l,m,n,o,p,q,c,a⟩;exact⟨_,rfl,a⟩
def VI:NQ B4 4 (A9.sl CH) (λx y=>{ x with Bk:=y}):=by
 refine⟨by decide,?_⟩;rintro S v c x vs y⟨t,d,g,rfl,k0,i,j,k,u,l,m,n,o,p,a,b⟩ ⟨q,rfl,s⟩;exact⟨q,d,g,rfl,k0,i,j,k,s,l,m,n,o,p,a,b⟩
def VH:NQ B4 5 (A9.sl AC) (λx y=>{ x with An:=y}):=by
 refine⟨by decide,?_⟩;rintro S v c x vs y⟨d,t,g,rfl,k0,i,j,k,l,u,m,n,o,p,a,b⟩ ⟨q,rfl,s⟩;exact⟨d,q,g,rfl,k0,i,j,k,l,s,m,n,o,p,a,b⟩
def Ce.u_Rain:NQ B4 11 (A9.sl Kt) (λx y=>{ x with U:=y}):=by
 refine⟨by decide,?_⟩;rintro S v c x vs y⟨g,i,u,rfl,k0,j,k,l,m,n,o,p,q,s,a,t⟩ ⟨b,rfl,d⟩;exact⟨g,i,b,rfl,k0,j,k,l,m,n,o,p,q,s,a,d⟩
structure Mh where
 Aw:(List B3)
 Ax:(List B3)
instance:Inhabited Mh:=⟨⟨default,default⟩⟩
def L3:A9 Mh where
 sz:=2
 ag:=true
 rd:=λS d cs x=>∃a v1:Value,cs=[a,v1]/\Sl S d CH a x.Aw/\Sl S d CH v1 x.Ax
 len:=λ⟨_,_,d,_⟩=>by rw[d];rfl
 one:=by
  rintro S d cs x⟨a,v1,rfl,k0,b⟩ v c;simp only[Agv,Aha,Ahp]at c;rcases c with rfl|rfl<;>first|rfl|exact Sl.one ‹_› |exact(‹_/\_›).2|(obtain ⟨_,_,rfl,_⟩:=Rd.fn ‹_›;rfl)|(obtain ⟨_,_,rfl,_⟩:=Rd.fnr ‹_›;rfl)
 mono:=by
  rintro S S' d h' cs x ⟨a,v1,rfl,k0,b⟩ s e;exact⟨a,v1,rfl,k0.mono s e,b.mono s e⟩
def L3.ex{S h v}{x:Mh}(k:Rd S h L3 v x):∃a v1:Value,v= .agg #[a,v1]/\Sl S h CH a x.Aw/\Sl S h CH v1 x.Ax:=by obtain⟨_,rfl,a,v1,rfl,k⟩:=k;exact⟨a,v1,rfl,k⟩
def L3.mk{S h}{x:Mh}{v1:Value}(k0:Sl S h CH a x.Aw)(b:Sl S h CH v1 x.Ax):Rd S h L3 (.agg #[a,v1]) x:=⟨_,rfl,a,v1,rfl,k0,b⟩
def PQ:FB L3 0 (A9.sl CH) (·.Aw):=by
 rintro S c cs x⟨a,v1,rfl,k0,b⟩;exact⟨_,rfl,k0⟩
def PR:FB L3 1 (A9.sl CH) (·.Ax):=by
 rintro S c cs x⟨b,v1,rfl,k0,a⟩;exact⟨_,rfl,a⟩
def Zc:NQ L3 0 (A9.sl CH) (λx y=>{ x with Aw:=y}):=by
 refine⟨by decide,?_⟩;rintro S j c x vs y⟨i,a,rfl,k0,b⟩ ⟨d,rfl,g⟩;exact⟨d,a,rfl,g,b⟩
def Zd:NQ L3 1 (A9.sl CH) (λx y=>{ x with Ax:=y}):=by
 refine⟨by decide,?_⟩;rintro S j c x vs y⟨a,g,rfl,k0,i⟩ ⟨b,rfl,d⟩;exact⟨a,b,rfl,k0,d⟩
structure BG where
 G:ByteArray
 H:Int
 J:Int
 C:Int
 As:(List B3)
 Ae:Mh
 W:Int
 Ag:Int
 Bb:Int
 Bc:Int
 Y:Int
 T:Int
 Az:Int
 Ba:Int
 Aq:Int
 Al:Int
 S:Int
instance:Inhabited BG:=⟨⟨default,default,default,default,default,default,default,default,default,default,default,default,default,default,default,default,default⟩⟩
def CD:A9 BG where
 sz:=18
 ag:=true
 rd:=λS D cs x=>∃a b c:Value,cs=[.string x.G,.int .i64 x.H,.int .i64 x.J,.int .i64 x.C,a,b,c,.int .i64 x.W,.int .i64 x.Ag,.int .i64 x.Bb,.int .i64 x.Bc,.int .i64 x.Y,.int .i64 x.T,.int .i64 x.Az,.int .i64 x.Ba,.int .i64 x.Aq,.int .i64 x.Al,.int .i64 x.S]/\x.G.size<=maxLen/\AB x.H/\AB x.J/\AB x.C/\Sl S D CH a x.As/\Sl S D CH b x.Ae.Aw/\Sl S D CH c x.Ae.Ax/\AB x.W/\AB x.Ag/\AB x.Bb/\AB x.Bc/\AB x.Y/\AB x.T/\AB x.Az/\AB x.Ba/\AB x.Aq/\AB x.Al/\AB x.S
 len:=λ⟨_,_,_,D,_⟩=>by rw[D];rfl
 one:=by
  rintro S D cs x⟨a,b,c,rfl,k0,o,p,q,t,u,w,y,z,A,d,g,i,j,k,l,m,n⟩ v B;simp only[Agv,Aha,Ahp]at B;rcases B with rfl|rfl|rfl|rfl|rfl|rfl|rfl|rfl|rfl|rfl|rfl|rfl|rfl|rfl|rfl|rfl|rfl|rfl<;>first|rfl|exact Sl.one ‹_› |exact(‹_/\_›).2|(obtain ⟨_,_,rfl,_⟩:=Rd.fn ‹_›;rfl)|(obtain ⟨_,_,rfl,_⟩:=Rd.fnr ‹_›;rfl)
 mono:=by
  rintro S S' D h' cs x ⟨a,b,c,rfl,k0,o,p,q,t,u,w,y,z,A,d,g,i,j,k,l,m,n⟩ s e;exact⟨a,b,c,rfl,k0,o,p,q,t.mono s e,u.mono s e,w.mono s e,y,z,A,d,g,i,j,k,l,m,n⟩
def CD.ex{S h v}{x:BG}(k:Rd S h CD v x):∃a b c:Value,v= .agg #[.string x.G,.int .i64 x.H,.int .i64 x.J,.int .i64 x.C,a,b,c,.int .i64 x.W,.int .i64 x.Ag,.int .i64 x.Bb,.int .i64 x.Bc,.int .i64 x.Y,.int .i64 x.T,.int .i64 x.Az,.int .i64 x.Ba,.int .i64 x.Aq,.int .i64 x.Al,.int .i64 x.S]/\x.G.size<=maxLen/\AB x.H/\AB x.J/\AB x.C/\Sl S h CH a x.As/\Sl S h CH b x.Ae.Aw/\Sl S h CH c x.Ae.Ax/\AB x.W/\AB x.Ag/\AB x.Bb/\AB x.Bc/\AB x.Y/\AB x.T/\AB x.Az/\AB x.Ba/\AB x.Aq/\AB x.Al/\AB x.S:=by obtain⟨_,rfl,a,b,c,rfl,k⟩:=k;exact⟨a,b,c,rfl,k⟩
def CD.mk{S h}{x:BG}(k0:x.G.size<=maxLen)(o:AB x.H)(p:AB x.J)(q:AB x.C)(s:Sl S h CH a x.As)(t:Sl S h CH b x.Ae.Aw)(u:Sl S h CH c x.Ae.Ax)(v:AB x.W)(w:AB x.Ag)(y:AB x.Bb)(d:AB x.Bc)(g:AB x.Y)(i:AB x.T)(j:AB x.Az)(k:AB x.Ba)(l:AB x.Aq)(m:AB x.Al)(n:AB x.S):Rd S h CD (.agg #[.string x.G,.int .i64 x.H,.int .i64 x.J,.int .i64 x.C,a,b,c,.int .i64 x.W,.int .i64 x.Ag,.int .i64 x.Bb,.int .i64 x.Bc,.int .i64 x.Y,.int .i64 x.T,.int .i64 x.Az,.int .i64 x.Ba,.int .i64 x.Aq,.int .i64 x.Al,.int .i64 x.S]) x:=⟨_,rfl,a,b,c,rfl,k0,o,p,q,s,t,u,v,w,y,d,g,i,j,k,l,m,n⟩
def BG.f_Name:FB CD 0 A9.str (·.G):=by
 rintro S z cs x⟨l,m,n,rfl,k0,o,p,q,s,t,u,v,w,y,a,b,c,d,g,i,j,k⟩;exact⟨rfl,k0⟩
def BG.f_Kind:FB CD 1 AC (·.H):=by
 rintro S z cs x⟨m,n,o,rfl,k0,a,p,q,s,t,u,v,w,y,b,c,d,g,i,j,k,l⟩;exact⟨rfl,a⟩
def BG.f_From:FB CD 2 AC (·.J):=by
 rintro S z cs x⟨m,n,o,rfl,k0,p,a,q,s,t,u,v,w,y,b,c,d,g,i,j,k,l⟩;exact⟨rfl,a⟩
def BG.f_To:FB CD 3 AC (·.C):=by
 rintro S z cs x⟨m,n,o,rfl,k0,p,q,a,s,t,u,v,w,y,b,c,d,g,i,j,k,l⟩;exact⟨rfl,a⟩
def LT:FB CD 4 (A9.sl CH) (·.As):=by
 rintro S z cs x⟨m,n,o,rfl,k0,p,q,s,a,t,u,v,w,y,b,c,d,g,i,j,k,l⟩;exact⟨_,rfl,a⟩
def Iu:FB CD 5 L3 (·.Ae):=by
 rintro S z cs x⟨n,o,p,rfl,k0,q,s,t,u,a,b,v,w,y,c,d,g,i,j,k,l,m⟩;exact⟨_,_,rfl,a,b⟩
def Gz:FB CD 7 AC (·.W):=by
 rintro S z cs x⟨m,n,o,rfl,k0,p,q,s,t,u,v,a,w,y,b,c,d,g,i,j,k,l⟩;exact⟨rfl,a⟩
def Lj:FB CD 8 AC (·.Ag):=by
 rintro S z cs x⟨m,n,o,rfl,k0,p,q,s,t,u,v,w,a,y,b,c,d,g,i,j,k,l⟩;exact⟨rfl,a⟩
def PP:FB CD 9 AC (·.Bb):=by
 rintro S z cs x⟨m,n,o,rfl,k0,p,q,s,t,u,v,w,y,a,b,c,d,g,i,j,k,l⟩;exact⟨rfl,a⟩
def Of:FB CD 10 AC (·.Bc):=by
 rintro S z cs x⟨l,m,n,rfl,k0,o,p,q,s,t,u,v,w,y,a,b,c,d,g,i,j,k⟩;exact⟨rfl,a⟩
def BG.f_Num:FB CD 11 AC (·.Y):=by
 rintro S z cs x⟨l,m,n,rfl,k0,o,p,q,s,t,u,v,w,y,b,a,c,d,g,i,j,k⟩;exact⟨rfl,a⟩
def BG.f_Den:FB CD 12 AC (·.T):=by
 rintro S z cs x⟨l,m,n,rfl,k0,o,p,q,s,t,u,v,w,y,b,c,a,d,g,i,j,k⟩;exact⟨rfl,a⟩
def RL:FB CD 13 AC (·.Az):=by
 rintro S z cs x⟨l,m,n,rfl,k0,o,p,q,s,t,u,v,w,y,b,c,d,a,g,i,j,k⟩;exact⟨rfl,a⟩
def RM:FB CD 14 AC (·.Ba):=by
 rintro S z cs x⟨l,m,n,rfl,k0,o,p,q,s,t,u,v,w,y,b,c,d,g,a,i,j,k⟩;exact⟨rfl,a⟩
def Kl:FB CD 15 AC (·.Aq):=by
 rintro S z cs x⟨l,m,n,rfl,k0,o,p,q,s,t,u,v,w,y,b,c,d,g,i,a,j,k⟩;exact⟨rfl,a⟩
def Km:FB CD 16 AC (·.Al):=by
 rintro S z cs x⟨l,m,n,rfl,k0,o,p,q,s,t,u,v,w,y,b,c,d,g,i,j,a,k⟩;exact⟨rfl,a⟩
def XS:NQ CD 4 (A9.sl CH) (λx y=>{ x with As:=y}):=by
 refine⟨by decide,?_⟩;rintro S D c x vs y⟨B,m,n,rfl,k0,o,p,q,C,s,t,u,v,w,a,b,d,g,i,j,k,l⟩ ⟨z,rfl,A⟩;exact⟨z,m,n,rfl,k0,o,p,q,A,s,t,u,v,w,a,b,d,g,i,j,k,l⟩
def sC:NQ CD 5 L3 (λx y=>{ x with Ae:=y}):=by
 refine⟨by decide,?_⟩;rintro S G c x vs y⟨m,B,C,rfl,k0,n,o,p,q,D,F,s,t,u,a,b,d,g,i,j,k,l⟩ ⟨v,w,rfl,z,A⟩;exact⟨m,v,w,rfl,k0,n,o,p,q,z,A,s,t,u,a,b,d,g,i,j,k,l⟩
structure Li where
 G:ByteArray
 Ap:Int
 Bq:Int
 Bo:Int
 Bv:Int
 Br:Int
 Bn:Int
instance:Inhabited Li:=⟨⟨default,default,default,default,default,default,default⟩⟩
@[reducible] def Li.v (x:Li):List Go.Value:=[.string x.G,.int .i64 x.Ap,.int .i64 x.Bq,.int .i64 x.Bo,.int .i64 x.Bv,.int .i64 x.Br,.int .i64 x.Bn]
def Li.ok(x:Li):Prop:=x.G.size<=maxLen/\AB x.Ap/\AB x.Bq/\AB x.Bo/\AB x.Bv/\AB x.Br/\AB x.Bn
def Hj:A9 Li where
 sz:=7
 ag:=true
 rd:=λ_ _ cs x=>cs=x.v/\x.ok
 len:=λ⟨b,_⟩=>by rw[b];rfl
 one:=λ{_ _ _ x} ⟨b,_⟩ v a=>by
  rw[b]at a;simp only[Li.v,Agv,Aha,Ahp]at a;rcases a with rfl|rfl|rfl|rfl|rfl|rfl|rfl<;>rfl
 mono:=λb _ _=>b
def Hj.ex{S a v}{x:Li}(k:Rd S a Hj v x):v= .agg #[.string x.G,.int .i64 x.Ap,.int .i64 x.Bq,.int .i64 x.Bo,.int .i64 x.Bv,.int .i64 x.Br,.int .i64 x.Bn]/\x.ok:=by obtain⟨_,rfl,rfl,a⟩:=k;exact⟨rfl,a⟩
def Hj.mk{S h}{x:Li}(k:x.ok):Rd S h Hj (.agg #[.string x.G,.int .i64 x.Ap,.int .i64 x.Bq,.int .i64 x.Bo,.int .i64 x.Bv,.int .i64 x.Br,.int .i64 x.Bn]) x:=⟨x.v,rfl,rfl,k⟩
def Li.f_Name:FB Hj 0 A9.str (·.G):=by
 rintro S j cs x⟨rfl,⟨k0,a,b,c,d,g,i⟩⟩;exact⟨rfl,k0⟩
structure Jm where
 G:ByteArray
 H:Int
 Aa:Int
 M:Int
 Bs:Int
instance:Inhabited Jm:=⟨⟨default,default,default,default,default⟩⟩
@[reducible] def Jm.v (x:Jm):List Go.Value:=[.string x.G,.int .i64 x.H,.int .i64 x.Aa,.int .i64 x.M,.int .i64 x.Bs]
def Jm.ok(x:Jm):Prop:=x.G.size<=maxLen/\AB x.H/\AB x.Aa/\AB x.M/\AB x.Bs
def E7:A9 Jm where
 sz:=5
 ag:=true
 rd:=λ_ _ cs x=>cs=x.v/\x.ok
 len:=λ⟨b,_⟩=>by rw[b];rfl
 one:=λ{_ _ _ x} ⟨b,_⟩ v a=>by
  rw[b]at a;simp only[Jm.v,Agv,Aha,Ahp]at a;rcases a with rfl|rfl|rfl|rfl|rfl<;>rfl
 mono:=λb _ _=>b
def E7.ex{S a v}{x:Jm}(k:Rd S a E7 v x):v= .agg #[.string x.G,.int .i64 x.H,.int .i64 x.Aa,.int .i64 x.M,.int .i64 x.Bs]/\x.ok:=by obtain⟨_,rfl,rfl,a⟩:=k;exact⟨rfl,a⟩
def E7.mk{S h}{x:Jm}(k:x.ok):Rd S h E7 (.agg #[.string x.G,.int .i64 x.H,.int .i64 x.Aa,.int .i64 x.M,.int .i64 x.Bs]) x:=⟨x.v,rfl,rfl,k⟩
def Jm.f_Name:FB E7 0 A9.str (·.G):=by
 rintro S g cs x⟨rfl,⟨k0,a,b,c,d⟩⟩;exact⟨rfl,k0⟩
def Jm.f_Kind:FB E7 1 AC (·.H):=by
 rintro S g cs x⟨rfl,⟨k0,a,b,c,d⟩⟩;exact⟨rfl,a⟩
def Jm.f_Err:FB E7 3 AC (·.M):=by
 rintro S g cs x⟨rfl,⟨k0,b,c,a,d⟩⟩;exact⟨rfl,a⟩
structure LU where
 G:ByteArray
 J:Int
 C:Int
 Bw:Int
 Bx:Int
 Bj:Int
 Bl:Int
instance:Inhabited LU:=⟨⟨default,default,default,default,default,default,default⟩⟩
@[reducible] def LU.v (x:LU):List Go.Value:=[.string x.G,.int .i64 x.J,.int .i64 x.C,.int .i64 x.Bw,.int .i64 x.Bx,.int .i64 x.Bj,.int .i64 x.Bl]
def LU.ok(x:LU):Prop:=x.G.size<=maxLen/\AB x.J/\AB x.C/\AB x.Bw/\AB x.Bx/\AB x.Bj/\AB x.Bl
def HC:A9 LU where
 sz:=7
 ag:=true
 rd:=λ_ _ cs x=>cs=x.v/\x.ok
 len:=λ⟨b,_⟩=>by rw[b];rfl
 one:=λ{_ _ _ x} ⟨b,_⟩ v a=>by
  rw[b]at a;simp only[LU.v,Agv,Aha,Ahp]at a;rcases a with rfl|rfl|rfl|rfl|rfl|rfl|rfl<;>rfl
 mono:=λb _ _=>b
def HC.ex{S a v}{x:LU}(k:Rd S a HC v x):v= .agg #[.string x.G,.int .i64 x.J,.int .i64 x.C,.int .i64 x.Bw,.int .i64 x.Bx,.int .i64 x.Bj,.int .i64 x.Bl]/\x.ok:=by obtain⟨_,rfl,rfl,a⟩:=k;exact⟨rfl,a⟩
def HC.mk{S h}{x:LU}(k:x.ok):Rd S h HC (.agg #[.string x.G,.int .i64 x.J,.int .i64 x.C,.int .i64 x.Bw,.int .i64 x.Bx,.int .i64 x.Bj,.int .i64 x.Bl]) x:=⟨x.v,rfl,rfl,k⟩
def LU.f_Name:FB HC 0 A9.str (·.G):=by
 rintro S j cs x⟨rfl,⟨k0,a,b,c,d,g,i⟩⟩;exact⟨rfl,k0⟩
def LU.f_From:FB HC 1 AC (·.J):=by
 rintro S j cs x⟨rfl,⟨k0,a,b,c,d,g,i⟩⟩;exact⟨rfl,a⟩
def LU.f_To:FB HC 2 AC (·.C):=by
 rintro S j cs x⟨rfl,⟨k0,b,a,c,d,g,i⟩⟩;exact⟨rfl,a⟩
structure HD where
 G:ByteArray
 Aj:Int
instance:Inhabited HD:=⟨⟨default,default⟩⟩
@[reducible] def HD.v (x:HD):List Go.Value:=[.string x.G,.int .i64 x.Aj]
def HD.ok(x:HD):Prop:=x.G.size<=maxLen/\AB x.Aj
def Db:A9 HD where
 sz:=2
 ag:=true
 rd:=λ_ _ cs x=>cs=x.v/\x.ok
 len:=λ⟨b,_⟩=>by rw[b];rfl
 one:=λ{_ _ _ x} ⟨b,_⟩ v a=>by
  rw[b]at a;simp only[HD.v,Agv,Aha,Ahp]at a;rcases a with rfl|rfl<;>rfl
 mono:=λb _ _=>b
def Db.ex{S a v}{x:HD}(k:Rd S a Db v x):v= .agg #[.string x.G,.int .i64 x.Aj]/\x.ok:=by obtain⟨_,rfl,rfl,a⟩:=k;exact⟨rfl,a⟩
def Db.mk{S h}{x:HD}(k:x.ok):Rd S h Db (.agg #[.string x.G,.int .i64 x.Aj]) x:=⟨x.v,rfl,rfl,k⟩
def HD.f_Name:FB Db 0 A9.str (·.G):=by
 rintro S b cs x⟨rfl,⟨k0,a⟩⟩;exact⟨rfl,k0⟩
def HD.f_Room:FB Db 1 AC (·.Aj):=by
 rintro S b cs x⟨rfl,⟨k0,a⟩⟩;exact⟨rfl,a⟩
structure AF where
 G:ByteArray
 I:(List ByteArray)
 L:Int
 A:(List Ce)
 E:(List BG)
 Af:(List Li)
 Ah:(List Jm)
 Ai:(List LU)
 Ak:(List HD)
 Aj:xq
 M:Int
instance:Inhabited AF:=⟨⟨default,default,default,default,default,default,default,default,default,default,default⟩⟩
def Bz:A9 AF where
 sz:=11
 ag:=true
 rd:=λS z cs x=>∃v1 a b c d g i j:Value,cs=[.string x.G,v1,.int .i64 x.L,a,b,c,d,g,i,j,.int .i64 x.M]/\x.G.size<=maxLen/\Sl S z A9.str v1 x.I/\AB x.L/\Sl S z B4 a x.A/\Sl S z CD b x.E/\Sl S z Hj c x.Af/\Sl S z E7 d x.Ah/\Sl S z HC g x.Ai/\Sl S z Db i x.Ak/\Sl S z AC j x.Aj/\AB x.M
 len:=λ⟨_,_,_,_,_,_,_,_,z,_⟩=>by rw[z];rfl
 one:=by
  rintro S z cs x⟨v1,a,b,c,d,g,i,j,rfl,k0,l,m,n,o,p,q,t,u,w,k⟩ v y;simp only[Agv,Aha,Ahp]at y;rcases y with rfl|rfl|rfl|rfl|rfl|rfl|rfl|rfl|rfl|rfl|rfl<;>first|rfl|exact Sl.one ‹_› |exact(‹_/\_›).2|(obtain ⟨_,_,rfl,_⟩:=Rd.fn ‹_›;rfl)|(obtain ⟨_,_,rfl,_⟩:=Rd.fnr ‹_›;rfl)
 mono:=by
  rintro S S' z h' cs x ⟨v1,a,b,c,d,g,i,j,rfl,k0,l,m,n,o,p,q,t,u,w,k⟩ s e;exact⟨v1,a,b,c,d,g,i,j,rfl,k0,l.mono s e,m,n.mono s e,o.mono s e,p.mono s e,q.mono s e,t.mono s e,u.mono s e,w.mono s e,k⟩
def Bz.ex{S h v}{x:AF}(k:Rd S h Bz v x):∃v1 a b c d g i j:Value,v= .agg #[.string x.G,v1,.int .i64 x.L,a,b,c,d,g,i,j,.int .i64 x.M]/\x.G.size<=maxLen/\Sl S h A9.str v1 x.I/\AB x.L/\Sl S h B4 a x.A/\Sl S h CD b x.E/\Sl S h Hj c x.Af/\Sl S h E7 d x.Ah/\Sl S h HC g x.Ai/\Sl S h Db i x.Ak/\Sl S h AC j x.Aj/\AB x.M:=by obtain⟨_,rfl,v1,a,b,c,d,g,i,j,rfl,k⟩:=k;exact⟨v1,a,b,c,d,g,i,j,rfl,k⟩
def Bz.mk{S h}{x:AF}{v1 i:Value}(k0:x.G.size<=maxLen)(l:Sl S h A9.str v1 x.I)(m:AB x.L)(n:Sl S h B4 a x.A)(o:Sl S h CD b x.E)(p:Sl S h Hj c x.Af)(q:Sl S h E7 d x.Ah)(s:Sl S h HC g x.Ai)(t:Sl S h Db i x.Ak)(u:Sl S h AC j x.Aj)(k:AB x.M):Rd S h Bz (.agg #[.string x.G,v1,.int .i64 x.L,a,b,c,d,g,i,j,.int .i64 x.M]) x:=⟨_,rfl,v1,a,b,c,d,g,i,j,rfl,k0,l,m,n,o,p,q,s,t,u,k⟩
def AF.f_Name:FB Bz 0 A9.str (·.G):=by
 rintro S v cs x⟨v1,b,c,d,g,i,j,k,rfl,k0,l,m,n,o,p,q,s,t,u,a⟩;exact⟨rfl,k0⟩
def Ij:FB Bz 1 (A9.sl A9.str) (·.I):=by
 rintro S v cs x⟨v1,c,d,g,i,j,k,l,rfl,k0,a,m,n,o,p,q,s,t,u,b⟩;exact⟨_,rfl,a⟩
def OH:FB Bz 2 AC (·.L):=by
 rintro S v cs x⟨v1,c,d,g,i,j,k,l,rfl,k0,m,a,n,o,p,q,s,t,u,b⟩;exact⟨rfl,a⟩
def Ck:FB Bz 3 (A9.sl B4) (·.A):=by
 rintro S v cs x⟨v1,c,d,g,i,j,k,l,rfl,k0,m,n,a,o,p,q,s,t,u,b⟩;exact⟨_,rfl,a⟩
def Hu:FB Bz 4 (A9.sl CD) (·.E):=by
 rintro S v cs x⟨v1,c,d,g,i,j,k,l,rfl,k0,m,n,o,a,p,q,s,t,u,b⟩;exact⟨_,rfl,a⟩
def LC:FB Bz 5 (A9.sl Hj) (·.Af):=by
 rintro S v cs x⟨v1,c,d,g,i,j,k,l,rfl,k0,m,n,o,p,a,q,s,t,u,b⟩;exact⟨_,rfl,a⟩
def Lr:FB Bz 6 (A9.sl E7) (·.Ah):=by
 rintro S v cs x⟨v1,c,d,g,i,j,k,l,rfl,k0,m,n,o,p,q,a,s,t,u,b⟩;exact⟨_,rfl,a⟩
def Mg:FB Bz 7 (A9.sl HC) (·.Ai):=by
 rintro S v cs x⟨v1,c,d,g,i,j,k,l,rfl,k0,m,n,o,p,q,s,a,t,u,b⟩;exact⟨_,rfl,a⟩
def Ky:FB Bz 8 (A9.sl Db) (·.Ak):=by
 rintro S v cs x⟨v1,c,d,g,i,j,k,l,rfl,k0,m,n,o,p,q,s,t,a,u,b⟩;exact⟨_,rfl,a⟩
def AF.f_Room:FB Bz 9 (A9.sl AC) (·.Aj):=by
 rintro S v cs x⟨v1,c,d,g,i,j,k,l,rfl,k0,m,n,o,p,q,s,t,u,a,b⟩;exact⟨_,rfl,a⟩
def AF.f_Err:FB Bz 10 AC (·.M):=by
 rintro S v cs x⟨v1,b,c,d,g,i,j,k,rfl,k0,l,m,n,o,p,q,s,t,u,a⟩;exact⟨rfl,a⟩
structure AY where
 Av:Int
 C:Int
 N:xq
instance:Inhabited AY:=⟨⟨default,default,default⟩⟩
def A5:A9 AY where
 sz:=3
 ag:=true
 rd:=λS g cs x=>∃a:Value,cs=[.int .i64 x.Av,.int .i64 x.C,a]/\AB x.Av/\AB x.C/\Sl S g AC a x.N
 len:=λ⟨_,g,_⟩=>by rw[g];rfl
 one:=by
  rintro S g cs x⟨a,rfl,k0,b,c⟩ v d;simp only[Agv,Aha,Ahp]at d;rcases d with rfl|rfl|rfl<;>first|rfl|exact Sl.one ‹_› |exact(‹_/\_›).2|(obtain ⟨_,_,rfl,_⟩:=Rd.fn ‹_›;rfl)|(obtain ⟨_,_,rfl,_⟩:=Rd.fnr ‹_›;rfl)
 mono:=by
  rintro S S' g h' cs x ⟨a,rfl,k0,b,c⟩ s e;exact⟨a,rfl,k0,b,c.mono s e⟩
def A5.ex{S h v}{x:AY}(k:Rd S h A5 v x):∃a:Value,v= .agg #[.int .i64 x.Av,.int .i64 x.C,a]/\AB x.Av/\AB x.C/\Sl S h AC a x.N:=by obtain⟨_,rfl,a,rfl,k⟩:=k;exact⟨a,rfl,k⟩
def A5.mk{S h}{x:AY}(k0:AB x.Av)(b:AB x.C)(c:Sl S h AC a x.N):Rd S h A5 (.agg #[.int .i64 x.Av,.int .i64 x.C,a]) x:=⟨_,rfl,a,rfl,k0,b,c⟩
def AY.f_To:FB A5 1 AC (·.C):=by
 rintro S d cs x⟨b,rfl,k0,a,c⟩;exact⟨rfl,a⟩
def AY.f_Part:FB A5 2 (A9.sl AC) (·.N):=by
 rintro S d cs x⟨b,rfl,k0,c,a⟩;exact⟨_,rfl,a⟩
def AY.u_Part:NQ A5 2 (A9.sl AC) (λx y=>{ x with N:=y}):=by
 refine⟨by decide,?_⟩;rintro S j c x vs y⟨g,rfl,k0,a,i⟩ ⟨b,rfl,d⟩;exact⟨b,rfl,k0,a,d⟩
structure A8 where
 Z:Int
 Aa:Int
 Ay:Bool
 Am:Bool
instance:Inhabited A8:=⟨⟨default,default,default,default⟩⟩
@[reducible] def A8.v (x:A8):List Go.Value:=[.int .i64 x.Z,.int .i64 x.Aa,.bool x.Ay,.bool x.Am]
def A8.ok(x:A8):Prop:=AB x.Z/\AB x.Aa
def BZ:A9 A8 where
 sz:=4
 ag:=true
 rd:=λ_ _ cs x=>cs=x.v/\x.ok
 len:=λ⟨b,_⟩=>by rw[b];rfl
 one:=λ{_ _ _ x} ⟨b,_⟩ v a=>by
  rw[b]at a;simp only[A8.v,Agv,Aha,Ahp]at a;rcases a with rfl|rfl|rfl|rfl<;>rfl
 mono:=λb _ _=>b
def BZ.ex{S a v}{x:A8}(k:Rd S a BZ v x):v= .agg #[.int .i64 x.Z,.int .i64 x.Aa,.bool x.Ay,.bool x.Am]/\x.ok:=by obtain⟨_,rfl,rfl,a⟩:=k;exact⟨rfl,a⟩
def BZ.mk{S h}{x:A8}(k:x.ok):Rd S h BZ (.agg #[.int .i64 x.Z,.int .i64 x.Aa,.bool x.Ay,.bool x.Am]) x:=⟨x.v,rfl,rfl,k⟩
def Th:FB BZ 0 AC (·.Z):=by
 rintro S b cs x⟨rfl,⟨k0,a⟩⟩;exact⟨rfl,k0⟩
def XT:FB BZ 3 A9.bool (·.Am):=by
 rintro S b cs x⟨rfl,⟨k0,a⟩⟩;exact rfl
structure AH where
 B:Int
 D:(List xq)
 P:xq
 F:(List AY)
 Q:(List A8)
 K:xq
 O:xq
instance:Inhabited AH:=⟨⟨default,default,default,default,default,default,default⟩⟩
def BP:A9 AH where
 sz:=7
 ag:=true
 rd:=λS p cs x=>∃v1 a b c d g:Value,cs=[.int .i64 x.B,v1,a,b,c,d,g]/\AB x.B/\Sl S p (A9.sl AC) v1 x.D/\Sl S p AC a x.P/\Sl S p A5 b x.F/\Sl S p BZ c x.Q/\Sl S p AC d x.K/\Sl S p AC g x.O
 len:=λ⟨_,_,_,_,_,_,p,_⟩=>by rw[p];rfl
 one:=by
  rintro S p cs x⟨v1,a,b,c,d,g,rfl,k0,i,j,k,l,m,n⟩ v o;simp only[Agv,Aha,Ahp]at o;rcases o with rfl|rfl|rfl|rfl|rfl|rfl|rfl<;>first|rfl|exact Sl.one ‹_› |exact(‹_/\_›).2|(obtain ⟨_,_,rfl,_⟩:=Rd.fn ‹_›;rfl)|(obtain ⟨_,_,rfl,_⟩:=Rd.fnr ‹_›;rfl)
 mono:=by
  rintro S S' p h' cs x ⟨v1,a,b,c,d,g,rfl,k0,i,j,k,l,m,n⟩ s e;exact⟨v1,a,b,c,d,g,rfl,k0,i.mono s e,j.mono s e,k.mono s e,l.mono s e,m.mono s e,n.mono s e⟩
def BP.ex{S h v}{x:AH}(k:Rd S h BP v x):∃v1 a b c d g:Value,v= .agg #[.int .i64 x.B,v1,a,b,c,d,g]/\AB x.B/\Sl S h (A9.sl AC) v1 x.D/\Sl S h AC a x.P/\Sl S h A5 b x.F/\Sl S h BZ c x.Q/\Sl S h AC d x.K/\Sl S h AC g x.O:=by obtain⟨_,rfl,v1,a,b,c,d,g,rfl,k⟩:=k;exact⟨v1,a,b,c,d,g,rfl,k⟩
def BP.mk{S h}{x:AH}{v1:Value}(k0:AB x.B)(i:Sl S h (A9.sl AC) v1 x.D)(j:Sl S h AC a x.P)(k:Sl S h A5 b x.F)(l:Sl S h BZ c x.Q)(m:Sl S h AC d x.K)(n:Sl S h AC g x.O):Rd S h BP (.agg #[.int .i64 x.B,v1,a,b,c,d,g]) x:=⟨_,rfl,v1,a,b,c,d,g,rfl,k0,i,j,k,l,m,n⟩
def AH.f_Hour:FB BP 0 AC (·.B):=by
 rintro S o cs x⟨v1,a,b,c,d,g,rfl,k0,i,j,k,l,m,n⟩;exact⟨rfl,k0⟩
def LR:FB BP 1 (A9.sl (A9.sl AC)) (·.D):=by
 rintro S o cs x⟨v1,b,c,d,g,i,rfl,k0,a,j,k,l,m,n⟩;exact⟨_,rfl,a⟩
def PO:FB BP 2 (A9.sl AC) (·.P):=by
 rintro S o cs x⟨v1,b,c,d,g,i,rfl,k0,j,a,k,l,m,n⟩;exact⟨_,rfl,a⟩
def KQ:FB BP 3 (A9.sl A5) (·.F):=by
 rintro S o cs x⟨v1,b,c,d,g,i,rfl,k0,j,k,a,l,m,n⟩;exact⟨_,rfl,a⟩
def Qb:FB BP 4 (A9.sl BZ) (·.Q):=by
 rintro S o cs x⟨v1,b,c,d,g,i,rfl,k0,j,k,l,a,m,n⟩;exact⟨_,rfl,a⟩
def AH.f_In:FB BP 5 (A9.sl AC) (·.K):=by
 rintro S o cs x⟨v1,b,c,d,g,i,rfl,k0,j,k,l,m,a,n⟩;exact⟨_,rfl,a⟩
def LS:FB BP 6 (A9.sl AC) (·.O):=by
 rintro S o cs x⟨v1,b,c,d,g,i,rfl,k0,j,k,l,m,n,a⟩;exact⟨_,rfl,a⟩
structure AI where
 group:ByteArray
 name:ByteArray
instance:Inhabited AI:=⟨⟨default,default⟩⟩
@[reducible] def AI.v (x:AI):List Go.Value:=[.string x.group,.string x.name]
def AI.ok(x:AI):Prop:=x.group.size<=maxLen/\x.name.size<=maxLen
def Nn:A9 AI where
 sz:=2
 ag:=true
 rd:=λ_ _ cs x=>cs=x.v/\x.ok
 len:=λ⟨b,_⟩=>by rw[b];rfl
 one:=λ{_ _ _ x} ⟨b,_⟩ v a=>by
  rw[b]at a;simp only[AI.v,Agv,Aha,Ahp]at a;rcases a with rfl|rfl<;>rfl
 mono:=λb _ _=>b
def Nn.ex{S a v}{x:AI}(k:Rd S a Nn v x):v= .agg #[.string x.group,.string x.name]/\x.ok:=by obtain⟨_,rfl,rfl,a⟩:=k;exact⟨rfl,a⟩
def Nn.mk{S h}{x:AI}(k:x.ok):Rd S h Nn (.agg #[.string x.group,.string x.name]) x:=⟨x.v,rfl,rfl,k⟩
structure HE where
 H:Int
 Ar:Int
instance:Inhabited HE:=⟨⟨default,default⟩⟩
@[reducible] def HE.v (x:HE):List Go.Value:=[.int .i64 x.H,.int .i64 x.Ar]
def HE.ok(x:HE):Prop:=AB x.H/\AB x.Ar
def Ct:A9 HE where
 sz:=2
 ag:=true
 rd:=λ_ _ cs x=>cs=x.v/\x.ok
 len:=λ⟨b,_⟩=>by rw[b];rfl
 one:=λ{_ _ _ x} ⟨b,_⟩ v a=>by
  rw[b]at a;simp only[HE.v,Agv,Aha,Ahp]at a;rcases a with rfl|rfl<;>rfl
 mono:=λb _ _=>b
def Ct.ex{S a v}{x:HE}(k:Rd S a Ct v x):v= .agg #[.int .i64 x.H,.int .i64 x.Ar]/\x.ok:=by obtain⟨_,rfl,rfl,a⟩:=k;exact⟨rfl,a⟩
def Ct.mk{S h}{x:HE}(k:x.ok):Rd S h Ct (.agg #[.int .i64 x.H,.int .i64 x.Ar]) x:=⟨x.v,rfl,rfl,k⟩
def HE.f_Kind:FB Ct 0 AC (·.H):=by
 rintro S b cs x⟨rfl,⟨k0,a⟩⟩;exact⟨rfl,k0⟩
structure L9 where
 Ar:Int
 Aa:Int
instance:Inhabited L9:=⟨⟨default,default⟩⟩
@[reducible] def L9.v (x:L9):List Go.Value:=[.int .i64 x.Ar,.int .i64 x.Aa]
def L9.ok(x:L9):Prop:=AB x.Ar/\AB x.Aa
def Fj:A9 L9 where
 sz:=2
 ag:=true
 rd:=λ_ _ cs x=>cs=x.v/\x.ok
 len:=λ⟨b,_⟩=>by rw[b];rfl
 one:=λ{_ _ _ x} ⟨b,_⟩ v a=>by
  rw[b]at a;simp only[L9.v,Agv,Aha,Ahp]at a;rcases a with rfl|rfl<;>rfl
 mono:=λb _ _=>b
def Fj.ex{S a v}{x:L9}(k:Rd S a Fj v x):v= .agg #[.int .i64 x.Ar,.int .i64 x.Aa]/\x.ok:=by obtain⟨_,rfl,rfl,a⟩:=k;exact⟨rfl,a⟩
def Fj.mk{S h}{x:L9}(k:x.ok):Rd S h Fj (.agg #[.int .i64 x.Ar,.int .i64 x.Aa]) x:=⟨x.v,rfl,rfl,k⟩
structure FO where
 Ap:Int
 Bi:Int
 Bd:Int
 C:Int
instance:Inhabited FO:=⟨⟨default,default,default,default⟩⟩
@[reducible] def FO.v (x:FO):List Go.Value:=[.int .i64 x.Ap,.int .i64 x.Bi,.int .i64 x.Bd,.int .i64 x.C]
def FO.ok(x:FO):Prop:=AB x.Ap/\AB x.Bi/\AB x.Bd/\AB x.C
def DU:A9 FO where
 sz:=4
 ag:=true
 rd:=λ_ _ cs x=>cs=x.v/\x.ok
 len:=λ⟨b,_⟩=>by rw[b];rfl
 one:=λ{_ _ _ x} ⟨b,_⟩ v a=>by
  rw[b]at a;simp only[FO.v,Agv,Aha,Ahp]at a;rcases a with rfl|rfl|rfl|rfl<;>rfl
 mono:=λb _ _=>b
def DU.ex{S a v}{x:FO}(k:Rd S a DU v x):v= .agg #[.int .i64 x.Ap,.int .i64 x.Bi,.int .i64 x.Bd,.int .i64 x.C]/\x.ok:=by obtain⟨_,rfl,rfl,a⟩:=k;exact⟨rfl,a⟩
def DU.mk{S h}{x:FO}(k:x.ok):Rd S h DU (.agg #[.int .i64 x.Ap,.int .i64 x.Bi,.int .i64 x.Bd,.int .i64 x.C]) x:=⟨x.v,rfl,rfl,k⟩
def RK:FB DU 1 AC (·.Bi):=by
 rintro S d cs x⟨rfl,⟨k0,a,b,c⟩⟩;exact⟨rfl,a⟩
def FO.f_Litres:FB DU 2 AC (·.Bd):=by
 rintro S d cs x⟨rfl,⟨k0,b,a,c⟩⟩;exact⟨rfl,a⟩
def FO.f_To:FB DU 3 AC (·.C):=by
 rintro S d cs x⟨rfl,⟨k0,b,c,a⟩⟩;exact⟨rfl,a⟩
structure I3 where
 Ap:Int
 J:Int
 C:Int
 Bd:Int
instance:Inhabited I3:=⟨⟨default,default,default,default⟩⟩
@[reducible] def I3.v (x:I3):List Go.Value:=[.int .i64 x.Ap,.int .i64 x.J,.int .i64 x.C,.int .i64 x.Bd]
def I3.ok(x:I3):Prop:=AB x.Ap/\AB x.J/\AB x.C/\AB x.Bd
def Di:A9 I3 where
 sz:=4
 ag:=true
 rd:=λ_ _ cs x=>cs=x.v/\x.ok
 len:=λ⟨b,_⟩=>by rw[b];rfl
 one:=λ{_ _ _ x} ⟨b,_⟩ v a=>by
  rw[b]at a;simp only[I3.v,Agv,Aha,Ahp]at a;rcases a with rfl|rfl|rfl|rfl<;>rfl
 mono:=λb _ _=>b
def Di.ex{S a v}{x:I3}(k:Rd S a Di v x):v= .agg #[.int .i64 x.Ap,.int .i64 x.J,.int .i64 x.C,.int .i64 x.Bd]/\x.ok:=by obtain⟨_,rfl,rfl,a⟩:=k;exact⟨rfl,a⟩
def Di.mk{S h}{x:I3}(k:x.ok):Rd S h Di (.agg #[.int .i64 x.Ap,.int .i64 x.J,.int .i64 x.C,.int .i64 x.Bd]) x:=⟨x.v,rfl,rfl,k⟩
def I3.f_From:FB Di 1 AC (·.J):=by
 rintro S d cs x⟨rfl,⟨k0,a,b,c⟩⟩;exact⟨rfl,a⟩
def I3.f_To:FB Di 2 AC (·.C):=by
 rintro S d cs x⟨rfl,⟨k0,b,a,c⟩⟩;exact⟨rfl,a⟩
def I3.f_Litres:FB Di 3 AC (·.Bd):=by
 rintro S d cs x⟨rfl,⟨k0,b,c,a⟩⟩;exact⟨rfl,a⟩
structure AX where
 U:xq
 Ab:(List HE)
 Ac:(List L9)
 V:(List FO)
 Ad:(List I3)
instance:Inhabited AX:=⟨⟨default,default,default,default,default⟩⟩
def BJ:A9 AX where
 sz:=5
 ag:=true
 rd:=λS m cs x=>∃a v1 b c d:Value,cs=[a,v1,b,c,d]/\Sl S m AC a x.U/\Sl S m Ct v1 x.Ab/\Sl S m Fj b x.Ac/\Sl S m DU c x.V/\Sl S m Di d x.Ad
 len:=λ⟨_,_,_,_,_,m,_⟩=>by rw[m];rfl
 one:=by
  rintro S m cs x⟨a,v1,b,c,d,rfl,k0,g,i,j,k⟩ v l;simp only[Agv,Aha,Ahp]at l;rcases l with rfl|rfl|rfl|rfl|rfl<;>first|rfl|exact Sl.one ‹_› |exact(‹_/\_›).2|(obtain ⟨_,_,rfl,_⟩:=Rd.fn ‹_›;rfl)|(obtain ⟨_,_,rfl,_⟩:=Rd.fnr ‹_›;rfl)
 mono:=by
  rintro S S' m h' cs x ⟨a,v1,b,c,d,rfl,k0,g,i,j,k⟩ s e;exact⟨a,v1,b,c,d,rfl,k0.mono s e,g.mono s e,i.mono s e,j.mono s e,k.mono s e⟩
def BJ.ex{S h v}{x:AX}(k:Rd S h BJ v x):∃a v1 b c d:Value,v= .agg #[a,v1,b,c,d]/\Sl S h AC a x.U/\Sl S h Ct v1 x.Ab/\Sl S h Fj b x.Ac/\Sl S h DU c x.V/\Sl S h Di d x.Ad:=by obtain⟨_,rfl,a,v1,b,c,d,rfl,k⟩:=k;exact⟨a,v1,b,c,d,rfl,k⟩
def BJ.mk{S h}{x:AX}{v1:Value}(k0:Sl S h AC a x.U)(g:Sl S h Ct v1 x.Ab)(i:Sl S h Fj b x.Ac)(j:Sl S h DU c x.V)(k:Sl S h Di d x.Ad):Rd S h BJ (.agg #[a,v1,b,c,d]) x:=⟨_,rfl,a,v1,b,c,d,rfl,k0,g,i,j,k⟩
def AX.f_Rain:FB BJ 0 (A9.sl AC) (·.U):=by
 rintro S l cs x⟨a,v1,b,c,d,rfl,k0,g,i,j,k⟩;exact⟨_,rfl,k0⟩
def Lq:FB BJ 1 (A9.sl Ct) (·.Ab):=by
 rintro S l cs x⟨b,v1,c,d,g,rfl,k0,a,i,j,k⟩;exact⟨_,rfl,a⟩
def NA:FB BJ 2 (A9.sl Fj) (·.Ac):=by
 rintro S l cs x⟨b,v1,c,d,g,rfl,k0,i,a,j,k⟩;exact⟨_,rfl,a⟩
def Me:FB BJ 3 (A9.sl DU) (·.V):=by
 rintro S l cs x⟨b,v1,c,d,g,rfl,k0,i,j,a,k⟩;exact⟨_,rfl,a⟩
def LB:FB BJ 4 (A9.sl Di) (·.Ad):=by
 rintro S l cs x⟨b,v1,c,d,g,rfl,k0,i,j,k,a⟩;exact⟨_,rfl,a⟩
def AX.u_Rain:NQ BJ 0 (A9.sl AC) (λx y=>{ x with U:=y}):=by
 refine⟨by decide,?_⟩;rintro S p c x vs y⟨o,a,b,d,g,rfl,k0,i,j,k,l⟩ ⟨m,rfl,n⟩;exact⟨m,a,b,d,g,rfl,n,i,j,k,l⟩
structure DP where
 a:xq
 b:xq
instance:Inhabited DP:=⟨⟨default,default⟩⟩
def Eh:A9 DP where
 sz:=2
 ag:=true
 rd:=λS i cs x=>∃c v1:Value,cs=[c,v1]/\Sl S i AC c x.a/\Sl S i AC v1 x.b
 len:=λ⟨_,_,i,_⟩=>by rw[i];rfl
 one:=by
  rintro S i cs x⟨c,v1,rfl,k0,d⟩ v g;simp only[Agv,Aha,Ahp]at g;rcases g with rfl|rfl<;>first|rfl|exact Sl.one ‹_› |exact(‹_/\_›).2|(obtain ⟨_,_,rfl,_⟩:=Rd.fn ‹_›;rfl)|(obtain ⟨_,_,rfl,_⟩:=Rd.fnr ‹_›;rfl)
 mono:=by
  rintro S S' i h' cs x ⟨c,v1,rfl,k0,d⟩ s e;exact⟨c,v1,rfl,k0.mono s e,d.mono s e⟩
def Eh.ex{S h v}{x:DP}(k:Rd S h Eh v x):∃c v1:Value,v= .agg #[c,v1]/\Sl S h AC c x.a/\Sl S h AC v1 x.b:=by obtain⟨_,rfl,c,v1,rfl,k⟩:=k;exact⟨c,v1,rfl,k⟩
def Eh.mk{S h}{x:DP}{v1:Value}(k0:Sl S h AC c x.a)(d:Sl S h AC v1 x.b):Rd S h Eh (.agg #[c,v1]) x:=⟨_,rfl,c,v1,rfl,k0,d⟩
def DP.f_a:FB Eh 0 (A9.sl AC) (·.a):=by
 rintro S d cs x⟨b,v1,rfl,k0,c⟩;exact⟨_,rfl,k0⟩
def DP.f_b:FB Eh 1 (A9.sl AC) (·.b):=by
 rintro S d cs x⟨c,v1,rfl,k0,a⟩;exact⟨_,rfl,a⟩
structure Ke where
 a:(List HE)
 b:(List HE)
instance:Inhabited Ke:=⟨⟨default,default⟩⟩
def Lg:A9 Ke where
 sz:=2
 ag:=true
 rd:=λS i cs x=>∃c v1:Value,cs=[c,v1]/\Sl S i Ct c x.a/\Sl S i Ct v1 x.b
 len:=λ⟨_,_,i,_⟩=>by rw[i];rfl
 one:=by
  rintro S i cs x⟨c,v1,rfl,k0,d⟩ v g;simp only[Agv,Aha,Ahp]at g;rcases g with rfl|rfl<;>first|rfl|exact Sl.one ‹_› |exact(‹_/\_›).2|(obtain ⟨_,_,rfl,_⟩:=Rd.fn ‹_›;rfl)|(obtain ⟨_,_,rfl,_⟩:=Rd.fnr ‹_›;rfl)
 mono:=by
  rintro S S' i h' cs x ⟨c,v1,rfl,k0,d⟩ s e;exact⟨c,v1,rfl,k0.mono s e,d.mono s e⟩
def Lg.ex{S h v}{x:Ke}(k:Rd S h Lg v x):∃c v1:Value,v= .agg #[c,v1]/\Sl S h Ct c x.a/\Sl S h Ct v1 x.b:=by obtain⟨_,rfl,c,v1,rfl,k⟩:=k;exact⟨c,v1,rfl,k⟩
def Lg.mk{S h}{x:Ke}{v1:Value}(k0:Sl S h Ct c x.a)(d:Sl S h Ct v1 x.b):Rd S h Lg (.agg #[c,v1]) x:=⟨_,rfl,c,v1,rfl,k0,d⟩
def Ke.f_a:FB Lg 0 (A9.sl Ct) (·.a):=by
 rintro S d cs x⟨b,v1,rfl,k0,c⟩;exact⟨_,rfl,k0⟩
def Ke.f_b:FB Lg 1 (A9.sl Ct) (·.b):=by
 rintro S d cs x⟨c,v1,rfl,k0,a⟩;exact⟨_,rfl,a⟩
structure OG where
 a:(List L9)
 b:(List L9)
instance:Inhabited OG:=⟨⟨default,default⟩⟩
def Ob:A9 OG where
 sz:=2
 ag:=true
 rd:=λS i cs x=>∃c v1:Value,cs=[c,v1]/\Sl S i Fj c x.a/\Sl S i Fj v1 x.b
 len:=λ⟨_,_,i,_⟩=>by rw[i];rfl
 one:=by
  rintro S i cs x⟨c,v1,rfl,k0,d⟩ v g;simp only[Agv,Aha,Ahp]at g;rcases g with rfl|rfl<;>first|rfl|exact Sl.one ‹_› |exact(‹_/\_›).2|(obtain ⟨_,_,rfl,_⟩:=Rd.fn ‹_›;rfl)|(obtain ⟨_,_,rfl,_⟩:=Rd.fnr ‹_›;rfl)
 mono:=by
  rintro S S' i h' cs x ⟨c,v1,rfl,k0,d⟩ s e;exact⟨c,v1,rfl,k0.mono s e,d.mono s e⟩
def Ob.ex{S h v}{x:OG}(k:Rd S h Ob v x):∃c v1:Value,v= .agg #[c,v1]/\Sl S h Fj c x.a/\Sl S h Fj v1 x.b:=by obtain⟨_,rfl,c,v1,rfl,k⟩:=k;exact⟨c,v1,rfl,k⟩
def Ob.mk{S h}{x:OG}{v1:Value}(k0:Sl S h Fj c x.a)(d:Sl S h Fj v1 x.b):Rd S h Ob (.agg #[c,v1]) x:=⟨_,rfl,c,v1,rfl,k0,d⟩
def OG.f_a:FB Ob 0 (A9.sl Fj) (·.a):=by
 rintro S d cs x⟨b,v1,rfl,k0,c⟩;exact⟨_,rfl,k0⟩
def OG.f_b:FB Ob 1 (A9.sl Fj) (·.b):=by
 rintro S d cs x⟨c,v1,rfl,k0,a⟩;exact⟨_,rfl,a⟩
structure L7 where
 a:(List FO)
 b:(List FO)
instance:Inhabited L7:=⟨⟨default,default⟩⟩
def M8:A9 L7 where
 sz:=2
 ag:=true
 rd:=λS i cs x=>∃c v1:Value,cs=[c,v1]/\Sl S i DU c x.a/\Sl S i DU v1 x.b
 len:=λ⟨_,_,i,_⟩=>by rw[i];rfl
 one:=by
  rintro S i cs x⟨c,v1,rfl,k0,d⟩ v g;simp only[Agv,Aha,Ahp]at g;rcases g with rfl|rfl<;>first|rfl|exact Sl.one ‹_› |exact(‹_/\_›).2|(obtain ⟨_,_,rfl,_⟩:=Rd.fn ‹_›;rfl)|(obtain ⟨_,_,rfl,_⟩:=Rd.fnr ‹_›;rfl)
 mono:=by
  rintro S S' i h' cs x ⟨c,v1,rfl,k0,d⟩ s e;exact⟨c,v1,rfl,k0.mono s e,d.mono s e⟩
def M8.ex{S h v}{x:L7}(k:Rd S h M8 v x):∃c v1:Value,v= .agg #[c,v1]/\Sl S h DU c x.a/\Sl S h DU v1 x.b:=by obtain⟨_,rfl,c,v1,rfl,k⟩:=k;exact⟨c,v1,rfl,k⟩
def M8.mk{S h}{x:L7}{v1:Value}(k0:Sl S h DU c x.a)(d:Sl S h DU v1 x.b):Rd S h M8 (.agg #[c,v1]) x:=⟨_,rfl,c,v1,rfl,k0,d⟩
def L7.f_a:FB M8 0 (A9.sl DU) (·.a):=by
 rintro S d cs x⟨b,v1,rfl,k0,c⟩;exact⟨_,rfl,k0⟩
def L7.f_b:FB M8 1 (A9.sl DU) (·.b):=by
 rintro S d cs x⟨c,v1,rfl,k0,a⟩;exact⟨_,rfl,a⟩
structure L8 where
 a:(List I3)
 b:(List I3)
instance:Inhabited L8:=⟨⟨default,default⟩⟩
def M9:A9 L8 where
 sz:=2
 ag:=true
 rd:=λS i cs x=>∃c v1:Value,cs=[c,v1]/\Sl S i Di c x.a/\Sl S i Di v1 x.b
 len:=λ⟨_,_,i,_⟩=>by rw[i];rfl
 one:=by
  rintro S i cs x⟨c,v1,rfl,k0,d⟩ v g;simp only[Agv,Aha,Ahp]at g;rcases g with rfl|rfl<;>first|rfl|exact Sl.one ‹_› |exact(‹_/\_›).2|(obtain ⟨_,_,rfl,_⟩:=Rd.fn ‹_›;rfl)|(obtain ⟨_,_,rfl,_⟩:=Rd.fnr ‹_›;rfl)
 mono:=by
  rintro S S' i h' cs x ⟨c,v1,rfl,k0,d⟩ s e;exact⟨c,v1,rfl,k0.mono s e,d.mono s e⟩
def M9.ex{S h v}{x:L8}(k:Rd S h M9 v x):∃c v1:Value,v= .agg #[c,v1]/\Sl S h Di c x.a/\Sl S h Di v1 x.b:=by obtain⟨_,rfl,c,v1,rfl,k⟩:=k;exact⟨c,v1,rfl,k⟩
def M9.mk{S h}{x:L8}{v1:Value}(k0:Sl S h Di c x.a)(d:Sl S h Di v1 x.b):Rd S h M9 (.agg #[c,v1]) x:=⟨_,rfl,c,v1,rfl,k0,d⟩
def L8.f_a:FB M9 0 (A9.sl Di) (·.a):=by
 rintro S d cs x⟨b,v1,rfl,k0,c⟩;exact⟨_,rfl,k0⟩
def L8.f_b:FB M9 1 (A9.sl Di) (·.b):=by
 rintro S d cs x⟨c,v1,rfl,k0,a⟩;exact⟨_,rfl,a⟩
structure AM where
 B:Int
 J:Int
 C:Int
 Be:Int
 N:xq
instance:Inhabited AM:=⟨⟨default,default,default,default,default⟩⟩
def BY:A9 AM where
 sz:=5
 ag:=true
 rd:=λS j cs x=>∃a:Value,cs=[.int .i64 x.B,.int .i64 x.J,.int .i64 x.C,.int .i64 x.Be,a]/\AB x.B/\AB x.J/\AB x.C/\AB x.Be/\Sl S j AC a x.N
 len:=λ⟨_,j,_⟩=>by rw[j];rfl
 one:=by
  rintro S j cs x⟨a,rfl,k0,b,c,d,g⟩ v i;simp only[Agv,Aha,Ahp]at i;rcases i with rfl|rfl|rfl|rfl|rfl<;>first|rfl|exact Sl.one ‹_› |exact(‹_/\_›).2|(obtain ⟨_,_,rfl,_⟩:=Rd.fn ‹_›;rfl)|(obtain ⟨_,_,rfl,_⟩:=Rd.fnr ‹_›;rfl)
 mono:=by
  rintro S S' j h' cs x ⟨a,rfl,k0,b,c,d,g⟩ s e;exact⟨a,rfl,k0,b,c,d,g.mono s e⟩
def BY.ex{S h v}{x:AM}(k:Rd S h BY v x):∃a:Value,v= .agg #[.int .i64 x.B,.int .i64 x.J,.int .i64 x.C,.int .i64 x.Be,a]/\AB x.B/\AB x.J/\AB x.C/\AB x.Be/\Sl S h AC a x.N:=by obtain⟨_,rfl,a,rfl,k⟩:=k;exact⟨a,rfl,k⟩
def BY.mk{S h}{x:AM}(k0:AB x.B)(b:AB x.J)(c:AB x.C)(d:AB x.Be)(g:Sl S h AC a x.N):Rd S h BY (.agg #[.int .i64 x.B,.int .i64 x.J,.int .i64 x.C,.int .i64 x.Be,a]) x:=⟨_,rfl,a,rfl,k0,b,c,d,g⟩
def AM.f_Hour:FB BY 0 AC (·.B):=by
 rintro S i cs x⟨a,rfl,k0,b,c,d,g⟩;exact⟨rfl,k0⟩
def AM.f_From:FB BY 1 AC (·.J):=by
 rintro S i cs x⟨b,rfl,k0,a,c,d,g⟩;exact⟨rfl,a⟩
def AM.f_To:FB BY 2 AC (·.C):=by
 rintro S i cs x⟨b,rfl,k0,c,a,d,g⟩;exact⟨rfl,a⟩
def AM.f_Part:FB BY 4 (A9.sl AC) (·.N):=by
 rintro S i cs x⟨b,rfl,k0,c,d,g,a⟩;exact⟨_,rfl,a⟩
def AM.u_Part:NQ BY 4 (A9.sl AC) (λx y=>{ x with N:=y}):=by
 refine⟨by decide,?_⟩;rintro S l c x vs y⟨j,rfl,k0,a,b,d,k⟩ ⟨g,rfl,i⟩;exact⟨g,rfl,k0,a,b,d,i⟩
structure AS where
 b:AF
 in_:AX
 s:AH
 moves:(List AM)
 peaks:xq
 sent:(List AY)
instance:Inhabited AS:=⟨⟨default,default,default,default,default,default⟩⟩
def NS:A9 AS where
 sz:=26
 ag:=true
 rd:=λS h cs x=>∃v1 u w y z C H J a c d g i j k l m n o p q t:Value,cs=[.string x.b.G,v1,.int .i64 x.b.L,u,w,y,z,C,H,J,.int .i64 x.b.M,a,c,d,g,i,.int .i64 x.s.B,j,k,l,m,n,o,p,q,t]/\x.b.G.size<=maxLen/\Sl S h A9.str v1 x.b.I/\AB x.b.L/\Sl S h B4 u x.b.A/\Sl S h CD w x.b.E/\Sl S h Hj y x.b.Af/\Sl S h E7 z x.b.Ah/\Sl S h HC C x.b.Ai/\Sl S h Db H x.b.Ak/\Sl S h AC J x.b.Aj/\AB x.b.M/\Sl S h AC a x.in_.U/\Sl S h Ct c x.in_.Ab/\Sl S h Fj d x.in_.Ac/\Sl S h DU g x.in_.V/\Sl S h Di i x.in_.Ad/\AB x.s.B/\Sl S h (A9.sl AC) j x.s.D/\Sl S h AC k x.s.P/\Sl S h A5 l x.s.F/\Sl S h BZ m x.s.Q/\Sl S h AC n x.s.K/\Sl S h AC o x.s.O/\Sl S h BY p x.moves/\Sl S h AC q x.peaks/\Sl S h A5 t x.sent
 len:=λ⟨_,_,_,_,_,_,_,_,_,_,_,_,_,_,_,_,_,_,_,_,_,_,h,_⟩=>by rw[h];rfl
 one:=by
  rintro S h cs x⟨v1,u,w,y,z,C,H,J,a,c,d,g,i,j,k,l,m,n,o,p,q,t,rfl,k0,k1,k2,k3,k4,k5,k6,k7,k8,k9,W,X,Y,Z,aa,ab,ac,ad,ae,af,ah,ai,aj,ak,al,am⟩ v hv;simp only[Agv,Aha,Ahp]at hv;rcases hv with rfl|rfl|rfl|rfl|rfl|rfl|rfl|rfl|rfl|rfl|rfl|rfl|rfl|rfl|rfl|rfl|rfl|rfl|rfl|rfl|rfl|rfl|rfl|rfl|rfl|rfl<;>first|rfl|exact Sl.one ‹_› |exact(‹_/\_›).2|(obtain ⟨_,_,rfl,_⟩:=Rd.fn ‹_›;rfl)|(obtain ⟨_,_,rfl,_⟩:=Rd.fnr ‹_›;rfl)
 mono:=by
  rintro S S' h h' cs x ⟨v1,u,w,y,z,C,H,J,a,c,d,g,i,j,k,l,m,n,o,p,q,t,rfl,k0,k1,k2,k3,k4,k5,k6,k7,k8,k9,W,X,Y,Z,aa,ab,ac,ad,ae,af,ah,ai,aj,ak,al,am⟩ s e;exact⟨v1,u,w,y,z,C,H,J,a,c,d,g,i,j,k,l,m,n,o,p,q,t,rfl,k0,k1.mono s e,k2,k3.mono s e,k4.mono s e,k5.mono s e,k6.mono s e,k7.mono s e,k8.mono s e,k9.mono s e,W,X.mono s e,Y.mono s e,Z.mono s e,aa.mono s e,ab.mono s e,ac,ad.mono s e,ae.mono s e,af.mono s e,ah.mono s e,ai.mono s e,aj.mono s e,ak.mono s e,al.mono s e,am.mono s e⟩
def NS.ex{S h v}{x:AS}(k:Rd S h NS v x):∃v1 w y z C H J W a c d g i j l m n o p q t u:Value,v= .agg #[.string x.b.G,v1,.int .i64 x.b.L,w,y,z,C,H,J,W,.int .i64 x.b.M,a,c,d,g,i,.int .i64 x.s.B,j,l,m,n,o,p,q,t,u]/\x.b.G.size<=maxLen/\Sl S h A9.str v1 x.b.I/\AB x.b.L/\Sl S h B4 w x.b.A/\Sl S h CD y x.b.E/\Sl S h Hj z x.b.Af/\Sl S h E7 C x.b.Ah/\Sl S h HC H x.b.Ai/\Sl S h Db J x.b.Ak/\Sl S h AC W x.b.Aj/\AB x.b.M/\Sl S h AC a x.in_.U/\Sl S h Ct c x.in_.Ab/\Sl S h Fj d x.in_.Ac/\Sl S h DU g x.in_.V/\Sl S h Di i x.in_.Ad/\AB x.s.B/\Sl S h (A9.sl AC) j x.s.D/\Sl S h AC l x.s.P/\Sl S h A5 m x.s.F/\Sl S h BZ n x.s.Q/\Sl S h AC o x.s.K/\Sl S h AC p x.s.O/\Sl S h BY q x.moves/\Sl S h AC t x.peaks/\Sl S h A5 u x.sent:=by obtain⟨_,rfl,v1,w,y,z,C,H,J,W,a,c,d,g,i,j,l,m,n,o,p,q,t,u,rfl,k⟩:=k;exact⟨v1,w,y,z,C,H,J,W,a,c,d,g,i,j,l,m,n,o,p,q,t,u,rfl,k⟩
def NS.mk{S h}{x:AS}{v1 v z i q:Value}(k0:x.b.G.size<=maxLen)(k1:Sl S h A9.str v1 x.b.I)(k2:AB x.b.L)(k3:Sl S h B4 u x.b.A)(k4:Sl S h CD v x.b.E)(k5:Sl S h Hj w x.b.Af)(k6:Sl S h E7 y x.b.Ah)(k7:Sl S h HC z x.b.Ai)(k8:Sl S h Db C x.b.Ak)(k9:Sl S h AC H x.b.Aj)(J:AB x.b.M)(W:Sl S h AC a x.in_.U)(X:Sl S h Ct c x.in_.Ab)(Y:Sl S h Fj d x.in_.Ac)(Z:Sl S h DU g x.in_.V)(aa:Sl S h Di i x.in_.Ad)(ab:AB x.s.B)(ac:Sl S h (A9.sl AC) j x.s.D)(ad:Sl S h AC k x.s.P)(ae:Sl S h A5 l x.s.F)(af:Sl S h BZ m x.s.Q)(ag:Sl S h AC n x.s.K)(ah:Sl S h AC o x.s.O)(ai:Sl S h BY p x.moves)(aj:Sl S h AC q x.peaks)(ak:Sl S h A5 t x.sent):Rd S h NS (.agg #[.string x.b.G,v1,.int .i64 x.b.L,u,v,w,y,z,C,H,.int .i64 x.b.M,a,c,d,g,i,.int .i64 x.s.B,j,k,l,m,n,o,p,q,t]) x:=⟨_,rfl,v1,u,v,w,y,z,C,H,a,c,d,g,i,j,k,l,m,n,o,p,q,t,rfl,k0,k1,k2,k3,k4,k5,k6,k7,k8,k9,J,W,X,Y,Z,aa,ab,ac,ad,ae,af,ag,ah,ai,aj,ak⟩
def AS.f_b:FB NS 0 Bz (·.b):=by
 rintro S h cs x⟨v1,v3,v4,v5,v6,v7,v8,v9,c,d,g,i,j,k,l,m,n,o,p,q,s,t,rfl,k0,u,v,w,y,z,A,B,C,D,a,F,G,H,I,J,K,M,Q,U,V,W,X,Y,Z,aa⟩;exact⟨_,_,_,_,_,_,_,_,rfl,k0,u,v,w,y,z,A,B,C,D,a⟩
structure AD where
 to_:Int
 delay:Int
 way:Int
 take:(xq->Option (xq×xq))
instance:Inhabited AD:=⟨⟨default,default,default,default⟩⟩
def A6:A9 AD where
 sz:=4
 ag:=true
 rd:=λS k cs x=>∃a:Value,cs=[.int .i64 x.to_,.int .i64 x.delay,.int .i64 x.way,a]/\AB x.to_/\AB x.delay/\AB x.way/\Rd S k (A9.fnr prog (λS k vs (x:xq)=>∃b:Value,vs=[b]/\Sl S k AC b x) (λS k v (y:(xq×xq))=>∃b c:Value,v= .tuple #[b,c]/\Sl S k AC b y.1/\Sl S k AC c y.2)) a x.take
 len:=λ⟨_,k,_⟩=>by rw[k];rfl
 one:=by
  rintro S k cs x⟨a,rfl,k0,d,g,i⟩ v j;simp only[Agv,Aha,Ahp]at j;rcases j with rfl|rfl|rfl|rfl<;>first|rfl|exact Sl.one ‹_› |exact(‹_/\_›).2|(obtain ⟨_,_,rfl,_⟩:=Rd.fn ‹_›;rfl)|(obtain ⟨_,_,rfl,_⟩:=Rd.fnr ‹_›;rfl)
 mono:=by
  rintro S S' k h' cs x ⟨a,rfl,k0,d,g,i⟩ s e;exact⟨a,rfl,k0,d,g,i.mono'' s e⟩
def A6.ex{S d v}{x:AD}(k:Rd S d A6 v x):∃b:Value,v= .agg #[.int .i64 x.to_,.int .i64 x.delay,.int .i64 x.way,b]/\AB x.to_/\AB x.delay/\AB x.way/\Rd S d (A9.fnr prog (λS d vs (x:xq)=>∃a:Value,vs=[a]/\Sl S d AC a x) (λS d v (y:(xq×xq))=>∃a c:Value,v= .tuple #[a,c]/\Sl S d AC a y.1/\Sl S d AC c y.2)) b x.take:=by obtain⟨_,rfl,b,rfl,k⟩:=k;exact⟨b,rfl,k⟩
def A6.mk{S j}{x:AD}(k0:AB x.to_)(d:AB x.delay)(g:AB x.way)(i:Rd S j (A9.fnr prog (λS j vs (x:xq)=>∃a:Value,vs=[a]/\Sl S j AC a x) (λS j v (y:(xq×xq))=>∃a c:Value,v= .tuple #[a,c]/\Sl S j AC a y.1/\Sl S j AC c y.2)) b x.take):Rd S j A6 (.agg #[.int .i64 x.to_,.int .i64 x.delay,.int .i64 x.way,b]) x:=⟨_,rfl,b,rfl,k0,d,g,i⟩
def Mz:FB A6 0 AC (·.to_):=by
 rintro S g cs x⟨a,rfl,k0,b,c,d⟩;exact⟨rfl,k0⟩
def OE:FB A6 1 AC (·.delay):=by
 rintro S g cs x⟨b,rfl,k0,a,c,d⟩;exact⟨rfl,a⟩
def O3:FB A6 2 AC (·.way):=by
 rintro S g cs x⟨b,rfl,k0,c,a,d⟩;exact⟨rfl,a⟩
def OT:FB A6 3 (A9.fnr prog (λS m vs (x:xq)=>∃a:Value,vs=[a]/\Sl S m AC a x) (λS m v (y:(xq×xq))=>∃a b:Value,v= .tuple #[a,b]/\Sl S m AC a y.1/\Sl S m AC b y.2)) (·.take):=by
 rintro S m cs x⟨j,rfl,k0,k,l,c⟩;obtain⟨_,rfl,d,g,rfl,i⟩:=c;exact⟨d,g,rfl,i⟩
structure BT where
 Bt:Int
 Bf:Int
 Bu:Int
 K:AX
 Bm:xq
instance:Inhabited BT:=⟨⟨default,default,default,default,default⟩⟩
def C2:A9 BT where
 sz:=9
 ag:=true
 rd:=λS u cs x=>∃a b c d g i:Value,cs=[.int .i64 x.Bt,.int .i64 x.Bf,.int .i64 x.Bu,a,b,c,d,g,i]/\AB x.Bt/\AB x.Bf/\AB x.Bu/\Sl S u AC a x.K.U/\Sl S u Ct b x.K.Ab/\Sl S u Fj c x.K.Ac/\Sl S u DU d x.K.V/\Sl S u Di g x.K.Ad/\Sl S u AC i x.Bm
 len:=λ⟨_,_,_,_,_,_,u,_⟩=>by rw[u];rfl
 one:=by
  rintro S u cs x⟨a,b,c,d,g,i,rfl,k0,j,k,l,m,n,o,p,q⟩ v t;simp only[Agv,Aha,Ahp]at t;rcases t with rfl|rfl|rfl|rfl|rfl|rfl|rfl|rfl|rfl<;>first|rfl|exact Sl.one ‹_› |exact(‹_/\_›).2|(obtain ⟨_,_,rfl,_⟩:=Rd.fn ‹_›;rfl)|(obtain ⟨_,_,rfl,_⟩:=Rd.fnr ‹_›;rfl)
 mono:=by
  rintro S S' u h' cs x ⟨a,b,c,d,g,i,rfl,k0,j,k,l,m,n,o,p,q⟩ s e;exact⟨a,b,c,d,g,i,rfl,k0,j,k,l.mono s e,m.mono s e,n.mono s e,o.mono s e,p.mono s e,q.mono s e⟩
def C2.ex{S h v}{x:BT}(k:Rd S h C2 v x):∃a b c d g i:Value,v= .agg #[.int .i64 x.Bt,.int .i64 x.Bf,.int .i64 x.Bu,a,b,c,d,g,i]/\AB x.Bt/\AB x.Bf/\AB x.Bu/\Sl S h AC a x.K.U/\Sl S h Ct b x.K.Ab/\Sl S h Fj c x.K.Ac/\Sl S h DU d x.K.V/\Sl S h Di g x.K.Ad/\Sl S h AC i x.Bm:=by obtain⟨_,rfl,a,b,c,d,g,i,rfl,k⟩:=k;exact⟨a,b,c,d,g,i,rfl,k⟩
def C2.mk{S h}{x:BT}{i:Value}(k0:AB x.Bt)(j:AB x.Bf)(k:AB x.Bu)(l:Sl S h AC a x.K.U)(m:Sl S h Ct b x.K.Ab)(n:Sl S h Fj c x.K.Ac)(o:Sl S h DU d x.K.V)(p:Sl S h Di g x.K.Ad)(q:Sl S h AC i x.Bm):Rd S h C2 (.agg #[.int .i64 x.Bt,.int .i64 x.Bf,.int .i64 x.Bu,a,b,c,d,g,i]) x:=⟨_,rfl,a,b,c,d,g,i,rfl,k0,j,k,l,m,n,o,p,q⟩
def Ht:FB C2 1 AC (·.Bf):=by
 rintro S s cs x⟨b,c,d,g,i,j,rfl,k0,a,k,l,m,n,o,p,q⟩;exact⟨rfl,a⟩
def BT.f_In:FB C2 3 BJ (·.K):=by
 rintro S s cs x⟨i,j,k,l,m,n,rfl,k0,o,p,a,b,c,d,g,q⟩;exact⟨_,_,_,_,_,rfl,a,b,c,d,g⟩
def Oe:FB C2 8 (A9.sl AC) (·.Bm):=by
 rintro S s cs x⟨b,c,d,g,i,j,rfl,k0,k,l,m,n,o,p,q,a⟩;exact⟨_,rfl,a⟩
structure AJ where
 hi:Int
 lo:Int
instance:Inhabited AJ:=⟨⟨default,default⟩⟩
@[reducible] def AJ.v (x:AJ):List Go.Value:=[.int .i64 x.hi,.int .u64 x.lo]
def AJ.ok(x:AJ):Prop:=AB x.hi/\IntKind.has .u64 x.lo
def Ih:A9 AJ where
 sz:=2
 ag:=true
 rd:=λ_ _ cs x=>cs=x.v/\x.ok
 len:=λ⟨b,_⟩=>by rw[b];rfl
 one:=λ{_ _ _ x} ⟨b,_⟩ v a=>by
  rw[b]at a;simp only[AJ.v,Agv,Aha,Ahp]at a;rcases a with rfl|rfl<;>rfl
 mono:=λb _ _=>b
def Ih.ex{S a v}{x:AJ}(k:Rd S a Ih v x):v= .agg #[.int .i64 x.hi,.int .u64 x.lo]/\x.ok:=by obtain⟨_,rfl,rfl,a⟩:=k;exact⟨rfl,a⟩
def Ih.mk{S h}{x:AJ}(k:x.ok):Rd S h Ih (.agg #[.int .i64 x.hi,.int .u64 x.lo]) x:=⟨x.v,rfl,rfl,k⟩
def VF:FB Ih 0 AC (·.hi):=by
 rintro S b cs x⟨rfl,⟨k0,a⟩⟩;exact⟨rfl,k0⟩
def OF:FB Ih 1 (A9.intk .u64) (·.lo):=by
 rintro S b cs x⟨rfl,⟨k0,a⟩⟩;exact⟨rfl,a⟩
structure AA where
 sort:Int
 place:Int
 owner:Int
instance:Inhabited AA:=⟨⟨default,default,default⟩⟩
@[reducible] def AA.v (x:AA):List Go.Value:=[.int .i64 x.sort,.int .i64 x.place,.int .i64 x.owner]
def AA.ok(x:AA):Prop:=AB x.sort/\AB x.place/\AB x.owner
def M7:A9 AA where
 sz:=3
 ag:=true
 rd:=λ_ _ cs x=>cs=x.v/\x.ok
 len:=λ⟨b,_⟩=>by rw[b];rfl
 one:=λ{_ _ _ x} ⟨b,_⟩ v a=>by
  rw[b]at a;simp only[AA.v,Agv,Aha,Ahp]at a;rcases a with rfl|rfl|rfl<;>rfl
 mono:=λb _ _=>b
def M7.ex{S a v}{x:AA}(k:Rd S a M7 v x):v= .agg #[.int .i64 x.sort,.int .i64 x.place,.int .i64 x.owner]/\x.ok:=by obtain⟨_,rfl,rfl,a⟩:=k;exact⟨rfl,a⟩
def M7.mk{S h}{x:AA}(k:x.ok):Rd S h M7 (.agg #[.int .i64 x.sort,.int .i64 x.place,.int .i64 x.owner]) x:=⟨x.v,rfl,rfl,k⟩
def OX:ByteArray:=ByteArray.mk #[0,1,2,2,3,3,3,3,4,4,4,4,4,4,4,4,5,5,5,5,5,5,5,5,5,5,5,5,5,5,5,5,6,6,6,6,6,6,6,6,6,6,6,6,6,6,6,6,6,6,6,6,6,6,6,6,6,6,6,6,6,6,6,6,7,7,7,7,7,7,7,7,7,7,7,7,7,7,7,7,7,7,7,7,7,7,7,7,7,7,7,7,7,7,7,7,7,7,7,7,7,7,7,7,7,7,7,7,7,7,7,7,7,7,7,7,7,7,7,7,7,7,7,7,7,7,7,7,8,8,8,8,8,8,8,8,8,8,8,8,8,8,8,8,8,8,8,8,8,8,8,8,8,8,8,8,8,8,8,8,8,8,8,8,8,8,8,8,8,8,8,8,8,8,8,8,8,8,8,8,8,8,8,8,8,8,8,8,8,8,8,8,8,8,8,8,8,8,8,8,8,8,8,8,8,8,8,8,8,8,8,8,8,8,8,8,8,8,8,8,8,8,8,8,8,8,8,8,8,8,8,8,8,8,8,8,8,8,8,8,8,8,8,8,8,8,8,8,8,8,8,8,8,8,8,8]
def Ql:List Ce:=([(⟨(ByteArray.mk #[112]),0,2,1000,([(⟨0,0⟩:B3)]:List B3),([100]:xq),1,10,(-1),0,0,[]⟩:Ce)]:List Ce)
end Go.Proofs.YtabonambpbofgaaGreat
