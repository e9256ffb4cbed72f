import Derived.Test.YtabonambpbofgaaGreatNCore31
import Derived.Test.YtabonambpbofgaaGreatNSortD
import Derived.Test.YtabonambpbofgaaGreatRows
namespace Go.Proofs.YtabonambpbofgaaGreat
set_option linter.all false
open Go.RowKit
open Go.Proofs.Tryz
structure Bz where
 Q:Int
 Z:Int
instance:Inhabited Bz:=⟨⟨default,default⟩⟩
@[reducible] def Bz.v (x:Bz):List Go.Value:=[.int .i64 x.Q,.int .i64 x.Z]
def Bz.ok (x:Bz):Prop:=AA x.Q∧AA x.Z
def CG:A5 Bz where
 sz:=2
 ag:=true
 rd:=λ_ _ cs x=>cs=x.v∧x.ok
 len:=λ⟨b,_⟩=>by rw[b];rfl
 one:=λ{_ _ _ x} ⟨b,_⟩ v a=>by
  rw[b] at a;simp only[Bz.v,Acl,Ac0,Adc] at a;rcases a with rfl|rfl<;>rfl
 mono:=λb _ _=>b
def CG.ex {S a v}{x:Bz}(k:Rd S a CG v x):v= .agg #[.int .i64 x.Q,.int .i64 x.Z]∧x.ok:=by obtain⟨_,rfl,rfl,a⟩:=k;exact⟨rfl,a⟩
def CG.mk {S h}{x:Bz}(k:x.ok):Rd S h CG (.agg #[.int .i64 x.Q,.int .i64 x.Z]) x:=⟨x.v,rfl,rfl,k⟩
def Xq:FZ CG 0 AB (·.Q):=by
 rintro S b cs x ⟨rfl,⟨k0,a⟩⟩;exact⟨rfl,k0⟩
def Tq:FZ CG 1 AB (·.Z):=by
 rintro S b cs x ⟨rfl,⟨k0,a⟩⟩;exact⟨rfl,a⟩
structure Lm where
 Bg:Int
 Br:Int
instance:Inhabited Lm:=⟨⟨default,default⟩⟩
@[reducible] def Lm.v (x:Lm):List Go.Value:=[.int .i64 x.Bg,.int .i64 x.Br]
def Lm.ok (x:Lm):Prop:=AA x.Bg∧AA x.Br
def KE:A5 Lm where
 sz:=2
 ag:=true
 rd:=λ_ _ cs x=>cs=x.v∧x.ok
 len:=λ⟨b,_⟩=>by rw[b];rfl
 one:=λ{_ _ _ x} ⟨b,_⟩ v a=>by
  rw[b] at a;simp only[Lm.v,Acl,Ac0,Adc] at a;rcases a with rfl|rfl<;>rfl
 mono:=λb _ _=>b
def KE.ex {S a v}{x:Lm}(k:Rd S a KE v x):v= .agg #[.int .i64 x.Bg,.int .i64 x.Br]∧x.ok:=by obtain⟨_,rfl,rfl,a⟩:=k;exact⟨rfl,a⟩
def KE.mk {S h}{x:Lm}(k:x.ok):Rd S h KE (.agg #[.int .i64 x.Bg,.int .i64 x.Br]) x:=⟨x.v,rfl,rfl,k⟩
structure Cj where
 F:ByteArray
 G:Int
 Au:Int
 Av:Int
 Bm:(List Bz)
 An:(List Int)
 Aa:Int
 T:Int
 Ao:Int
 R:Int
 Bi:Int
 S:(List Lm)
instance:Inhabited Cj:=⟨⟨default,default,default,default,default,default,default,default,default,default,default,default⟩⟩
def B1:A5 Cj where
 sz:=12
 ag:=true
 rd:=λS u cs x=>∃b c a:Value,cs=[.string x.F,.int .i64 x.G,.int .i64 x.Au,.int .i64 x.Av,b,c,.int .i64 x.Aa,.int .i64 x.T,.int .i64 x.Ao,.int .i64 x.R,.int .i64 x.Bi,a]∧x.F.size≤maxLen∧AA x.G∧AA x.Au∧AA x.Av∧Sl S u CG b x.Bm∧Sl S u AB c x.An∧AA x.Aa∧AA x.T∧AA x.Ao∧AA x.R∧AA x.Bi∧Sl S u KE a x.S
 len:=λ⟨_,_,_,u,_⟩=>by rw[u];rfl
 one:=by
  rintro S u cs x ⟨b,c,a,rfl,k0,i,j,k,l,m,n,o,p,q,d,g⟩ v t;simp only[Acl,Ac0,Adc] at t;rcases t with rfl|rfl|rfl|rfl|rfl|rfl|rfl|rfl|rfl|rfl|rfl|rfl<;>first|rfl|exact Sl.one ‹_› |exact(‹_∧_›).2|(obtain ⟨_,_,rfl,_⟩:=Rd.fn ‹_›;rfl)|(obtain ⟨_,_,rfl,_⟩:=Rd.fnr ‹_›;rfl)
 mono:=by
  rintro S S' u h' cs x ⟨b,c,a,rfl,k0,i,j,k,l,m,n,o,p,q,d,g⟩ s e;exact⟨b,c,a,rfl,k0,i,j,k,l.mono s e,m.mono s e,n,o,p,q,d,g.mono s e⟩
def B1.ex {S h v}{x:Cj}(k:Rd S h B1 v x):∃b c a:Value,v= .agg #[.string x.F,.int .i64 x.G,.int .i64 x.Au,.int .i64 x.Av,b,c,.int .i64 x.Aa,.int .i64 x.T,.int .i64 x.Ao,.int .i64 x.R,.int .i64 x.Bi,a]∧x.F.size≤maxLen∧AA x.G∧AA x.Au∧AA x.Av∧Sl S h CG b x.Bm∧Sl S h AB c x.An∧AA x.Aa∧AA x.T∧AA x.Ao∧AA x.R∧AA x.Bi∧Sl S h KE a x.S:=by obtain⟨_,rfl,b,c,a,rfl,k⟩:=k;exact⟨b,c,a,rfl,k⟩
def B1.mk {S h}{x:Cj}{b c a:Value}(k0:x.F.size≤maxLen) (i:AA x.G) (j:AA x.Au) (k:AA x.Av) (l:Sl S h CG b x.Bm) (m:Sl S h AB c x.An) (n:AA x.Aa) (o:AA x.T) (p:AA x.Ao) (q:AA x.R) (d:AA x.Bi) (g:Sl S h KE a x.S):Rd S h B1 (.agg #[.string x.F,.int .i64 x.G,.int .i64 x.Au,.int .i64 x.Av,b,c,.int .i64 x.Aa,.int .i64 x.T,.int .i64 x.Ao,.int .i64 x.R,.int .i64 x.Bi,a]) x:=⟨_,rfl,b,c,a,rfl,k0,i,j,k,l,m,n,o,p,q,d,g⟩
def Cj.f_Name:FZ B1 0 A5.str (·.F):=by
 rintro S s cs x ⟨d,g,a,rfl,k0,i,j,k,l,m,n,o,p,q,b,c⟩;exact⟨rfl,k0⟩
def Cj.f_Kind:FZ B1 1 AB (·.G):=by
 rintro S s cs x ⟨g,i,a,rfl,k0,b,j,k,l,m,n,o,p,q,c,d⟩;exact⟨rfl,b⟩
def Oe:FZ B1 2 AB (·.Au):=by
 rintro S s cs x ⟨g,i,a,rfl,k0,j,b,k,l,m,n,o,p,q,c,d⟩;exact⟨rfl,b⟩
def Ph:FZ B1 4 (A5.sl CG) (·.Bm):=by
 rintro S s cs x ⟨g,i,a,rfl,k0,j,k,l,b,m,n,o,p,q,c,d⟩;exact⟨_,rfl,b⟩
def Pg:FZ B1 5 (A5.sl AB) (·.An):=by
 rintro S s cs x ⟨g,i,a,rfl,k0,j,k,l,m,b,n,o,p,q,c,d⟩;exact⟨_,rfl,b⟩
def Cj.f_Num:FZ B1 6 AB (·.Aa):=by
 rintro S s cs x ⟨g,i,a,rfl,k0,j,k,l,m,n,b,o,p,q,c,d⟩;exact⟨rfl,b⟩
def Cj.f_Den:FZ B1 7 AB (·.T):=by
 rintro S s cs x ⟨g,i,a,rfl,k0,j,k,l,m,n,o,b,p,q,c,d⟩;exact⟨rfl,b⟩
def Cj.f_Rain:FZ B1 11 (A5.sl KE) (·.S):=by
 rintro S s cs x ⟨d,g,b,rfl,k0,i,j,k,l,m,n,o,p,q,c,a⟩;exact⟨_,rfl,a⟩
def Ts:Mh B1 4 (A5.sl CG) (λx y=>{ x with Bm:=y}):=by
 refine⟨by decide,?_⟩;rintro S v c x vs y ⟨t,d,g,rfl,k0,i,j,k,u,l,m,n,o,p,a,b⟩ ⟨q,rfl,s⟩;exact⟨q,d,g,rfl,k0,i,j,k,s,l,m,n,o,p,a,b⟩
def Tr:Mh B1 5 (A5.sl AB) (λx y=>{ x with An:=y}):=by
 refine⟨by decide,?_⟩;rintro S v c x vs y ⟨d,t,g,rfl,k0,i,j,k,l,u,m,n,o,p,a,b⟩ ⟨q,rfl,s⟩;exact⟨d,q,g,rfl,k0,i,j,k,l,s,m,n,o,p,a,b⟩
def Cj.u_Rain:Mh B1 11 (A5.sl KE) (λx y=>{ x with S:=y}):=by
 refine⟨by decide,?_⟩;rintro S v c x vs y ⟨g,i,u,rfl,k0,j,k,l,m,n,o,p,q,s,a,t⟩ ⟨b,rfl,d⟩;exact⟨g,i,b,rfl,k0,j,k,l,m,n,o,p,q,s,a,d⟩
structure Lp where
 Aw:(List Bz)
 Ax:(List Bz)
instance:Inhabited Lp:=⟨⟨default,default⟩⟩
def LD:A5 Lp where
 sz:=2
 ag:=true
 rd:=λS d cs x=>∃a v1:Value,cs=[a,v1]∧Sl S d CG a x.Aw∧Sl S d CG v1 x.Ax
 len:=λ⟨_,_,d,_⟩=>by rw[d];rfl
 one:=by
  rintro S d cs x ⟨a,v1,rfl,k0,b⟩ v c;simp only[Acl,Ac0,Adc] at c;rcases c with rfl|rfl<;>first|rfl|exact Sl.one ‹_› |exact(‹_∧_›).2|(obtain ⟨_,_,rfl,_⟩:=Rd.fn ‹_›;rfl)|(obtain ⟨_,_,rfl,_⟩:=Rd.fnr ‹_›;rfl)
 mono:=by
  rintro S S' d h' cs x ⟨a,v1,rfl,k0,b⟩ s e;exact⟨a,v1,rfl,k0.mono s e,b.mono s e⟩
def LD.ex {S h v}{x:Lp}(k:Rd S h LD v x):∃a v1:Value,v= .agg #[a,v1]∧Sl S h CG a x.Aw∧Sl S h CG v1 x.Ax:=by obtain⟨_,rfl,a,v1,rfl,k⟩:=k;exact⟨a,v1,rfl,k⟩
def LD.mk {S h}{x:Lp}{a v1:Value}(k0:Sl S h CG a x.Aw) (b:Sl S h CG v1 x.Ax):Rd S h LD (.agg #[a,v1]) x:=⟨_,rfl,a,v1,rfl,k0,b⟩
def OX:FZ LD 0 (A5.sl CG) (·.Aw):=by
 rintro S c cs x ⟨a,v1,rfl,k0,b⟩;exact⟨_,rfl,k0⟩
def OY:FZ LD 1 (A5.sl CG) (·.Ax):=by
 rintro S c cs x ⟨b,v1,rfl,k0,a⟩;exact⟨_,rfl,a⟩
def Xs:Mh LD 0 (A5.sl CG) (λx y=>{ x with Aw:=y}):=by
 refine⟨by decide,?_⟩;rintro S j c x vs y ⟨i,a,rfl,k0,b⟩ ⟨d,rfl,g⟩;exact⟨d,a,rfl,g,b⟩
def Xt:Mh LD 1 (A5.sl CG) (λx y=>{ x with Ax:=y}):=by
 refine⟨by decide,?_⟩;rintro S j c x vs y ⟨a,g,rfl,k0,i⟩ ⟨b,rfl,d⟩;exact⟨a,b,rfl,k0,d⟩
structure BC where
 F:ByteArray
 G:Int
 M:Int
 E:Int
 As:(List Bz)
 Ae:Lp
 W:Int
 Ag:Int
 Bc:Int
 Bd:Int
 Aa:Int
 T:Int
 Az:Int
 Ba:Int
 Aq:Int
 Al:Int
 R:Int
instance:Inhabited BC:=⟨⟨default,default,default,default,default,default,default,default,default,default,default,default,default,default,default,default,default⟩⟩
def CB:A5 BC where
 sz:=18
 ag:=true
 rd:=λS C cs x=>∃a b c:Value,cs=[.string x.F,.int .i64 x.G,.int .i64 x.M,.int .i64 x.E,a,b,c,.int .i64 x.W,.int .i64 x.Ag,.int .i64 x.Bc,.int .i64 x.Bd,.int .i64 x.Aa,.int .i64 x.T,.int .i64 x.Az,.int .i64 x.Ba,.int .i64 x.Aq,.int .i64 x.Al,.int .i64 x.R]∧x.F.size≤maxLen∧AA x.G∧AA x.M∧AA x.E∧Sl S C CG a x.As∧Sl S C CG b x.Ae.Aw∧Sl S C CG c x.Ae.Ax∧AA x.W∧AA x.Ag∧AA x.Bc∧AA x.Bd∧AA x.Aa∧AA x.T∧AA x.Az∧AA x.Ba∧AA x.Aq∧AA x.Al∧AA x.R
 len:=λ⟨_,_,_,C,_⟩=>by rw[C];rfl
 one:=by
  rintro S C cs x ⟨a,b,c,rfl,k0,o,p,q,t,u,w,y,z,A,d,g,i,j,k,l,m,n⟩ v B;simp only[Acl,Ac0,Adc] at B;rcases B with rfl|rfl|rfl|rfl|rfl|rfl|rfl|rfl|rfl|rfl|rfl|rfl|rfl|rfl|rfl|rfl|rfl|rfl<;>first|rfl|exact Sl.one ‹_› |exact(‹_∧_›).2|(obtain ⟨_,_,rfl,_⟩:=Rd.fn ‹_›;rfl)|(obtain ⟨_,_,rfl,_⟩:=Rd.fnr ‹_›;rfl)
 mono:=by
  rintro S S' C h' cs x ⟨a,b,c,rfl,k0,o,p,q,t,u,w,y,z,A,d,g,i,j,k,l,m,n⟩ s e;exact⟨a,b,c,rfl,k0,o,p,q,t.mono s e,u.mono s e,w.mono s e,y,z,A,d,g,i,j,k,l,m,n⟩
def CB.ex {S h v}{x:BC}(k:Rd S h CB v x):∃a b c:Value,v= .agg #[.string x.F,.int .i64 x.G,.int .i64 x.M,.int .i64 x.E,a,b,c,.int .i64 x.W,.int .i64 x.Ag,.int .i64 x.Bc,.int .i64 x.Bd,.int .i64 x.Aa,.int .i64 x.T,.int .i64 x.Az,.int .i64 x.Ba,.int .i64 x.Aq,.int .i64 x.Al,.int .i64 x.R]∧x.F.size≤maxLen∧AA x.G∧AA x.M∧AA x.E∧Sl S h CG a x.As∧Sl S h CG b x.Ae.Aw∧Sl S h CG c x.Ae.Ax∧AA x.W∧AA x.Ag∧AA x.Bc∧AA x.Bd∧AA x.Aa∧AA x.T∧AA x.Az∧AA x.Ba∧AA x.Aq∧AA x.Al∧AA x.R:=by obtain⟨_,rfl,a,b,c,rfl,k⟩:=k;exact⟨a,b,c,rfl,k⟩
def CB.mk {S h}{x:BC}{a b c:Value}(k0:x.F.size≤maxLen) (o:AA x.G) (p:AA x.M) (q:AA x.E) (s:Sl S h CG a x.As) (t:Sl S h CG b x.Ae.Aw) (u:Sl S h CG c x.Ae.Ax) (v:AA x.W) (w:AA x.Ag) (y:AA x.Bc) (d:AA x.Bd) (g:AA x.Aa) (i:AA x.T) (j:AA x.Az) (k:AA x.Ba) (l:AA x.Aq) (m:AA x.Al) (n:AA x.R):Rd S h CB (.agg #[.string x.F,.int .i64 x.G,.int .i64 x.M,.int .i64 x.E,a,b,c,.int .i64 x.W,.int .i64 x.Ag,.int .i64 x.Bc,.int .i64 x.Bd,.int .i64 x.Aa,.int .i64 x.T,.int .i64 x.Az,.int .i64 x.Ba,.int .i64 x.Aq,.int .i64 x.Al,.int .i64 x.R]) x:=⟨_,rfl,a,b,c,rfl,k0,o,p,q,s,t,u,v,w,y,d,g,i,j,k,l,m,n⟩
def BC.f_Name:FZ CB 0 A5.str (·.F):=by
 rintro S z cs x ⟨l,m,n,rfl,k0,o,p,q,s,t,u,v,w,y,a,b,c,d,g,i,j,k⟩;exact⟨rfl,k0⟩
def BC.f_Kind:FZ CB 1 AB (·.G):=by
 rintro S z cs x ⟨m,n,o,rfl,k0,a,p,q,s,t,u,v,w,y,b,c,d,g,i,j,k,l⟩;exact⟨rfl,a⟩
def BC.f_To:FZ CB 3 AB (·.E):=by
 rintro S z cs x ⟨m,n,o,rfl,k0,p,q,a,s,t,u,v,w,y,b,c,d,g,i,j,k,l⟩;exact⟨rfl,a⟩
def Kg:FZ CB 4 (A5.sl CG) (·.As):=by
 rintro S z cs x ⟨m,n,o,rfl,k0,p,q,s,a,t,u,v,w,y,b,c,d,g,i,j,k,l⟩;exact⟨_,rfl,a⟩
def IX:FZ CB 5 LD (·.Ae):=by
 rintro S z cs x ⟨n,o,p,rfl,k0,q,s,t,u,a,b,v,w,y,c,d,g,i,j,k,l,m⟩;exact⟨_,_,rfl,a,b⟩
def Gk:FZ CB 7 AB (·.W):=by
 rintro S z cs x ⟨m,n,o,rfl,k0,p,q,s,t,u,v,a,w,y,b,c,d,g,i,j,k,l⟩;exact⟨rfl,a⟩
def Kw:FZ CB 8 AB (·.Ag):=by
 rintro S z cs x ⟨m,n,o,rfl,k0,p,q,s,t,u,v,w,a,y,b,c,d,g,i,j,k,l⟩;exact⟨rfl,a⟩
def OV:FZ CB 9 AB (·.Bc):=by
 rintro S z cs x ⟨m,n,o,rfl,k0,p,q,s,t,u,v,w,y,a,b,c,d,g,i,j,k,l⟩;exact⟨rfl,a⟩
def Np:FZ CB 10 AB (·.Bd):=by
 rintro S z cs x ⟨l,m,n,rfl,k0,o,p,q,s,t,u,v,w,y,a,b,c,d,g,i,j,k⟩;exact⟨rfl,a⟩
def BC.f_Num:FZ CB 11 AB (·.Aa):=by
 rintro S z cs x ⟨l,m,n,rfl,k0,o,p,q,s,t,u,v,w,y,b,a,c,d,g,i,j,k⟩;exact⟨rfl,a⟩
def BC.f_Den:FZ CB 12 AB (·.T):=by
 rintro S z cs x ⟨l,m,n,rfl,k0,o,p,q,s,t,u,v,w,y,b,c,a,d,g,i,j,k⟩;exact⟨rfl,a⟩
def QH:FZ CB 13 AB (·.Az):=by
 rintro S z cs x ⟨l,m,n,rfl,k0,o,p,q,s,t,u,v,w,y,b,c,d,a,g,i,j,k⟩;exact⟨rfl,a⟩
def QI:FZ CB 14 AB (·.Ba):=by
 rintro S z cs x ⟨l,m,n,rfl,k0,o,p,q,s,t,u,v,w,y,b,c,d,g,a,i,j,k⟩;exact⟨rfl,a⟩
def KB:FZ CB 15 AB (·.Aq):=by
 rintro S z cs x ⟨l,m,n,rfl,k0,o,p,q,s,t,u,v,w,y,b,c,d,g,i,a,j,k⟩;exact⟨rfl,a⟩
def KC:FZ CB 16 AB (·.Al):=by
 rintro S z cs x ⟨l,m,n,rfl,k0,o,p,q,s,t,u,v,w,y,b,c,d,g,i,j,a,k⟩;exact⟨rfl,a⟩
def Vn:Mh CB 4 (A5.sl CG) (λx y=>{ x with As:=y}):=by
 refine⟨by decide,?_⟩;rintro S D c x vs y ⟨B,m,n,rfl,k0,o,p,q,C,s,t,u,v,w,a,b,d,g,i,j,k,l⟩ ⟨z,rfl,A⟩;exact⟨z,m,n,rfl,k0,o,p,q,A,s,t,u,v,w,a,b,d,g,i,j,k,l⟩
def mQ:Mh CB 5 LD (λx y=>{ x with Ae:=y}):=by
 refine⟨by decide,?_⟩;rintro S G c x vs y ⟨m,B,C,rfl,k0,n,o,p,q,D,F,s,t,u,a,b,d,g,i,j,k,l⟩ ⟨v,w,rfl,z,A⟩;exact⟨m,v,w,rfl,k0,n,o,p,q,z,A,s,t,u,a,b,d,g,i,j,k,l⟩
structure Ku where
 F:ByteArray
 Ap:Int
 Bs:Int
 Bq:Int
 Bv:Int
 Bt:Int
 Bp:Int
instance:Inhabited Ku:=⟨⟨default,default,default,default,default,default,default⟩⟩
@[reducible] def Ku.v (x:Ku):List Go.Value:=[.string x.F,.int .i64 x.Ap,.int .i64 x.Bs,.int .i64 x.Bq,.int .i64 x.Bv,.int .i64 x.Bt,.int .i64 x.Bp]
def Ku.ok (x:Ku):Prop:=x.F.size≤maxLen∧AA x.Ap∧AA x.Bs∧AA x.Bq∧AA x.Bv∧AA x.Bt∧AA x.Bp
def HN:A5 Ku where
 sz:=7
 ag:=true
 rd:=λ_ _ cs x=>cs=x.v∧x.ok
 len:=λ⟨b,_⟩=>by rw[b];rfl
 one:=λ{_ _ _ x} ⟨b,_⟩ v a=>by
  rw[b] at a;simp only[Ku.v,Acl,Ac0,Adc] at a;rcases a with rfl|rfl|rfl|rfl|rfl|rfl|rfl<;>rfl
 mono:=λb _ _=>b
def HN.ex {S a v}{x:Ku}(k:Rd S a HN v x):v= .agg #[.string x.F,.int .i64 x.Ap,.int .i64 x.Bs,.int .i64 x.Bq,.int .i64 x.Bv,.int .i64 x.Bt,.int .i64 x.Bp]∧x.ok:=by obtain⟨_,rfl,rfl,a⟩:=k;exact⟨rfl,a⟩
def HN.mk {S h}{x:Ku}(k:x.ok):Rd S h HN (.agg #[.string x.F,.int .i64 x.Ap,.int .i64 x.Bs,.int .i64 x.Bq,.int .i64 x.Bv,.int .i64 x.Bt,.int .i64 x.Bp]) x:=⟨x.v,rfl,rfl,k⟩
def Ku.f_Name:FZ HN 0 A5.str (·.F):=by
 rintro S j cs x ⟨rfl,⟨k0,a,b,c,d,g,i⟩⟩;exact⟨rfl,k0⟩
structure JJ where
 F:ByteArray
 G:Int
 Ac:Int
 L:Int
 Bu:Int
instance:Inhabited JJ:=⟨⟨default,default,default,default,default⟩⟩
@[reducible] def JJ.v (x:JJ):List Go.Value:=[.string x.F,.int .i64 x.G,.int .i64 x.Ac,.int .i64 x.L,.int .i64 x.Bu]
def JJ.ok (x:JJ):Prop:=x.F.size≤maxLen∧AA x.G∧AA x.Ac∧AA x.L∧AA x.Bu
def Et:A5 JJ where
 sz:=5
 ag:=true
 rd:=λ_ _ cs x=>cs=x.v∧x.ok
 len:=λ⟨b,_⟩=>by rw[b];rfl
 one:=λ{_ _ _ x} ⟨b,_⟩ v a=>by
  rw[b] at a;simp only[JJ.v,Acl,Ac0,Adc] at a;rcases a with rfl|rfl|rfl|rfl|rfl<;>rfl
 mono:=λb _ _=>b
def Et.ex {S a v}{x:JJ}(k:Rd S a Et v x):v= .agg #[.string x.F,.int .i64 x.G,.int .i64 x.Ac,.int .i64 x.L,.int .i64 x.Bu]∧x.ok:=by obtain⟨_,rfl,rfl,a⟩:=k;exact⟨rfl,a⟩
def Et.mk {S h}{x:JJ}(k:x.ok):Rd S h Et (.agg #[.string x.F,.int .i64 x.G,.int .i64 x.Ac,.int .i64 x.L,.int .i64 x.Bu]) x:=⟨x.v,rfl,rfl,k⟩
def JJ.f_Name:FZ Et 0 A5.str (·.F):=by
 rintro S g cs x ⟨rfl,⟨k0,a,b,c,d⟩⟩;exact⟨rfl,k0⟩
def JJ.f_Kind:FZ Et 1 AB (·.G):=by
 rintro S g cs x ⟨rfl,⟨k0,a,b,c,d⟩⟩;exact⟨rfl,a⟩
def JJ.f_Err:FZ Et 3 AB (·.L):=by
 rintro S g cs x ⟨rfl,⟨k0,b,c,a,d⟩⟩;exact⟨rfl,a⟩
structure Kv where
 F:ByteArray
 M:Int
 E:Int
 Bw:Int
 Bx:Int
 Bl:Int
 Bn:Int
instance:Inhabited Kv:=⟨⟨default,default,default,default,default,default,default⟩⟩
@[reducible] def Kv.v (x:Kv):List Go.Value:=[.string x.F,.int .i64 x.M,.int .i64 x.E,.int .i64 x.Bw,.int .i64 x.Bx,.int .i64 x.Bl,.int .i64 x.Bn]
def Kv.ok (x:Kv):Prop:=x.F.size≤maxLen∧AA x.M∧AA x.E∧AA x.Bw∧AA x.Bx∧AA x.Bl∧AA x.Bn
def G5:A5 Kv where
 sz:=7
 ag:=true
 rd:=λ_ _ cs x=>cs=x.v∧x.ok
 len:=λ⟨b,_⟩=>by rw[b];rfl
 one:=λ{_ _ _ x} ⟨b,_⟩ v a=>by
  rw[b] at a;simp only[Kv.v,Acl,Ac0,Adc] at a;rcases a with rfl|rfl|rfl|rfl|rfl|rfl|rfl<;>rfl
 mono:=λb _ _=>b
def G5.ex {S a v}{x:Kv}(k:Rd S a G5 v x):v= .agg #[.string x.F,.int .i64 x.M,.int .i64 x.E,.int .i64 x.Bw,.int .i64 x.Bx,.int .i64 x.Bl,.int .i64 x.Bn]∧x.ok:=by obtain⟨_,rfl,rfl,a⟩:=k;exact⟨rfl,a⟩
def G5.mk {S h}{x:Kv}(k:x.ok):Rd S h G5 (.agg #[.string x.F,.int .i64 x.M,.int .i64 x.E,.int .i64 x.Bw,.int .i64 x.Bx,.int .i64 x.Bl,.int .i64 x.Bn]) x:=⟨x.v,rfl,rfl,k⟩
def Kv.f_Name:FZ G5 0 A5.str (·.F):=by
 rintro S j cs x ⟨rfl,⟨k0,a,b,c,d,g,i⟩⟩;exact⟨rfl,k0⟩
def Kv.f_To:FZ G5 2 AB (·.E):=by
 rintro S j cs x ⟨rfl,⟨k0,b,a,c,d,g,i⟩⟩;exact⟨rfl,a⟩
structure Gy where
 F:ByteArray
 Aj:Int
instance:Inhabited Gy:=⟨⟨default,default⟩⟩
@[reducible] def Gy.v (x:Gy):List Go.Value:=[.string x.F,.int .i64 x.Aj]
def Gy.ok (x:Gy):Prop:=x.F.size≤maxLen∧AA x.Aj
def DW:A5 Gy where
 sz:=2
 ag:=true
 rd:=λ_ _ cs x=>cs=x.v∧x.ok
 len:=λ⟨b,_⟩=>by rw[b];rfl
 one:=λ{_ _ _ x} ⟨b,_⟩ v a=>by
  rw[b] at a;simp only[Gy.v,Acl,Ac0,Adc] at a;rcases a with rfl|rfl<;>rfl
 mono:=λb _ _=>b
def DW.ex {S a v}{x:Gy}(k:Rd S a DW v x):v= .agg #[.string x.F,.int .i64 x.Aj]∧x.ok:=by obtain⟨_,rfl,rfl,a⟩:=k;exact⟨rfl,a⟩
def DW.mk {S h}{x:Gy}(k:x.ok):Rd S h DW (.agg #[.string x.F,.int .i64 x.Aj]) x:=⟨x.v,rfl,rfl,k⟩
def Gy.f_Name:FZ DW 0 A5.str (·.F):=by
 rintro S b cs x ⟨rfl,⟨k0,a⟩⟩;exact⟨rfl,k0⟩
def Gy.f_Room:FZ DW 1 AB (·.Aj):=by
 rintro S b cs x ⟨rfl,⟨k0,a⟩⟩;exact⟨rfl,a⟩
structure AF where
 F:ByteArray
 J:(List ByteArray)
 K:Int
 A:(List Cj)
 C:(List BC)
 Af:(List Ku)
 Ah:(List JJ)
 Ai:(List Kv)
 Ak:(List Gy)
 Aj:(List Int)
 L:Int
instance:Inhabited AF:=⟨⟨default,default,default,default,default,default,default,default,default,default,default⟩⟩
def B3:A5 AF where
 sz:=11
 ag:=true
 rd:=λS z cs x=>∃v1 a b c d g i j:Value,cs=[.string x.F,v1,.int .i64 x.K,a,b,c,d,g,i,j,.int .i64 x.L]∧x.F.size≤maxLen∧Sl S z A5.str v1 x.J∧AA x.K∧Sl S z B1 a x.A∧Sl S z CB b x.C∧Sl S z HN c x.Af∧Sl S z Et d x.Ah∧Sl S z G5 g x.Ai∧Sl S z DW i x.Ak∧Sl S z AB j x.Aj∧AA x.L
 len:=λ⟨_,_,_,_,_,_,_,_,z,_⟩=>by rw[z];rfl
 one:=by
  rintro S z cs x ⟨v1,a,b,c,d,g,i,j,rfl,k0,l,m,n,o,p,q,t,u,w,k⟩ v y;simp only[Acl,Ac0,Adc] at y;rcases y with rfl|rfl|rfl|rfl|rfl|rfl|rfl|rfl|rfl|rfl|rfl<;>first|rfl|exact Sl.one ‹_› |exact(‹_∧_›).2|(obtain ⟨_,_,rfl,_⟩:=Rd.fn ‹_›;rfl)|(obtain ⟨_,_,rfl,_⟩:=Rd.fnr ‹_›;rfl)
 mono:=by
  rintro S S' z h' cs x ⟨v1,a,b,c,d,g,i,j,rfl,k0,l,m,n,o,p,q,t,u,w,k⟩ s e;exact⟨v1,a,b,c,d,g,i,j,rfl,k0,l.mono s e,m,n.mono s e,o.mono s e,p.mono s e,q.mono s e,t.mono s e,u.mono s e,w.mono s e,k⟩
def B3.ex {S h v}{x:AF}(k:Rd S h B3 v x):∃v1 a b c d g i j:Value,v= .agg #[.string x.F,v1,.int .i64 x.K,a,b,c,d,g,i,j,.int .i64 x.L]∧x.F.size≤maxLen∧Sl S h A5.str v1 x.J∧AA x.K∧Sl S h B1 a x.A∧Sl S h CB b x.C∧Sl S h HN c x.Af∧Sl S h Et d x.Ah∧Sl S h G5 g x.Ai∧Sl S h DW i x.Ak∧Sl S h AB j x.Aj∧AA x.L:=by obtain⟨_,rfl,v1,a,b,c,d,g,i,j,rfl,k⟩:=k;exact⟨v1,a,b,c,d,g,i,j,rfl,k⟩
def B3.mk {S h}{x:AF}{v1 a b c d g i j:Value}(k0:x.F.size≤maxLen) (l:Sl S h A5.str v1 x.J) (m:AA x.K) (n:Sl S h B1 a x.A) (o:Sl S h CB b x.C) (p:Sl S h HN c x.Af) (q:Sl S h Et d x.Ah) (s:Sl S h G5 g x.Ai) (t:Sl S h DW i x.Ak) (u:Sl S h AB j x.Aj) (k:AA x.L):Rd S h B3 (.agg #[.string x.F,v1,.int .i64 x.K,a,b,c,d,g,i,j,.int .i64 x.L]) x:=⟨_,rfl,v1,a,b,c,d,g,i,j,rfl,k0,l,m,n,o,p,q,s,t,u,k⟩
def AF.f_Name:FZ B3 0 A5.str (·.F):=by
 rintro S v cs x ⟨v1,b,c,d,g,i,j,k,rfl,k0,l,m,n,o,p,q,s,t,u,a⟩;exact⟨rfl,k0⟩
def IJ:FZ B3 1 (A5.sl A5.str) (·.J):=by
 rintro S v cs x ⟨v1,c,d,g,i,j,k,l,rfl,k0,a,m,n,o,p,q,s,t,u,b⟩;exact⟨_,rfl,a⟩
def NV:FZ B3 2 AB (·.K):=by
 rintro S v cs x ⟨v1,c,d,g,i,j,k,l,rfl,k0,m,a,n,o,p,q,s,t,u,b⟩;exact⟨rfl,a⟩
def Cp:FZ B3 3 (A5.sl B1) (·.A):=by
 rintro S v cs x ⟨v1,c,d,g,i,j,k,l,rfl,k0,m,n,a,o,p,q,s,t,u,b⟩;exact⟨_,rfl,a⟩
def HY:FZ B3 4 (A5.sl CB) (·.C):=by
 rintro S v cs x ⟨v1,c,d,g,i,j,k,l,rfl,k0,m,n,o,a,p,q,s,t,u,b⟩;exact⟨_,rfl,a⟩
def KZ:FZ B3 5 (A5.sl HN) (·.Af):=by
 rintro S v cs x ⟨v1,c,d,g,i,j,k,l,rfl,k0,m,n,o,p,a,q,s,t,u,b⟩;exact⟨_,rfl,a⟩
def K2:FZ B3 6 (A5.sl Et) (·.Ah):=by
 rintro S v cs x ⟨v1,c,d,g,i,j,k,l,rfl,k0,m,n,o,p,q,a,s,t,u,b⟩;exact⟨_,rfl,a⟩
def Lo:FZ B3 7 (A5.sl G5) (·.Ai):=by
 rintro S v cs x ⟨v1,c,d,g,i,j,k,l,rfl,k0,m,n,o,p,q,s,a,t,u,b⟩;exact⟨_,rfl,a⟩
def KK:FZ B3 8 (A5.sl DW) (·.Ak):=by
 rintro S v cs x ⟨v1,c,d,g,i,j,k,l,rfl,k0,m,n,o,p,q,s,t,a,u,b⟩;exact⟨_,rfl,a⟩
def AF.f_Room:FZ B3 9 (A5.sl AB) (·.Aj):=by
 rintro S v cs x ⟨v1,c,d,g,i,j,k,l,rfl,k0,m,n,o,p,q,s,t,u,a,b⟩;exact⟨_,rfl,a⟩
def AF.f_Err:FZ B3 10 AB (·.L):=by
 rintro S v cs x ⟨v1,b,c,d,g,i,j,k,rfl,k0,l,m,n,o,p,q,s,t,u,a⟩;exact⟨rfl,a⟩
structure AT where
 At:Int
 E:Int
 V:(List Int)
instance:Inhabited AT:=⟨⟨default,default,default⟩⟩
def AY:A5 AT where
 sz:=3
 ag:=true
 rd:=λS g cs x=>∃a:Value,cs=[.int .i64 x.At,.int .i64 x.E,a]∧AA x.At∧AA x.E∧Sl S g AB a x.V
 len:=λ⟨_,g,_⟩=>by rw[g];rfl
 one:=by
  rintro S g cs x ⟨a,rfl,k0,b,c⟩ v d;simp only[Acl,Ac0,Adc] at d;rcases d with rfl|rfl|rfl<;>first|rfl|exact Sl.one ‹_› |exact(‹_∧_›).2|(obtain ⟨_,_,rfl,_⟩:=Rd.fn ‹_›;rfl)|(obtain ⟨_,_,rfl,_⟩:=Rd.fnr ‹_›;rfl)
 mono:=by
  rintro S S' g h' cs x ⟨a,rfl,k0,b,c⟩ s e;exact⟨a,rfl,k0,b,c.mono s e⟩
def AY.ex {S h v}{x:AT}(k:Rd S h AY v x):∃a:Value,v= .agg #[.int .i64 x.At,.int .i64 x.E,a]∧AA x.At∧AA x.E∧Sl S h AB a x.V:=by obtain⟨_,rfl,a,rfl,k⟩:=k;exact⟨a,rfl,k⟩
def AY.mk {S h}{x:AT}{a:Value}(k0:AA x.At) (b:AA x.E) (c:Sl S h AB a x.V):Rd S h AY (.agg #[.int .i64 x.At,.int .i64 x.E,a]) x:=⟨_,rfl,a,rfl,k0,b,c⟩
def Xr:FZ AY 0 AB (·.At):=by
 rintro S d cs x ⟨a,rfl,k0,b,c⟩;exact⟨rfl,k0⟩
def AT.f_To:FZ AY 1 AB (·.E):=by
 rintro S d cs x ⟨b,rfl,k0,a,c⟩;exact⟨rfl,a⟩
def AT.f_Part:FZ AY 2 (A5.sl AB) (·.V):=by
 rintro S d cs x ⟨b,rfl,k0,c,a⟩;exact⟨_,rfl,a⟩
def AT.u_Part:Mh AY 2 (A5.sl AB) (λx y=>{ x with V:=y}):=by
 refine⟨by decide,?_⟩;rintro S j c x vs y ⟨g,rfl,k0,a,i⟩ ⟨b,rfl,d⟩;exact⟨b,rfl,k0,a,d⟩
structure A3 where
 Ab:Int
 Ac:Int
 Ay:Bool
 Am:Bool
instance:Inhabited A3:=⟨⟨default,default,default,default⟩⟩
@[reducible] def A3.v (x:A3):List Go.Value:=[.int .i64 x.Ab,.int .i64 x.Ac,.bool x.Ay,.bool x.Am]
def A3.ok (x:A3):Prop:=AA x.Ab∧AA x.Ac
def BQ:A5 A3 where
 sz:=4
 ag:=true
 rd:=λ_ _ cs x=>cs=x.v∧x.ok
 len:=λ⟨b,_⟩=>by rw[b];rfl
 one:=λ{_ _ _ x} ⟨b,_⟩ v a=>by
  rw[b] at a;simp only[A3.v,Acl,Ac0,Adc] at a;rcases a with rfl|rfl|rfl|rfl<;>rfl
 mono:=λb _ _=>b
def BQ.ex {S a v}{x:A3}(k:Rd S a BQ v x):v= .agg #[.int .i64 x.Ab,.int .i64 x.Ac,.bool x.Ay,.bool x.Am]∧x.ok:=by obtain⟨_,rfl,rfl,a⟩:=k;exact⟨rfl,a⟩
def BQ.mk {S h}{x:A3}(k:x.ok):Rd S h BQ (.agg #[.int .i64 x.Ab,.int .i64 x.Ac,.bool x.Ay,.bool x.Am]) x:=⟨x.v,rfl,rfl,k⟩
def SF:FZ BQ 0 AB (·.Ab):=by
 rintro S b cs x ⟨rfl,⟨k0,a⟩⟩;exact⟨rfl,k0⟩
def Vo:FZ BQ 3 A5.bool (·.Am):=by
 rintro S b cs x ⟨rfl,⟨k0,a⟩⟩;exact rfl
structure AI where
 B:Int
 H:(List (List Int))
 N:(List Int)
 I:(List AT)
 P:(List A3)
 D:(List Int)
 O:(List Int)
instance:Inhabited AI:=⟨⟨default,default,default,default,default,default,default⟩⟩
def BU:A5 AI where
 sz:=7
 ag:=true
 rd:=λS p cs x=>∃v1 a b c d g:Value,cs=[.int .i64 x.B,v1,a,b,c,d,g]∧AA x.B∧Sl S p (A5.sl AB) v1 x.H∧Sl S p AB a x.N∧Sl S p AY b x.I∧Sl S p BQ c x.P∧Sl S p AB d x.D∧Sl S p AB g x.O
 len:=λ⟨_,_,_,_,_,_,p,_⟩=>by rw[p];rfl
 one:=by
  rintro S p cs x ⟨v1,a,b,c,d,g,rfl,k0,i,j,k,l,m,n⟩ v o;simp only[Acl,Ac0,Adc] at o;rcases o with rfl|rfl|rfl|rfl|rfl|rfl|rfl<;>first|rfl|exact Sl.one ‹_› |exact(‹_∧_›).2|(obtain ⟨_,_,rfl,_⟩:=Rd.fn ‹_›;rfl)|(obtain ⟨_,_,rfl,_⟩:=Rd.fnr ‹_›;rfl)
 mono:=by
  rintro S S' p h' cs x ⟨v1,a,b,c,d,g,rfl,k0,i,j,k,l,m,n⟩ s e;exact⟨v1,a,b,c,d,g,rfl,k0,i.mono s e,j.mono s e,k.mono s e,l.mono s e,m.mono s e,n.mono s e⟩
def BU.ex {S h v}{x:AI}(k:Rd S h BU v x):∃v1 a b c d g:Value,v= .agg #[.int .i64 x.B,v1,a,b,c,d,g]∧AA x.B∧Sl S h (A5.sl AB) v1 x.H∧Sl S h AB a x.N∧Sl S h AY b x.I∧Sl S h BQ c x.P∧Sl S h AB d x.D∧Sl S h AB g x.O:=by obtain⟨_,rfl,v1,a,b,c,d,g,rfl,k⟩:=k;exact⟨v1,a,b,c,d,g,rfl,k⟩
def BU.mk {S h}{x:AI}{v1 a b c d g:Value}(k0:AA x.B) (i:Sl S h (A5.sl AB) v1 x.H) (j:Sl S h AB a x.N) (k:Sl S h AY b x.I) (l:Sl S h BQ c x.P) (m:Sl S h AB d x.D) (n:Sl S h AB g x.O):Rd S h BU (.agg #[.int .i64 x.B,v1,a,b,c,d,g]) x:=⟨_,rfl,v1,a,b,c,d,g,rfl,k0,i,j,k,l,m,n⟩
def AI.f_Hour:FZ BU 0 AB (·.B):=by
 rintro S o cs x ⟨v1,a,b,c,d,g,rfl,k0,i,j,k,l,m,n⟩;exact⟨rfl,k0⟩
def M1:FZ BU 1 (A5.sl (A5.sl AB)) (·.H):=by
 rintro S o cs x ⟨v1,b,c,d,g,i,rfl,k0,a,j,k,l,m,n⟩;exact⟨_,rfl,a⟩
def Lh:FZ BU 2 (A5.sl AB) (·.N):=by
 rintro S o cs x ⟨v1,b,c,d,g,i,rfl,k0,j,a,k,l,m,n⟩;exact⟨_,rfl,a⟩
def Li:FZ BU 3 (A5.sl AY) (·.I):=by
 rintro S o cs x ⟨v1,b,c,d,g,i,rfl,k0,j,k,a,l,m,n⟩;exact⟨_,rfl,a⟩
def Lj:FZ BU 4 (A5.sl BQ) (·.P):=by
 rintro S o cs x ⟨v1,b,c,d,g,i,rfl,k0,j,k,l,a,m,n⟩;exact⟨_,rfl,a⟩
def AI.f_In:FZ BU 5 (A5.sl AB) (·.D):=by
 rintro S o cs x ⟨v1,b,c,d,g,i,rfl,k0,j,k,l,m,a,n⟩;exact⟨_,rfl,a⟩
def M2:FZ BU 6 (A5.sl AB) (·.O):=by
 rintro S o cs x ⟨v1,b,c,d,g,i,rfl,k0,j,k,l,m,n,a⟩;exact⟨_,rfl,a⟩
structure AG where
 group:ByteArray
 name:ByteArray
instance:Inhabited AG:=⟨⟨default,default⟩⟩
@[reducible] def AG.v (x:AG):List Go.Value:=[.string x.group,.string x.name]
def AG.ok (x:AG):Prop:=x.group.size≤maxLen∧x.name.size≤maxLen
def My:A5 AG where
 sz:=2
 ag:=true
 rd:=λ_ _ cs x=>cs=x.v∧x.ok
 len:=λ⟨b,_⟩=>by rw[b];rfl
 one:=λ{_ _ _ x} ⟨b,_⟩ v a=>by
  rw[b] at a;simp only[AG.v,Acl,Ac0,Adc] at a;rcases a with rfl|rfl<;>rfl
 mono:=λb _ _=>b
def My.ex {S a v}{x:AG}(k:Rd S a My v x):v= .agg #[.string x.group,.string x.name]∧x.ok:=by obtain⟨_,rfl,rfl,a⟩:=k;exact⟨rfl,a⟩
def My.mk {S h}{x:AG}(k:x.ok):Rd S h My (.agg #[.string x.group,.string x.name]) x:=⟨x.v,rfl,rfl,k⟩
structure Gz where
 G:Int
 Ar:Int
instance:Inhabited Gz:=⟨⟨default,default⟩⟩
@[reducible] def Gz.v (x:Gz):List Go.Value:=[.int .i64 x.G,.int .i64 x.Ar]
def Gz.ok (x:Gz):Prop:=AA x.G∧AA x.Ar
def Cv:A5 Gz where
 sz:=2
 ag:=true
 rd:=λ_ _ cs x=>cs=x.v∧x.ok
 len:=λ⟨b,_⟩=>by rw[b];rfl
 one:=λ{_ _ _ x} ⟨b,_⟩ v a=>by
  rw[b] at a;simp only[Gz.v,Acl,Ac0,Adc] at a;rcases a with rfl|rfl<;>rfl
 mono:=λb _ _=>b
def Cv.ex {S a v}{x:Gz}(k:Rd S a Cv v x):v= .agg #[.int .i64 x.G,.int .i64 x.Ar]∧x.ok:=by obtain⟨_,rfl,rfl,a⟩:=k;exact⟨rfl,a⟩
def Cv.mk {S h}{x:Gz}(k:x.ok):Rd S h Cv (.agg #[.int .i64 x.G,.int .i64 x.Ar]) x:=⟨x.v,rfl,rfl,k⟩
def Gz.f_Kind:FZ Cv 0 AB (·.G):=by
 rintro S b cs x ⟨rfl,⟨k0,a⟩⟩;exact⟨rfl,k0⟩
structure LK where
 Ar:Int
 Ac:Int
instance:Inhabited LK:=⟨⟨default,default⟩⟩
@[reducible] def LK.v (x:LK):List Go.Value:=[.int .i64 x.Ar,.int .i64 x.Ac]
def LK.ok (x:LK):Prop:=AA x.Ar∧AA x.Ac
def FY:A5 LK where
 sz:=2
 ag:=true
 rd:=λ_ _ cs x=>cs=x.v∧x.ok
 len:=λ⟨b,_⟩=>by rw[b];rfl
 one:=λ{_ _ _ x} ⟨b,_⟩ v a=>by
  rw[b] at a;simp only[LK.v,Acl,Ac0,Adc] at a;rcases a with rfl|rfl<;>rfl
 mono:=λb _ _=>b
def FY.ex {S a v}{x:LK}(k:Rd S a FY v x):v= .agg #[.int .i64 x.Ar,.int .i64 x.Ac]∧x.ok:=by obtain⟨_,rfl,rfl,a⟩:=k;exact⟨rfl,a⟩
def FY.mk {S h}{x:LK}(k:x.ok):Rd S h FY (.agg #[.int .i64 x.Ar,.int .i64 x.Ac]) x:=⟨x.v,rfl,rfl,k⟩
structure FL where
 Ap:Int
 Bj:Int
 Be:Int
 E:Int
instance:Inhabited FL:=⟨⟨default,default,default,default⟩⟩
@[reducible] def FL.v (x:FL):List Go.Value:=[.int .i64 x.Ap,.int .i64 x.Bj,.int .i64 x.Be,.int .i64 x.E]
def FL.ok (x:FL):Prop:=AA x.Ap∧AA x.Bj∧AA x.Be∧AA x.E
def DK:A5 FL where
 sz:=4
 ag:=true
 rd:=λ_ _ cs x=>cs=x.v∧x.ok
 len:=λ⟨b,_⟩=>by rw[b];rfl
 one:=λ{_ _ _ x} ⟨b,_⟩ v a=>by
  rw[b] at a;simp only[FL.v,Acl,Ac0,Adc] at a;rcases a with rfl|rfl|rfl|rfl<;>rfl
 mono:=λb _ _=>b
def DK.ex {S a v}{x:FL}(k:Rd S a DK v x):v= .agg #[.int .i64 x.Ap,.int .i64 x.Bj,.int .i64 x.Be,.int .i64 x.E]∧x.ok:=by obtain⟨_,rfl,rfl,a⟩:=k;exact⟨rfl,a⟩
def DK.mk {S h}{x:FL}(k:x.ok):Rd S h DK (.agg #[.int .i64 x.Ap,.int .i64 x.Bj,.int .i64 x.Be,.int .i64 x.E]) x:=⟨x.v,rfl,rfl,k⟩
def QG:FZ DK 1 AB (·.Bj):=by
 rintro S d cs x ⟨rfl,⟨k0,a,b,c⟩⟩;exact⟨rfl,a⟩
def FL.f_Litres:FZ DK 2 AB (·.Be):=by
 rintro S d cs x ⟨rfl,⟨k0,b,a,c⟩⟩;exact⟨rfl,a⟩
def FL.f_To:FZ DK 3 AB (·.E):=by
 rintro S d cs x ⟨rfl,⟨k0,b,c,a⟩⟩;exact⟨rfl,a⟩
structure Ix where
 Ap:Int
 M:Int
 E:Int
 Be:Int
instance:Inhabited Ix:=⟨⟨default,default,default,default⟩⟩
@[reducible] def Ix.v (x:Ix):List Go.Value:=[.int .i64 x.Ap,.int .i64 x.M,.int .i64 x.E,.int .i64 x.Be]
def Ix.ok (x:Ix):Prop:=AA x.Ap∧AA x.M∧AA x.E∧AA x.Be
def Dj:A5 Ix where
 sz:=4
 ag:=true
 rd:=λ_ _ cs x=>cs=x.v∧x.ok
 len:=λ⟨b,_⟩=>by rw[b];rfl
 one:=λ{_ _ _ x} ⟨b,_⟩ v a=>by
  rw[b] at a;simp only[Ix.v,Acl,Ac0,Adc] at a;rcases a with rfl|rfl|rfl|rfl<;>rfl
 mono:=λb _ _=>b
def Dj.ex {S a v}{x:Ix}(k:Rd S a Dj v x):v= .agg #[.int .i64 x.Ap,.int .i64 x.M,.int .i64 x.E,.int .i64 x.Be]∧x.ok:=by obtain⟨_,rfl,rfl,a⟩:=k;exact⟨rfl,a⟩
def Dj.mk {S h}{x:Ix}(k:x.ok):Rd S h Dj (.agg #[.int .i64 x.Ap,.int .i64 x.M,.int .i64 x.E,.int .i64 x.Be]) x:=⟨x.v,rfl,rfl,k⟩
def Ix.f_To:FZ Dj 2 AB (·.E):=by
 rintro S d cs x ⟨rfl,⟨k0,b,a,c⟩⟩;exact⟨rfl,a⟩
def Ix.f_Litres:FZ Dj 3 AB (·.Be):=by
 rintro S d cs x ⟨rfl,⟨k0,b,c,a⟩⟩;exact⟨rfl,a⟩
structure AN where
 S:(List Int)
 X:(List Gz)
 Y:(List LK)
 U:(List FL)
 Ad:(List Ix)
instance:Inhabited AN:=⟨⟨default,default,default,default,default⟩⟩
def BD:A5 AN where
 sz:=5
 ag:=true
 rd:=λS m cs x=>∃a v1 b c d:Value,cs=[a,v1,b,c,d]∧Sl S m AB a x.S∧Sl S m Cv v1 x.X∧Sl S m FY b x.Y∧Sl S m DK c x.U∧Sl S m Dj d x.Ad
 len:=λ⟨_,_,_,_,_,m,_⟩=>by rw[m];rfl
 one:=by
  rintro S m cs x ⟨a,v1,b,c,d,rfl,k0,g,i,j,k⟩ v l;simp only[Acl,Ac0,Adc] at l;rcases l with rfl|rfl|rfl|rfl|rfl<;>first|rfl|exact Sl.one ‹_› |exact(‹_∧_›).2|(obtain ⟨_,_,rfl,_⟩:=Rd.fn ‹_›;rfl)|(obtain ⟨_,_,rfl,_⟩:=Rd.fnr ‹_›;rfl)
 mono:=by
  rintro S S' m h' cs x ⟨a,v1,b,c,d,rfl,k0,g,i,j,k⟩ s e;exact⟨a,v1,b,c,d,rfl,k0.mono s e,g.mono s e,i.mono s e,j.mono s e,k.mono s e⟩
def BD.ex {S h v}{x:AN}(k:Rd S h BD v x):∃a v1 b c d:Value,v= .agg #[a,v1,b,c,d]∧Sl S h AB a x.S∧Sl S h Cv v1 x.X∧Sl S h FY b x.Y∧Sl S h DK c x.U∧Sl S h Dj d x.Ad:=by obtain⟨_,rfl,a,v1,b,c,d,rfl,k⟩:=k;exact⟨a,v1,b,c,d,rfl,k⟩
def BD.mk {S h}{x:AN}{a v1 b c d:Value}(k0:Sl S h AB a x.S) (g:Sl S h Cv v1 x.X) (i:Sl S h FY b x.Y) (j:Sl S h DK c x.U) (k:Sl S h Dj d x.Ad):Rd S h BD (.agg #[a,v1,b,c,d]) x:=⟨_,rfl,a,v1,b,c,d,rfl,k0,g,i,j,k⟩
def AN.f_Rain:FZ BD 0 (A5.sl AB) (·.S):=by
 rintro S l cs x ⟨a,v1,b,c,d,rfl,k0,g,i,j,k⟩;exact⟨_,rfl,k0⟩
def K1:FZ BD 1 (A5.sl Cv) (·.X):=by
 rintro S l cs x ⟨b,v1,c,d,g,rfl,k0,a,i,j,k⟩;exact⟨_,rfl,a⟩
def MC:FZ BD 2 (A5.sl FY) (·.Y):=by
 rintro S l cs x ⟨b,v1,c,d,g,rfl,k0,i,a,j,k⟩;exact⟨_,rfl,a⟩
def Lk:FZ BD 3 (A5.sl DK) (·.U):=by
 rintro S l cs x ⟨b,v1,c,d,g,rfl,k0,i,j,a,k⟩;exact⟨_,rfl,a⟩
def Ll:FZ BD 4 (A5.sl Dj) (·.Ad):=by
 rintro S l cs x ⟨b,v1,c,d,g,rfl,k0,i,j,k,a⟩;exact⟨_,rfl,a⟩
def AN.u_Rain:Mh BD 0 (A5.sl AB) (λx y=>{ x with S:=y}):=by
 refine⟨by decide,?_⟩;rintro S p c x vs y ⟨o,a,b,d,g,rfl,k0,i,j,k,l⟩ ⟨m,rfl,n⟩;exact⟨m,a,b,d,g,rfl,n,i,j,k,l⟩
structure DI where
 a:(List Int)
 b:(List Int)
instance:Inhabited DI:=⟨⟨default,default⟩⟩
def EZ:A5 DI where
 sz:=2
 ag:=true
 rd:=λS i cs x=>∃c v1:Value,cs=[c,v1]∧Sl S i AB c x.a∧Sl S i AB v1 x.b
 len:=λ⟨_,_,i,_⟩=>by rw[i];rfl
 one:=by
  rintro S i cs x ⟨c,v1,rfl,k0,d⟩ v g;simp only[Acl,Ac0,Adc] at g;rcases g with rfl|rfl<;>first|rfl|exact Sl.one ‹_› |exact(‹_∧_›).2|(obtain ⟨_,_,rfl,_⟩:=Rd.fn ‹_›;rfl)|(obtain ⟨_,_,rfl,_⟩:=Rd.fnr ‹_›;rfl)
 mono:=by
  rintro S S' i h' cs x ⟨c,v1,rfl,k0,d⟩ s e;exact⟨c,v1,rfl,k0.mono s e,d.mono s e⟩
def EZ.ex {S h v}{x:DI}(k:Rd S h EZ v x):∃c v1:Value,v= .agg #[c,v1]∧Sl S h AB c x.a∧Sl S h AB v1 x.b:=by obtain⟨_,rfl,c,v1,rfl,k⟩:=k;exact⟨c,v1,rfl,k⟩
def EZ.mk {S h}{x:DI}{c v1:Value}(k0:Sl S h AB c x.a) (d:Sl S h AB v1 x.b):Rd S h EZ (.agg #[c,v1]) x:=⟨_,rfl,c,v1,rfl,k0,d⟩
def DI.f_a:FZ EZ 0 (A5.sl AB) (·.a):=by
 rintro S d cs x ⟨b,v1,rfl,k0,c⟩;exact⟨_,rfl,k0⟩
def DI.f_b:FZ EZ 1 (A5.sl AB) (·.b):=by
 rintro S d cs x ⟨c,v1,rfl,k0,a⟩;exact⟨_,rfl,a⟩
structure J6 where
 a:(List Gz)
 b:(List Gz)
instance:Inhabited J6:=⟨⟨default,default⟩⟩
def Kt:A5 J6 where
 sz:=2
 ag:=true
 rd:=λS i cs x=>∃c v1:Value,cs=[c,v1]∧Sl S i Cv c x.a∧Sl S i Cv v1 x.b
 len:=λ⟨_,_,i,_⟩=>by rw[i];rfl
 one:=by
  rintro S i cs x ⟨c,v1,rfl,k0,d⟩ v g;simp only[Acl,Ac0,Adc] at g;rcases g with rfl|rfl<;>first|rfl|exact Sl.one ‹_› |exact(‹_∧_›).2|(obtain ⟨_,_,rfl,_⟩:=Rd.fn ‹_›;rfl)|(obtain ⟨_,_,rfl,_⟩:=Rd.fnr ‹_›;rfl)
 mono:=by
  rintro S S' i h' cs x ⟨c,v1,rfl,k0,d⟩ s e;exact⟨c,v1,rfl,k0.mono s e,d.mono s e⟩
def Kt.ex {S h v}{x:J6}(k:Rd S h Kt v x):∃c v1:Value,v= .agg #[c,v1]∧Sl S h Cv c x.a∧Sl S h Cv v1 x.b:=by obtain⟨_,rfl,c,v1,rfl,k⟩:=k;exact⟨c,v1,rfl,k⟩
def Kt.mk {S h}{x:J6}{c v1:Value}(k0:Sl S h Cv c x.a) (d:Sl S h Cv v1 x.b):Rd S h Kt (.agg #[c,v1]) x:=⟨_,rfl,c,v1,rfl,k0,d⟩
def J6.f_a:FZ Kt 0 (A5.sl Cv) (·.a):=by
 rintro S d cs x ⟨b,v1,rfl,k0,c⟩;exact⟨_,rfl,k0⟩
def J6.f_b:FZ Kt 1 (A5.sl Cv) (·.b):=by
 rintro S d cs x ⟨c,v1,rfl,k0,a⟩;exact⟨_,rfl,a⟩
structure NU where
 a:(List LK)
 b:(List LK)
instance:Inhabited NU:=⟨⟨default,default⟩⟩
def Nm:A5 NU where
 sz:=2
 ag:=true
 rd:=λS i cs x=>∃c v1:Value,cs=[c,v1]∧Sl S i FY c x.a∧Sl S i FY v1 x.b
 len:=λ⟨_,_,i,_⟩=>by rw[i];rfl
 one:=by
  rintro S i cs x ⟨c,v1,rfl,k0,d⟩ v g;simp only[Acl,Ac0,Adc] at g;rcases g with rfl|rfl<;>first|rfl|exact Sl.one ‹_› |exact(‹_∧_›).2|(obtain ⟨_,_,rfl,_⟩:=Rd.fn ‹_›;rfl)|(obtain ⟨_,_,rfl,_⟩:=Rd.fnr ‹_›;rfl)
 mono:=by
  rintro S S' i h' cs x ⟨c,v1,rfl,k0,d⟩ s e;exact⟨c,v1,rfl,k0.mono s e,d.mono s e⟩
def Nm.ex {S h v}{x:NU}(k:Rd S h Nm v x):∃c v1:Value,v= .agg #[c,v1]∧Sl S h FY c x.a∧Sl S h FY v1 x.b:=by obtain⟨_,rfl,c,v1,rfl,k⟩:=k;exact⟨c,v1,rfl,k⟩
def Nm.mk {S h}{x:NU}{c v1:Value}(k0:Sl S h FY c x.a) (d:Sl S h FY v1 x.b):Rd S h Nm (.agg #[c,v1]) x:=⟨_,rfl,c,v1,rfl,k0,d⟩
def NU.f_a:FZ Nm 0 (A5.sl FY) (·.a):=by
 rintro S d cs x ⟨b,v1,rfl,k0,c⟩;exact⟨_,rfl,k0⟩
def NU.f_b:FZ Nm 1 (A5.sl FY) (·.b):=by
 rintro S d cs x ⟨c,v1,rfl,k0,a⟩;exact⟨_,rfl,a⟩
structure LH where
 a:(List FL)
 b:(List FL)
instance:Inhabited LH:=⟨⟨default,default⟩⟩
def MA:A5 LH where
 sz:=2
 ag:=true
 rd:=λS i cs x=>∃c v1:Value,cs=[c,v1]∧Sl S i DK c x.a∧Sl S i DK v1 x.b
 len:=λ⟨_,_,i,_⟩=>by rw[i];rfl
 one:=by
  rintro S i cs x ⟨c,v1,rfl,k0,d⟩ v g;simp only[Acl,Ac0,Adc] at g;rcases g with rfl|rfl<;>first|rfl|exact Sl.one ‹_› |exact(‹_∧_›).2|(obtain ⟨_,_,rfl,_⟩:=Rd.fn ‹_›;rfl)|(obtain ⟨_,_,rfl,_⟩:=Rd.fnr ‹_›;rfl)
 mono:=by
  rintro S S' i h' cs x ⟨c,v1,rfl,k0,d⟩ s e;exact⟨c,v1,rfl,k0.mono s e,d.mono s e⟩
def MA.ex {S h v}{x:LH}(k:Rd S h MA v x):∃c v1:Value,v= .agg #[c,v1]∧Sl S h DK c x.a∧Sl S h DK v1 x.b:=by obtain⟨_,rfl,c,v1,rfl,k⟩:=k;exact⟨c,v1,rfl,k⟩
def MA.mk {S h}{x:LH}{c v1:Value}(k0:Sl S h DK c x.a) (d:Sl S h DK v1 x.b):Rd S h MA (.agg #[c,v1]) x:=⟨_,rfl,c,v1,rfl,k0,d⟩
def LH.f_a:FZ MA 0 (A5.sl DK) (·.a):=by
 rintro S d cs x ⟨b,v1,rfl,k0,c⟩;exact⟨_,rfl,k0⟩
def LH.f_b:FZ MA 1 (A5.sl DK) (·.b):=by
 rintro S d cs x ⟨c,v1,rfl,k0,a⟩;exact⟨_,rfl,a⟩
structure LI where
 a:(List Ix)
 b:(List Ix)
instance:Inhabited LI:=⟨⟨default,default⟩⟩
def MB:A5 LI where
 sz:=2
 ag:=true
 rd:=λS i cs x=>∃c v1:Value,cs=[c,v1]∧Sl S i Dj c x.a∧Sl S i Dj v1 x.b
 len:=λ⟨_,_,i,_⟩=>by rw[i];rfl
 one:=by
  rintro S i cs x ⟨c,v1,rfl,k0,d⟩ v g;simp only[Acl,Ac0,Adc] at g;rcases g with rfl|rfl<;>first|rfl|exact Sl.one ‹_› |exact(‹_∧_›).2|(obtain ⟨_,_,rfl,_⟩:=Rd.fn ‹_›;rfl)|(obtain ⟨_,_,rfl,_⟩:=Rd.fnr ‹_›;rfl)
 mono:=by
  rintro S S' i h' cs x ⟨c,v1,rfl,k0,d⟩ s e;exact⟨c,v1,rfl,k0.mono s e,d.mono s e⟩
def MB.ex {S h v}{x:LI}(k:Rd S h MB v x):∃c v1:Value,v= .agg #[c,v1]∧Sl S h Dj c x.a∧Sl S h Dj v1 x.b:=by obtain⟨_,rfl,c,v1,rfl,k⟩:=k;exact⟨c,v1,rfl,k⟩
def MB.mk {S h}{x:LI}{c v1:Value}(k0:Sl S h Dj c x.a) (d:Sl S h Dj v1 x.b):Rd S h MB (.agg #[c,v1]) x:=⟨_,rfl,c,v1,rfl,k0,d⟩
def LI.f_a:FZ MB 0 (A5.sl Dj) (·.a):=by
 rintro S d cs x ⟨b,v1,rfl,k0,c⟩;exact⟨_,rfl,k0⟩
def LI.f_b:FZ MB 1 (A5.sl Dj) (·.b):=by
 rintro S d cs x ⟨c,v1,rfl,k0,a⟩;exact⟨_,rfl,a⟩
structure AX where
 B:Int
 M:Int
 E:Int
 Bf:Int
 V:(List Int)
instance:Inhabited AX:=⟨⟨default,default,default,default,default⟩⟩
def CA:A5 AX where
 sz:=5
 ag:=true
 rd:=λS j cs x=>∃a:Value,cs=[.int .i64 x.B,.int .i64 x.M,.int .i64 x.E,.int .i64 x.Bf,a]∧AA x.B∧AA x.M∧AA x.E∧AA x.Bf∧Sl S j AB a x.V
 len:=λ⟨_,j,_⟩=>by rw[j];rfl
 one:=by
  rintro S j cs x ⟨a,rfl,k0,b,c,d,g⟩ v i;simp only[Acl,Ac0,Adc] at i;rcases i with rfl|rfl|rfl|rfl|rfl<;>first|rfl|exact Sl.one ‹_› |exact(‹_∧_›).2|(obtain ⟨_,_,rfl,_⟩:=Rd.fn ‹_›;rfl)|(obtain ⟨_,_,rfl,_⟩:=Rd.fnr ‹_›;rfl)
 mono:=by
  rintro S S' j h' cs x ⟨a,rfl,k0,b,c,d,g⟩ s e;exact⟨a,rfl,k0,b,c,d,g.mono s e⟩
def CA.ex {S h v}{x:AX}(k:Rd S h CA v x):∃a:Value,v= .agg #[.int .i64 x.B,.int .i64 x.M,.int .i64 x.E,.int .i64 x.Bf,a]∧AA x.B∧AA x.M∧AA x.E∧AA x.Bf∧Sl S h AB a x.V:=by obtain⟨_,rfl,a,rfl,k⟩:=k;exact⟨a,rfl,k⟩
def CA.mk {S h}{x:AX}{a:Value}(k0:AA x.B) (b:AA x.M) (c:AA x.E) (d:AA x.Bf) (g:Sl S h AB a x.V):Rd S h CA (.agg #[.int .i64 x.B,.int .i64 x.M,.int .i64 x.E,.int .i64 x.Bf,a]) x:=⟨_,rfl,a,rfl,k0,b,c,d,g⟩
def AX.f_Hour:FZ CA 0 AB (·.B):=by
 rintro S i cs x ⟨a,rfl,k0,b,c,d,g⟩;exact⟨rfl,k0⟩
def AX.f_To:FZ CA 2 AB (·.E):=by
 rintro S i cs x ⟨b,rfl,k0,c,a,d,g⟩;exact⟨rfl,a⟩
def AX.f_Part:FZ CA 4 (A5.sl AB) (·.V):=by
 rintro S i cs x ⟨b,rfl,k0,c,d,g,a⟩;exact⟨_,rfl,a⟩
def AX.u_Part:Mh CA 4 (A5.sl AB) (λx y=>{ x with V:=y}):=by
 refine⟨by decide,?_⟩;rintro S l c x vs y ⟨j,rfl,k0,a,b,d,k⟩ ⟨g,rfl,i⟩;exact⟨g,rfl,k0,a,b,d,i⟩
structure AM where
 b:AF
 in_:AN
 s:AI
 moves:(List AX)
 peaks:(List Int)
 sent:(List AT)
instance:Inhabited AM:=⟨⟨default,default,default,default,default,default⟩⟩
def Mg:A5 AM where
 sz:=26
 ag:=true
 rd:=λS h cs x=>∃v1 u w y z G M Q a c d g i j k l m n o p q t:Value,cs=[.string x.b.F,v1,.int .i64 x.b.K,u,w,y,z,G,M,Q,.int .i64 x.b.L,a,c,d,g,i,.int .i64 x.s.B,j,k,l,m,n,o,p,q,t]∧x.b.F.size≤maxLen∧Sl S h A5.str v1 x.b.J∧AA x.b.K∧Sl S h B1 u x.b.A∧Sl S h CB w x.b.C∧Sl S h HN y x.b.Af∧Sl S h Et z x.b.Ah∧Sl S h G5 G x.b.Ai∧Sl S h DW M x.b.Ak∧Sl S h AB Q x.b.Aj∧AA x.b.L∧Sl S h AB a x.in_.S∧Sl S h Cv c x.in_.X∧Sl S h FY d x.in_.Y∧Sl S h DK g x.in_.U∧Sl S h Dj i x.in_.Ad∧AA x.s.B∧Sl S h (A5.sl AB) j x.s.H∧Sl S h AB k x.s.N∧Sl S h AY l x.s.I∧Sl S h BQ m x.s.P∧Sl S h AB n x.s.D∧Sl S h AB o x.s.O∧Sl S h CA p x.moves∧Sl S h AB q x.peaks∧Sl S h AY t x.sent
 len:=λ⟨_,_,_,_,_,_,_,_,_,_,_,_,_,_,_,_,_,_,_,_,_,_,h,_⟩=>by rw[h];rfl
 one:=by
  rintro S h cs x ⟨v1,u,w,y,z,G,M,Q,a,c,d,g,i,j,k,l,m,n,o,p,q,t,rfl,k0,k1,k2,k3,k4,k5,k6,k7,k8,k9,V,W,Z,aa,ab,ac,ad,ae,af,ah,ai,aj,ak,al,am,an⟩ v hv;simp only[Acl,Ac0,Adc] at hv;rcases hv with rfl|rfl|rfl|rfl|rfl|rfl|rfl|rfl|rfl|rfl|rfl|rfl|rfl|rfl|rfl|rfl|rfl|rfl|rfl|rfl|rfl|rfl|rfl|rfl|rfl|rfl<;>first|rfl|exact Sl.one ‹_› |exact(‹_∧_›).2|(obtain ⟨_,_,rfl,_⟩:=Rd.fn ‹_›;rfl)|(obtain ⟨_,_,rfl,_⟩:=Rd.fnr ‹_›;rfl)
 mono:=by
  rintro S S' h h' cs x ⟨v1,u,w,y,z,G,M,Q,a,c,d,g,i,j,k,l,m,n,o,p,q,t,rfl,k0,k1,k2,k3,k4,k5,k6,k7,k8,k9,V,W,Z,aa,ab,ac,ad,ae,af,ah,ai,aj,ak,al,am,an⟩ s e;exact⟨v1,u,w,y,z,G,M,Q,a,c,d,g,i,j,k,l,m,n,o,p,q,t,rfl,k0,k1.mono s e,k2,k3.mono s e,k4.mono s e,k5.mono s e,k6.mono s e,k7.mono s e,k8.mono s e,k9.mono s e,V,W.mono s e,Z.mono s e,aa.mono s e,ab.mono s e,ac.mono s e,ad,ae.mono s e,af.mono s e,ah.mono s e,ai.mono s e,aj.mono s e,ak.mono s e,al.mono s e,am.mono s e,an.mono s e⟩
def Mg.ex {S h v}{x:AM}(k:Rd S h Mg v x):∃v1 w y z G M Q V a c d g i j l m n o p q t u:Value,v= .agg #[.string x.b.F,v1,.int .i64 x.b.K,w,y,z,G,M,Q,V,.int .i64 x.b.L,a,c,d,g,i,.int .i64 x.s.B,j,l,m,n,o,p,q,t,u]∧x.b.F.size≤maxLen∧Sl S h A5.str v1 x.b.J∧AA x.b.K∧Sl S h B1 w x.b.A∧Sl S h CB y x.b.C∧Sl S h HN z x.b.Af∧Sl S h Et G x.b.Ah∧Sl S h G5 M x.b.Ai∧Sl S h DW Q x.b.Ak∧Sl S h AB V x.b.Aj∧AA x.b.L∧Sl S h AB a x.in_.S∧Sl S h Cv c x.in_.X∧Sl S h FY d x.in_.Y∧Sl S h DK g x.in_.U∧Sl S h Dj i x.in_.Ad∧AA x.s.B∧Sl S h (A5.sl AB) j x.s.H∧Sl S h AB l x.s.N∧Sl S h AY m x.s.I∧Sl S h BQ n x.s.P∧Sl S h AB o x.s.D∧Sl S h AB p x.s.O∧Sl S h CA q x.moves∧Sl S h AB t x.peaks∧Sl S h AY u x.sent:=by obtain⟨_,rfl,v1,w,y,z,G,M,Q,V,a,c,d,g,i,j,l,m,n,o,p,q,t,u,rfl,k⟩:=k;exact⟨v1,w,y,z,G,M,Q,V,a,c,d,g,i,j,l,m,n,o,p,q,t,u,rfl,k⟩
def Mg.mk {S h}{x:AM}{v1 u v w y z G M a c d g i j k l m n o p q t:Value}(k0:x.b.F.size≤maxLen) (k1:Sl S h A5.str v1 x.b.J) (k2:AA x.b.K) (k3:Sl S h B1 u x.b.A) (k4:Sl S h CB v x.b.C) (k5:Sl S h HN w x.b.Af) (k6:Sl S h Et y x.b.Ah) (k7:Sl S h G5 z x.b.Ai) (k8:Sl S h DW G x.b.Ak) (k9:Sl S h AB M x.b.Aj) (Q:AA x.b.L) (V:Sl S h AB a x.in_.S) (W:Sl S h Cv c x.in_.X) (Z:Sl S h FY d x.in_.Y) (aa:Sl S h DK g x.in_.U) (ab:Sl S h Dj i x.in_.Ad) (ac:AA x.s.B) (ad:Sl S h (A5.sl AB) j x.s.H) (ae:Sl S h AB k x.s.N) (af:Sl S h AY l x.s.I) (ag:Sl S h BQ m x.s.P) (ah:Sl S h AB n x.s.D) (ai:Sl S h AB o x.s.O) (aj:Sl S h CA p x.moves) (ak:Sl S h AB q x.peaks) (al:Sl S h AY t x.sent):Rd S h Mg (.agg #[.string x.b.F,v1,.int .i64 x.b.K,u,v,w,y,z,G,M,.int .i64 x.b.L,a,c,d,g,i,.int .i64 x.s.B,j,k,l,m,n,o,p,q,t]) x:=⟨_,rfl,v1,u,v,w,y,z,G,M,a,c,d,g,i,j,k,l,m,n,o,p,q,t,rfl,k0,k1,k2,k3,k4,k5,k6,k7,k8,k9,Q,V,W,Z,aa,ab,ac,ad,ae,af,ag,ah,ai,aj,ak,al⟩
def AM.f_b:FZ Mg 0 B3 (·.b):=by
 rintro S h cs x ⟨v1,v3,v4,v5,v6,v7,v8,v9,c,d,g,i,j,k,l,m,n,o,p,q,s,t,rfl,k0,u,v,w,y,z,A,B,C,D,a,F,G,H,I,J,K,M,Q,U,V,W,X,Y,Z,aa⟩;exact⟨_,_,_,_,_,_,_,_,rfl,k0,u,v,w,y,z,A,B,C,D,a⟩
structure AC where
 to_:Int
 delay:Int
 way:Int
 take:((List Int)→Option ((List Int)×(List Int)))
instance:Inhabited AC:=⟨⟨default,default,default,default⟩⟩
def A4:A5 AC where
 sz:=4
 ag:=true
 rd:=λS k cs x=>∃a:Value,cs=[.int .i64 x.to_,.int .i64 x.delay,.int .i64 x.way,a]∧AA x.to_∧AA x.delay∧AA x.way∧Rd S k (A5.fnr prog (λS k vs (x:(List Int))=>∃b:Value,vs=[b]∧Sl S k AB b x) (λS k v (y:((List Int)×(List Int)))=>∃b c:Value,v= .tuple #[b,c]∧Sl S k AB b y.1∧Sl S k AB c y.2)) a x.take
 len:=λ⟨_,k,_⟩=>by rw[k];rfl
 one:=by
  rintro S k cs x ⟨a,rfl,k0,d,g,i⟩ v j;simp only[Acl,Ac0,Adc] at j;rcases j with rfl|rfl|rfl|rfl<;>first|rfl|exact Sl.one ‹_› |exact(‹_∧_›).2|(obtain ⟨_,_,rfl,_⟩:=Rd.fn ‹_›;rfl)|(obtain ⟨_,_,rfl,_⟩:=Rd.fnr ‹_›;rfl)
 mono:=by
  rintro S S' k h' cs x ⟨a,rfl,k0,d,g,i⟩ s e;exact⟨a,rfl,k0,d,g,i.mono'' s e⟩
def A4.ex {S d v}{x:AC}(k:Rd S d A4 v x):∃b:Value,v= .agg #[.int .i64 x.to_,.int .i64 x.delay,.int .i64 x.way,b]∧AA x.to_∧AA x.delay∧AA x.way∧Rd S d (A5.fnr prog (λS d vs (x:(List Int))=>∃a:Value,vs=[a]∧Sl S d AB a x) (λS d v (y:((List Int)×(List Int)))=>∃a c:Value,v= .tuple #[a,c]∧Sl S d AB a y.1∧Sl S d AB c y.2)) b x.take:=by obtain⟨_,rfl,b,rfl,k⟩:=k;exact⟨b,rfl,k⟩
def A4.mk {S j}{x:AC}{b:Value}(k0:AA x.to_) (d:AA x.delay) (g:AA x.way) (i:Rd S j (A5.fnr prog (λS j vs (x:(List Int))=>∃a:Value,vs=[a]∧Sl S j AB a x) (λS j v (y:((List Int)×(List Int)))=>∃a c:Value,v= .tuple #[a,c]∧Sl S j AB a y.1∧Sl S j AB c y.2)) b x.take):Rd S j A4 (.agg #[.int .i64 x.to_,.int .i64 x.delay,.int .i64 x.way,b]) x:=⟨_,rfl,b,rfl,k0,d,g,i⟩
def L5:FZ A4 0 AB (·.to_):=by
 rintro S g cs x ⟨a,rfl,k0,b,c,d⟩;exact⟨rfl,k0⟩
def NT:FZ A4 1 AB (·.delay):=by
 rintro S g cs x ⟨b,rfl,k0,a,c,d⟩;exact⟨rfl,a⟩
def N7:FZ A4 2 AB (·.way):=by
 rintro S g cs x ⟨b,rfl,k0,c,a,d⟩;exact⟨rfl,a⟩
def Ng:FZ A4 3 (A5.fnr prog (λS m vs (x:(List Int))=>∃a:Value,vs=[a]∧Sl S m AB a x) (λS m v (y:((List Int)×(List Int)))=>∃a b:Value,v= .tuple #[a,b]∧Sl S m AB a y.1∧Sl S m AB b y.2)) (·.take):=by
 rintro S m cs x ⟨j,rfl,k0,k,l,c⟩;obtain⟨_,rfl,d,g,rfl,i⟩:=c;exact⟨d,g,rfl,i⟩
structure BZ where
 Bh:Int
 Bb:Int
 Bo:Int
 D:AN
 Bk:(List Int)
instance:Inhabited BZ:=⟨⟨default,default,default,default,default⟩⟩
def Cb:A5 BZ where
 sz:=9
 ag:=true
 rd:=λS u cs x=>∃a b c d g i:Value,cs=[.int .i64 x.Bh,.int .i64 x.Bb,.int .i64 x.Bo,a,b,c,d,g,i]∧AA x.Bh∧AA x.Bb∧AA x.Bo∧Sl S u AB a x.D.S∧Sl S u Cv b x.D.X∧Sl S u FY c x.D.Y∧Sl S u DK d x.D.U∧Sl S u Dj g x.D.Ad∧Sl S u AB i x.Bk
 len:=λ⟨_,_,_,_,_,_,u,_⟩=>by rw[u];rfl
 one:=by
  rintro S u cs x ⟨a,b,c,d,g,i,rfl,k0,j,k,l,m,n,o,p,q⟩ v t;simp only[Acl,Ac0,Adc] at t;rcases t with rfl|rfl|rfl|rfl|rfl|rfl|rfl|rfl|rfl<;>first|rfl|exact Sl.one ‹_› |exact(‹_∧_›).2|(obtain ⟨_,_,rfl,_⟩:=Rd.fn ‹_›;rfl)|(obtain ⟨_,_,rfl,_⟩:=Rd.fnr ‹_›;rfl)
 mono:=by
  rintro S S' u h' cs x ⟨a,b,c,d,g,i,rfl,k0,j,k,l,m,n,o,p,q⟩ s e;exact⟨a,b,c,d,g,i,rfl,k0,j,k,l.mono s e,m.mono s e,n.mono s e,o.mono s e,p.mono s e,q.mono s e⟩
def Cb.ex {S h v}{x:BZ}(k:Rd S h Cb v x):∃a b c d g i:Value,v= .agg #[.int .i64 x.Bh,.int .i64 x.Bb,.int .i64 x.Bo,a,b,c,d,g,i]∧AA x.Bh∧AA x.Bb∧AA x.Bo∧Sl S h AB a x.D.S∧Sl S h Cv b x.D.X∧Sl S h FY c x.D.Y∧Sl S h DK d x.D.U∧Sl S h Dj g x.D.Ad∧Sl S h AB i x.Bk:=by obtain⟨_,rfl,a,b,c,d,g,i,rfl,k⟩:=k;exact⟨a,b,c,d,g,i,rfl,k⟩
def Cb.mk {S h}{x:BZ}{a b c d g i:Value}(k0:AA x.Bh) (j:AA x.Bb) (k:AA x.Bo) (l:Sl S h AB a x.D.S) (m:Sl S h Cv b x.D.X) (n:Sl S h FY c x.D.Y) (o:Sl S h DK d x.D.U) (p:Sl S h Dj g x.D.Ad) (q:Sl S h AB i x.Bk):Rd S h Cb (.agg #[.int .i64 x.Bh,.int .i64 x.Bb,.int .i64 x.Bo,a,b,c,d,g,i]) x:=⟨_,rfl,a,b,c,d,g,i,rfl,k0,j,k,l,m,n,o,p,q⟩
def Lg:FZ Cb 1 AB (·.Bb):=by
 rintro S s cs x ⟨b,c,d,g,i,j,rfl,k0,a,k,l,m,n,o,p,q⟩;exact⟨rfl,a⟩
def BZ.f_In:FZ Cb 3 BD (·.D):=by
 rintro S s cs x ⟨i,j,k,l,m,n,rfl,k0,o,p,a,b,c,d,g,q⟩;exact⟨_,_,_,_,_,rfl,a,b,c,d,g⟩
def No:FZ Cb 8 (A5.sl AB) (·.Bk):=by
 rintro S s cs x ⟨b,c,d,g,i,j,rfl,k0,k,l,m,n,o,p,q,a⟩;exact⟨_,rfl,a⟩
def Nj:ByteArray:=ByteArray.mk #[0,1,2,2,3,3,3,3,4,4,4,4,4,4,4,4,5,5,5,5,5,5,5,5,5,5,5,5,5,5,5,5,6,6,6,6,6,6,6,6,6,6,6,6,6,6,6,6,6,6,6,6,6,6,6,6,6,6,6,6,6,6,6,6,7,7,7,7,7,7,7,7,7,7,7,7,7,7,7,7,7,7,7,7,7,7,7,7,7,7,7,7,7,7,7,7,7,7,7,7,7,7,7,7,7,7,7,7,7,7,7,7,7,7,7,7,7,7,7,7,7,7,7,7,7,7,7,7,8,8,8,8,8,8,8,8,8,8,8,8,8,8,8,8,8,8,8,8,8,8,8,8,8,8,8,8,8,8,8,8,8,8,8,8,8,8,8,8,8,8,8,8,8,8,8,8,8,8,8,8,8,8,8,8,8,8,8,8,8,8,8,8,8,8,8,8,8,8,8,8,8,8,8,8,8,8,8,8,8,8,8,8,8,8,8,8,8,8,8,8,8,8,8,8,8,8,8,8,8,8,8,8,8,8,8,8,8,8,8,8,8,8,8,8,8,8,8,8,8,8,8,8,8,8,8,8]
def Pn:List Cj:=([(⟨(ByteArray.mk #[112]),0,2,1000,([(⟨0,0⟩:Bz)]:List Bz),([100]:List Int),1,10,(-1),0,0,[]⟩:Cj)]:List Cj)
end Go.Proofs.YtabonambpbofgaaGreat
