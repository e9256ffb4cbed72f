import Derived.Test.YtedgiljmffngoaaGreatGCore31
import Derived.Test.YtedgiljmffngoaaGreatGSortD
import Derived.Test.YtedgiljmffngoaaGreatRows
namespace Go.Proofs.YtedgiljmffngoaaGreat
set_option linter.all false
open Go.RowKit
open Go.Proofs.Tryz
structure BS where
 P:Int
 X:Int
instance:Inhabited BS:=⟨⟨default,default⟩⟩
@[reducible] def BS.v (x:BS):List Go.Value:=[.int .i64 x.P,.int .i64 x.X]
def BS.ok (x:BS):Prop:=AA x.P∧AA x.X
def B3:A7 BS where
 sz:=2
 ag:=true
 rd:=λ_ _ cs x=>cs=x.v∧x.ok
 len:=λ⟨b,_⟩=>by rw[b];rfl
 one:=λ{_ _ _ x} ⟨b,_⟩ v a=>by
  rw[b] at a;simp only[BS.v,uA,uL,vA] at a;rcases a with rfl|rfl<;>rfl
 mono:=λb _ _=>b
def B3.ex {S a v}{x:BS}(k:Rd S a B3 v x):v= .agg #[.int .i64 x.P,.int .i64 x.X]∧x.ok:=by obtain⟨_,rfl,rfl,a⟩:=k;exact⟨rfl,a⟩
def B3.mk {S h}{x:BS}(k:x.ok):Rd S h B3 (.agg #[.int .i64 x.P,.int .i64 x.X]) x:=⟨x.v,rfl,rfl,k⟩
def WI:FW B3 0 AB (·.P):=by
 rintro S b cs x ⟨rfl,⟨k0,a⟩⟩;exact⟨rfl,k0⟩
def Sd:FW B3 1 AB (·.X):=by
 rintro S b cs x ⟨rfl,⟨k0,a⟩⟩;exact⟨rfl,a⟩
structure PR where
 Bh:Int
 Bm:Int
instance:Inhabited PR:=⟨⟨default,default⟩⟩
@[reducible] def PR.v (x:PR):List Go.Value:=[.int .i64 x.Bh,.int .i64 x.Bm]
def PR.ok (x:PR):Prop:=AA x.Bh∧AA x.Bm
def MY:A7 PR where
 sz:=2
 ag:=true
 rd:=λ_ _ cs x=>cs=x.v∧x.ok
 len:=λ⟨b,_⟩=>by rw[b];rfl
 one:=λ{_ _ _ x} ⟨b,_⟩ v a=>by
  rw[b] at a;simp only[PR.v,uA,uL,vA] at a;rcases a with rfl|rfl<;>rfl
 mono:=λb _ _=>b
def MY.ex {S a v}{x:PR}(k:Rd S a MY v x):v= .agg #[.int .i64 x.Bh,.int .i64 x.Bm]∧x.ok:=by obtain⟨_,rfl,rfl,a⟩:=k;exact⟨rfl,a⟩
def MY.mk {S h}{x:PR}(k:x.ok):Rd S h MY (.agg #[.int .i64 x.Bh,.int .i64 x.Bm]) x:=⟨x.v,rfl,rfl,k⟩
structure EW where
 I:ByteArray
 F:Int
 An:Int
 Au:Int
 Bn:(List BS)
 Be:(List Int)
 Y:Int
 S:Int
 Ao:Int
 Q:Int
 Bf:Int
 Z:(List PR)
instance:Inhabited EW:=⟨⟨default,default,default,default,default,default,default,default,default,default,default,default⟩⟩
def B9:A7 EW where
 sz:=12
 ag:=true
 rd:=λS u cs x=>∃b c a:Value,cs=[.string x.I,.int .i64 x.F,.int .i64 x.An,.int .i64 x.Au,b,c,.int .i64 x.Y,.int .i64 x.S,.int .i64 x.Ao,.int .i64 x.Q,.int .i64 x.Bf,a]∧x.I.size≤maxLen∧AA x.F∧AA x.An∧AA x.Au∧Sl S u B3 b x.Bn∧Sl S u AB c x.Be∧AA x.Y∧AA x.S∧AA x.Ao∧AA x.Q∧AA x.Bf∧Sl S u MY a x.Z
 len:=λ⟨_,_,_,u,_⟩=>by rw[u];rfl
 one:=by
  rintro S u cs x ⟨b,c,a,rfl,k0,i,j,k,l,m,n,o,p,q,d,g⟩ v t;simp only[uA,uL,vA] at t;rcases t with rfl|rfl|rfl|rfl|rfl|rfl|rfl|rfl|rfl|rfl|rfl|rfl<;>first|rfl|exact Sl.one ‹_› |exact(‹_∧_›).2|(obtain ⟨_,_,rfl,_⟩:=Rd.fn ‹_›;rfl)|(obtain ⟨_,_,rfl,_⟩:=Rd.fnr ‹_›;rfl)
 mono:=by
  rintro S S' u h' cs x ⟨b,c,a,rfl,k0,i,j,k,l,m,n,o,p,q,d,g⟩ s e;exact⟨b,c,a,rfl,k0,i,j,k,l.mono s e,m.mono s e,n,o,p,q,d,g.mono s e⟩
def B9.ex {S h v}{x:EW}(k:Rd S h B9 v x):∃b c a:Value,v= .agg #[.string x.I,.int .i64 x.F,.int .i64 x.An,.int .i64 x.Au,b,c,.int .i64 x.Y,.int .i64 x.S,.int .i64 x.Ao,.int .i64 x.Q,.int .i64 x.Bf,a]∧x.I.size≤maxLen∧AA x.F∧AA x.An∧AA x.Au∧Sl S h B3 b x.Bn∧Sl S h AB c x.Be∧AA x.Y∧AA x.S∧AA x.Ao∧AA x.Q∧AA x.Bf∧Sl S h MY a x.Z:=by obtain⟨_,rfl,b,c,a,rfl,k⟩:=k;exact⟨b,c,a,rfl,k⟩
def B9.mk {S h}{x:EW}{b c a:Value}(k0:x.I.size≤maxLen) (i:AA x.F) (j:AA x.An) (k:AA x.Au) (l:Sl S h B3 b x.Bn) (m:Sl S h AB c x.Be) (n:AA x.Y) (o:AA x.S) (p:AA x.Ao) (q:AA x.Q) (d:AA x.Bf) (g:Sl S h MY a x.Z):Rd S h B9 (.agg #[.string x.I,.int .i64 x.F,.int .i64 x.An,.int .i64 x.Au,b,c,.int .i64 x.Y,.int .i64 x.S,.int .i64 x.Ao,.int .i64 x.Q,.int .i64 x.Bf,a]) x:=⟨_,rfl,b,c,a,rfl,k0,i,j,k,l,m,n,o,p,q,d,g⟩
def EW.f_Name:FW B9 0 A7.str (·.I):=by
 rintro S s cs x ⟨d,g,a,rfl,k0,i,j,k,l,m,n,o,p,q,b,c⟩;exact⟨rfl,k0⟩
def EW.f_Kind:FW B9 1 AB (·.F):=by
 rintro S s cs x ⟨g,i,a,rfl,k0,b,j,k,l,m,n,o,p,q,c,d⟩;exact⟨rfl,b⟩
def Nx:FW B9 2 AB (·.An):=by
 rintro S s cs x ⟨g,i,a,rfl,k0,j,b,k,l,m,n,o,p,q,c,d⟩;exact⟨rfl,b⟩
def EW.f_Num:FW B9 6 AB (·.Y):=by
 rintro S s cs x ⟨g,i,a,rfl,k0,j,k,l,m,n,b,o,p,q,c,d⟩;exact⟨rfl,b⟩
def EW.f_Den:FW B9 7 AB (·.S):=by
 rintro S s cs x ⟨g,i,a,rfl,k0,j,k,l,m,n,o,b,p,q,c,d⟩;exact⟨rfl,b⟩
structure NS where
 Ay:(List BS)
 Az:(List BS)
instance:Inhabited NS:=⟨⟨default,default⟩⟩
def Lp:A7 NS where
 sz:=2
 ag:=true
 rd:=λS d cs x=>∃a v1:Value,cs=[a,v1]∧Sl S d B3 a x.Ay∧Sl S d B3 v1 x.Az
 len:=λ⟨_,_,d,_⟩=>by rw[d];rfl
 one:=by
  rintro S d cs x ⟨a,v1,rfl,k0,b⟩ v c;simp only[uA,uL,vA] at c;rcases c with rfl|rfl<;>first|rfl|exact Sl.one ‹_› |exact(‹_∧_›).2|(obtain ⟨_,_,rfl,_⟩:=Rd.fn ‹_›;rfl)|(obtain ⟨_,_,rfl,_⟩:=Rd.fnr ‹_›;rfl)
 mono:=by
  rintro S S' d h' cs x ⟨a,v1,rfl,k0,b⟩ s e;exact⟨a,v1,rfl,k0.mono s e,b.mono s e⟩
def Lp.ex {S h v}{x:NS}(k:Rd S h Lp v x):∃a v1:Value,v= .agg #[a,v1]∧Sl S h B3 a x.Ay∧Sl S h B3 v1 x.Az:=by obtain⟨_,rfl,a,v1,rfl,k⟩:=k;exact⟨a,v1,rfl,k⟩
def Lp.mk {S h}{x:NS}{a v1:Value}(k0:Sl S h B3 a x.Ay) (b:Sl S h B3 v1 x.Az):Rd S h Lp (.agg #[a,v1]) x:=⟨_,rfl,a,v1,rfl,k0,b⟩
def Ps:FW Lp 0 (A7.sl B3) (·.Ay):=by
 rintro S c cs x ⟨a,v1,rfl,k0,b⟩;exact⟨_,rfl,k0⟩
def Pu:FW Lp 1 (A7.sl B3) (·.Az):=by
 rintro S c cs x ⟨b,v1,rfl,k0,a⟩;exact⟨_,rfl,a⟩
structure BM where
 I:ByteArray
 F:Int
 J:Int
 C:Int
 Av:(List BS)
 Af:NS
 U:Int
 Ac:Int
 Bb:Int
 Bc:Int
 Y:Int
 S:Int
 Aw:Int
 Ax:Int
 Ar:Int
 Al:Int
 Q:Int
instance:Inhabited BM:=⟨⟨default,default,default,default,default,default,default,default,default,default,default,default,default,default,default,default,default⟩⟩
def BZ:A7 BM where
 sz:=18
 ag:=true
 rd:=λS D cs x=>∃a b c:Value,cs=[.string x.I,.int .i64 x.F,.int .i64 x.J,.int .i64 x.C,a,b,c,.int .i64 x.U,.int .i64 x.Ac,.int .i64 x.Bb,.int .i64 x.Bc,.int .i64 x.Y,.int .i64 x.S,.int .i64 x.Aw,.int .i64 x.Ax,.int .i64 x.Ar,.int .i64 x.Al,.int .i64 x.Q]∧x.I.size≤maxLen∧AA x.F∧AA x.J∧AA x.C∧Sl S D B3 a x.Av∧Sl S D B3 b x.Af.Ay∧Sl S D B3 c x.Af.Az∧AA x.U∧AA x.Ac∧AA x.Bb∧AA x.Bc∧AA x.Y∧AA x.S∧AA x.Aw∧AA x.Ax∧AA x.Ar∧AA x.Al∧AA x.Q
 len:=λ⟨_,_,_,D,_⟩=>by rw[D];rfl
 one:=by
  rintro S D cs x ⟨a,b,c,rfl,k0,o,p,q,t,u,w,y,z,A,d,g,i,j,k,l,m,n⟩ v B;simp only[uA,uL,vA] at B;rcases B with rfl|rfl|rfl|rfl|rfl|rfl|rfl|rfl|rfl|rfl|rfl|rfl|rfl|rfl|rfl|rfl|rfl|rfl<;>first|rfl|exact Sl.one ‹_› |exact(‹_∧_›).2|(obtain ⟨_,_,rfl,_⟩:=Rd.fn ‹_›;rfl)|(obtain ⟨_,_,rfl,_⟩:=Rd.fnr ‹_›;rfl)
 mono:=by
  rintro S S' D h' cs x ⟨a,b,c,rfl,k0,o,p,q,t,u,w,y,z,A,d,g,i,j,k,l,m,n⟩ s e;exact⟨a,b,c,rfl,k0,o,p,q,t.mono s e,u.mono s e,w.mono s e,y,z,A,d,g,i,j,k,l,m,n⟩
def BZ.ex {S h v}{x:BM}(k:Rd S h BZ v x):∃a b c:Value,v= .agg #[.string x.I,.int .i64 x.F,.int .i64 x.J,.int .i64 x.C,a,b,c,.int .i64 x.U,.int .i64 x.Ac,.int .i64 x.Bb,.int .i64 x.Bc,.int .i64 x.Y,.int .i64 x.S,.int .i64 x.Aw,.int .i64 x.Ax,.int .i64 x.Ar,.int .i64 x.Al,.int .i64 x.Q]∧x.I.size≤maxLen∧AA x.F∧AA x.J∧AA x.C∧Sl S h B3 a x.Av∧Sl S h B3 b x.Af.Ay∧Sl S h B3 c x.Af.Az∧AA x.U∧AA x.Ac∧AA x.Bb∧AA x.Bc∧AA x.Y∧AA x.S∧AA x.Aw∧AA x.Ax∧AA x.Ar∧AA x.Al∧AA x.Q:=by obtain⟨_,rfl,a,b,c,rfl,k⟩:=k;exact⟨a,b,c,rfl,k⟩
def BZ.mk {S h}{x:BM}{a b c:Value}(k0:x.I.size≤maxLen) (o:AA x.F) (p:AA x.J) (q:AA x.C) (s:Sl S h B3 a x.Av) (t:Sl S h B3 b x.Af.Ay) (u:Sl S h B3 c x.Af.Az) (v:AA x.U) (w:AA x.Ac) (y:AA x.Bb) (d:AA x.Bc) (g:AA x.Y) (i:AA x.S) (j:AA x.Aw) (k:AA x.Ax) (l:AA x.Ar) (m:AA x.Al) (n:AA x.Q):Rd S h BZ (.agg #[.string x.I,.int .i64 x.F,.int .i64 x.J,.int .i64 x.C,a,b,c,.int .i64 x.U,.int .i64 x.Ac,.int .i64 x.Bb,.int .i64 x.Bc,.int .i64 x.Y,.int .i64 x.S,.int .i64 x.Aw,.int .i64 x.Ax,.int .i64 x.Ar,.int .i64 x.Al,.int .i64 x.Q]) x:=⟨_,rfl,a,b,c,rfl,k0,o,p,q,s,t,u,v,w,y,d,g,i,j,k,l,m,n⟩
def BM.f_Name:FW BZ 0 A7.str (·.I):=by
 rintro S z cs x ⟨l,m,n,rfl,k0,o,p,q,s,t,u,v,w,y,a,b,c,d,g,i,j,k⟩;exact⟨rfl,k0⟩
def BM.f_Kind:FW BZ 1 AB (·.F):=by
 rintro S z cs x ⟨m,n,o,rfl,k0,a,p,q,s,t,u,v,w,y,b,c,d,g,i,j,k,l⟩;exact⟨rfl,a⟩
def BM.f_From:FW BZ 2 AB (·.J):=by
 rintro S z cs x ⟨m,n,o,rfl,k0,p,a,q,s,t,u,v,w,y,b,c,d,g,i,j,k,l⟩;exact⟨rfl,a⟩
def BM.f_To:FW BZ 3 AB (·.C):=by
 rintro S z cs x ⟨m,n,o,rfl,k0,p,q,a,s,t,u,v,w,y,b,c,d,g,i,j,k,l⟩;exact⟨rfl,a⟩
def Kv:FW BZ 4 (A7.sl B3) (·.Av):=by
 rintro S z cs x ⟨m,n,o,rfl,k0,p,q,s,a,t,u,v,w,y,b,c,d,g,i,j,k,l⟩;exact⟨_,rfl,a⟩
def Kw:FW BZ 5 Lp (·.Af):=by
 rintro S z cs x ⟨n,o,p,rfl,k0,q,s,t,u,a,b,v,w,y,c,d,g,i,j,k,l,m⟩;exact⟨_,_,rfl,a,b⟩
def Fe:FW BZ 7 AB (·.U):=by
 rintro S z cs x ⟨m,n,o,rfl,k0,p,q,s,t,u,v,a,w,y,b,c,d,g,i,j,k,l⟩;exact⟨rfl,a⟩
def J7:FW BZ 8 AB (·.Ac):=by
 rintro S z cs x ⟨m,n,o,rfl,k0,p,q,s,t,u,v,w,a,y,b,c,d,g,i,j,k,l⟩;exact⟨rfl,a⟩
def Np:FW BZ 9 AB (·.Bb):=by
 rintro S z cs x ⟨m,n,o,rfl,k0,p,q,s,t,u,v,w,y,a,b,c,d,g,i,j,k,l⟩;exact⟨rfl,a⟩
def M3:FW BZ 10 AB (·.Bc):=by
 rintro S z cs x ⟨l,m,n,rfl,k0,o,p,q,s,t,u,v,w,y,a,b,c,d,g,i,j,k⟩;exact⟨rfl,a⟩
def BM.f_Num:FW BZ 11 AB (·.Y):=by
 rintro S z cs x ⟨l,m,n,rfl,k0,o,p,q,s,t,u,v,w,y,b,a,c,d,g,i,j,k⟩;exact⟨rfl,a⟩
def BM.f_Den:FW BZ 12 AB (·.S):=by
 rintro S z cs x ⟨l,m,n,rfl,k0,o,p,q,s,t,u,v,w,y,b,c,a,d,g,i,j,k⟩;exact⟨rfl,a⟩
def PP:FW BZ 13 AB (·.Aw):=by
 rintro S z cs x ⟨l,m,n,rfl,k0,o,p,q,s,t,u,v,w,y,b,c,d,a,g,i,j,k⟩;exact⟨rfl,a⟩
def PQ:FW BZ 14 AB (·.Ax):=by
 rintro S z cs x ⟨l,m,n,rfl,k0,o,p,q,s,t,u,v,w,y,b,c,d,g,a,i,j,k⟩;exact⟨rfl,a⟩
def JI:FW BZ 15 AB (·.Ar):=by
 rintro S z cs x ⟨l,m,n,rfl,k0,o,p,q,s,t,u,v,w,y,b,c,d,g,i,a,j,k⟩;exact⟨rfl,a⟩
def JJ:FW BZ 16 AB (·.Al):=by
 rintro S z cs x ⟨l,m,n,rfl,k0,o,p,q,s,t,u,v,w,y,b,c,d,g,i,j,a,k⟩;exact⟨rfl,a⟩
structure Nw where
 I:ByteArray
 Ap:Int
 Bo:Int
 Bl:Int
 Br:Int
 Bp:Int
 Bk:Int
instance:Inhabited Nw:=⟨⟨default,default,default,default,default,default,default⟩⟩
@[reducible] def Nw.v (x:Nw):List Go.Value:=[.string x.I,.int .i64 x.Ap,.int .i64 x.Bo,.int .i64 x.Bl,.int .i64 x.Br,.int .i64 x.Bp,.int .i64 x.Bk]
def Nw.ok (x:Nw):Prop:=x.I.size≤maxLen∧AA x.Ap∧AA x.Bo∧AA x.Bl∧AA x.Br∧AA x.Bp∧AA x.Bk
def HL:A7 Nw where
 sz:=7
 ag:=true
 rd:=λ_ _ cs x=>cs=x.v∧x.ok
 len:=λ⟨b,_⟩=>by rw[b];rfl
 one:=λ{_ _ _ x} ⟨b,_⟩ v a=>by
  rw[b] at a;simp only[Nw.v,uA,uL,vA] at a;rcases a with rfl|rfl|rfl|rfl|rfl|rfl|rfl<;>rfl
 mono:=λb _ _=>b
def HL.ex {S a v}{x:Nw}(k:Rd S a HL v x):v= .agg #[.string x.I,.int .i64 x.Ap,.int .i64 x.Bo,.int .i64 x.Bl,.int .i64 x.Br,.int .i64 x.Bp,.int .i64 x.Bk]∧x.ok:=by obtain⟨_,rfl,rfl,a⟩:=k;exact⟨rfl,a⟩
def HL.mk {S h}{x:Nw}(k:x.ok):Rd S h HL (.agg #[.string x.I,.int .i64 x.Ap,.int .i64 x.Bo,.int .i64 x.Bl,.int .i64 x.Br,.int .i64 x.Bp,.int .i64 x.Bk]) x:=⟨x.v,rfl,rfl,k⟩
def Nw.f_Name:FW HL 0 A7.str (·.I):=by
 rintro S j cs x ⟨rfl,⟨k0,a,b,c,d,g,i⟩⟩;exact⟨rfl,k0⟩
structure LD where
 I:ByteArray
 F:Int
 W:Int
 R:Int
 Bq:Int
instance:Inhabited LD:=⟨⟨default,default,default,default,default⟩⟩
@[reducible] def LD.v (x:LD):List Go.Value:=[.string x.I,.int .i64 x.F,.int .i64 x.W,.int .i64 x.R,.int .i64 x.Bq]
def LD.ok (x:LD):Prop:=x.I.size≤maxLen∧AA x.F∧AA x.W∧AA x.R∧AA x.Bq
def Eu:A7 LD where
 sz:=5
 ag:=true
 rd:=λ_ _ cs x=>cs=x.v∧x.ok
 len:=λ⟨b,_⟩=>by rw[b];rfl
 one:=λ{_ _ _ x} ⟨b,_⟩ v a=>by
  rw[b] at a;simp only[LD.v,uA,uL,vA] at a;rcases a with rfl|rfl|rfl|rfl|rfl<;>rfl
 mono:=λb _ _=>b
def Eu.ex {S a v}{x:LD}(k:Rd S a Eu v x):v= .agg #[.string x.I,.int .i64 x.F,.int .i64 x.W,.int .i64 x.R,.int .i64 x.Bq]∧x.ok:=by obtain⟨_,rfl,rfl,a⟩:=k;exact⟨rfl,a⟩
def Eu.mk {S h}{x:LD}(k:x.ok):Rd S h Eu (.agg #[.string x.I,.int .i64 x.F,.int .i64 x.W,.int .i64 x.R,.int .i64 x.Bq]) x:=⟨x.v,rfl,rfl,k⟩
def LD.f_Name:FW Eu 0 A7.str (·.I):=by
 rintro S g cs x ⟨rfl,⟨k0,a,b,c,d⟩⟩;exact⟨rfl,k0⟩
def LD.f_Kind:FW Eu 1 AB (·.F):=by
 rintro S g cs x ⟨rfl,⟨k0,a,b,c,d⟩⟩;exact⟨rfl,a⟩
def LD.f_Err:FW Eu 3 AB (·.R):=by
 rintro S g cs x ⟨rfl,⟨k0,b,c,a,d⟩⟩;exact⟨rfl,a⟩
structure NR where
 I:ByteArray
 J:Int
 C:Int
 Bs:Int
 Bt:Int
 Bi:Int
 Bj:Int
instance:Inhabited NR:=⟨⟨default,default,default,default,default,default,default⟩⟩
@[reducible] def NR.v (x:NR):List Go.Value:=[.string x.I,.int .i64 x.J,.int .i64 x.C,.int .i64 x.Bs,.int .i64 x.Bt,.int .i64 x.Bi,.int .i64 x.Bj]
def NR.ok (x:NR):Prop:=x.I.size≤maxLen∧AA x.J∧AA x.C∧AA x.Bs∧AA x.Bt∧AA x.Bi∧AA x.Bj
def Gr:A7 NR where
 sz:=7
 ag:=true
 rd:=λ_ _ cs x=>cs=x.v∧x.ok
 len:=λ⟨b,_⟩=>by rw[b];rfl
 one:=λ{_ _ _ x} ⟨b,_⟩ v a=>by
  rw[b] at a;simp only[NR.v,uA,uL,vA] at a;rcases a with rfl|rfl|rfl|rfl|rfl|rfl|rfl<;>rfl
 mono:=λb _ _=>b
def Gr.ex {S a v}{x:NR}(k:Rd S a Gr v x):v= .agg #[.string x.I,.int .i64 x.J,.int .i64 x.C,.int .i64 x.Bs,.int .i64 x.Bt,.int .i64 x.Bi,.int .i64 x.Bj]∧x.ok:=by obtain⟨_,rfl,rfl,a⟩:=k;exact⟨rfl,a⟩
def Gr.mk {S h}{x:NR}(k:x.ok):Rd S h Gr (.agg #[.string x.I,.int .i64 x.J,.int .i64 x.C,.int .i64 x.Bs,.int .i64 x.Bt,.int .i64 x.Bi,.int .i64 x.Bj]) x:=⟨x.v,rfl,rfl,k⟩
def NR.f_Name:FW Gr 0 A7.str (·.I):=by
 rintro S j cs x ⟨rfl,⟨k0,a,b,c,d,g,i⟩⟩;exact⟨rfl,k0⟩
def NR.f_From:FW Gr 1 AB (·.J):=by
 rintro S j cs x ⟨rfl,⟨k0,a,b,c,d,g,i⟩⟩;exact⟨rfl,a⟩
def NR.f_To:FW Gr 2 AB (·.C):=by
 rintro S j cs x ⟨rfl,⟨k0,b,a,c,d,g,i⟩⟩;exact⟨rfl,a⟩
structure JH where
 I:ByteArray
 Ak:Int
instance:Inhabited JH:=⟨⟨default,default⟩⟩
@[reducible] def JH.v (x:JH):List Go.Value:=[.string x.I,.int .i64 x.Ak]
def JH.ok (x:JH):Prop:=x.I.size≤maxLen∧AA x.Ak
def DB:A7 JH where
 sz:=2
 ag:=true
 rd:=λ_ _ cs x=>cs=x.v∧x.ok
 len:=λ⟨b,_⟩=>by rw[b];rfl
 one:=λ{_ _ _ x} ⟨b,_⟩ v a=>by
  rw[b] at a;simp only[JH.v,uA,uL,vA] at a;rcases a with rfl|rfl<;>rfl
 mono:=λb _ _=>b
def DB.ex {S a v}{x:JH}(k:Rd S a DB v x):v= .agg #[.string x.I,.int .i64 x.Ak]∧x.ok:=by obtain⟨_,rfl,rfl,a⟩:=k;exact⟨rfl,a⟩
def DB.mk {S h}{x:JH}(k:x.ok):Rd S h DB (.agg #[.string x.I,.int .i64 x.Ak]) x:=⟨x.v,rfl,rfl,k⟩
def JH.f_Name:FW DB 0 A7.str (·.I):=by
 rintro S b cs x ⟨rfl,⟨k0,a⟩⟩;exact⟨rfl,k0⟩
def JH.f_Room:FW DB 1 AB (·.Ak):=by
 rintro S b cs x ⟨rfl,⟨k0,a⟩⟩;exact⟨rfl,a⟩
structure AF where
 I:ByteArray
 H:(List ByteArray)
 O:Int
 A:(List EW)
 E:(List BM)
 Ab:(List Nw)
 Ad:(List LD)
 Ae:(List NR)
 Ag:(List JH)
 Ak:(List Int)
 R:Int
instance:Inhabited AF:=⟨⟨default,default,default,default,default,default,default,default,default,default,default⟩⟩
def BO:A7 AF where
 sz:=11
 ag:=true
 rd:=λS z cs x=>∃v1 a b c d g i j:Value,cs=[.string x.I,v1,.int .i64 x.O,a,b,c,d,g,i,j,.int .i64 x.R]∧x.I.size≤maxLen∧Sl S z A7.str v1 x.H∧AA x.O∧Sl S z B9 a x.A∧Sl S z BZ b x.E∧Sl S z HL c x.Ab∧Sl S z Eu d x.Ad∧Sl S z Gr g x.Ae∧Sl S z DB i x.Ag∧Sl S z AB j x.Ak∧AA x.R
 len:=λ⟨_,_,_,_,_,_,_,_,z,_⟩=>by rw[z];rfl
 one:=by
  rintro S z cs x ⟨v1,a,b,c,d,g,i,j,rfl,k0,l,m,n,o,p,q,t,u,w,k⟩ v y;simp only[uA,uL,vA] at y;rcases y with rfl|rfl|rfl|rfl|rfl|rfl|rfl|rfl|rfl|rfl|rfl<;>first|rfl|exact Sl.one ‹_› |exact(‹_∧_›).2|(obtain ⟨_,_,rfl,_⟩:=Rd.fn ‹_›;rfl)|(obtain ⟨_,_,rfl,_⟩:=Rd.fnr ‹_›;rfl)
 mono:=by
  rintro S S' z h' cs x ⟨v1,a,b,c,d,g,i,j,rfl,k0,l,m,n,o,p,q,t,u,w,k⟩ s e;exact⟨v1,a,b,c,d,g,i,j,rfl,k0,l.mono s e,m,n.mono s e,o.mono s e,p.mono s e,q.mono s e,t.mono s e,u.mono s e,w.mono s e,k⟩
def BO.ex {S h v}{x:AF}(k:Rd S h BO v x):∃v1 a b c d g i j:Value,v= .agg #[.string x.I,v1,.int .i64 x.O,a,b,c,d,g,i,j,.int .i64 x.R]∧x.I.size≤maxLen∧Sl S h A7.str v1 x.H∧AA x.O∧Sl S h B9 a x.A∧Sl S h BZ b x.E∧Sl S h HL c x.Ab∧Sl S h Eu d x.Ad∧Sl S h Gr g x.Ae∧Sl S h DB i x.Ag∧Sl S h AB j x.Ak∧AA x.R:=by obtain⟨_,rfl,v1,a,b,c,d,g,i,j,rfl,k⟩:=k;exact⟨v1,a,b,c,d,g,i,j,rfl,k⟩
def BO.mk {S h}{x:AF}{v1 a b c d g i j:Value}(k0:x.I.size≤maxLen) (l:Sl S h A7.str v1 x.H) (m:AA x.O) (n:Sl S h B9 a x.A) (o:Sl S h BZ b x.E) (p:Sl S h HL c x.Ab) (q:Sl S h Eu d x.Ad) (s:Sl S h Gr g x.Ae) (t:Sl S h DB i x.Ag) (u:Sl S h AB j x.Ak) (k:AA x.R):Rd S h BO (.agg #[.string x.I,v1,.int .i64 x.O,a,b,c,d,g,i,j,.int .i64 x.R]) x:=⟨_,rfl,v1,a,b,c,d,g,i,j,rfl,k0,l,m,n,o,p,q,s,t,u,k⟩
def AF.f_Name:FW BO 0 A7.str (·.I):=by
 rintro S v cs x ⟨v1,b,c,d,g,i,j,k,rfl,k0,l,m,n,o,p,q,s,t,u,a⟩;exact⟨rfl,k0⟩
def HW:FW BO 1 (A7.sl A7.str) (·.H):=by
 rintro S v cs x ⟨v1,c,d,g,i,j,k,l,rfl,k0,a,m,n,o,p,q,s,t,u,b⟩;exact⟨_,rfl,a⟩
def Mf:FW BO 2 AB (·.O):=by
 rintro S v cs x ⟨v1,c,d,g,i,j,k,l,rfl,k0,m,a,n,o,p,q,s,t,u,b⟩;exact⟨rfl,a⟩
def B4:FW BO 3 (A7.sl B9) (·.A):=by
 rintro S v cs x ⟨v1,c,d,g,i,j,k,l,rfl,k0,m,n,a,o,p,q,s,t,u,b⟩;exact⟨_,rfl,a⟩
def Gh:FW BO 4 (A7.sl BZ) (·.E):=by
 rintro S v cs x ⟨v1,c,d,g,i,j,k,l,rfl,k0,m,n,o,a,p,q,s,t,u,b⟩;exact⟨_,rfl,a⟩
def Jc:FW BO 5 (A7.sl HL) (·.Ab):=by
 rintro S v cs x ⟨v1,c,d,g,i,j,k,l,rfl,k0,m,n,o,p,a,q,s,t,u,b⟩;exact⟨_,rfl,a⟩
def KF:FW BO 6 (A7.sl Eu) (·.Ad):=by
 rintro S v cs x ⟨v1,c,d,g,i,j,k,l,rfl,k0,m,n,o,p,q,a,s,t,u,b⟩;exact⟨_,rfl,a⟩
def Kx:FW BO 7 (A7.sl Gr) (·.Ae):=by
 rintro S v cs x ⟨v1,c,d,g,i,j,k,l,rfl,k0,m,n,o,p,q,s,a,t,u,b⟩;exact⟨_,rfl,a⟩
def JR:FW BO 8 (A7.sl DB) (·.Ag):=by
 rintro S v cs x ⟨v1,c,d,g,i,j,k,l,rfl,k0,m,n,o,p,q,s,t,a,u,b⟩;exact⟨_,rfl,a⟩
def AF.f_Room:FW BO 9 (A7.sl AB) (·.Ak):=by
 rintro S v cs x ⟨v1,c,d,g,i,j,k,l,rfl,k0,m,n,o,p,q,s,t,u,a,b⟩;exact⟨_,rfl,a⟩
def AF.f_Err:FW BO 10 AB (·.R):=by
 rintro S v cs x ⟨v1,b,c,d,g,i,j,k,rfl,k0,l,m,n,o,p,q,s,t,u,a⟩;exact⟨rfl,a⟩
structure AV where
 Am:Int
 C:Int
 T:(List Int)
instance:Inhabited AV:=⟨⟨default,default,default⟩⟩
def A3:A7 AV where
 sz:=3
 ag:=true
 rd:=λS g cs x=>∃a:Value,cs=[.int .i64 x.Am,.int .i64 x.C,a]∧AA x.Am∧AA x.C∧Sl S g AB a x.T
 len:=λ⟨_,g,_⟩=>by rw[g];rfl
 one:=by
  rintro S g cs x ⟨a,rfl,k0,b,c⟩ v d;simp only[uA,uL,vA] at d;rcases d with rfl|rfl|rfl<;>first|rfl|exact Sl.one ‹_› |exact(‹_∧_›).2|(obtain ⟨_,_,rfl,_⟩:=Rd.fn ‹_›;rfl)|(obtain ⟨_,_,rfl,_⟩:=Rd.fnr ‹_›;rfl)
 mono:=by
  rintro S S' g h' cs x ⟨a,rfl,k0,b,c⟩ s e;exact⟨a,rfl,k0,b,c.mono s e⟩
def A3.ex {S h v}{x:AV}(k:Rd S h A3 v x):∃a:Value,v= .agg #[.int .i64 x.Am,.int .i64 x.C,a]∧AA x.Am∧AA x.C∧Sl S h AB a x.T:=by obtain⟨_,rfl,a,rfl,k⟩:=k;exact⟨a,rfl,k⟩
def A3.mk {S h}{x:AV}{a:Value}(k0:AA x.Am) (b:AA x.C) (c:Sl S h AB a x.T):Rd S h A3 (.agg #[.int .i64 x.Am,.int .i64 x.C,a]) x:=⟨_,rfl,a,rfl,k0,b,c⟩
def WK:FW A3 0 AB (·.Am):=by
 rintro S d cs x ⟨a,rfl,k0,b,c⟩;exact⟨rfl,k0⟩
def AV.f_To:FW A3 1 AB (·.C):=by
 rintro S d cs x ⟨b,rfl,k0,a,c⟩;exact⟨rfl,a⟩
def AV.f_Part:FW A3 2 (A7.sl AB) (·.T):=by
 rintro S d cs x ⟨b,rfl,k0,c,a⟩;exact⟨_,rfl,a⟩
structure AT where
 V:Int
 W:Int
 At:Bool
 Ai:Bool
instance:Inhabited AT:=⟨⟨default,default,default,default⟩⟩
@[reducible] def AT.v (x:AT):List Go.Value:=[.int .i64 x.V,.int .i64 x.W,.bool x.At,.bool x.Ai]
def AT.ok (x:AT):Prop:=AA x.V∧AA x.W
def BL:A7 AT where
 sz:=4
 ag:=true
 rd:=λ_ _ cs x=>cs=x.v∧x.ok
 len:=λ⟨b,_⟩=>by rw[b];rfl
 one:=λ{_ _ _ x} ⟨b,_⟩ v a=>by
  rw[b] at a;simp only[AT.v,uA,uL,vA] at a;rcases a with rfl|rfl|rfl|rfl<;>rfl
 mono:=λb _ _=>b
def BL.ex {S a v}{x:AT}(k:Rd S a BL v x):v= .agg #[.int .i64 x.V,.int .i64 x.W,.bool x.At,.bool x.Ai]∧x.ok:=by obtain⟨_,rfl,rfl,a⟩:=k;exact⟨rfl,a⟩
def BL.mk {S h}{x:AT}(k:x.ok):Rd S h BL (.agg #[.int .i64 x.V,.int .i64 x.W,.bool x.At,.bool x.Ai]) x:=⟨x.v,rfl,rfl,k⟩
def RC:FW BL 0 AB (·.V):=by
 rintro S b cs x ⟨rfl,⟨k0,a⟩⟩;exact⟨rfl,k0⟩
def US:FW BL 3 A7.bool (·.Ai):=by
 rintro S b cs x ⟨rfl,⟨k0,a⟩⟩;exact rfl
structure AE where
 B:Int
 D:(List (List Int))
 L:(List Int)
 G:(List AV)
 M:(List AT)
 N:(List Int)
 K:(List Int)
instance:Inhabited AE:=⟨⟨default,default,default,default,default,default,default⟩⟩
def AM:A7 AE where
 sz:=7
 ag:=true
 rd:=λS p cs x=>∃v1 a b c d g:Value,cs=[.int .i64 x.B,v1,a,b,c,d,g]∧AA x.B∧Sl S p (A7.sl AB) v1 x.D∧Sl S p AB a x.L∧Sl S p A3 b x.G∧Sl S p BL c x.M∧Sl S p AB d x.N∧Sl S p AB g x.K
 len:=λ⟨_,_,_,_,_,_,p,_⟩=>by rw[p];rfl
 one:=by
  rintro S p cs x ⟨v1,a,b,c,d,g,rfl,k0,i,j,k,l,m,n⟩ v o;simp only[uA,uL,vA] at o;rcases o with rfl|rfl|rfl|rfl|rfl|rfl|rfl<;>first|rfl|exact Sl.one ‹_› |exact(‹_∧_›).2|(obtain ⟨_,_,rfl,_⟩:=Rd.fn ‹_›;rfl)|(obtain ⟨_,_,rfl,_⟩:=Rd.fnr ‹_›;rfl)
 mono:=by
  rintro S S' p h' cs x ⟨v1,a,b,c,d,g,rfl,k0,i,j,k,l,m,n⟩ s e;exact⟨v1,a,b,c,d,g,rfl,k0,i.mono s e,j.mono s e,k.mono s e,l.mono s e,m.mono s e,n.mono s e⟩
def AM.ex {S h v}{x:AE}(k:Rd S h AM v x):∃v1 a b c d g:Value,v= .agg #[.int .i64 x.B,v1,a,b,c,d,g]∧AA x.B∧Sl S h (A7.sl AB) v1 x.D∧Sl S h AB a x.L∧Sl S h A3 b x.G∧Sl S h BL c x.M∧Sl S h AB d x.N∧Sl S h AB g x.K:=by obtain⟨_,rfl,v1,a,b,c,d,g,rfl,k⟩:=k;exact⟨v1,a,b,c,d,g,rfl,k⟩
def AM.mk {S h}{x:AE}{v1 a b c d g:Value}(k0:AA x.B) (i:Sl S h (A7.sl AB) v1 x.D) (j:Sl S h AB a x.L) (k:Sl S h A3 b x.G) (l:Sl S h BL c x.M) (m:Sl S h AB d x.N) (n:Sl S h AB g x.K):Rd S h AM (.agg #[.int .i64 x.B,v1,a,b,c,d,g]) x:=⟨_,rfl,v1,a,b,c,d,g,rfl,k0,i,j,k,l,m,n⟩
def AE.f_Hour:FW AM 0 AB (·.B):=by
 rintro S o cs x ⟨v1,a,b,c,d,g,rfl,k0,i,j,k,l,m,n⟩;exact⟨rfl,k0⟩
def F5:FW AM 1 (A7.sl (A7.sl AB)) (·.D):=by
 rintro S o cs x ⟨v1,b,c,d,g,i,rfl,k0,a,j,k,l,m,n⟩;exact⟨_,rfl,a⟩
def Jo:FW AM 2 (A7.sl AB) (·.L):=by
 rintro S o cs x ⟨v1,b,c,d,g,i,rfl,k0,j,a,k,l,m,n⟩;exact⟨_,rfl,a⟩
def Gg:FW AM 3 (A7.sl A3) (·.G):=by
 rintro S o cs x ⟨v1,b,c,d,g,i,rfl,k0,j,k,a,l,m,n⟩;exact⟨_,rfl,a⟩
def Iz:FW AM 4 (A7.sl BL) (·.M):=by
 rintro S o cs x ⟨v1,b,c,d,g,i,rfl,k0,j,k,l,a,m,n⟩;exact⟨_,rfl,a⟩
def I2:FW AM 5 (A7.sl AB) (·.N):=by
 rintro S o cs x ⟨v1,b,c,d,g,i,rfl,k0,j,k,l,m,a,n⟩;exact⟨_,rfl,a⟩
def HB:FW AM 6 (A7.sl AB) (·.K):=by
 rintro S o cs x ⟨v1,b,c,d,g,i,rfl,k0,j,k,l,m,n,a⟩;exact⟨_,rfl,a⟩
structure LE where
 F:Int
 As:Int
instance:Inhabited LE:=⟨⟨default,default⟩⟩
@[reducible] def LE.v (x:LE):List Go.Value:=[.int .i64 x.F,.int .i64 x.As]
def LE.ok (x:LE):Prop:=AA x.F∧AA x.As
def Gf:A7 LE where
 sz:=2
 ag:=true
 rd:=λ_ _ cs x=>cs=x.v∧x.ok
 len:=λ⟨b,_⟩=>by rw[b];rfl
 one:=λ{_ _ _ x} ⟨b,_⟩ v a=>by
  rw[b] at a;simp only[LE.v,uA,uL,vA] at a;rcases a with rfl|rfl<;>rfl
 mono:=λb _ _=>b
def Gf.ex {S a v}{x:LE}(k:Rd S a Gf v x):v= .agg #[.int .i64 x.F,.int .i64 x.As]∧x.ok:=by obtain⟨_,rfl,rfl,a⟩:=k;exact⟨rfl,a⟩
def Gf.mk {S h}{x:LE}(k:x.ok):Rd S h Gf (.agg #[.int .i64 x.F,.int .i64 x.As]) x:=⟨x.v,rfl,rfl,k⟩
def LE.f_Kind:FW Gf 0 AB (·.F):=by
 rintro S b cs x ⟨rfl,⟨k0,a⟩⟩;exact⟨rfl,k0⟩
structure RX where
 As:Int
 W:Int
instance:Inhabited RX:=⟨⟨default,default⟩⟩
@[reducible] def RX.v (x:RX):List Go.Value:=[.int .i64 x.As,.int .i64 x.W]
def RX.ok (x:RX):Prop:=AA x.As∧AA x.W
def Jp:A7 RX where
 sz:=2
 ag:=true
 rd:=λ_ _ cs x=>cs=x.v∧x.ok
 len:=λ⟨b,_⟩=>by rw[b];rfl
 one:=λ{_ _ _ x} ⟨b,_⟩ v a=>by
  rw[b] at a;simp only[RX.v,uA,uL,vA] at a;rcases a with rfl|rfl<;>rfl
 mono:=λb _ _=>b
def Jp.ex {S a v}{x:RX}(k:Rd S a Jp v x):v= .agg #[.int .i64 x.As,.int .i64 x.W]∧x.ok:=by obtain⟨_,rfl,rfl,a⟩:=k;exact⟨rfl,a⟩
def Jp.mk {S h}{x:RX}(k:x.ok):Rd S h Jp (.agg #[.int .i64 x.As,.int .i64 x.W]) x:=⟨x.v,rfl,rfl,k⟩
structure Hb where
 Ap:Int
 Bg:Int
 Bd:Int
 C:Int
instance:Inhabited Hb:=⟨⟨default,default,default,default⟩⟩
@[reducible] def Hb.v (x:Hb):List Go.Value:=[.int .i64 x.Ap,.int .i64 x.Bg,.int .i64 x.Bd,.int .i64 x.C]
def Hb.ok (x:Hb):Prop:=AA x.Ap∧AA x.Bg∧AA x.Bd∧AA x.C
def Ge:A7 Hb where
 sz:=4
 ag:=true
 rd:=λ_ _ cs x=>cs=x.v∧x.ok
 len:=λ⟨b,_⟩=>by rw[b];rfl
 one:=λ{_ _ _ x} ⟨b,_⟩ v a=>by
  rw[b] at a;simp only[Hb.v,uA,uL,vA] at a;rcases a with rfl|rfl|rfl|rfl<;>rfl
 mono:=λb _ _=>b
def Ge.ex {S a v}{x:Hb}(k:Rd S a Ge v x):v= .agg #[.int .i64 x.Ap,.int .i64 x.Bg,.int .i64 x.Bd,.int .i64 x.C]∧x.ok:=by obtain⟨_,rfl,rfl,a⟩:=k;exact⟨rfl,a⟩
def Ge.mk {S h}{x:Hb}(k:x.ok):Rd S h Ge (.agg #[.int .i64 x.Ap,.int .i64 x.Bg,.int .i64 x.Bd,.int .i64 x.C]) x:=⟨x.v,rfl,rfl,k⟩
def PO:FW Ge 1 AB (·.Bg):=by
 rintro S d cs x ⟨rfl,⟨k0,a,b,c⟩⟩;exact⟨rfl,a⟩
def Hb.f_Litres:FW Ge 2 AB (·.Bd):=by
 rintro S d cs x ⟨rfl,⟨k0,b,a,c⟩⟩;exact⟨rfl,a⟩
def Hb.f_To:FW Ge 3 AB (·.C):=by
 rintro S d cs x ⟨rfl,⟨k0,b,c,a⟩⟩;exact⟨rfl,a⟩
structure NQ where
 Ap:Int
 J:Int
 C:Int
 Bd:Int
instance:Inhabited NQ:=⟨⟨default,default,default,default⟩⟩
@[reducible] def NQ.v (x:NQ):List Go.Value:=[.int .i64 x.Ap,.int .i64 x.J,.int .i64 x.C,.int .i64 x.Bd]
def NQ.ok (x:NQ):Prop:=AA x.Ap∧AA x.J∧AA x.C∧AA x.Bd
def HV:A7 NQ where
 sz:=4
 ag:=true
 rd:=λ_ _ cs x=>cs=x.v∧x.ok
 len:=λ⟨b,_⟩=>by rw[b];rfl
 one:=λ{_ _ _ x} ⟨b,_⟩ v a=>by
  rw[b] at a;simp only[NQ.v,uA,uL,vA] at a;rcases a with rfl|rfl|rfl|rfl<;>rfl
 mono:=λb _ _=>b
def HV.ex {S a v}{x:NQ}(k:Rd S a HV v x):v= .agg #[.int .i64 x.Ap,.int .i64 x.J,.int .i64 x.C,.int .i64 x.Bd]∧x.ok:=by obtain⟨_,rfl,rfl,a⟩:=k;exact⟨rfl,a⟩
def HV.mk {S h}{x:NQ}(k:x.ok):Rd S h HV (.agg #[.int .i64 x.Ap,.int .i64 x.J,.int .i64 x.C,.int .i64 x.Bd]) x:=⟨x.v,rfl,rfl,k⟩
def NQ.f_From:FW HV 1 AB (·.J):=by
 rintro S d cs x ⟨rfl,⟨k0,a,b,c⟩⟩;exact⟨rfl,a⟩
def NQ.f_To:FW HV 2 AB (·.C):=by
 rintro S d cs x ⟨rfl,⟨k0,b,a,c⟩⟩;exact⟨rfl,a⟩
def NQ.f_Litres:FW HV 3 AB (·.Bd):=by
 rintro S d cs x ⟨rfl,⟨k0,b,c,a⟩⟩;exact⟨rfl,a⟩
structure Ch where
 Z:(List Int)
 Ah:(List LE)
 Aj:(List RX)
 Aa:(List Hb)
 Aq:(List NQ)
instance:Inhabited Ch:=⟨⟨default,default,default,default,default⟩⟩
def CN:A7 Ch where
 sz:=5
 ag:=true
 rd:=λS m cs x=>∃a v1 b c d:Value,cs=[a,v1,b,c,d]∧Sl S m AB a x.Z∧Sl S m Gf v1 x.Ah∧Sl S m Jp b x.Aj∧Sl S m Ge c x.Aa∧Sl S m HV d x.Aq
 len:=λ⟨_,_,_,_,_,m,_⟩=>by rw[m];rfl
 one:=by
  rintro S m cs x ⟨a,v1,b,c,d,rfl,k0,g,i,j,k⟩ v l;simp only[uA,uL,vA] at l;rcases l with rfl|rfl|rfl|rfl|rfl<;>first|rfl|exact Sl.one ‹_› |exact(‹_∧_›).2|(obtain ⟨_,_,rfl,_⟩:=Rd.fn ‹_›;rfl)|(obtain ⟨_,_,rfl,_⟩:=Rd.fnr ‹_›;rfl)
 mono:=by
  rintro S S' m h' cs x ⟨a,v1,b,c,d,rfl,k0,g,i,j,k⟩ s e;exact⟨a,v1,b,c,d,rfl,k0.mono s e,g.mono s e,i.mono s e,j.mono s e,k.mono s e⟩
def CN.ex {S h v}{x:Ch}(k:Rd S h CN v x):∃a v1 b c d:Value,v= .agg #[a,v1,b,c,d]∧Sl S h AB a x.Z∧Sl S h Gf v1 x.Ah∧Sl S h Jp b x.Aj∧Sl S h Ge c x.Aa∧Sl S h HV d x.Aq:=by obtain⟨_,rfl,a,v1,b,c,d,rfl,k⟩:=k;exact⟨a,v1,b,c,d,rfl,k⟩
def CN.mk {S h}{x:Ch}{a v1 b c d:Value}(k0:Sl S h AB a x.Z) (g:Sl S h Gf v1 x.Ah) (i:Sl S h Jp b x.Aj) (j:Sl S h Ge c x.Aa) (k:Sl S h HV d x.Aq):Rd S h CN (.agg #[a,v1,b,c,d]) x:=⟨_,rfl,a,v1,b,c,d,rfl,k0,g,i,j,k⟩
structure AK where
 B:Int
 J:Int
 C:Int
 Ba:Int
 T:(List Int)
instance:Inhabited AK:=⟨⟨default,default,default,default,default⟩⟩
def BB:A7 AK where
 sz:=5
 ag:=true
 rd:=λS j cs x=>∃a:Value,cs=[.int .i64 x.B,.int .i64 x.J,.int .i64 x.C,.int .i64 x.Ba,a]∧AA x.B∧AA x.J∧AA x.C∧AA x.Ba∧Sl S j AB a x.T
 len:=λ⟨_,j,_⟩=>by rw[j];rfl
 one:=by
  rintro S j cs x ⟨a,rfl,k0,b,c,d,g⟩ v i;simp only[uA,uL,vA] at i;rcases i with rfl|rfl|rfl|rfl|rfl<;>first|rfl|exact Sl.one ‹_› |exact(‹_∧_›).2|(obtain ⟨_,_,rfl,_⟩:=Rd.fn ‹_›;rfl)|(obtain ⟨_,_,rfl,_⟩:=Rd.fnr ‹_›;rfl)
 mono:=by
  rintro S S' j h' cs x ⟨a,rfl,k0,b,c,d,g⟩ s e;exact⟨a,rfl,k0,b,c,d,g.mono s e⟩
def BB.ex {S h v}{x:AK}(k:Rd S h BB v x):∃a:Value,v= .agg #[.int .i64 x.B,.int .i64 x.J,.int .i64 x.C,.int .i64 x.Ba,a]∧AA x.B∧AA x.J∧AA x.C∧AA x.Ba∧Sl S h AB a x.T:=by obtain⟨_,rfl,a,rfl,k⟩:=k;exact⟨a,rfl,k⟩
def BB.mk {S h}{x:AK}{a:Value}(k0:AA x.B) (b:AA x.J) (c:AA x.C) (d:AA x.Ba) (g:Sl S h AB a x.T):Rd S h BB (.agg #[.int .i64 x.B,.int .i64 x.J,.int .i64 x.C,.int .i64 x.Ba,a]) x:=⟨_,rfl,a,rfl,k0,b,c,d,g⟩
def AK.f_Hour:FW BB 0 AB (·.B):=by
 rintro S i cs x ⟨a,rfl,k0,b,c,d,g⟩;exact⟨rfl,k0⟩
def AK.f_From:FW BB 1 AB (·.J):=by
 rintro S i cs x ⟨b,rfl,k0,a,c,d,g⟩;exact⟨rfl,a⟩
def AK.f_To:FW BB 2 AB (·.C):=by
 rintro S i cs x ⟨b,rfl,k0,c,a,d,g⟩;exact⟨rfl,a⟩
def VS:FW BB 3 AB (·.Ba):=by
 rintro S i cs x ⟨b,rfl,k0,c,d,a,g⟩;exact⟨rfl,a⟩
def AK.f_Part:FW BB 4 (A7.sl AB) (·.T):=by
 rintro S i cs x ⟨b,rfl,k0,c,d,g,a⟩;exact⟨_,rfl,a⟩
structure AN where
 b:AF
 in_:Ch
 s:AE
 moves:(List AK)
 peaks:(List Int)
 sent:(List AV)
instance:Inhabited AN:=⟨⟨default,default,default,default,default,default⟩⟩
def Mu:A7 AN where
 sz:=26
 ag:=true
 rd:=λS h cs x=>∃v1 u w y z C F J a c d g i j k l m n o p q t:Value,cs=[.string x.b.I,v1,.int .i64 x.b.O,u,w,y,z,C,F,J,.int .i64 x.b.R,a,c,d,g,i,.int .i64 x.s.B,j,k,l,m,n,o,p,q,t]∧x.b.I.size≤maxLen∧Sl S h A7.str v1 x.b.H∧AA x.b.O∧Sl S h B9 u x.b.A∧Sl S h BZ w x.b.E∧Sl S h HL y x.b.Ab∧Sl S h Eu z x.b.Ad∧Sl S h Gr C x.b.Ae∧Sl S h DB F x.b.Ag∧Sl S h AB J x.b.Ak∧AA x.b.R∧Sl S h AB a x.in_.Z∧Sl S h Gf c x.in_.Ah∧Sl S h Jp d x.in_.Aj∧Sl S h Ge g x.in_.Aa∧Sl S h HV i x.in_.Aq∧AA x.s.B∧Sl S h (A7.sl AB) j x.s.D∧Sl S h AB k x.s.L∧Sl S h A3 l x.s.G∧Sl S h BL m x.s.M∧Sl S h AB n x.s.N∧Sl S h AB o x.s.K∧Sl S h BB p x.moves∧Sl S h AB q x.peaks∧Sl S h A3 t x.sent
 len:=λ⟨_,_,_,_,_,_,_,_,_,_,_,_,_,_,_,_,_,_,_,_,_,_,h,_⟩=>by rw[h];rfl
 one:=by
  rintro S h cs x ⟨v1,u,w,y,z,C,F,J,a,c,d,g,i,j,k,l,m,n,o,p,q,t,rfl,k0,k1,k2,k3,k4,k5,k6,k7,k8,k9,Q,U,V,W,X,Y,aa,ab,ac,ad,ae,af,ah,ai,aj,ak⟩ v hv;simp only[uA,uL,vA] at hv;rcases hv with rfl|rfl|rfl|rfl|rfl|rfl|rfl|rfl|rfl|rfl|rfl|rfl|rfl|rfl|rfl|rfl|rfl|rfl|rfl|rfl|rfl|rfl|rfl|rfl|rfl|rfl<;>first|rfl|exact Sl.one ‹_› |exact(‹_∧_›).2|(obtain ⟨_,_,rfl,_⟩:=Rd.fn ‹_›;rfl)|(obtain ⟨_,_,rfl,_⟩:=Rd.fnr ‹_›;rfl)
 mono:=by
  rintro S S' h h' cs x ⟨v1,u,w,y,z,C,F,J,a,c,d,g,i,j,k,l,m,n,o,p,q,t,rfl,k0,k1,k2,k3,k4,k5,k6,k7,k8,k9,Q,U,V,W,X,Y,aa,ab,ac,ad,ae,af,ah,ai,aj,ak⟩ s e;exact⟨v1,u,w,y,z,C,F,J,a,c,d,g,i,j,k,l,m,n,o,p,q,t,rfl,k0,k1.mono s e,k2,k3.mono s e,k4.mono s e,k5.mono s e,k6.mono s e,k7.mono s e,k8.mono s e,k9.mono s e,Q,U.mono s e,V.mono s e,W.mono s e,X.mono s e,Y.mono s e,aa,ab.mono s e,ac.mono s e,ad.mono s e,ae.mono s e,af.mono s e,ah.mono s e,ai.mono s e,aj.mono s e,ak.mono s e⟩
def Mu.ex {S h v}{x:AN}(k:Rd S h Mu v x):∃v1 w y z C F J Q a c d g i j l m n o p q t u:Value,v= .agg #[.string x.b.I,v1,.int .i64 x.b.O,w,y,z,C,F,J,Q,.int .i64 x.b.R,a,c,d,g,i,.int .i64 x.s.B,j,l,m,n,o,p,q,t,u]∧x.b.I.size≤maxLen∧Sl S h A7.str v1 x.b.H∧AA x.b.O∧Sl S h B9 w x.b.A∧Sl S h BZ y x.b.E∧Sl S h HL z x.b.Ab∧Sl S h Eu C x.b.Ad∧Sl S h Gr F x.b.Ae∧Sl S h DB J x.b.Ag∧Sl S h AB Q x.b.Ak∧AA x.b.R∧Sl S h AB a x.in_.Z∧Sl S h Gf c x.in_.Ah∧Sl S h Jp d x.in_.Aj∧Sl S h Ge g x.in_.Aa∧Sl S h HV i x.in_.Aq∧AA x.s.B∧Sl S h (A7.sl AB) j x.s.D∧Sl S h AB l x.s.L∧Sl S h A3 m x.s.G∧Sl S h BL n x.s.M∧Sl S h AB o x.s.N∧Sl S h AB p x.s.K∧Sl S h BB q x.moves∧Sl S h AB t x.peaks∧Sl S h A3 u x.sent:=by obtain⟨_,rfl,v1,w,y,z,C,F,J,Q,a,c,d,g,i,j,l,m,n,o,p,q,t,u,rfl,k⟩:=k;exact⟨v1,w,y,z,C,F,J,Q,a,c,d,g,i,j,l,m,n,o,p,q,t,u,rfl,k⟩
def Mu.mk {S h}{x:AN}{v1 u v w y z C F a c d g i j k l m n o p q t:Value}(k0:x.b.I.size≤maxLen) (k1:Sl S h A7.str v1 x.b.H) (k2:AA x.b.O) (k3:Sl S h B9 u x.b.A) (k4:Sl S h BZ v x.b.E) (k5:Sl S h HL w x.b.Ab) (k6:Sl S h Eu y x.b.Ad) (k7:Sl S h Gr z x.b.Ae) (k8:Sl S h DB C x.b.Ag) (k9:Sl S h AB F x.b.Ak) (J:AA x.b.R) (Q:Sl S h AB a x.in_.Z) (U:Sl S h Gf c x.in_.Ah) (V:Sl S h Jp d x.in_.Aj) (W:Sl S h Ge g x.in_.Aa) (X:Sl S h HV i x.in_.Aq) (Y:AA x.s.B) (aa:Sl S h (A7.sl AB) j x.s.D) (ab:Sl S h AB k x.s.L) (ac:Sl S h A3 l x.s.G) (ad:Sl S h BL m x.s.M) (ae:Sl S h AB n x.s.N) (af:Sl S h AB o x.s.K) (ag:Sl S h BB p x.moves) (ah:Sl S h AB q x.peaks) (ai:Sl S h A3 t x.sent):Rd S h Mu (.agg #[.string x.b.I,v1,.int .i64 x.b.O,u,v,w,y,z,C,F,.int .i64 x.b.R,a,c,d,g,i,.int .i64 x.s.B,j,k,l,m,n,o,p,q,t]) x:=⟨_,rfl,v1,u,v,w,y,z,C,F,a,c,d,g,i,j,k,l,m,n,o,p,q,t,rfl,k0,k1,k2,k3,k4,k5,k6,k7,k8,k9,J,Q,U,V,W,X,Y,aa,ab,ac,ad,ae,af,ag,ah,ai⟩
structure AD where
 to_:Int
 delay:Int
 way:Int
 take:((List Int)→Option ((List Int)×(List Int)))
instance:Inhabited AD:=⟨⟨default,default,default,default⟩⟩
def A6:A7 AD where
 sz:=4
 ag:=true
 rd:=λS k cs x=>∃a:Value,cs=[.int .i64 x.to_,.int .i64 x.delay,.int .i64 x.way,a]∧AA x.to_∧AA x.delay∧AA x.way∧Rd S k (A7.fnr prog (λS k vs (x:(List Int))=>∃b:Value,vs=[b]∧Sl S k AB b x) (λS k v (y:((List Int)×(List Int)))=>∃b c:Value,v= .tuple #[b,c]∧Sl S k AB b y.1∧Sl S k AB c y.2)) a x.take
 len:=λ⟨_,k,_⟩=>by rw[k];rfl
 one:=by
  rintro S k cs x ⟨a,rfl,k0,d,g,i⟩ v j;simp only[uA,uL,vA] at j;rcases j with rfl|rfl|rfl|rfl<;>first|rfl|exact Sl.one ‹_› |exact(‹_∧_›).2|(obtain ⟨_,_,rfl,_⟩:=Rd.fn ‹_›;rfl)|(obtain ⟨_,_,rfl,_⟩:=Rd.fnr ‹_›;rfl)
 mono:=by
  rintro S S' k h' cs x ⟨a,rfl,k0,d,g,i⟩ s e;exact⟨a,rfl,k0,d,g,i.mono'' s e⟩
def A6.ex {S d v}{x:AD}(k:Rd S d A6 v x):∃b:Value,v= .agg #[.int .i64 x.to_,.int .i64 x.delay,.int .i64 x.way,b]∧AA x.to_∧AA x.delay∧AA x.way∧Rd S d (A7.fnr prog (λS d vs (x:(List Int))=>∃a:Value,vs=[a]∧Sl S d AB a x) (λS d v (y:((List Int)×(List Int)))=>∃a c:Value,v= .tuple #[a,c]∧Sl S d AB a y.1∧Sl S d AB c y.2)) b x.take:=by obtain⟨_,rfl,b,rfl,k⟩:=k;exact⟨b,rfl,k⟩
def A6.mk {S j}{x:AD}{b:Value}(k0:AA x.to_) (d:AA x.delay) (g:AA x.way) (i:Rd S j (A7.fnr prog (λS j vs (x:(List Int))=>∃a:Value,vs=[a]∧Sl S j AB a x) (λS j v (y:((List Int)×(List Int)))=>∃a c:Value,v= .tuple #[a,c]∧Sl S j AB a y.1∧Sl S j AB c y.2)) b x.take):Rd S j A6 (.agg #[.int .i64 x.to_,.int .i64 x.delay,.int .i64 x.way,b]) x:=⟨_,rfl,b,rfl,k0,d,g,i⟩
def LC:FW A6 0 AB (·.to_):=by
 rintro S g cs x ⟨a,rfl,k0,b,c,d⟩;exact⟨rfl,k0⟩
def Md:FW A6 1 AB (·.delay):=by
 rintro S g cs x ⟨b,rfl,k0,a,c,d⟩;exact⟨rfl,a⟩
def NP:FW A6 2 AB (·.way):=by
 rintro S g cs x ⟨b,rfl,k0,c,a,d⟩;exact⟨rfl,a⟩
def Mv:FW A6 3 (A7.fnr prog (λS m vs (x:(List Int))=>∃a:Value,vs=[a]∧Sl S m AB a x) (λS m v (y:((List Int)×(List Int)))=>∃a b:Value,v= .tuple #[a,b]∧Sl S m AB a y.1∧Sl S m AB b y.2)) (·.take):=by
 rintro S m cs x ⟨j,rfl,k0,k,l,c⟩;obtain⟨_,rfl,d,g,rfl,i⟩:=c;exact⟨d,g,rfl,i⟩
structure AX where
 rest_:ByteArray
 bad:Bool
instance:Inhabited AX:=⟨⟨default,default⟩⟩
@[reducible] def AX.v (x:AX):List Go.Value:=[.string x.rest_,.bool x.bad]
def AX.ok (x:AX):Prop:=x.rest_.size≤maxLen
def E9:A7 AX where
 sz:=2
 ag:=true
 rd:=λ_ _ cs x=>cs=x.v∧x.ok
 len:=λ⟨b,_⟩=>by rw[b];rfl
 one:=λ{_ _ _ x} ⟨b,_⟩ v a=>by
  rw[b] at a;simp only[AX.v,uA,uL,vA] at a;rcases a with rfl|rfl<;>rfl
 mono:=λb _ _=>b
def E9.ex {S a v}{x:AX}(k:Rd S a E9 v x):v= .agg #[.string x.rest_,.bool x.bad]∧x.ok:=by obtain⟨_,rfl,rfl,a⟩:=k;exact⟨rfl,a⟩
def E9.mk {S h}{x:AX}(k:x.ok):Rd S h E9 (.agg #[.string x.rest_,.bool x.bad]) x:=⟨x.v,rfl,rfl,k⟩
def Lh:FW E9 0 A7.str (·.rest_):=by
 rintro S a cs x ⟨rfl,k0⟩;exact⟨rfl,k0⟩
def Mc:FW E9 1 A7.bool (·.bad):=by
 rintro S a cs x ⟨rfl,k0⟩;exact rfl
structure AG where
 group:ByteArray
 name:ByteArray
instance:Inhabited AG:=⟨⟨default,default⟩⟩
@[reducible] def AG.v (x:AG):List Go.Value:=[.string x.group,.string x.name]
def AG.ok (x:AG):Prop:=x.group.size≤maxLen∧x.name.size≤maxLen
def Lz:A7 AG where
 sz:=2
 ag:=true
 rd:=λ_ _ cs x=>cs=x.v∧x.ok
 len:=λ⟨b,_⟩=>by rw[b];rfl
 one:=λ{_ _ _ x} ⟨b,_⟩ v a=>by
  rw[b] at a;simp only[AG.v,uA,uL,vA] at a;rcases a with rfl|rfl<;>rfl
 mono:=λb _ _=>b
def Lz.ex {S a v}{x:AG}(k:Rd S a Lz v x):v= .agg #[.string x.group,.string x.name]∧x.ok:=by obtain⟨_,rfl,rfl,a⟩:=k;exact⟨rfl,a⟩
def Lz.mk {S h}{x:AG}(k:x.ok):Rd S h Lz (.agg #[.string x.group,.string x.name]) x:=⟨x.v,rfl,rfl,k⟩
structure AI where
 hi:Int
 lo:Int
instance:Inhabited AI:=⟨⟨default,default⟩⟩
@[reducible] def AI.v (x:AI):List Go.Value:=[.int .i64 x.hi,.int .u64 x.lo]
def AI.ok (x:AI):Prop:=AA x.hi∧IntKind.has .u64 x.lo
def HU:A7 AI where
 sz:=2
 ag:=true
 rd:=λ_ _ cs x=>cs=x.v∧x.ok
 len:=λ⟨b,_⟩=>by rw[b];rfl
 one:=λ{_ _ _ x} ⟨b,_⟩ v a=>by
  rw[b] at a;simp only[AI.v,uA,uL,vA] at a;rcases a with rfl|rfl<;>rfl
 mono:=λb _ _=>b
def HU.ex {S a v}{x:AI}(k:Rd S a HU v x):v= .agg #[.int .i64 x.hi,.int .u64 x.lo]∧x.ok:=by obtain⟨_,rfl,rfl,a⟩:=k;exact⟨rfl,a⟩
def HU.mk {S h}{x:AI}(k:x.ok):Rd S h HU (.agg #[.int .i64 x.hi,.int .u64 x.lo]) x:=⟨x.v,rfl,rfl,k⟩
def Sc:FW HU 0 AB (·.hi):=by
 rintro S b cs x ⟨rfl,⟨k0,a⟩⟩;exact⟨rfl,k0⟩
def Me:FW HU 1 (A7.intk .u64) (·.lo):=by
 rintro S b cs x ⟨rfl,⟨k0,a⟩⟩;exact⟨rfl,a⟩
structure AC where
 sort:Int
 place:Int
 owner:Int
instance:Inhabited AC:=⟨⟨default,default,default⟩⟩
@[reducible] def AC.v (x:AC):List Go.Value:=[.int .i64 x.sort,.int .i64 x.place,.int .i64 x.owner]
def AC.ok (x:AC):Prop:=AA x.sort∧AA x.place∧AA x.owner
def LU:A7 AC where
 sz:=3
 ag:=true
 rd:=λ_ _ cs x=>cs=x.v∧x.ok
 len:=λ⟨b,_⟩=>by rw[b];rfl
 one:=λ{_ _ _ x} ⟨b,_⟩ v a=>by
  rw[b] at a;simp only[AC.v,uA,uL,vA] at a;rcases a with rfl|rfl|rfl<;>rfl
 mono:=λb _ _=>b
def LU.ex {S a v}{x:AC}(k:Rd S a LU v x):v= .agg #[.int .i64 x.sort,.int .i64 x.place,.int .i64 x.owner]∧x.ok:=by obtain⟨_,rfl,rfl,a⟩:=k;exact⟨rfl,a⟩
def LU.mk {S h}{x:AC}(k:x.ok):Rd S h LU (.agg #[.int .i64 x.sort,.int .i64 x.place,.int .i64 x.owner]) x:=⟨x.v,rfl,rfl,k⟩
def Mx:ByteArray:=ByteArray.mk #[0,1,2,2,3,3,3,3,4,4,4,4,4,4,4,4,5,5,5,5,5,5,5,5,5,5,5,5,5,5,5,5,6,6,6,6,6,6,6,6,6,6,6,6,6,6,6,6,6,6,6,6,6,6,6,6,6,6,6,6,6,6,6,6,7,7,7,7,7,7,7,7,7,7,7,7,7,7,7,7,7,7,7,7,7,7,7,7,7,7,7,7,7,7,7,7,7,7,7,7,7,7,7,7,7,7,7,7,7,7,7,7,7,7,7,7,7,7,7,7,7,7,7,7,7,7,7,7,8,8,8,8,8,8,8,8,8,8,8,8,8,8,8,8,8,8,8,8,8,8,8,8,8,8,8,8,8,8,8,8,8,8,8,8,8,8,8,8,8,8,8,8,8,8,8,8,8,8,8,8,8,8,8,8,8,8,8,8,8,8,8,8,8,8,8,8,8,8,8,8,8,8,8,8,8,8,8,8,8,8,8,8,8,8,8,8,8,8,8,8,8,8,8,8,8,8,8,8,8,8,8,8,8,8,8,8,8,8,8,8,8,8,8,8,8,8,8,8,8,8,8,8,8,8,8,8]
def Oy:List ByteArray:=([(ByteArray.mk #[112,117,98,108,105,99])]:List ByteArray)
def Ox:List EW:=([(⟨(ByteArray.mk #[116,111,112]),0,0,100,([(⟨0,0⟩:BS),(⟨100,200⟩:BS)]:List BS),([60]:List Int),1,10,1,0,0,[]⟩:EW),(⟨(ByteArray.mk #[109,105,100]),0,1,100,([(⟨0,0⟩:BS),(⟨100,200⟩:BS)]:List BS),([20]:List Int),0,0,2,1,0,[]⟩:EW),(⟨(ByteArray.mk #[108,111,119]),0,2,30,([(⟨0,0⟩:BS),(⟨100,200⟩:BS)]:List BS),([30]:List Int),1,2,(-1),0,0,[]⟩:EW)]:List EW)
def Qi:List Ch:=([(⟨([10]:List Int),[],[],[],[]⟩:Ch)]:List Ch)
def Qh:List AK:=([(⟨3,0,0,0,([10]:List Int)⟩:AK),(⟨3,0,0,0,([2,3]:List Int)⟩:AK),(⟨5,0,0,0,([7]:List Int)⟩:AK),(⟨4,1,0,0,([9]:List Int)⟩:AK)]:List AK)
def eZ:D9 prog 31=some [.string ByteArray.empty,.slice none 0 0,.int .i64 0,.slice none 0 0,.slice none 0 0,.slice none 0 0,.slice none 0 0,.slice none 0 0,.slice none 0 0,.slice none 0 0,.int .i64 0]:=by kernel_rfl
def Y1:UV prog 137=some ([(0,1),(1,1)],[.int .i64 0,.int .i64 0]):=by kernel_rfl
def pB:N3 prog 98=some (137,2,16,[.int .i64 0,.int .i64 0]):=by kernel_rfl
def IU:N3 prog 29=some (3,1,8,[.int .i64 0]):=by kernel_rfl
def Vj:UV prog 101=some ([(0,1),(1,1),(2,1),(3,1),(4,1),(5,1),(6,1),(7,1),(8,1),(9,1),(10,1),(11,1)],[.string ByteArray.empty,.int .i64 0,.int .i64 0,.int .i64 0,.slice none 0 0,.slice none 0 0,.int .i64 0,.int .i64 0,.int .i64 0,.int .i64 0,.int .i64 0,.slice none 0 0]):=by kernel_rfl
def Mw:D9 prog 101=some [.string ByteArray.empty,.int .i64 0,.int .i64 0,.int .i64 0,.slice none 0 0,.slice none 0 0,.int .i64 0,.int .i64 0,.int .i64 0,.int .i64 0,.int .i64 0,.slice none 0 0]:=by kernel_rfl
def pE:N3 prog 22=some (9,1,16,[.string ByteArray.empty]):=by kernel_rfl
def pD:N3 prog 23=some (101,12,152,[.string ByteArray.empty,.int .i64 0,.int .i64 0,.int .i64 0,.slice none 0 0,.slice none 0 0,.int .i64 0,.int .i64 0,.int .i64 0,.int .i64 0,.int .i64 0,.slice none 0 0]):=by kernel_rfl
def nS:UV prog 31=some ([(0,1),(1,1),(2,1),(3,1),(4,1),(5,1),(6,1),(7,1),(8,1),(9,1),(10,1)],[.string ByteArray.empty,.slice none 0 0,.int .i64 0,.slice none 0 0,.slice none 0 0,.slice none 0 0,.slice none 0 0,.slice none 0 0,.slice none 0 0,.slice none 0 0,.int .i64 0]):=by kernel_rfl
def pJ:BJ prog 95=true:=by kernel_rfl
def L8:D9 prog 36=some [.int .i64 0,.slice none 0 0,.slice none 0 0,.slice none 0 0,.slice none 0 0,.slice none 0 0,.slice none 0 0]:=by kernel_rfl
def mo:prog.follows .mixedOrders=true:=by kernel_rfl
def fG:UV prog 36=some ([(0,1),(1,1),(2,1),(3,1),(4,1),(5,1),(6,1)],[.int .i64 0,.slice none 0 0,.slice none 0 0,.slice none 0 0,.slice none 0 0,.slice none 0 0,.slice none 0 0]):=by kernel_rfl
def Ms:N3 prog 32=some (29,1,24,[.slice none 0 0]):=by kernel_rfl
def VJ:N3 prog 34=some (106,4,24,[.int .i64 0,.int .i64 0,.bool false,.bool false]):=by kernel_rfl
def Ym:∃e,prog.underlying 29=some (.slice e):=⟨3,by kernel_rfl⟩
def Pk:BJ prog 116=true:=by kernel_rfl
def pQ:BJ prog 41=true:=by kernel_rfl
def nR:UV prog 60=some ([(0,1),(1,1),(2,1),(3,1),(4,1)],[.slice none 0 0,.slice none 0 0,.slice none 0 0,.slice none 0 0,.slice none 0 0]):=by kernel_rfl
def pC:N3 prog 78=some (60,5,120,[.slice none 0 0,.slice none 0 0,.slice none 0 0,.slice none 0 0,.slice none 0 0]):=by kernel_rfl
def Yl:∃e,prog.underlying 34=some (.slice e):=⟨106,by kernel_rfl⟩
def lR:BJ prog 157=true:=by kernel_rfl
def pP:BJ prog 78=true:=by kernel_rfl
def iC:UV prog 160=some ([(0,11),(11,5),(16,7),(23,1),(24,1),(25,1)],[.string ByteArray.empty,.slice none 0 0,.int .i64 0,.slice none 0 0,.slice none 0 0,.slice none 0 0,.slice none 0 0,.slice none 0 0,.slice none 0 0,.slice none 0 0,.int .i64 0,.slice none 0 0,.slice none 0 0,.slice none 0 0,.slice none 0 0,.slice none 0 0,.int .i64 0,.slice none 0 0,.slice none 0 0,.slice none 0 0,.slice none 0 0,.slice none 0 0,.slice none 0 0,.slice none 0 0,.slice none 0 0,.slice none 0 0]):=by kernel_rfl
def gU:D9 prog 160=some [.string ByteArray.empty,.slice none 0 0,.int .i64 0,.slice none 0 0,.slice none 0 0,.slice none 0 0,.slice none 0 0,.slice none 0 0,.slice none 0 0,.slice none 0 0,.int .i64 0,.slice none 0 0,.slice none 0 0,.slice none 0 0,.slice none 0 0,.slice none 0 0,.int .i64 0,.slice none 0 0,.slice none 0 0,.slice none 0 0,.slice none 0 0,.slice none 0 0,.slice none 0 0,.slice none 0 0,.slice none 0 0,.slice none 0 0]:=by kernel_rfl
def PU:D9 prog 106=some [.int .i64 0,.int .i64 0,.bool false,.bool false]:=by kernel_rfl
def gR:D9 prog 232=some [.int .i64 0,.int .i64 0]:=by kernel_rfl
def Oa:BJ prog 158=true:=by kernel_rfl
def lQ:BJ prog 159=true:=by kernel_rfl
def T7:BJ prog 205=true:=by kernel_rfl
def gT:D9 prog 210=some [.int .i64 0,.int .i64 0]:=by kernel_rfl
def lT:BJ prog 142=true:=by kernel_rfl
def Qp:BJ prog 111=true:=by kernel_rfl
def Q9:BJ prog 70=true:=by kernel_rfl
def OD:D9 prog 117=some [.string ByteArray.empty,.int .i64 0,.int .i64 0,.int .i64 0,.slice none 0 0,.slice none 0 0,.slice none 0 0,.int .i64 0,.int .i64 0,.int .i64 0,.int .i64 0,.int .i64 0,.int .i64 0,.int .i64 0,.int .i64 0,.int .i64 0,.int .i64 0,.int .i64 0]:=by kernel_rfl
def lP:BJ prog 160=true:=by kernel_rfl
def pO:BJ prog 79=true:=by kernel_rfl
def aB:BJ prog 213=true:=by kernel_rfl
def gP:D9 prog 251=some [.int .i64 0,.int .i64 0,.int .i64 0,.int .i64 0]:=by kernel_rfl
def lO:BJ prog 161=true:=by kernel_rfl
def pN:BJ prog 80=true:=by kernel_rfl
def NJ:BJ prog 18=true:=by kernel_rfl
def OC:D9 prog 121=some [.int .i64 0,.int .i64 0,.slice none 0 0]:=by kernel_rfl
def TA:UV prog 74=some ([(0,1),(1,1),(2,1),(3,1),(4,1)],[.int .i64 0,.int .i64 0,.int .i64 0,.int .i64 0,.slice none 0 0]):=by kernel_rfl
def QG:N3 prog 70=some (74,5,56,[.int .i64 0,.int .i64 0,.int .i64 0,.int .i64 0,.slice none 0 0]):=by kernel_rfl
def pM:BJ prog 81=true:=by kernel_rfl
def Zz:BJ prog 30=true:=by kernel_rfl
def Vi:UV prog 121=some ([(0,1),(1,1),(2,1)],[.int .i64 0,.int .i64 0,.slice none 0 0]):=by kernel_rfl
def Q8:N3 prog 33=some (121,3,40,[.int .i64 0,.int .i64 0,.slice none 0 0]):=by kernel_rfl
def lN:BJ prog 162=true:=by kernel_rfl
def lM:BJ prog 163=true:=by kernel_rfl
def pL:BJ prog 82=true:=by kernel_rfl
def Z2:BJ prog 268=true:=by kernel_rfl
def kS:BJ prog 216=true:=by kernel_rfl
def gQ:D9 prog 243=some [.int .i64 0,.int .i64 0,.int .i64 0,.int .i64 0]:=by kernel_rfl
def QV:UV prog 259=some ([(0,1),(1,1),(2,1),(3,1)],[.int .i64 0,.int .i64 0,.int .i64 0,.nilFunc]):=by kernel_rfl
def kT:BJ prog 215=true:=by kernel_rfl
def Mz:N3 prog 255=some (259,4,32,[.int .i64 0,.int .i64 0,.int .i64 0,.nilFunc]):=by kernel_rfl
def lK:BJ prog 165=true:=by kernel_rfl
def Lw:prog.underlying 3=some (.int .i64):=by kernel_rfl
def Ij:prog.underlying 176=some (.int .u64):=by kernel_rfl
def Z4:BJ prog 266=true:=by kernel_rfl
def Vb:prog.underlying 5=some (.int .u8):=by kernel_rfl
def MB:prog.underlying 9=some .string:=by kernel_rfl
def jU:BJ prog 302=true:=by kernel_rfl
def jX:BJ prog 289=true:=by kernel_rfl
def Vc:prog.underlying 186=some (.int .u64):=by kernel_rfl
def Z3:BJ prog 267=true:=by kernel_rfl
def SH:BJ prog 212=true:=by kernel_rfl
def SF:BJ prog 262=true:=by kernel_rfl
def Te:D9 prog 137=some [.int .i64 0,.int .i64 0]:=by kernel_rfl
def Pi:BJ prog 232=true:=by kernel_rfl
def jS:BJ prog 304=true:=by kernel_rfl
def jT:BJ prog 303=true:=by kernel_rfl
def V6:BJ prog 288=true:=by kernel_rfl
def kG:BJ prog 264=true:=by kernel_rfl
def kH:BJ prog 263=true:=by kernel_rfl
def kV:BJ prog 210=true:=by kernel_rfl
def Z6:BJ prog 242=true:=by kernel_rfl
def fA:D9 prog 29=some [.slice none 0 0]:=by kernel_rfl
def oX:rY prog 29=true:=by kernel_rfl
def jV:BJ prog 291=true:=by kernel_rfl
def kD:BJ prog 271=true:=by kernel_rfl
def kP:BJ prog 220=true:=by kernel_rfl
def Z5:BJ prog 265=true:=by kernel_rfl
def kR:BJ prog 217=true:=by kernel_rfl
def SK:BJ prog 168=true:=by kernel_rfl
def SG:BJ prog 219=true:=by kernel_rfl
def aC:BJ prog 211=true:=by kernel_rfl
def lJ:BJ prog 166=true:=by kernel_rfl
def jN:N3 prog 304=some (255,1,24,[.slice none 0 0]):=by kernel_rfl
def rG:prog.underlying 3=some (.int .i64):=by kernel_rfl
def kU:BJ prog 214=true:=by kernel_rfl
def lL:BJ prog 164=true:=by kernel_rfl
def jW:BJ prog 290=true:=by kernel_rfl
def kE:BJ prog 270=true:=by kernel_rfl
def kF:BJ prog 269=true:=by kernel_rfl
def kQ:BJ prog 218=true:=by kernel_rfl
def gO:D9 prog 259=some [.int .i64 0,.int .i64 0,.int .i64 0,.nilFunc]:=by kernel_rfl
def V9:BJ prog 167=true:=by kernel_rfl
def lS:BJ prog 156=true:=by kernel_rfl
def pK:BJ prog 83=true:=by kernel_rfl
def YZ:D9 prog 60=some [.slice none 0 0,.slice none 0 0,.slice none 0 0,.slice none 0 0,.slice none 0 0]:=by kernel_rfl
def gB:BJ prog 21=true:=by kernel_rfl
def VI:N3 prog 80=some (36,7,152,[.int .i64 0,.slice none 0 0,.slice none 0 0,.slice none 0 0,.slice none 0 0,.slice none 0 0,.slice none 0 0]):=by kernel_rfl
def W4:BJ prog 26=true:=by kernel_rfl
def WQ:D9 prog 74=some [.int .i64 0,.int .i64 0,.int .i64 0,.int .i64 0,.slice none 0 0]:=by kernel_rfl
def pS:BJ prog 36=true:=by kernel_rfl
def lH:BJ prog 170=true:=by kernel_rfl
def kC:BJ prog 272=true:=by kernel_rfl
def OZ:BJ prog 221=true:=by kernel_rfl
def kB:BJ prog 273=true:=by kernel_rfl
def V8:BJ prog 222=true:=by kernel_rfl
def kA:BJ prog 274=true:=by kernel_rfl
def Qo:BJ prog 223=true:=by kernel_rfl
def iD:UV prog 106=some ([(0,1),(1,1),(2,1),(3,1)],[.int .i64 0,.int .i64 0,.bool false,.bool false]):=by kernel_rfl
def kN:BJ prog 224=true:=by kernel_rfl
def lI:BJ prog 169=true:=by kernel_rfl
def aD:BJ prog 187=true:=by kernel_rfl
def lU:BJ prog 109=true:=by kernel_rfl
def aF:BJ prog 110=true:=by kernel_rfl
def Ya:D9 prog 269=some [.pointer none,.slice none 0 0]:=by kernel_rfl
def OX:N3 prog 267=some (5,1,1,[.int .u8 0]):=by kernel_rfl
def jZ:BJ prog 276=true:=by kernel_rfl
def Z9:BJ prog 226=true:=by kernel_rfl
def Yp:prog.underlying 267=some (.slice 5):=by kernel_rfl
def nO:prog.underlying 5=some (.int .u8):=by kernel_rfl
def M0:BJ prog 172=true:=by kernel_rfl
def KN:BJ prog 171=true:=by kernel_rfl
def Z1:BJ prog 277=true:=by kernel_rfl
def aE:BJ prog 174=true:=by kernel_rfl
def kM:BJ prog 227=true:=by kernel_rfl
def SJ:BJ prog 173=true:=by kernel_rfl
def Zy:BJ prog 34=true:=by kernel_rfl
def fX:BJ prog 97=true:=by kernel_rfl
def fY:BJ prog 96=true:=by kernel_rfl
def SL:BJ prog 113=true:=by kernel_rfl
def pR:BJ prog 38=true:=by kernel_rfl
def G3:BJ prog 228=true:=by kernel_rfl
def JN:BJ prog 229=true:=by kernel_rfl
def gL:D9 prog 319=some [.map none]:=by kernel_rfl
def rB:D9 prog 4=some [.bool false]:=by kernel_rfl
def iA:UV prog 353=some ([(0,1),(1,1)],[.string ByteArray.empty,.string ByteArray.empty]):=by kernel_rfl
def gJ:D9 prog 353=some [.string ByteArray.empty,.string ByteArray.empty]:=by kernel_rfl
def jY:BJ prog 278=true:=by kernel_rfl
def Yo:prog.underlying 319=some (.map 353 4):=by kernel_rfl
def jH:dF prog 353=some [3,3]:=by kernel_rfl
def Wu:NO prog 353 (λk:AG=>Value.agg (AG.v k).toArray):=NO.agg (f:=AG.v) underlying353 jH (λk=>rfl) (λa b=>rfl) (λk e w=>by kernel_rfl) (λa b c=>by
 simp only[AG.v,V2,Zn,tO,Qs,uF,beq_iff_eq] at c;simp [AG.v,c]) (λa=>by simp [Instr.sameBits,AG.v,Qs.2])
def rA:∀w,(zeroValue 4).run prog w= .ok (.bool false) w:=λw=>by kernel_rfl
def kL:BJ prog 231=true:=by kernel_rfl
def Pj:BJ prog 230=true:=by kernel_rfl
def Yf:D9 prog 139=some [.string ByteArray.empty,.int .i64 0,.int .i64 0,.int .i64 0,.int .i64 0,.int .i64 0,.int .i64 0]:=by kernel_rfl
def Yd:D9 prog 215=some [.string ByteArray.empty,.int .i64 0]:=by kernel_rfl
def Yc:D9 prog 217=some [.string ByteArray.empty,.int .i64 0,.int .i64 0,.int .i64 0,.int .i64 0]:=by kernel_rfl
def Yb:D9 prog 219=some [.string ByteArray.empty,.int .i64 0,.int .i64 0,.int .i64 0,.int .i64 0,.int .i64 0,.int .i64 0]:=by kernel_rfl
def Ph:BJ prog 235=true:=by kernel_rfl
def V7:BJ prog 233=true:=by kernel_rfl
def Z8:BJ prog 234=true:=by kernel_rfl
def gN:D9 prog 290=some [.int .i64 0,.int .i64 0]:=by kernel_rfl
def Z0:BJ prog 279=true:=by kernel_rfl
def kK:BJ prog 236=true:=by kernel_rfl
def kJ:BJ prog 237=true:=by kernel_rfl
def Z7:BJ prog 238=true:=by kernel_rfl
def Qn:BJ prog 239=true:=by kernel_rfl
def jM:N3 prog 354=some (98,1,24,[.slice none 0 0]):=by kernel_rfl
def kI:BJ prog 240=true:=by kernel_rfl
def mG:qT prog 323=some ([(0,1),(1,1),(2,1)],[.int .i64 0,.int .i64 0,.int .i64 0]):=by kernel_rfl
def gK:D9 prog 323=some [.int .i64 0,.int .i64 0,.int .i64 0]:=by kernel_rfl
def mE:sA prog 323 3 1=true:=by kernel_rfl
def lG:BJ prog 175=true:=by kernel_rfl
def lF:BJ prog 176=true:=by kernel_rfl
def lE:BJ prog 177=true:=by kernel_rfl
def lD:BJ prog 178=true:=by kernel_rfl
def lC:BJ prog 179=true:=by kernel_rfl
def lB:BJ prog 180=true:=by kernel_rfl
def lA:BJ prog 181=true:=by kernel_rfl
def kZ:BJ prog 182=true:=by kernel_rfl
def kY:BJ prog 183=true:=by kernel_rfl
def fW:BJ prog 98=true:=by kernel_rfl
def Qq:BJ prog 105=true:=by kernel_rfl
def lX:BJ prog 106=true:=by kernel_rfl
def lW:BJ prog 107=true:=by kernel_rfl
def jK:dF prog 106=some [1,1,2,2]:=by kernel_rfl
def lV:BJ prog 108=true:=by kernel_rfl
def TX:BJ prog 32=true:=by kernel_rfl
def VP:BJ prog 27=true:=by kernel_rfl
def SI:BJ prog 184=true:=by kernel_rfl
def fV:BJ prog 99=true:=by kernel_rfl
def lZ:BJ prog 100=true:=by kernel_rfl
def VY:D9 prog 178=some [.int .i64 0,.int .u64 0]:=by kernel_rfl
def gW:∀x y c:Int,IntKind.has .u64 x→IntKind.has .u64 y→(0≤c∧c≤1)→∀w,(callFunc 112 #[.int .u64 x,.int .u64 y,.int .u64 c]).run prog w= .ok (.value (.tuple #[.int .u64 (K1 x y c).1,.int .u64 (K1 x y c).2])) w:=Ub func112 (by kernel_rfl) (by kernel_rfl) (by kernel_rfl) (by kernel_rfl)
def Vh:UV prog 178=some ([(0,1),(1,1)],[.int .i64 0,.int .u64 0]):=by kernel_rfl
def Y0:UV prog 175=some ([(0,1),(1,1),(2,1)],[.int .i64 0,.int .i64 0,.int .i64 0]):=by kernel_rfl
def Ye:D9 prog 175=some [.int .i64 0,.int .i64 0,.int .i64 0]:=by kernel_rfl
def Rm:prog.underlying 170=some (.map 175 178):=by kernel_rfl
def jJ:dF prog 175=some [1,1,1]:=by kernel_rfl
def Rc:NO prog 175 (λk:AC=>Value.agg (AC.v k).toArray):=NO.agg (f:=AC.v) underlying175 jJ (λk=>rfl) (λa b=>rfl) (λk e w=>by kernel_rfl) (λa b c=>by
 simp only[AC.v,V2,Zn,tO,Qs,uF,beq_iff_eq] at c;simp [AC.v,c]) (λa=>by simp [Instr.sameBits,AC.v,Qs.2])
def YY:∀w,(zeroValue 178).run prog w= .ok ((λk:AI=>Value.agg #[.int .i64 (BD k.hi),.int .u64 (IntKind.wrap .u64 k.lo)]) (⟨0,0⟩:AI)) w:=λw=>by kernel_rfl
def kX:BJ prog 185=true:=by kernel_rfl
def ZM:∀x:AI,AI.ok x→(λk:AI=>Value.agg #[.int .i64 (BD k.hi),.int .u64 (IntKind.wrap .u64 k.lo)]) x=Value.agg (AI.v x).toArray:=λx b=>by obtain⟨h0,a⟩:=b;simp only[QS h0,bY a]
def SO:BJ prog 102=true:=by kernel_rfl
def aG:BJ prog 101=true:=by kernel_rfl
def gV:∀x y c:Int,IntKind.has .u64 x→IntKind.has .u64 y→(0≤c∧c≤1)→∀w,(callFunc 241 #[.int .u64 x,.int .u64 y,.int .u64 c]).run prog w= .ok (.value (.tuple #[.int .u64 (K0 x y c).1,.int .u64 (K0 x y c).2])) w:=Ua func241 (by kernel_rfl) (by kernel_rfl) (by kernel_rfl) (by kernel_rfl)
def kW:BJ prog 186=true:=by kernel_rfl
def Pm:BJ prog 103=true:=by kernel_rfl
def lY:BJ prog 104=true:=by kernel_rfl
def jI:dF prog 178=some [1,1]:=by kernel_rfl
def fZ:BJ prog 28=true:=by kernel_rfl
def pW:BJ prog 24=true:=by kernel_rfl
def pT:BJ prog 33=true:=by kernel_rfl
def pV:BJ prog 25=true:=by kernel_rfl
def pU:BJ prog 31=true:=by kernel_rfl
def Rl:prog.underlying 266=some (.pointer 269):=by kernel_rfl
def Yk:prog.underlying 348=some .unsafePointer:=by kernel_rfl
def SA:(prog.info? 269).map (·.size)=some 2:=by kernel_rfl
def jA:liesAt prog prog.depth 269 (2/prog.cellsOf 269) 0 269 1=true:=by kernel_rfl
def hO:prog.underlying 318=some (.pointer 5):=by kernel_rfl
def rZ:prog.cellsOf 5=1:=by kernel_rfl
def aA:BJ prog 225=true:=by kernel_rfl
def iB:UV prog 315=some ([(0,1),(1,1)],[.string ByteArray.empty,.bool false]):=by kernel_rfl
instance fa_31_3:GX Tryz.prog 31 3 3:=⟨by kernel_rfl⟩
instance fa_31_4:GX Tryz.prog 31 4 4:=⟨by kernel_rfl⟩
instance fa_31_1:GX Tryz.prog 31 1 1:=⟨by kernel_rfl⟩
instance fa_36_1:GX Tryz.prog 36 1 1:=⟨by kernel_rfl⟩
instance fa_101_5:GX Tryz.prog 101 5 5:=⟨by kernel_rfl⟩
instance fa_36_2:GX Tryz.prog 36 2 2:=⟨by kernel_rfl⟩
instance fa_36_4:GX Tryz.prog 36 4 4:=⟨by kernel_rfl⟩
instance fa_36_5:GX Tryz.prog 36 5 5:=⟨by kernel_rfl⟩
instance fa_36_6:GX Tryz.prog 36 6 6:=⟨by kernel_rfl⟩
instance fa_160_1:GX Tryz.prog 160 1 11:=⟨by kernel_rfl⟩
instance fa_60_1:GX Tryz.prog 60 1 1:=⟨by kernel_rfl⟩
instance fa_106_2:GX Tryz.prog 106 2 2:=⟨by kernel_rfl⟩
instance fa_117_1:GX Tryz.prog 117 1 1:=⟨by kernel_rfl⟩
instance fa_106_3:GX Tryz.prog 106 3 3:=⟨by kernel_rfl⟩
instance fa_232_1:GX Tryz.prog 232 1 1:=⟨by kernel_rfl⟩
instance fa_160_0:GX Tryz.prog 160 0 0:=⟨by kernel_rfl⟩
instance fa_160_2:GX Tryz.prog 160 2 16:=⟨by kernel_rfl⟩
instance fa_232_0:GX Tryz.prog 232 0 0:=⟨by kernel_rfl⟩
instance fa_60_2:GX Tryz.prog 60 2 2:=⟨by kernel_rfl⟩
instance fa_117_6:GX Tryz.prog 117 6 7:=⟨by kernel_rfl⟩
instance fa_106_1:GX Tryz.prog 106 1 1:=⟨by kernel_rfl⟩
instance fa_210_0:GX Tryz.prog 210 0 0:=⟨by kernel_rfl⟩
instance fa_210_1:GX Tryz.prog 210 1 1:=⟨by kernel_rfl⟩
instance fa_106_0:GX Tryz.prog 106 0 0:=⟨by kernel_rfl⟩
instance fa_117_7:GX Tryz.prog 117 7 8:=⟨by kernel_rfl⟩
instance fa_60_4:GX Tryz.prog 60 4 4:=⟨by kernel_rfl⟩
instance fa_251_0:GX Tryz.prog 251 0 0:=⟨by kernel_rfl⟩
instance fa_251_1:GX Tryz.prog 251 1 1:=⟨by kernel_rfl⟩
instance fa_251_2:GX Tryz.prog 251 2 2:=⟨by kernel_rfl⟩
instance fa_251_3:GX Tryz.prog 251 3 3:=⟨by kernel_rfl⟩
instance fa_36_3:GX Tryz.prog 36 3 3:=⟨by kernel_rfl⟩
instance fa_121_2:GX Tryz.prog 121 2 2:=⟨by kernel_rfl⟩
instance fa_60_0:GX Tryz.prog 60 0 0:=⟨by kernel_rfl⟩
instance fa_160_3:GX Tryz.prog 160 3 23:=⟨by kernel_rfl⟩
instance fa_36_0:GX Tryz.prog 36 0 0:=⟨by kernel_rfl⟩
instance fa_121_0:GX Tryz.prog 121 0 0:=⟨by kernel_rfl⟩
instance fa_121_1:GX Tryz.prog 121 1 1:=⟨by kernel_rfl⟩
instance fa_160_4:GX Tryz.prog 160 4 24:=⟨by kernel_rfl⟩
instance fa_117_12:GX Tryz.prog 117 12 13:=⟨by kernel_rfl⟩
instance fa_117_13:GX Tryz.prog 117 13 14:=⟨by kernel_rfl⟩
instance fa_117_2:GX Tryz.prog 117 2 2:=⟨by kernel_rfl⟩
instance fa_60_3:GX Tryz.prog 60 3 3:=⟨by kernel_rfl⟩
instance fa_243_1:GX Tryz.prog 243 1 1:=⟨by kernel_rfl⟩
instance fa_243_2:GX Tryz.prog 243 2 2:=⟨by kernel_rfl⟩
instance fa_243_0:GX Tryz.prog 243 0 0:=⟨by kernel_rfl⟩
instance fa_243_3:GX Tryz.prog 243 3 3:=⟨by kernel_rfl⟩
instance fa_101_2:GX Tryz.prog 101 2 2:=⟨by kernel_rfl⟩
instance fa_117_3:GX Tryz.prog 117 3 3:=⟨by kernel_rfl⟩
instance fa_117_14:GX Tryz.prog 117 14 15:=⟨by kernel_rfl⟩
instance fa_117_15:GX Tryz.prog 117 15 16:=⟨by kernel_rfl⟩
instance fa_137_0:GX Tryz.prog 137 0 0:=⟨by kernel_rfl⟩
instance fa_137_1:GX Tryz.prog 137 1 1:=⟨by kernel_rfl⟩
instance fa_117_8:GX Tryz.prog 117 8 9:=⟨by kernel_rfl⟩
instance fa_117_10:GX Tryz.prog 117 10 11:=⟨by kernel_rfl⟩
instance fa_117_11:GX Tryz.prog 117 11 12:=⟨by kernel_rfl⟩
instance fa_117_9:GX Tryz.prog 117 9 10:=⟨by kernel_rfl⟩
instance fa_117_4:GX Tryz.prog 117 4 4:=⟨by kernel_rfl⟩
instance fa_117_16:GX Tryz.prog 117 16 17:=⟨by kernel_rfl⟩
instance fa_259_3:GX Tryz.prog 259 3 3:=⟨by kernel_rfl⟩
instance fa_259_0:GX Tryz.prog 259 0 0:=⟨by kernel_rfl⟩
instance fa_259_2:GX Tryz.prog 259 2 2:=⟨by kernel_rfl⟩
instance fa_160_5:GX Tryz.prog 160 5 25:=⟨by kernel_rfl⟩
instance fa_259_1:GX Tryz.prog 259 1 1:=⟨by kernel_rfl⟩
instance fa_101_7:GX Tryz.prog 101 7 7:=⟨by kernel_rfl⟩
instance fa_101_6:GX Tryz.prog 101 6 6:=⟨by kernel_rfl⟩
instance fa_101_8:GX Tryz.prog 101 8 8:=⟨by kernel_rfl⟩
instance fa_101_9:GX Tryz.prog 101 9 9:=⟨by kernel_rfl⟩
instance fa_101_3:GX Tryz.prog 101 3 3:=⟨by kernel_rfl⟩
instance fa_74_1:GX Tryz.prog 74 1 1:=⟨by kernel_rfl⟩
instance fa_74_0:GX Tryz.prog 74 0 0:=⟨by kernel_rfl⟩
instance fa_74_4:GX Tryz.prog 74 4 4:=⟨by kernel_rfl⟩
instance fa_315_1:GX Tryz.prog 315 1 1:=⟨by kernel_rfl⟩
instance fa_315_0:GX Tryz.prog 315 0 0:=⟨by kernel_rfl⟩
instance fa_74_2:GX Tryz.prog 74 2 2:=⟨by kernel_rfl⟩
instance fa_74_3:GX Tryz.prog 74 3 3:=⟨by kernel_rfl⟩
instance fa_31_0:GX Tryz.prog 31 0 0:=⟨by kernel_rfl⟩
instance fa_31_2:GX Tryz.prog 31 2 2:=⟨by kernel_rfl⟩
instance fa_31_5:GX Tryz.prog 31 5 5:=⟨by kernel_rfl⟩
instance fa_31_6:GX Tryz.prog 31 6 6:=⟨by kernel_rfl⟩
instance fa_31_7:GX Tryz.prog 31 7 7:=⟨by kernel_rfl⟩
instance fa_31_8:GX Tryz.prog 31 8 8:=⟨by kernel_rfl⟩
instance fa_31_9:GX Tryz.prog 31 9 9:=⟨by kernel_rfl⟩
instance fa_31_10:GX Tryz.prog 31 10 10:=⟨by kernel_rfl⟩
instance fa_101_0:GX Tryz.prog 101 0 0:=⟨by kernel_rfl⟩
instance fa_117_0:GX Tryz.prog 117 0 0:=⟨by kernel_rfl⟩
instance fa_139_0:GX Tryz.prog 139 0 0:=⟨by kernel_rfl⟩
instance fa_215_0:GX Tryz.prog 215 0 0:=⟨by kernel_rfl⟩
instance fa_217_0:GX Tryz.prog 217 0 0:=⟨by kernel_rfl⟩
instance fa_219_0:GX Tryz.prog 219 0 0:=⟨by kernel_rfl⟩
instance fa_101_1:GX Tryz.prog 101 1 1:=⟨by kernel_rfl⟩
instance fa_101_10:GX Tryz.prog 101 10 10:=⟨by kernel_rfl⟩
instance fa_101_4:GX Tryz.prog 101 4 4:=⟨by kernel_rfl⟩
instance fa_101_11:GX Tryz.prog 101 11 11:=⟨by kernel_rfl⟩
instance fa_290_0:GX Tryz.prog 290 0 0:=⟨by kernel_rfl⟩
instance fa_290_1:GX Tryz.prog 290 1 1:=⟨by kernel_rfl⟩
instance fa_117_5:GX Tryz.prog 117 5 5:=⟨by kernel_rfl⟩
instance fa_115_0:GX Tryz.prog 115 0 0:=⟨by kernel_rfl⟩
instance fa_115_1:GX Tryz.prog 115 1 1:=⟨by kernel_rfl⟩
instance fa_139_1:GX Tryz.prog 139 1 1:=⟨by kernel_rfl⟩
instance fa_139_2:GX Tryz.prog 139 2 2:=⟨by kernel_rfl⟩
instance fa_139_3:GX Tryz.prog 139 3 3:=⟨by kernel_rfl⟩
instance fa_139_4:GX Tryz.prog 139 4 4:=⟨by kernel_rfl⟩
instance fa_139_5:GX Tryz.prog 139 5 5:=⟨by kernel_rfl⟩
instance fa_139_6:GX Tryz.prog 139 6 6:=⟨by kernel_rfl⟩
instance fa_215_1:GX Tryz.prog 215 1 1:=⟨by kernel_rfl⟩
instance fa_217_1:GX Tryz.prog 217 1 1:=⟨by kernel_rfl⟩
instance fa_217_3:GX Tryz.prog 217 3 3:=⟨by kernel_rfl⟩
instance fa_217_4:GX Tryz.prog 217 4 4:=⟨by kernel_rfl⟩
instance fa_217_2:GX Tryz.prog 217 2 2:=⟨by kernel_rfl⟩
instance fa_219_1:GX Tryz.prog 219 1 1:=⟨by kernel_rfl⟩
instance fa_219_2:GX Tryz.prog 219 2 2:=⟨by kernel_rfl⟩
instance fa_219_3:GX Tryz.prog 219 3 3:=⟨by kernel_rfl⟩
instance fa_219_4:GX Tryz.prog 219 4 4:=⟨by kernel_rfl⟩
instance fa_219_6:GX Tryz.prog 219 6 6:=⟨by kernel_rfl⟩
instance fa_219_5:GX Tryz.prog 219 5 5:=⟨by kernel_rfl⟩
instance fa_178_1:GX Tryz.prog 178 1 1:=⟨by kernel_rfl⟩
instance fa_178_0:GX Tryz.prog 178 0 0:=⟨by kernel_rfl⟩
instance fa_269_0:GX Tryz.prog 269 0 0:=⟨by kernel_rfl⟩
instance fa_269_1:GX Tryz.prog 269 1 1:=⟨by kernel_rfl⟩
instance sl_23:RA Tryz.prog 23 101 12:=⟨by kernel_rfl⟩
instance sl_24:RA Tryz.prog 24 117 18:=⟨by kernel_rfl⟩
instance sl_22:RA Tryz.prog 22 9 1:=⟨by kernel_rfl⟩
instance sl_32:RA Tryz.prog 32 29 1:=⟨by kernel_rfl⟩
instance sl_78:RA Tryz.prog 78 60 5:=⟨by kernel_rfl⟩
instance sl_55:RA Tryz.prog 55 232 2:=⟨by kernel_rfl⟩
instance sl_34:RA Tryz.prog 34 106 4:=⟨by kernel_rfl⟩
instance sl_56:RA Tryz.prog 56 210 2:=⟨by kernel_rfl⟩
instance sl_58:RA Tryz.prog 58 251 4:=⟨by kernel_rfl⟩
instance sl_29:RA Tryz.prog 29 3 1:=⟨by kernel_rfl⟩
instance sl_33:RA Tryz.prog 33 121 3:=⟨by kernel_rfl⟩
instance sl_57:RA Tryz.prog 57 243 4:=⟨by kernel_rfl⟩
instance sl_98:RA Tryz.prog 98 137 2:=⟨by kernel_rfl⟩
instance sl_304:RA Tryz.prog 304 255 1:=⟨by kernel_rfl⟩
instance sl_255:RA Tryz.prog 255 259 4:=⟨by kernel_rfl⟩
instance sl_70:RA Tryz.prog 70 74 5:=⟨by kernel_rfl⟩
instance sl_267:RA Tryz.prog 267 5 1:=⟨by kernel_rfl⟩
instance sl_25:RA Tryz.prog 25 139 7:=⟨by kernel_rfl⟩
instance sl_26:RA Tryz.prog 26 217 5:=⟨by kernel_rfl⟩
instance sl_27:RA Tryz.prog 27 219 7:=⟨by kernel_rfl⟩
instance sl_28:RA Tryz.prog 28 215 2:=⟨by kernel_rfl⟩
instance sl_99:RA Tryz.prog 99 290 2:=⟨by kernel_rfl⟩
instance sl_354:RA Tryz.prog 354 98 1:=⟨by kernel_rfl⟩
instance sl_80:RA Tryz.prog 80 36 7:=⟨by kernel_rfl⟩
instance ty_101:QI Tryz.prog 101 12:=⟨by kernel_rfl⟩
instance ty_31:QI Tryz.prog 31 11:=⟨by kernel_rfl⟩
instance ty_23:Fc (Jd Tryz.prog 23 1 false=true):=⟨by kernel_rfl⟩
instance ty_24:Fc (Jd Tryz.prog 24 1 false=true):=⟨by kernel_rfl⟩
instance ty_22:Fc (Jd Tryz.prog 22 1 false=true):=⟨by kernel_rfl⟩
instance ty_36:QI Tryz.prog 36 7:=⟨by kernel_rfl⟩
instance ty_32:Fc (Jd Tryz.prog 32 1 false=true):=⟨by kernel_rfl⟩
instance ty_29:Fc (Jd Tryz.prog 29 1 false=true):=⟨by kernel_rfl⟩
instance ty_34:Fc (Jd Tryz.prog 34 1 false=true):=⟨by kernel_rfl⟩
instance ty_60:QI Tryz.prog 60 5:=⟨by kernel_rfl⟩
instance ty_160:QI Tryz.prog 160 26:=⟨by kernel_rfl⟩
instance ty_55:Fc (Jd Tryz.prog 55 1 false=true):=⟨by kernel_rfl⟩
instance ty_4:Fc (Jd Tryz.prog 4 1 false=true):=⟨by kernel_rfl⟩
instance ty_3:Fc (Jd Tryz.prog 3 1 false=true):=⟨by kernel_rfl⟩
instance ty_106:QI Tryz.prog 106 4:=⟨by kernel_rfl⟩
instance ty_232:QI Tryz.prog 232 2:=⟨by kernel_rfl⟩
instance ty_117:QI Tryz.prog 117 18:=⟨by kernel_rfl⟩
instance ty_56:Fc (Jd Tryz.prog 56 1 false=true):=⟨by kernel_rfl⟩
instance ty_210:QI Tryz.prog 210 2:=⟨by kernel_rfl⟩
instance ty_58:Fc (Jd Tryz.prog 58 1 false=true):=⟨by kernel_rfl⟩
instance ty_251:QI Tryz.prog 251 4:=⟨by kernel_rfl⟩
instance ty_33:Fc (Jd Tryz.prog 33 1 false=true):=⟨by kernel_rfl⟩
instance ty_121:QI Tryz.prog 121 3:=⟨by kernel_rfl⟩
instance ty_70:Fc (Jd Tryz.prog 70 1 false=true):=⟨by kernel_rfl⟩
instance ty_57:Fc (Jd Tryz.prog 57 1 false=true):=⟨by kernel_rfl⟩
instance ty_243:QI Tryz.prog 243 4:=⟨by kernel_rfl⟩
instance ty_137:QI Tryz.prog 137 2:=⟨by kernel_rfl⟩
instance ty_98:Fc (Jd Tryz.prog 98 1 false=true):=⟨by kernel_rfl⟩
instance ty_255:Fc (Jd Tryz.prog 255 1 false=true):=⟨by kernel_rfl⟩
instance ty_257:Fc (Jd Tryz.prog 257 1 false=true):=⟨by kernel_rfl⟩
instance ty_259:QI Tryz.prog 259 4:=⟨by kernel_rfl⟩
instance ty_74:QI Tryz.prog 74 5:=⟨by kernel_rfl⟩
instance ty_9:Fc (Jd Tryz.prog 9 1 false=true):=⟨by kernel_rfl⟩
instance ty_5:Fc (Jd Tryz.prog 5 1 false=true):=⟨by kernel_rfl⟩
instance ty_25:Fc (Jd Tryz.prog 25 1 false=true):=⟨by kernel_rfl⟩
instance ty_26:Fc (Jd Tryz.prog 26 1 false=true):=⟨by kernel_rfl⟩
instance ty_27:Fc (Jd Tryz.prog 27 1 false=true):=⟨by kernel_rfl⟩
instance ty_28:Fc (Jd Tryz.prog 28 1 false=true):=⟨by kernel_rfl⟩
instance ty_319:Fc (Jd Tryz.prog 319 1 false=true):=⟨by kernel_rfl⟩
instance ty_353:QI Tryz.prog 353 2:=⟨by kernel_rfl⟩
instance ty_139:QI Tryz.prog 139 7:=⟨by kernel_rfl⟩
instance ty_215:QI Tryz.prog 215 2:=⟨by kernel_rfl⟩
instance ty_217:QI Tryz.prog 217 5:=⟨by kernel_rfl⟩
instance ty_219:QI Tryz.prog 219 7:=⟨by kernel_rfl⟩
instance ty_99:Fc (Jd Tryz.prog 99 1 false=true):=⟨by kernel_rfl⟩
instance ty_290:QI Tryz.prog 290 2:=⟨by kernel_rfl⟩
instance ty_323:QI Tryz.prog 323 3:=⟨by kernel_rfl⟩
instance ty_176:Fc (Jd Tryz.prog 176 1 false=true):=⟨by kernel_rfl⟩
instance ty_178:QI Tryz.prog 178 2:=⟨by kernel_rfl⟩
instance ty_175:QI Tryz.prog 175 3:=⟨by kernel_rfl⟩
instance ty_266:Fc (Jd Tryz.prog 266 1 false=true):=⟨by kernel_rfl⟩
instance ty_267:Fc (Jd Tryz.prog 267 1 false=true):=⟨by kernel_rfl⟩
instance:KW B3 0 AB (·.P):=⟨WI⟩
instance:KW B3 1 AB (·.X):=⟨Sd⟩
instance:KW B9 2 AB (·.An):=⟨Nx⟩
instance:KW B9 6 AB (·.Y):=⟨EW.f_Num⟩
instance:KW B9 7 AB (·.S):=⟨EW.f_Den⟩
instance:KW Lp 0 (A7.sl B3) (·.Ay):=⟨Ps⟩
instance:KW Lp 1 (A7.sl B3) (·.Az):=⟨Pu⟩
instance:KW BZ 1 AB (·.F):=⟨BM.f_Kind⟩
instance:KW BZ 3 AB (·.C):=⟨BM.f_To⟩
instance:KW BZ 4 (A7.sl B3) (·.Av):=⟨Kv⟩
instance:KW BZ 5 Lp (·.Af):=⟨Kw⟩
instance:KW BZ 7 AB (·.U):=⟨Fe⟩
instance:KW BZ 8 AB (·.Ac):=⟨J7⟩
instance:KW BZ 9 AB (·.Bb):=⟨Np⟩
instance:KW BZ 10 AB (·.Bc):=⟨M3⟩
instance:KW BZ 11 AB (·.Y):=⟨BM.f_Num⟩
instance:KW BZ 12 AB (·.S):=⟨BM.f_Den⟩
instance:KW BZ 13 AB (·.Aw):=⟨PP⟩
instance:KW BZ 14 AB (·.Ax):=⟨PQ⟩
instance:KW BZ 15 AB (·.Ar):=⟨JI⟩
instance:KW BZ 16 AB (·.Al):=⟨JJ⟩
instance:KW BO 0 A7.str (·.I):=⟨AF.f_Name⟩
instance:KW BO 1 (A7.sl A7.str) (·.H):=⟨HW⟩
instance:KW BO 2 AB (·.O):=⟨Mf⟩
instance:KW BO 3 (A7.sl B9) (·.A):=⟨B4⟩
instance:KW BO 4 (A7.sl BZ) (·.E):=⟨Gh⟩
instance:KW BO 5 (A7.sl HL) (·.Ab):=⟨Jc⟩
instance:KW BO 6 (A7.sl Eu) (·.Ad):=⟨KF⟩
instance:KW BO 7 (A7.sl Gr) (·.Ae):=⟨Kx⟩
instance:KW BO 8 (A7.sl DB) (·.Ag):=⟨JR⟩
instance:KW BO 9 (A7.sl AB) (·.Ak):=⟨AF.f_Room⟩
instance:KW BO 10 AB (·.R):=⟨AF.f_Err⟩
instance:KW A3 0 AB (·.Am):=⟨WK⟩
instance:KW A3 1 AB (·.C):=⟨AV.f_To⟩
instance:KW A3 2 (A7.sl AB) (·.T):=⟨AV.f_Part⟩
instance:KW BL 0 AB (·.V):=⟨RC⟩
instance:KW BL 3 A7.bool (·.Ai):=⟨US⟩
instance:KW AM 0 AB (·.B):=⟨AE.f_Hour⟩
instance:KW AM 1 (A7.sl (A7.sl AB)) (·.D):=⟨F5⟩
instance:KW AM 2 (A7.sl AB) (·.L):=⟨Jo⟩
instance:KW AM 3 (A7.sl A3) (·.G):=⟨Gg⟩
instance:KW AM 4 (A7.sl BL) (·.M):=⟨Iz⟩
instance:KW AM 5 (A7.sl AB) (·.N):=⟨I2⟩
instance:KW AM 6 (A7.sl AB) (·.K):=⟨HB⟩
instance:KW Ge 1 AB (·.Bg):=⟨PO⟩
instance:KW Ge 2 AB (·.Bd):=⟨Hb.f_Litres⟩
instance:KW BB 0 AB (·.B):=⟨AK.f_Hour⟩
instance:KW BB 1 AB (·.J):=⟨AK.f_From⟩
instance:KW BB 2 AB (·.C):=⟨AK.f_To⟩
instance:KW BB 3 AB (·.Ba):=⟨VS⟩
instance:KW BB 4 (A7.sl AB) (·.T):=⟨AK.f_Part⟩
instance:KW A6 0 AB (·.to_):=⟨LC⟩
instance:KW A6 1 AB (·.delay):=⟨Md⟩
instance:KW A6 2 AB (·.way):=⟨NP⟩
instance:KW A6 3 (A7.fnr Tryz.prog (λS h vs (x:(List Int))=>∃w0:Value,vs=[w0]∧Sl S h AB w0 x) (λS h v (y:((List Int)×(List Int)))=>∃w0 w1:Value,v= .tuple #[w0,w1]∧Sl S h AB w0 y.1∧Sl S h AB w1 y.2)) (·.take):=⟨Mv⟩
instance:KW E9 0 A7.str (·.rest_):=⟨Lh⟩
instance:KW E9 1 A7.bool (·.bad):=⟨Mc⟩
instance:KW HU 0 AB (·.hi):=⟨Sc⟩
instance:KW HU 1 (A7.intk .u64) (·.lo):=⟨Me⟩
end Go.Proofs.YtedgiljmffngoaaGreat
