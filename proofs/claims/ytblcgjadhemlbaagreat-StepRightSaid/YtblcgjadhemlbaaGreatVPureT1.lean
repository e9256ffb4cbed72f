import Derived.Test.YtblcgjadhemlbaaGreatVPureE1
import Derived.Test.YtblcgjadhemlbaaGreatVPureEx
namespace Go.Proofs.YtblcgjadhemlbaaGreat
set_option linter.all false
open Go.RowKit
def Nr (b:AU) (p:Nat) (a:Int):Int:=if 0≤a∧a<b.E.length then (VD b a.toNat).K else if a= -3 then 0 else (b.A.getD p default).K
structure eF (b:AU) (W p:Nat) (e:AK):Prop where
 tk:∀x,PX W x→∃t,e.take x=some (t,IB x t)∧T6 t x
 way:e.way≠ -4
 to:e.to_= -1∨(0≤e.to_∧e.to_<b.A.length)
 dl:e.delay=Nr b p e.way
structure kE (b:AU) (H:Int) (W p:Nat) (m:BA):Prop where
 hour:m.B=H
 fr:m.I=(p:Int)
 way:m.Bf≠ -4
 to:m.D= -1∨(0≤m.D∧m.D<b.A.length)
 px:PX W m.X
 pos:0<m.X.sum
def Ku (b:AU) (H:Int) (m:BA):Option BE:=if m.D<0 then none else some ⟨B0 (B0 (H+1)+Nr b m.I.toNat m.Bf),m.D,m.X⟩
def Qr (N:Nat) (out:List Int) (a:List BA):List Int:=a.foldl (λo m=>if m.D<0 then (Gk N o m.X).getD [] else o) out
def No (o:List (List Int)) (a:List BA):List (List Int):=a.foldl (λo m=>upd o m.I (IB (o.getD m.I.toNat []) m.X)) o
def OZ:List BA→List (List Int)→Prop
 |[],_=>True
 |m::a,o=>(∃x,o[m.I.toNat]? =some x∧T6 m.X x)∧OZ a (upd o m.I (IB (o.getD m.I.toNat []) m.X))
def KE (a:List BA):Int:=(a.map λm=>m.X.sum).sum
def OZ.app:∀{l1 a:List BA}{o:List (List Int)},OZ l1 o→OZ a (No o l1)→OZ (l1++a) o
 |[],_,_,_,d=>d
 |m::l1,a,o,b,c=>⟨b.1,OZ.app (l1:=l1) b.2 c⟩
structure Sk (b:AU) (H:Int) (N W p:Nat) (o:List (List Int)) (out:List Int) (ms:List BA) (sn:List BE) (o':List (List Int)) (out':List Int) (ms':List BA) (sn':List BE) (l:List BA):Prop where
 mv:∀m∈l,kE b H W p m
 ms_:ms'=ms++l
 own:o'=No o l
 out_:out'=Qr N out l
 sn_:sn'=sn++l.filterMap (Ku b H)
 val:OZ l o
 ox:IG b.A.length W o'
 ol:out'.length=W
 tot:EO o'+KE l=EO o
def Sk.nil {b:AU}{H:Int}{N W p:Nat}{o:List (List Int)}{out:List Int}{a:List BA}{c:List BE}(d:IG b.A.length W o) (g:out.length=W):Sk b H N W p o out a c o out a c []:=
 ⟨λm i=>(by cases i),by simp,rfl,rfl,by simp,trivial,d,g,by simp [KE]⟩
def Tc (a b:List BA):KE (a++b)=KE a+KE b:=by unfold KE;rw[qQ,pK]
def Sk.trans {b:AU}{H:Int}{N W p:Nat}{o q i:List (List Int)}{out c a:List Int}{s j d:List BA}{t n g:List BE}{l u:List BA}(w:Sk b H N W p o out s t q c j n l) (k:Sk b H N W p q c j n i a d g u):Sk b H N W p o out s t i a d g (l++u):=
 ⟨λm v=>(oQ.1 v).elim (w.mv m) (k.mv m),by rw[k.ms_,w.ms_,rA],by rw[k.own,w.own];unfold No;rw[qT],by rw[k.out_,w.out_];unfold Qr;rw[qT],by rw[k.sn_,w.sn_,List.filterMap_append,rA],w.val.app (by rw[←w.own];exact k.val),k.ox,k.ol,by rw[Tc];have:=w.tot;have:=k.tot;omega⟩
def Y1 {N:Nat}(w:1000000<N) (t:Int) {to:Int}(h0:0≤to) {p:List Int}(y:p.length≤1000) (l:∀x∈p,0≤x) (z:0<p.sum):Jx N t to p=some [⟨t,to,p⟩]:=by
 obtain⟨i,c,a⟩:∃(i:Nat) (A:i<p.length),0<p[i]:=by
  apply pY
  intro d
  have:p.sum≤p.length*0:=Jf λx m=>by
   obtain⟨i,c,rfl⟩:=qE.1 m
   have:=d
   apply pY
   intro A
   exact d ⟨i,c,by omega⟩
  omega
 have o:∃j:Int,0≤j∧Ey N p (λx=>Hh N x)=some j:=by
  unfold Ey
  have:∀(n k:Nat),p.length<n+k→k≤i→∃j:Int,0≤j∧DB N p (λx=>Hh N x) (EJ N) n (k:Int)=some j:=by
   intro n
   induction n with
   |zero=>intro k q s;omega
   |succ n u=>
    intro k q s
    have g:k<p.length:=by omega
    simp only[DB,Hh]
    rw[Ev g,mW,BS g,BX (by omega),mV,mV]
    by_cases A:0<p[k]
    ·rw[nW A];exact⟨(k:Int),by omega,rfl⟩
    ·rw[nL A,mX]
     have:k≠i:=λe=>by subst e;exact A a
     exact u (k+1) (by omega) (by omega)
  exact this N 0 (by omega) (nE _)
 obtain⟨j,b,v⟩:=o
 unfold Jx FZ
 rw[v,nL (show ¬to<0 by omega),mX,mV,mV,nW b,oF,mV,mX,KH N (by omega),mV,KC (by simp)]
 rfl
def TM {α}{l:List α}{k:Nat}{x:α}(a:l[k]? =some x):upd l (k:Int) x=l:=by
 apply oR
 intro i
 by_cases e:k=i
 ·subst e;rw[GO (nK.1 a).1,a]
 ·rw[IC e]
def R7 {N:Nat}(I:1000000<N) {w:A4}{b:AU}{H:Int}{W:Nat}(V:w.s.B=H) (X:W≤1000) (C:IG b.A.length W w.s.G) {p:Nat}(Y:p<b.A.length) {e:AK}(o:eF b W p e) (d:w.s.P.length=W) (D:w.moves.length≤1000000) (hs:w.sent.length≤1000000):
  ∃r l x t,Gi N w (p:Int) e=some r∧w.s.G[p]? =some x∧e.take x=some (t,IB x t)∧T6 t x∧r.1=upd w.s.G (p:Int) (IB x t)∧Sk b H N W p w.s.G w.s.P w.moves w.sent r.1 r.2.1 r.2.2.1 r.2.2.2 l∧l=if t.sum≤0 then [] else [⟨H,(p:Int),e.to_,e.way,t⟩]:=by
 obtain⟨x,Z,c,n⟩:=C.ix Y
 obtain⟨t,F,u⟩:=o.tk x n
 obtain⟨Q,s2,i⟩:=u.sub n
 have J:w.s.G.getD p []=x:=by simp [oT,c]
 have v:EO (upd w.s.G (p:Int) (IB x t))=EO w.s.G-t.sum:=by rw[OE c,s2];omega
 unfold Gi
 rw[Z,mV,mV,F,mV,mV,mV,i.total I X,mV]
 by_cases h0:t.sum≤0
 ·rw[nW h0,mW]
  have hz:IB x t=x:=Vt n.len i.len (Su i.nn h0)
  refine⟨_,[],x,t,rfl,c,F,u,rfl,?_,by rw[nD h0]⟩
  show Sk b H N W p w.s.G w.s.P w.moves w.sent (upd w.s.G (p:Int) (IB x t)) w.s.P w.moves w.sent []
  rw[hz,TM c]
  exact Sk.nil C d
 ·have y:kE b H W p ⟨H,(p:Int),e.to_,e.way,t⟩:=⟨rfl,rfl,o.way,o.to,i,by show 0<t.sum;omega⟩
  have j:OZ [(⟨H,(p:Int),e.to_,e.way,t⟩:BA)] w.s.G:=⟨⟨x,by show w.s.G[((p:Int)).toNat]? =_;rw[oW];exact c,u⟩,trivial⟩
  have k:upd w.s.G (p:Int) (IB x t)=No w.s.G [(⟨H,(p:Int),e.to_,e.way,t⟩:BA)]:=by
   show _=upd w.s.G (p:Int) (IB (w.s.G.getD ((p:Int)).toNat []) t)
   rw[oW,J]
  rw[nL h0,mX,KC (by simp;omega),V]
  by_cases g:e.to_= -1
  ·obtain⟨a,U,K⟩:=XI I (p:=w.s.P) (q:=t) (by omega) (by rw[i.len];omega)
   rw[nW g,mW,U,mV]
   refine⟨_,[⟨H,(p:Int),e.to_,e.way,t⟩],x,t,rfl,c,F,u,rfl,⟨λm D=>by rw[pJ.1 D];exact y,rfl,k,?_,?_,j,C.upd _ Q,?_,?_⟩,by rw[nB h0]⟩
   ·show a=if e.to_<0 then (Gk N w.s.P t).getD [] else _
    rw[nD (by omega),U];rfl
   ·show w.sent=w.sent++_
    rw[show ([(⟨H,(p:Int),e.to_,e.way,t⟩:BA)].filterMap (Ku b H))=[] by simp [Ku,g],oS]
   ·show a.length=W
    rw[K,d,i.len,Nat.max_self]
   ·show EO (upd _ _ _)+KE _=_
    rw[v];simp [KE]
  ·have z:=o.to.resolve_left g
   rw[nL g,mX,Y1 I _ z.1 (by rw[i.len];omega) i.nn (by omega),mV,KC (by simp;omega)]
   refine⟨_,[⟨H,(p:Int),e.to_,e.way,t⟩],x,t,rfl,c,F,u,rfl,⟨λm D=>by rw[pJ.1 D];exact y,rfl,k,?_,?_,j,C.upd _ Q,d,?_⟩,by rw[nB h0]⟩
   ·show w.s.P=if e.to_<0 then _ else w.s.P
    rw[nB (by omega)]
   ·show w.sent++_=w.sent++_
    congr 1
    have M:¬e.to_<0:=by omega
    simp only[List.filterMap_cons,List.filterMap_nil,Ku,nB M,oW]
    rw[o.dl]
   ·show EO (upd _ _ _)+KE _=_
    rw[v];simp [KE]
def N8 {N W:Nat}(a:18446744073709551616<N) (b:W≤64) (n:Int):∀x,PX W x→∃t,A0 N n x=some (t,IB x t)∧T6 t x∧t.sum=max 0 (min n x.sum):=λx c=>by
 obtain⟨t,e,d,g⟩:=Yp a b c n
 unfold A0
 rw[e,mV]
 exact⟨t,rfl,d,g⟩
def ZE {N W:Nat}(a:1000000<N) (d:W≤64) (t:Gh):∀x,PX W x→∃y,Dj N t x=some (y,IB x y)∧T6 y x:=λx b=>by
 obtain⟨y,e,c,_⟩:=ZF a (by omega) b t.Bi t.Be
 unfold Dj
 rw[e,mV]
 exact⟨y,rfl,c⟩
def XL (b:AU) (W p:Nat) (l:List AK):Prop:=∀e∈l,eF b W p e
def XL.snoc {b:AU}{W p:Nat}{l:List AK}(d:XL b W p l) {e:AK}(c:eF b W p e):XL b W p (l++[e]):=λx a=>by
 rcases oQ.1 a with a|a
 ·exact d x a
 ·rw[pJ.1 a];exact c
end Go.Proofs.YtblcgjadhemlbaaGreat
namespace Go.Proofs.YtblcgjadhemlbaaGreat
set_option linter.all false
open Go.RowKit
structure YX (W:Nat) (out:List Int) (ms:List BA) (sn:List BE) (M:Nat):Prop where
 out:out.length=W
 mv:ms.length≤M
 sn:sn.length≤M
def YX.next {b:AU}{H:Int}{N W p M:Nat}{o m:List (List Int)}{out a:List Int}{i d:List BA}{j g:List BE}{l:List BA}(q:YX W out i j M) (k:Sk b H N W p o out i j m a d g l) {c:Nat}(n:l.length≤c):YX W a d g (M+c):=
 ⟨k.ol,by rw[k.ms_,oD];have:=q.mv;omega,by
  rw[k.sn_,oD]
  have:=List.length_filterMap_le (Ku b H) l
  have:=q.sn
  omega⟩
def YX.le {W M a:Nat}{out:List Int}{b:List BA}{c:List BE}(g:YX W out b c M) (d:M≤a):YX W out b c a:=⟨g.out,oZ g.mv d,oZ g.sn d⟩
def R8 {α}{c:Prop}[Decidable c] {x:α}:(if c then [] else [x]).length≤1:=by split<;>simp
structure lV (b:AU) (s:BD):Prop where
 own:IG b.A.length b.H.length s.G
 que:QX b.A.length b.H.length s.J
 tot:EO s.G+Fu s.J≤1125899906842624
 rem:s.M.length=b.A.length
 gates:s.Q.length=b.E.length
 inn:s.O.length=b.H.length
 inn0:∀x∈s.O,0≤x
 inns:s.O.sum≤1152921504606846976
 out:s.P.length=b.H.length
structure kF (b:AU) (H:Int) (N W k:Nat) (o:List (List Int)) (out:List Int) (ms:List BA) (o':List (List Int)) (out':List Int) (ms':List BA) (sn':List BE) (l:List BA):Prop where
 mv:∀m∈l,∃p,p<k∧kE b H W p m
 ord:l.Pairwise λa c=>a.I≤c.I
 ms_:ms'=ms++l
 own:o'=No o l
 out_:out'=Qr N out l
 sn_:sn'=l.filterMap (Ku b H)
 val:OZ l o
 ox:IG b.A.length W o'
 ol:out'.length=W
 tot:EO o'+KE l=EO o
def kF.next {b:AU}{H:Int}{N W k:Nat}{o y t:List (List Int)}{out g d:List Int}{z u n:List BA}{v s:List BE}{l A:List BA}(I:kF b H N W k o out z y g u v l) (q:Sk b H N W k y g u v t d n s A):kF b H N W (k+1) o out z t d n s (l++A):=
 ⟨λm w=>(oQ.1 w).elim (λw=>by obtain⟨p,B,x⟩:=I.mv m w;exact⟨p,by omega,x⟩) (λw=>⟨k,by omega,q.mv m w⟩),
  List.pairwise_append.2 ⟨I.ord,rK.2 λi j C D _=>by
  rw[(q.mv _ (nP C)).fr,(q.mv _ (nP D)).fr];exact oA _,λa F c G=>by
  obtain⟨p,B,x⟩:=I.mv a F
  rw[x.fr,(q.mv c G).fr];omega⟩,
  by rw[q.ms_,I.ms_,rA],by rw[q.own,I.own];unfold No;rw[qT],by rw[q.out_,I.out_];unfold Qr;rw[qT],by rw[q.sn_,I.sn_,List.filterMap_append],I.val.app (by rw[←I.own];exact q.val),q.ox,q.ol,by rw[Tc];have:=I.tot;have:=q.tot;omega⟩
end Go.Proofs.YtblcgjadhemlbaaGreat
namespace Go.Proofs.YtblcgjadhemlbaaGreat
set_option linter.all false
open Go.RowKit
def RH {N:Nat}(a:1000000<N) (p:List Int) (W:Nat):∃v,H5 N p (W:Int)=some v∧(v=true→PX W p∧W≤16):=by
 unfold H5
 cases b:((decide (0≤(W:Int))&&decide ((W:Int)≤16))&&decide ((p.length:Int)=(W:Int)))
 ·exact⟨_,rfl,λd=>by cases d⟩
 ·simp only[mY,nR] at b
  obtain⟨v,c,k⟩:=V6 a (p:=p) (by omega)
  rw[mW,c]
  exact⟨_,rfl,λd=>⟨⟨by omega,(k d).1,(k d).2⟩,by omega⟩⟩
def TC {N:Nat}(q:1000000<N) {l:List Int}(t:l.length≤1000) {m:Int}(d:0≤m∧m≤2305843009213693952):∃r,Gx N l m=some r∧(r.2=true→(∀x∈l,0≤x)∧l.sum≤m∧r.1=l.sum):=by
 unfold Gx
 rcases ME l.length (λn i s=>Dp N l m (FX N) n s i) (FX N) (some (0,false)) (λk s=>(∀x∈l.take k,0≤x)∧s=(l.take k).sum∧s≤m∧0≤s) (λn k s a=>by
  simp only[Dp];rw[E7 a];rfl) (λn k s g a=>by
  obtain⟨b,c,j,o⟩:=g
  simp only[Dp]
  rw[Ev a,mW,BS a,mV,BX (by omega),DG (n:=m-s) (by omega) (by omega)]
  cases p:(decide (l[k]<0)||decide (m-s<l[k]))
  ·simp only[nZ,nV] at p
   rw[mX,DG (n:=s+l[k]) (by omega) (by omega)]
   exact .inr ⟨_,⟨KM a b (by omega),by rw[Hf a,c],by omega,by omega⟩,rfl⟩
  ·exact .inl rfl) N 0 0 ⟨by simp,rfl,d.1,oA _⟩ (by omega) (nE _) with e|⟨s,⟨b,c,j,o⟩,e⟩
 ·exact⟨_,e,λu=>by cases u⟩
 ·rw[oL] at b c
  exact⟨_,e,λ_=>⟨b,by omega,c⟩⟩
def WB {N:Nat}(j:1000000<N) (b:AU) (s:BD) (W:s.G.length≤1000) (Y:s.J.length≤1000):∃r,ID N b s=some r∧(r.2=true→(∀x∈s.G,PX b.H.length x)∧(∀l∈s.J,(PX b.H.length l.X∧0≤l.D∧l.D<b.A.length)∧s.B≤l.Ad∧0<l.X.sum)∧r.1=EO s.G+Fu s.J∧r.1≤1125899906842624):=by
 unfold ID
 rcases ME s.G.length (λn i t=>DP N b s (DD N b s) n t i) (DD N b s) (some (0,false)) (λk t=>(∀x∈s.G.take k,PX b.H.length x)∧t=EO (s.G.take k)∧0≤t∧t≤1125899906842624) (λn k t a=>by
  simp only[DP];rw[E7 a];rfl) (λn k t q a=>by
  obtain⟨m,w,F,I⟩:=q
  simp only[DP]
  obtain⟨v,y,z⟩:=RH j s.G[k] b.H.length
  rw[Ev a,mW,BS a,mV,y,mV,BX (by omega)]
  cases v
  ·exact .inl rfl
  ·obtain⟨c,d⟩:=z rfl
   have Q:=c.mv
   have U:=c.sum0
   rw[oF,mX,c.total j (by omega),mV,DG (n:=t+(s.G[k]).sum) (by omega) (by omega)]
   by_cases g:1125899906842624<t+(s.G[k]).sum
   ·rw[nW g];exact .inl rfl
   ·rw[nL g]
    exact .inr ⟨_,⟨KM a m c,by rw[K7 a,w],by omega,by omega⟩,rfl⟩) N 0 0 ⟨by simp,rfl,oA _,by decide⟩ (by omega) (nE _) with e|⟨t,⟨m,w,F,I⟩,e⟩
 ·exact⟨_,e,λh=>by cases h⟩
 ·rw[show DP N b s (DD N b s) N 0 0=DD N b s t from e]
  rw[oL] at m w
  unfold DD
  rcases ME s.J.length (λn i t=>EF N b s (F5 N) n t i) (F5 N) (some (0,false)) (λk u=>(∀l∈s.J.take k,(PX b.H.length l.X∧0≤l.D∧l.D<b.A.length)∧s.B≤l.Ad∧0<l.X.sum)∧u=t+Fu (s.J.take k)∧0≤u∧u≤1125899906842624) (λn k t a=>by
   simp only[EF];rw[E7 a];rfl) (λn k u q a=>by
   obtain⟨o,C,V,K⟩:=q
   simp only[EF]
   obtain⟨v,y,z⟩:=RH j (s.J[k]).X b.H.length
   rw[Ev a,mW,BS a,BX (by omega)]
   simp only[mV,K6,y,Fl]
   cases g:cond (decide ((s.J[k]).Ad<s.B)) true (!(decide (0≤(s.J[k]).D)&&decide ((s.J[k]).D<(b.A.length:Int))))
   ·rw[KG,nZ] at g
    obtain⟨M,p⟩:=g
    have M:=of_decide_eq_false M
    rw[qD] at p
    obtain⟨p,Z⟩:=OJ.1 p
    cases v
    ·exact .inl rfl
    ·obtain⟨c,d⟩:=z rfl
     have Q:=c.mv
     have U:=c.sum0
     simp only[oF,mX]
     rw[c.total j (by omega),mV,DG (n:=u+(s.J[k]).X.sum) (by omega) (by omega)]
     cases hd:(decide ((s.J[k]).X.sum≤0)||decide (1125899906842624<u+(s.J[k]).X.sum))
     ·simp only[nZ,nV] at hd
      exact .inr ⟨_,⟨KM a o ⟨⟨c,p,by omega⟩,by omega,by omega⟩,by rw[KD a,C];omega,by omega,by omega⟩,rfl⟩
     ·exact .inl rfl
   ·exact .inl rfl) N 0 t ⟨by simp,by simp [Fu],F,I⟩ (by omega) (nE _) with d|⟨u,⟨o,C,V,K⟩,d⟩
  ·exact⟨_,d,λh=>by cases h⟩
  ·rw[oL] at o C
   exact⟨_,d,λ_=>⟨m,o,by show u=_;omega,K⟩⟩
structure mP (b:AU) (s:BD):Prop where
 x:lV b s
 hour:0≤s.B∧s.B≤16777216
 gts:∀(k:Nat) l g,b.E[k]? =some l→s.Q[k]? =some g→(0≤g.V∧g.V≤l.T)∧(0≤g.W∧g.W≤l.T)
 at_:∀l∈s.J,s.B≤l.Ad∧0<l.X.sum
 out0:∀x∈s.P,0≤x
 outs:s.P.sum≤s.O.sum+1125899906842624-(EO s.G+Fu s.J)
end Go.Proofs.YtblcgjadhemlbaaGreat
namespace Go.Proofs.YtblcgjadhemlbaaGreat
set_option linter.all false
open Go.RowKit
def RJ (H:Int) (p:Nat):List AK→List Int→List BA
 |[],_=>[]
 |e::es,x=>match e.take x with
  |some y=>(if y.1.sum≤0 then [] else [(⟨H,(p:Int),e.to_,e.way,y.1⟩:BA)])++RJ H p es y.2
  |none=>RJ H p es x
def WS:List AK→List Int→List Int
 |[],x=>x
 |e::es,x=>match e.take x with
  |some y=>WS es y.2
  |none=>WS es x
def Pd (H:Int) (p:Nat):∀(a b:List AK) (x:List Int),RJ H p (a++b) x=RJ H p a x++RJ H p b (WS a x)
 |[],b,x=>rfl
 |e::a,b,x=>by
  simp only[oG,RJ,WS]
  cases e.take x with
  |none=>exact Pd H p a b x
  |some y=>simp only;rw[Pd H p a b y.2,rA]
def R5:∀(a b:List AK) (x:List Int),WS (a++b) x=WS b (WS a x)
 |[],b,x=>rfl
 |e::a,b,x=>by
  simp only[oG,WS]
  cases e.take x with
  |none=>exact R5 a b x
  |some y=>exact R5 a b y.2
def Pc {H:Int}{p:Nat}:∀{es:List AK}{x:List Int}(m:BA),m∈RJ H p es x→∃e∈es,m.Bf=e.way∧m.I=(p:Int)
 |[],x,m,a=>by cases a
 |e::es,x,m,a=>by
  simp only[RJ] at a
  cases g:e.take x with
  |none=>
   rw[g] at a
   obtain⟨b,c,d⟩:=Pc (es:=es) m a
   exact⟨b,.tail _ c,d⟩
  |some y=>
   rw[g] at a
   rcases oQ.1 a with a|a
   ·split at a
    ·cases a
    ·rw[pJ.1 a];exact⟨e,.head _,rfl,rfl⟩
   ·obtain⟨b,c,d⟩:=Pc (es:=es) m a
    exact⟨b,.tail _ c,d⟩
def LV (b:AU) (p:Nat) (t:Gh):Bool:=decide (t.Ax=(p:Int))&&(decide (0≤t.Bi)&&decide (t.Bi<(b.H.length:Int)))&&decide (0<t.Be)&&(decide (t.D= -1)||((decide (0≤t.D)&&decide (t.D<(b.A.length:Int)))&&decide ((b.A.getD t.D.toNat default).An=(b.A.getD p default).An)))
def Uw (N:Nat) (t:Gh):AK:=⟨t.D,0, -3,λy=>Dj N t y⟩
def LB (N:Nat) (b:AU) (p:Nat) (a:List Gh):List AK:=(a.filter (LV b p)).map (Uw N)
def UC (N:Nat) (b:AU) (p:Nat) {a:List Gh}{k:Nat}(c:k<a.length):LB N b p (a.take (k+1))=LB N b p (a.take k)++if LV b p a[k] then [Uw N a[k]] else []:=by
 unfold LB
 rw[pO c,qU,qQ]
 congr 1
 cases d:LV b p a[k]<;>simp [d]
def RA (N:Nat) (b:AU) (p:Nat) (a:List Gh):(LB N b p a).length≤a.length:=by
 unfold LB;rw[qX];exact List.length_filter_le _ _
def Wo {N:Nat}(Q:18446744073709551616<N) {w:A4}(U:w.in_.Ae.length≤1000) {p:Nat}(v:p<w.b.A.length):H2 N w (p:Int)=some (LB N w.b p w.in_.Ae):=by
 unfold H2
 obtain⟨l,C,e⟩:=EQ w.in_.Ae.length (λn i l=>Cb N w (p:Int) (DL N) n l i) (DL N) (λk l=>l=LB N w.b p (w.in_.Ae.take k)) (λn k l q=>by
  simp only[Cb];rw[E7 q];rfl) (λn k l F q=>by
  have G:=RA N w.b p (w.in_.Ae.take k)
  rw[←F,pD] at G
  rw[UC N w.b p q,←F]
  simp only[Cb,F6]
  rw[Ev q,mW,BS q,BX (by omega)]
  simp only[mV,K6,Fl]
  generalize w.in_.Ae[k]=x
  have s:w.b.A.getD p default=w.b.A[p]:=by simp [oT,v]
  have c:∀B:Bool,LV w.b p x=B→∃s',s'=(l++if LV w.b p x then [Uw N x] else [])∧cond B (chk (room (l.length+1) 32) (Cb N w (p:Int) (DL N) n (l++([(⟨x.D,0,(-3),(λy=>Dj N x y)⟩:AK)]:List AK)) ((k+1:Nat):Int))) (Cb N w (p:Int) (DL N) n l ((k+1:Nat):Int))=Cb N w (p:Int) (DL N) n s' ((k+1:Nat):Int):=λB I=>by
   refine⟨_,rfl,?_⟩
   rw[I]
   cases B
   ·simp
   ·rw[mW,KC (by omega)];rfl
  unfold LV at c
  by_cases d:x.Ax=(p:Int)
  ·cases m:(decide (0≤x.Bi)&&decide (x.Bi<(w.b.H.length:Int)))
   ·simp [d,LV,m]
   ·by_cases z:0<x.Be
    ·by_cases a:x.D= -1
     ·have:=c true (by rw[m];simp [d,z,a])
      simpa [d,LV,m,a,show ¬x.Be≤0 by omega] using this
     ·cases o:(decide (0≤x.D)&&decide (x.D<(w.b.A.length:Int)))
      ·simp [d,LV,m,a,o,show ¬x.Be≤0 by omega]
      ·obtain⟨J,K⟩:=OJ.1 o
       obtain⟨y,t⟩:=Df.ix (l:=w.b.A) J (by omega)
       have u:w.b.A.getD x.D.toNat default=y:=by
        obtain⟨j,M⟩:∃j:Nat,x.D=(j:Int):=⟨x.D.toNat,by omega⟩
        rw[M] at t K ⊢
        rw[BS (by omega)] at t
        rw[oW]
        simpa [oT,show j<w.b.A.length by omega] using t
       by_cases g:y.An=(w.b.A[p]).An
       ·have:=c true (by rw[o,m,u,s];simp [d,z,g])
        simpa [d,LV,m,a,o,t,BS v,g,show ¬x.Be≤0 by omega] using this
       ·have:=c false (by rw[o,u,s];simp [a,g])
        simpa [d,LV,m,a,o,t,BS v,g,show ¬x.Be≤0 by omega] using this
    ·simp [d,LV,m,z,show x.Be≤0 by omega]
  ·simp [d,LV]) N 0 [] rfl (by omega) (nE _)
 rw[oL] at C
 rw[←C]
 exact e
def Wq {N:Nat}(j:18446744073709551616<N) {b:AU}{W:Nat}(c:W≤64) (p:Nat) (d:List Gh):XL b W p (LB N b p d):=λe g=>by
 obtain⟨t,i,rfl⟩:=oC.1 g
 have a:=(oX.1 i).2
 refine⟨ZE (by omega) c t,by show(-3:Int)≠ -4;decide,?_,by show(0:Int)=Nr _ _ (-3);unfold Nr;rw[nB (by omega),nD rfl]⟩
 show t.D= -1∨(0≤t.D∧t.D<b.A.length)
 unfold LV at a
 simp only[mY,nN,nR] at a
 omega
def XF (b:AU) (W p:Nat) (l:List AK):Prop:=∀e∈l,eF b W p e∧0≤e.way
def XF.snoc {b:AU}{W p:Nat}{l:List AK}(g:XF b W p l) {e:AK}(c:eF b W p e) (d:0≤e.way):XF b W p (l++[e]):=λx a=>by
 rcases oQ.1 a with a|a
 ·exact g x a
 ·rw[pJ.1 a];exact⟨c,d⟩
def Xf {N:Nat}(u:18446744073709551616<N) {w:A4}{W:Nat}(Z:W≤64) (hL:w.b.E.length≤1000) (F:∀l∈w.b.E,JO w.b l) (hg:w.s.Q.length=w.b.E.length) (aa:w.peaks.length=w.b.A.length) {p:Nat}(hp:p<w.b.A.length):∃l,H3 N w (p:Int)=some l∧l.length≤w.b.E.length∧XF w.b W p l:=by
 unfold H3
 obtain⟨l,⟨X,z⟩,e⟩:=EQ w.b.E.length (λn i l=>CM N w (p:Int) (DN N) n l i) (DN N) (λk l=>l.length≤k∧XF w.b W p l) (λn k l q=>by
  simp only[CM];rw[E7 q];rfl) (λn k l hi q=>by
  obtain⟨X,z⟩:=hi
  have g:=F _ (nP q)
  have G:k<w.s.Q.length:=by omega
  have H:p<w.peaks.length:=by omega
  have v:Nr w.b p (k:Int)=(w.b.E[k]).K:=by
   unfold Nr
   rw[nD ⟨by omega,by omega⟩,oW,QG q]
  simp only[CM,Gy,Dq,Gq]
  rw[Ev q,mW,BS q,mV,BX (by omega)]
  simp only[BS G,BS H,mV]
  generalize w.b.E[k]=x at g v
  have d:∀(B:Int) (to:Int),(to= -1∨(0≤to∧to<w.b.A.length))→∃s',(s'.length≤k+1∧XF w.b W p s')∧chk (room (l.length+([(⟨to,x.K,(k:Int),(λx=>A0 N B x)⟩:AK)]:List AK).length) 32) (CM N w (p:Int) (DN N) n (l++([(⟨to,x.K,(k:Int),(λx=>A0 N B x)⟩:AK)]:List AK)) ((k+1:Nat):Int))=CM N w (p:Int) (DN N) n s' ((k+1:Nat):Int):=λB to c=>by
   rw[KC (by simp;omega)]
   exact⟨_,⟨by simp;omega,z.snoc ⟨λy hy=>by obtain⟨t,e,h,_⟩:=N8 u Z B y hy;exact⟨t,e,h⟩,by show(k:Int)≠ -4;omega,c,v.symm⟩ (by show 0≤(k:Int);omega)⟩,rfl⟩
  have j:∀i:Int,0≤i→i<w.b.A.length→∃y,ix w.peaks i=some y:=λi h0 h1=>Df.ix h0 (by omega)
  obtain⟨f0,J⟩:=j x.I g.fr.1 g.fr.2
  cases Y:(decide (x.I=(p:Int))&&decide (x.C≠4))
  ·rw[mX]
   cases M:decide (x.I=(p:Int))
   ·rw[mX]
    cases hC:(decide (x.D=(p:Int))&&decide (x.C=4))
    ·exact⟨l,⟨by omega,z⟩,rfl⟩
    ·obtain⟨a,m⟩:=Uz u x f0 w.peaks[p]
     obtain⟨b,hb⟩:=Pw N 0 a
     rw[mW]
     simp only[J,mV]
     rw[m,mV,hb,mV]
     exact d _ _ (.inr g.fr)
   ·have M:=pR M
    have h4:x.C=4:=by
     rw[nW M,Bool.true_and] at Y
     simpa using Y
    obtain⟨_,_,_,_,_,c⟩:=g.seep h4
    have c:=g.to.resolve_left c
    obtain⟨U,o⟩:=j x.D c.1 c.2
    obtain⟨a,m⟩:=Uz u x w.peaks[p] U
    rw[mW]
    simp only[o,mV]
    rw[m,mV]
    exact d _ _ g.to
  ·rw[mW]
   cases V:decide (x.D≠ -1)
   ·obtain⟨a,m⟩:=VK u x w.s.Q[k] w.peaks[p] 0
    rw[mX,m,mV]
    exact d _ _ g.to
   ·have V:=pR V
    have c:=g.to.resolve_left V
    obtain⟨U,o⟩:=j x.D c.1 c.2
    obtain⟨a,m⟩:=VK u x w.s.Q[k] w.peaks[p] U
    rw[mW]
    simp only[o,mV]
    rw[m,mV]
    exact d _ _ g.to) N 0 [] ⟨nJ _,λe he=>by cases he⟩ (by omega) (nE _)
 exact⟨l,e,X,z⟩
end Go.Proofs.YtblcgjadhemlbaaGreat
