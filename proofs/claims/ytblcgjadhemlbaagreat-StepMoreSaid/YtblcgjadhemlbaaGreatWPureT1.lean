import Derived.Test.YtblcgjadhemlbaaGreatWPureE1
import Derived.Test.YtblcgjadhemlbaaGreatWPureAsk
import Derived.Test.YtblcgjadhemlbaaGreatWPureEy
namespace Go.Proofs.YtblcgjadhemlbaaGreat
set_option linter.all false
open Go.RowKit
def Re (b:AU) (p:Nat) (a:Int):Int:=if 0≤a∧a<b.E.length then (Lc b a.toNat).N else if a= -3 then 0 else (b.A.getD p default).N
structure iY (b:AU) (W p:Nat) (e:AK):Prop where
 tk:∀x,PX W x→∃t,e.take x=some (t,JJ x t)∧Uv t x
 way:e.way≠ -4
 to:e.to_= -1∨(0≤e.to_∧e.to_<b.A.length)
 dl:e.delay=Re b p e.way
structure pX (b:AU) (H:Int) (W p:Nat) (m:BB):Prop where
 hour:m.D=H
 fr:m.G=(p:Int)
 way:m.Be≠ -4
 to:m.C= -1∨(0≤m.C∧m.C<b.A.length)
 px:PX W m.Ag
 pos:0<m.Ag.sum
def Pf (b:AU) (H:Int) (m:BB):Option BD:=if m.C<0 then none else some ⟨Bw (Bw (H+1)+Re b m.G.toNat m.Be),m.C,m.Ag⟩
def aL (N:Nat) (a:List Int) (b:List BB):List Int:=b.foldl (λo m=>if m.C<0 then (G2 N o m.Ag).getD [] else o) a
def So (o:List (List Int)) (a:List BB):List (List Int):=a.foldl (λo m=>upd o m.G (JJ (o.getD m.G.toNat []) m.Ag)) o
def P5:List BB→List (List Int)→Prop
 |[],_=>True
 |m::a,o=>(∃x,o[m.G.toNat]? =some x∧Uv m.Ag x)∧P5 a (upd o m.G (JJ (o.getD m.G.toNat []) m.Ag))
def P2 (a:List BB):Int:=(a.map λm=>m.Ag.sum).sum
def P5.app:∀{l1 a:List BB}{o:List (List Int)},P5 l1 o→P5 a (So o l1)→P5 (l1++a) o
 |[],_,_,_,d=>d
 |m::l1,a,o,b,c=>⟨b.1,P5.app (l1:=l1) b.2 c⟩
structure Tc (b:AU) (H:Int) (N W p:Nat) (o:List (List Int)) (out:List Int) (ms:List BB) (sn:List BD) (o':List (List Int)) (out':List Int) (ms':List BB) (sn':List BD) (l:List BB):Prop where
 mv:∀m∈l,pX b H W p m
 ms_:ms'=ms++l
 own:o'=So o l
 out_:out'=aL N out l
 sn_:sn'=sn++l.filterMap (Pf b H)
 val:P5 l o
 ox:Ir b.A.length W o'
 ol:out'.length=W
 tot:E8 o'+P2 l=E8 o
def Tc.nil {b:AU}{H:Int}{N W p:Nat}{o:List (List Int)}{a:List Int}{c:List BB}{d:List BD}(g:Ir b.A.length W o) (i:a.length=W):Tc b H N W p o a c d o a c d []:=
 ⟨λm j=>(by cases j),by simp,rfl,rfl,by simp,trivial,g,i,by simp [P2]⟩
def UI (a b:List BB):P2 (a++b)=P2 a+P2 b:=by unfold P2;rw[tS,sT]
def Tc.trans {b:AU}{H:Int}{N W p:Nat}{o s i:List (List Int)}{j c a:List Int}{t n d:List BB}{u q g:List BD}{l v:List BB}(x:Tc b H N W p o j t u s c n q l) (k:Tc b H N W p s c n q i a d g v):Tc b H N W p o j t u i a d g (l++v):=
 ⟨λm w=>(sN.1 w).elim (x.mv m) (k.mv m),by rw[k.ms_,x.ms_,uR],by rw[k.own,x.own];unfold So;rw[uM],by rw[k.out_,x.out_];unfold aL;rw[uM],by rw[k.sn_,x.sn_,List.filterMap_append,uR],x.val.app (by rw[←x.own];exact k.val),k.ox,k.ol,by rw[UI];have:=x.tot;have:=k.tot;omega⟩
def aH {N:Nat}(w:1000000<N) (t:Int) {to:Int}(h0:0≤to) {p:List Int}(y:p.length≤1000) (l:∀x∈p,0≤x) (z:0<p.sum):KP N t to p=some [⟨t,to,p⟩]:=by
 obtain⟨i,c,a⟩:∃(i:Nat) (A:i<p.length),0<p[i]:=by
  apply tR
  intro d
  have:p.sum≤p.length*0:=Kc λx m=>by
   obtain⟨i,c,rfl⟩:=tQ.1 m
   have:=d
   apply tR
   intro A
   exact d ⟨i,c,by omega⟩
  omega
 have o:∃j:Int,0≤j∧FC N p (λx=>H3 N x)=some j:=by
  unfold FC
  have:∀(n k:Nat),p.length<n+k→k≤i→∃j:Int,0≤j∧DU N p (λx=>H3 N x) (EW N) n (k:Int)=some j:=by
   intro n
   induction n with
   |zero=>intro k q s;omega
   |succ n u=>
    intro k q s
    have g:k<p.length:=by omega
    simp only[DU,H3]
    rw[En g,qO,BR g,BT (by omega),qN,qN]
    by_cases A:0<p[k]
    ·rw[rF A];exact⟨(k:Int),by omega,rfl⟩
    ·rw[rD A,qQ]
     have:k≠i:=λe=>by subst e;exact A a
     exact u (k+1) (by omega) (by omega)
  exact this N 0 (by omega) (qW _)
 obtain⟨j,b,v⟩:=o
 unfold KP Fq
 rw[v,rD (show ¬to<0 by omega),qQ,qN,qN,rF b,sH,qN,qQ,LT N (by omega),qN,KI (by simp)]
 rfl
def T6 {α}{l:List α}{k:Nat}{x:α}(a:l[k]? =some x):upd l (k:Int) x=l:=by
 apply sK
 intro i
 by_cases e:k=i
 ·subst e;rw[F5 (rB.1 a).1,a]
 ·rw[Hb e]
def Ss {N:Nat}(I:1000000<N) {w:AX}{b:AU}{H:Int}{W:Nat}(X:w.s.D=H) (Y:W≤1000) (B:Ir b.A.length W w.s.F) {p:Nat}(Z:p<b.A.length) {e:AK}(o:iY b W p e) (d:w.s.U.length=W) (C:w.moves.length≤1000000) (hs:w.sent.length≤1000000):
  ∃r l x t,ER N w (p:Int) e=some r∧w.s.F[p]? =some x∧e.take x=some (t,JJ x t)∧Uv t x∧r.1=upd w.s.F (p:Int) (JJ x t)∧Tc b H N W p w.s.F w.s.U w.moves w.sent r.1 r.2.1 r.2.2.1 r.2.2.2 l∧l=if t.sum≤0 then [] else [⟨H,(p:Int),e.to_,e.way,t⟩]:=by
 obtain⟨x,hx,c,n⟩:=B.ix Z
 obtain⟨t,G,u⟩:=o.tk x n
 obtain⟨Q,s2,i⟩:=u.sub n
 have J:w.s.F.getD p []=x:=by simp [rR,c]
 have v:E8 (upd w.s.F (p:Int) (JJ x t))=E8 w.s.F-t.sum:=by rw[NI c,s2];omega
 unfold ER
 rw[hx,qN,qN,G,qN,qN,qN,i.total I Y,qN]
 by_cases h0:t.sum≤0
 ·rw[rF h0,qO]
  have hz:JJ x t=x:=W5 n.len i.len (Ti i.nn h0)
  refine⟨_,[],x,t,rfl,c,G,u,rfl,?_,by rw[qR h0]⟩
  show Tc b H N W p w.s.F w.s.U w.moves w.sent (upd w.s.F (p:Int) (JJ x t)) w.s.U w.moves w.sent []
  rw[hz,T6 c]
  exact Tc.nil B d
 ·have y:pX b H W p ⟨H,(p:Int),e.to_,e.way,t⟩:=⟨rfl,rfl,o.way,o.to,i,by show 0<t.sum;omega⟩
  have j:P5 [(⟨H,(p:Int),e.to_,e.way,t⟩:BB)] w.s.F:=⟨⟨x,by show w.s.F[((p:Int)).toNat]? =_;rw[sF];exact c,u⟩,trivial⟩
  have k:upd w.s.F (p:Int) (JJ x t)=So w.s.F [(⟨H,(p:Int),e.to_,e.way,t⟩:BB)]:=by
   show _=upd w.s.F (p:Int) (JJ (w.s.F.getD ((p:Int)).toNat []) t)
   rw[sF,J]
  rw[rD h0,qQ,KI (by simp;omega),X]
  by_cases g:e.to_= -1
  ·obtain⟨a,V,K⟩:=Ya I (p:=w.s.U) (q:=t) (by omega) (by rw[i.len];omega)
   rw[rF g,qO,V,qN]
   refine⟨_,[⟨H,(p:Int),e.to_,e.way,t⟩],x,t,rfl,c,G,u,rfl,⟨λm C=>by rw[tA.1 C];exact y,rfl,k,?_,?_,j,B.upd _ Q,?_,?_⟩,by rw[qP h0]⟩
   ·show a=if e.to_<0 then (G2 N w.s.U t).getD [] else _
    rw[qR (by omega),V];rfl
   ·show w.sent=w.sent++_
    rw[show ([(⟨H,(p:Int),e.to_,e.way,t⟩:BB)].filterMap (Pf b H))=[] by simp [Pf,g],sL]
   ·show a.length=W
    rw[K,d,i.len,Nat.max_self]
   ·show E8 (upd _ _ _)+P2 _=_
    rw[v];simp [P2]
  ·have z:=o.to.resolve_left g
   rw[rD g,qQ,aH I _ z.1 (by rw[i.len];omega) i.nn (by omega),qN,KI (by simp;omega)]
   refine⟨_,[⟨H,(p:Int),e.to_,e.way,t⟩],x,t,rfl,c,G,u,rfl,⟨λm C=>by rw[tA.1 C];exact y,rfl,k,?_,?_,j,B.upd _ Q,d,?_⟩,by rw[qP h0]⟩
   ·show w.s.U=if e.to_<0 then _ else w.s.U
    rw[qP (by omega)]
   ·show w.sent++_=w.sent++_
    congr 1
    have M:¬e.to_<0:=by omega
    simp only[List.filterMap_cons,List.filterMap_nil,Pf,qP M,sF]
    rw[o.dl]
   ·show E8 (upd _ _ _)+P2 _=_
    rw[v];simp [P2]
def M8 {N W:Nat}(a:18446744073709551616<N) (b:W≤64) (n:Int):∀x,PX W x→∃t,A3 N n x=some (t,JJ x t)∧Uv t x∧t.sum=max 0 (min n x.sum):=λx c=>by
 obtain⟨t,e,d,g⟩:=Z5 a b c n
 unfold A3
 rw[e,qN]
 exact⟨t,rfl,d,g⟩
def aV {N W:Nat}(a:1000000<N) (d:W≤64) (t:G9):∀x,PX W x→∃y,Dz N t x=some (y,JJ x y)∧Uv y x:=λx b=>by
 obtain⟨y,e,c,_⟩:=aW a (by omega) b t.Bi t.Bd
 unfold Dz
 rw[e,qN]
 exact⟨y,rfl,c⟩
def XL (b:AU) (W p:Nat) (l:List AK):Prop:=∀e∈l,iY b W p e
def XL.snoc {b:AU}{W p:Nat}{l:List AK}(d:XL b W p l) {e:AK}(c:iY b W p e):XL b W p (l++[e]):=λx a=>by
 rcases sN.1 a with a|a
 ·exact d x a
 ·rw[tA.1 a];exact c
end Go.Proofs.YtblcgjadhemlbaaGreat
namespace Go.Proofs.YtblcgjadhemlbaaGreat
set_option linter.all false
open Go.RowKit
structure Zm (W:Nat) (out:List Int) (ms:List BB) (sn:List BD) (M:Nat):Prop where
 out:out.length=W
 mv:ms.length≤M
 sn:sn.length≤M
def Zm.next {b:AU}{H:Int}{N W p M:Nat}{o n:List (List Int)}{d a:List Int}{j g:List BB}{m i:List BD}{l:List BB}(s:Zm W d j m M) (k:Tc b H N W p o d j m n a g i l) {c:Nat}(q:l.length≤c):Zm W a g i (M+c):=
 ⟨k.ol,by rw[k.ms_,sA];have:=s.mv;omega,by
  rw[k.sn_,sA]
  have:=List.length_filterMap_le (Pf b H) l
  have:=s.sn
  omega⟩
def Zm.le {W M b:Nat}{a:List Int}{c:List BB}{d:List BD}(i:Zm W a c d M) (g:M≤b):Zm W a c d b:=⟨i.out,sP i.mv g,sP i.sn g⟩
def Sv {α}{c:Prop}[Decidable c] {x:α}:(if c then [] else [x]).length≤1:=by split<;>simp
structure pP (b:AU) (s:A7):Prop where
 own:Ir b.A.length b.J.length s.F
 que:QX b.A.length b.J.length s.M
 tot:E8 s.F+HG s.M≤1125899906842624
 rem:s.O.length=b.A.length
 gates:s.P.length=b.E.length
 inn:s.S.length=b.J.length
 inn0:∀x∈s.S,0≤x
 inns:s.S.sum≤1152921504606846976
 out:s.U.length=b.J.length
structure nZ (b:AU) (H:Int) (N W k:Nat) (o:List (List Int)) (out:List Int) (ms:List BB) (o':List (List Int)) (out':List Int) (ms':List BB) (sn':List BD) (l:List BB):Prop where
 mv:∀m∈l,∃p,p<k∧pX b H W p m
 ord:l.Pairwise λa c=>a.G≤c.G
 ms_:ms'=ms++l
 own:o'=So o l
 out_:out'=aL N out l
 sn_:sn'=l.filterMap (Pf b H)
 val:P5 l o
 ox:Ir b.A.length W o'
 ol:out'.length=W
 tot:E8 o'+P2 l=E8 o
def nZ.next {b:AU}{H:Int}{N W k:Nat}{o z t:List (List Int)}{u g d:List Int}{A v n:List BB}{w s:List BD}{l B:List BB}(J:nZ b H N W k o u A z g v w l) (q:Tc b H N W k z g v w t d n s B):nZ b H N W (k+1) o u A t d n s (l++B):=
 ⟨λm x=>(sN.1 x).elim (λx=>by obtain⟨p,C,y⟩:=J.mv m x;exact⟨p,by omega,y⟩) (λx=>⟨k,by omega,q.mv m x⟩),
  List.pairwise_append.2 ⟨J.ord,vC.2 λi j D F _=>by
  rw[(q.mv _ (rH D)).fr,(q.mv _ (rH F)).fr];exact rN _,λa G c I=>by
  obtain⟨p,C,y⟩:=J.mv a G
  rw[y.fr,(q.mv c I).fr];omega⟩,
  by rw[q.ms_,J.ms_,uR],by rw[q.own,J.own];unfold So;rw[uM],by rw[q.out_,J.out_];unfold aL;rw[uM],by rw[q.sn_,J.sn_,List.filterMap_append],J.val.app (by rw[←J.own];exact q.val),q.ox,q.ol,by rw[UI];have:=J.tot;have:=q.tot;omega⟩
end Go.Proofs.YtblcgjadhemlbaaGreat
namespace Go.Proofs.YtblcgjadhemlbaaGreat
set_option linter.all false
open Go.RowKit
def Rx {N:Nat}(a:1000000<N) (p:List Int) (W:Nat):∃v,Je N p (W:Int)=some v∧(v=true→PX W p∧W≤16):=by
 unfold Je
 cases b:((decide (0≤(W:Int))&&decide ((W:Int)≤16))&&decide ((p.length:Int)=(W:Int)))
 ·exact⟨_,rfl,λd=>by cases d⟩
 ·simp only[qT,rJ] at b
  obtain⟨v,c,k⟩:=XG a (p:=p) (by omega)
  rw[qO,c]
  exact⟨_,rfl,λd=>⟨⟨by omega,(k d).1,(k d).2⟩,by omega⟩⟩
def Ts {N:Nat}(q:1000000<N) {l:List Int}(t:l.length≤1000) {m:Int}(d:0≤m∧m≤2305843009213693952):∃r,Ih N l m=some r∧(r.2=true→(∀x∈l,0≤x)∧l.sum≤m∧r.1=l.sum):=by
 unfold Ih
 rcases LN l.length (λn i s=>Fm N l m (HR N) n s i) (HR N) (some (0,false)) (λk s=>(∀x∈l.take k,0≤x)∧s=(l.take k).sum∧s≤m∧0≤s) (λn k s a=>by
  simp only[Fm];rw[E4 a];rfl) (λn k s g a=>by
  obtain⟨b,c,j,o⟩:=g
  simp only[Fm]
  rw[En a,qO,BR a,qN,BT (by omega),Cx (n:=m-s) (by omega) (by omega)]
  cases p:(decide (l[k]<0)||decide (m-s<l[k]))
  ·simp only[rS,rO] at p
   rw[qQ,Cx (n:=s+l[k]) (by omega) (by omega)]
   exact .inr ⟨_,⟨JC a b (by omega),by rw[I2 a,c],by omega,by omega⟩,rfl⟩
  ·exact .inl rfl) N 0 0 ⟨by simp,rfl,d.1,rN _⟩ (by omega) (qW _) with e|⟨s,⟨b,c,j,o⟩,e⟩
 ·exact⟨_,e,λu=>by cases u⟩
 ·rw[rY] at b c
  exact⟨_,e,λ_=>⟨b,by omega,c⟩⟩
def XK {N:Nat}(j:1000000<N) (b:AU) (s:A7) (W:s.F.length≤1000) (X:s.M.length≤1000):∃r,Jp N b s=some r∧(r.2=true→(∀x∈s.F,PX b.J.length x)∧(∀l∈s.M,(PX b.J.length l.Ag∧0≤l.C∧l.C<b.A.length)∧s.D≤l.Ak∧0<l.Ag.sum)∧r.1=E8 s.F+HG s.M∧r.1≤1125899906842624):=by
 unfold Jp
 rcases LN s.F.length (λn i t=>FO N b s (FP N b s) n t i) (FP N b s) (some (0,false)) (λk t=>(∀x∈s.F.take k,PX b.J.length x)∧t=E8 (s.F.take k)∧0≤t∧t≤1125899906842624) (λn k t a=>by
  simp only[FO];rw[E4 a];rfl) (λn k t q a=>by
  obtain⟨m,w,G,H⟩:=q
  simp only[FO]
  obtain⟨v,y,z⟩:=Rx j s.F[k] b.J.length
  rw[En a,qO,BR a,qN,y,qN,BT (by omega)]
  cases v
  ·exact .inl rfl
  ·obtain⟨c,d⟩:=z rfl
   have Q:=c.mv
   have U:=c.sum0
   rw[sH,qQ,c.total j (by omega),qN,Cx (n:=t+(s.F[k]).sum) (by omega) (by omega)]
   by_cases g:1125899906842624<t+(s.F[k]).sum
   ·rw[rF g];exact .inl rfl
   ·rw[rD g]
    exact .inr ⟨_,⟨JC a m c,by rw[LR a,w],by omega,by omega⟩,rfl⟩) N 0 0 ⟨by simp,rfl,rN _,by decide⟩ (by omega) (qW _) with e|⟨t,⟨m,w,G,H⟩,e⟩
 ·exact⟨_,e,λZ=>by cases Z⟩
 ·rw[show FO N b s (FP N b s) N 0 0=FP N b s t from e]
  rw[rY] at m w
  unfold FP
  rcases LN s.M.length (λn i t=>GP N b s (Hw N) n t i) (Hw N) (some (0,false)) (λk u=>(∀l∈s.M.take k,(PX b.J.length l.Ag∧0≤l.C∧l.C<b.A.length)∧s.D≤l.Ak∧0<l.Ag.sum)∧u=t+HG (s.M.take k)∧0≤u∧u≤1125899906842624) (λn k t a=>by
   simp only[GP];rw[E4 a];rfl) (λn k u q a=>by
   obtain⟨o,B,V,I⟩:=q
   simp only[GP]
   obtain⟨v,y,z⟩:=Rx j (s.M[k]).Ag b.J.length
   rw[En a,qO,BR a,BT (by omega)]
   simp only[qN,MI,y,GC]
   cases g:cond (decide ((s.M[k]).Ak<s.D)) true (!(decide (0≤(s.M[k]).C)&&decide ((s.M[k]).C<(b.A.length:Int))))
   ·rw[Ke,rS] at g
    obtain⟨K,p⟩:=g
    have K:=of_decide_eq_false K
    rw[tP] at p
    obtain⟨p,Y⟩:=On.1 p
    cases v
    ·exact .inl rfl
    ·obtain⟨c,d⟩:=z rfl
     have Q:=c.mv
     have U:=c.sum0
     simp only[sH,qQ]
     rw[c.total j (by omega),qN,Cx (n:=u+(s.M[k]).Ag.sum) (by omega) (by omega)]
     cases hd:(decide ((s.M[k]).Ag.sum≤0)||decide (1125899906842624<u+(s.M[k]).Ag.sum))
     ·simp only[rS,rO] at hd
      exact .inr ⟨_,⟨JC a o ⟨⟨c,p,by omega⟩,by omega,by omega⟩,by rw[Kd a,B];omega,by omega,by omega⟩,rfl⟩
     ·exact .inl rfl
   ·exact .inl rfl) N 0 t ⟨by simp,by simp [HG],G,H⟩ (by omega) (qW _) with d|⟨u,⟨o,B,V,I⟩,d⟩
  ·exact⟨_,d,λZ=>by cases Z⟩
  ·rw[rY] at o B
   exact⟨_,d,λ_=>⟨m,o,by show u=_;omega,I⟩⟩
structure RgX (b:AU) (s:A7):Prop where
 x:pP b s
 hour:0≤s.D∧s.D≤16777216
 gts:∀(k:Nat) l g,b.E[k]? =some l→s.P[k]? =some g→(0≤g.W∧g.W≤l.R)∧(0≤g.Z∧g.Z≤l.R)
 at_:∀l∈s.M,s.D≤l.Ak∧0<l.Ag.sum
 out0:∀x∈s.U,0≤x
 outs:s.U.sum≤s.S.sum+1125899906842624-(E8 s.F+HG s.M)
end Go.Proofs.YtblcgjadhemlbaaGreat
namespace Go.Proofs.YtblcgjadhemlbaaGreat
set_option linter.all false
open Go.RowKit
def Rz (H:Int) (p:Nat):List AK→List Int→List BB
 |[],_=>[]
 |e::es,x=>match e.take x with
  |some y=>(if y.1.sum≤0 then [] else [(⟨H,(p:Int),e.to_,e.way,y.1⟩:BB)])++Rz H p es y.2
  |none=>Rz H p es x
def Xj:List AK→List Int→List Int
 |[],x=>x
 |e::es,x=>match e.take x with
  |some y=>Xj es y.2
  |none=>Xj es x
def QD (H:Int) (p:Nat):∀(a b:List AK) (x:List Int),Rz H p (a++b) x=Rz H p a x++Rz H p b (Xj a x)
 |[],b,x=>rfl
 |e::a,b,x=>by
  simp only[rW,Rz,Xj]
  cases e.take x with
  |none=>exact QD H p a b x
  |some y=>simp only;rw[QD H p a b y.2,uR]
def Sq:∀(a b:List AK) (x:List Int),Xj (a++b) x=Xj b (Xj a x)
 |[],b,x=>rfl
 |e::a,b,x=>by
  simp only[rW,Xj]
  cases e.take x with
  |none=>exact Sq a b x
  |some y=>exact Sq a b y.2
def QC {H:Int}{p:Nat}:∀{es:List AK}{x:List Int}(m:BB),m∈Rz H p es x→∃e∈es,m.Be=e.way∧m.G=(p:Int)
 |[],x,m,a=>by cases a
 |e::es,x,m,a=>by
  simp only[Rz] at a
  cases g:e.take x with
  |none=>
   rw[g] at a
   obtain⟨b,c,d⟩:=QC (es:=es) m a
   exact⟨b,.tail _ c,d⟩
  |some y=>
   rw[g] at a
   rcases sN.1 a with a|a
   ·split at a
    ·cases a
    ·rw[tA.1 a];exact⟨e,.head _,rfl,rfl⟩
   ·obtain⟨b,c,d⟩:=QC (es:=es) m a
    exact⟨b,.tail _ c,d⟩
def Lr (b:AU) (p:Nat) (t:G9):Bool:=decide (t.An=(p:Int))&&(decide (0≤t.Bi)&&decide (t.Bi<(b.J.length:Int)))&&decide (0<t.Bd)&&(decide (t.C= -1)||((decide (0≤t.C)&&decide (t.C<(b.A.length:Int)))&&decide ((b.A.getD t.C.toNat default).As=(b.A.getD p default).As)))
def Vw (N:Nat) (t:G9):AK:=⟨t.C,0, -3,λy=>Dz N t y⟩
def LX (N:Nat) (b:AU) (p:Nat) (a:List G9):List AK:=(a.filter (Lr b p)).map (Vw N)
def U1 (N:Nat) (b:AU) (p:Nat) {a:List G9}{k:Nat}(c:k<a.length):LX N b p (a.take (k+1))=LX N b p (a.take k)++if Lr b p a[k] then [Vw N a[k]] else []:=by
 unfold LX
 rw[tG c,uN,tS]
 congr 1
 cases d:Lr b p a[k]<;>simp [d]
def Rp (N:Nat) (b:AU) (p:Nat) (a:List G9):(LX N b p a).length≤a.length:=by
 unfold LX;rw[uB];exact List.length_filter_le _ _
def X6 {N:Nat}(Q:18446744073709551616<N) {w:AX}(U:w.in_.Ad.length≤1000) {p:Nat}(v:p<w.b.A.length):HS N w (p:Int)=some (LX N w.b p w.in_.Ad):=by
 unfold HS
 obtain⟨l,D,e⟩:=Ee w.in_.Ad.length (λn i l=>CR N w (p:Int) (DQ N) n l i) (DQ N) (λk l=>l=LX N w.b p (w.in_.Ad.take k)) (λn k l q=>by
  simp only[CR];rw[E4 q];rfl) (λn k l F q=>by
  have G:=Rp N w.b p (w.in_.Ad.take k)
  rw[←F,sV] at G
  rw[U1 N w.b p q,←F]
  simp only[CR,GQ]
  rw[En q,qO,BR q,BT (by omega)]
  simp only[qN,MI,GC]
  generalize w.in_.Ad[k]=x
  have s:w.b.A.getD p default=w.b.A[p]:=by simp [rR,v]
  have c:∀B:Bool,Lr w.b p x=B→∃s',s'=(l++if Lr w.b p x then [Vw N x] else [])∧cond B (chk (room (l.length+1) 32) (CR N w (p:Int) (DQ N) n (l++([(⟨x.C,0,(-3),(λy=>Dz N x y)⟩:AK)]:List AK)) ((k+1:Nat):Int))) (CR N w (p:Int) (DQ N) n l ((k+1:Nat):Int))=CR N w (p:Int) (DQ N) n s' ((k+1:Nat):Int):=λB H=>by
   refine⟨_,rfl,?_⟩
   rw[H]
   cases B
   ·simp
   ·rw[qO,KI (by omega)];rfl
  unfold Lr at c
  by_cases d:x.An=(p:Int)
  ·cases m:(decide (0≤x.Bi)&&decide (x.Bi<(w.b.J.length:Int)))
   ·simp [d,Lr,m]
   ·by_cases z:0<x.Bd
    ·by_cases a:x.C= -1
     ·have:=c true (by rw[m];simp [d,z,a])
      simpa [d,Lr,m,a,show ¬x.Bd≤0 by omega] using this
     ·cases o:(decide (0≤x.C)&&decide (x.C<(w.b.A.length:Int)))
      ·simp [d,Lr,m,a,o,show ¬x.Bd≤0 by omega]
      ·obtain⟨I,K⟩:=On.1 o
       obtain⟨y,t⟩:=Df.ix (l:=w.b.A) I (by omega)
       have u:w.b.A.getD x.C.toNat default=y:=by
        obtain⟨j,M⟩:∃j:Nat,x.C=(j:Int):=⟨x.C.toNat,by omega⟩
        rw[M] at t K ⊢
        rw[BR (by omega)] at t
        rw[sF]
        simpa [rR,show j<w.b.A.length by omega] using t
       by_cases g:y.As=(w.b.A[p]).As
       ·have:=c true (by rw[o,m,u,s];simp [d,z,g])
        simpa [d,Lr,m,a,o,t,BR v,g,show ¬x.Bd≤0 by omega] using this
       ·have:=c false (by rw[o,u,s];simp [a,g])
        simpa [d,Lr,m,a,o,t,BR v,g,show ¬x.Bd≤0 by omega] using this
    ·simp [d,Lr,m,z,show x.Bd≤0 by omega]
  ·simp [d,Lr]) N 0 [] rfl (by omega) (qW _)
 rw[rY] at D
 rw[←D]
 exact e
def X8 {N:Nat}(j:18446744073709551616<N) {b:AU}{W:Nat}(c:W≤64) (p:Nat) (d:List G9):XL b W p (LX N b p d):=λe g=>by
 obtain⟨t,i,rfl⟩:=rX.1 g
 have a:=(sS.1 i).2
 refine⟨aV (by omega) c t,by show(-3:Int)≠ -4;decide,?_,by show(0:Int)=Re _ _ (-3);unfold Re;rw[qP (by omega),qR rfl]⟩
 show t.C= -1∨(0≤t.C∧t.C<b.A.length)
 unfold Lr at a
 simp only[qT,rI,rJ] at a
 omega
def XF (b:AU) (W p:Nat) (l:List AK):Prop:=∀e∈l,iY b W p e∧0≤e.way
def XF.snoc {b:AU}{W p:Nat}{l:List AK}(g:XF b W p l) {e:AK}(c:iY b W p e) (d:0≤e.way):XF b W p (l++[e]):=λx a=>by
 rcases sN.1 a with a|a
 ·exact g x a
 ·rw[tA.1 a];exact⟨c,d⟩
def Yx {N:Nat}(u:18446744073709551616<N) {w:AX}{W:Nat}(X:W≤64) (hL:w.b.E.length≤1000) (F:∀l∈w.b.E,IA w.b l) (hg:w.s.P.length=w.b.E.length) (Y:w.peaks.length=w.b.A.length) {p:Nat}(hp:p<w.b.A.length):∃l,HT N w (p:Int)=some l∧l.length≤w.b.E.length∧XF w.b W p l:=by
 unfold HT
 obtain⟨l,⟨U,z⟩,e⟩:=Ee w.b.E.length (λn i l=>CB N w (p:Int) (DJ N) n l i) (DJ N) (λk l=>l.length≤k∧XF w.b W p l) (λn k l q=>by
  simp only[CB];rw[E4 q];rfl) (λn k l Z q=>by
  obtain⟨U,z⟩:=Z
  have g:=F _ (rH q)
  have H:k<w.s.P.length:=by omega
  have I:p<w.peaks.length:=by omega
  have v:Re w.b p (k:Int)=(w.b.E[k]).N:=by
   unfold Re
   rw[qR ⟨by omega,by omega⟩,sF,NJ q]
  simp only[CB,GS,Dg,FM]
  rw[En q,qO,BR q,qN,BT (by omega)]
  simp only[BR H,BR I,qN]
  generalize w.b.E[k]=x at g v
  have d:∀(D:Int) (to:Int),(to= -1∨(0≤to∧to<w.b.A.length))→∃s',(s'.length≤k+1∧XF w.b W p s')∧chk (room (l.length+([(⟨to,x.N,(k:Int),(λx=>A3 N D x)⟩:AK)]:List AK).length) 32) (CB N w (p:Int) (DJ N) n (l++([(⟨to,x.N,(k:Int),(λx=>A3 N D x)⟩:AK)]:List AK)) ((k+1:Nat):Int))=CB N w (p:Int) (DJ N) n s' ((k+1:Nat):Int):=λD to c=>by
   rw[KI (by simp;omega)]
   exact⟨_,⟨by simp;omega,z.snoc ⟨λy hy=>by obtain⟨t,e,h,_⟩:=M8 u X D y hy;exact⟨t,e,h⟩,by show(k:Int)≠ -4;omega,c,v.symm⟩ (by show 0≤(k:Int);omega)⟩,rfl⟩
  have j:∀i:Int,0≤i→i<w.b.A.length→∃y,ix w.peaks i=some y:=λi h0 h1=>Df.ix h0 (by omega)
  obtain⟨f0,J⟩:=j x.G g.fr.1 g.fr.2
  cases V:(decide (x.G=(p:Int))&&decide (x.B≠4))
  ·rw[qQ]
   cases K:decide (x.G=(p:Int))
   ·rw[qQ]
    cases hC:(decide (x.C=(p:Int))&&decide (x.B=4))
    ·exact⟨l,⟨by omega,z⟩,rfl⟩
    ·obtain⟨a,m⟩:=V1 u x f0 w.peaks[p]
     obtain⟨b,hb⟩:=Qb N 0 a
     rw[qO]
     simp only[J,qN]
     rw[m,qN,hb,qN]
     exact d _ _ (.inr g.fr)
   ·have K:=tK K
    have h4:x.B=4:=by
     rw[rF K,Bool.true_and] at V
     simpa using V
    obtain⟨_,_,_,_,_,c⟩:=g.seep h4
    have c:=g.to.resolve_left c
    obtain⟨M,o⟩:=j x.C c.1 c.2
    obtain⟨a,m⟩:=V1 u x w.peaks[p] M
    rw[qO]
    simp only[o,qN]
    rw[m,qN]
    exact d _ _ g.to
  ·rw[qO]
   cases Q:decide (x.C≠ -1)
   ·obtain⟨a,m⟩:=WO u x w.s.P[k] w.peaks[p] 0
    rw[qQ,m,qN]
    exact d _ _ g.to
   ·have Q:=tK Q
    have c:=g.to.resolve_left Q
    obtain⟨M,o⟩:=j x.C c.1 c.2
    obtain⟨a,m⟩:=WO u x w.s.P[k] w.peaks[p] M
    rw[qO]
    simp only[o,qN]
    rw[m,qN]
    exact d _ _ g.to) N 0 [] ⟨qX _,λe he=>by cases he⟩ (by omega) (qW _)
 exact⟨l,e,U,z⟩
end Go.Proofs.YtblcgjadhemlbaaGreat
