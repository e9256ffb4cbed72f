import Derived.Test.YtblcgjadhemlbaaGreatWPureAsk
namespace Go.Proofs.YtblcgjadhemlbaaGreat
set_option linter.all false
open Go.RowKit
def sl (N:Nat) (a b:Int):Int:=(ET N a b).getD 0
def slN {b a q r:Nat}(hd:0<a) (g:b≤a) (c:q=b*1099511627776/a) (d:r=b*1099511627776%a):q≤1099511627776∧b*1099511627776=q*a+r∧r<a:=by
 refine⟨?_,by rw[c,d];exact Ue _ _,by rw[d];exact tB _ hd⟩
 rw[c]
 exact Nat.div_le_of_le_mul (by rw[uC a];rw[uC b];exact Nat.mul_le_mul_left _ g)
def Gi {N:Nat}(m:18446744073709551616<N) {num den:Int}(h0:0≤num∧num≤1125899906842624) (c:0≤den∧den≤1125899906842624):
  ET N num den=some (sl N num den)∧0≤sl N num den∧sl N num den≤1099511627777∧(sl N num den≤1099511627776→(den=0→num=0)→Va num den (sl N num den))∧(sl N num den≤1099511627776→den≠0→num*1099511627776≤sl N num den*den):=by
 suffices v:∃s,ET N num den=some s∧0≤s∧s≤1099511627777∧(s≤1099511627776→(den=0→num=0)→Va num den s)∧(s≤1099511627776→den≠0→num*1099511627776≤s*den) by
  obtain⟨s,e,v⟩:=v
  have:sl N num den=s:=by unfold sl;rw[e];rfl
  rw[this]
  exact⟨e,v⟩
 unfold ET
 by_cases hd:den=0
 ·rw[rF hd,qO]
  exact⟨0,rfl,by decide,by decide,λ_ v=>⟨h0.1,by have:=v hd;omega,c.2,by decide,by rw[v hd,hd];decide⟩,λ_ v=>absurd hd v⟩
 ·rw[rD hd,qQ]
  by_cases k:den<num
  ·rw[rF k,qO]
   exact⟨_,rfl,by decide,by decide,λv=>absurd v (by decide),λv=>absurd v (by decide)⟩
  ·rw[rD k,qQ]
   obtain⟨a,rfl⟩:∃n:Nat,num=n:=⟨num.toNat,by omega⟩
   obtain⟨b,rfl⟩:∃n:Nat,den=n:=⟨den.toNat,by omega⟩
   have d:0<b:=by omega
   have g:a≤b:=by omega
   rw[Ed a (by omega),Ed b (by omega),show(1099511627776:Int)=((1099511627776:Nat):Int) from rfl,Ok N a 1099511627776 (by omega) (by omega),qN]
   have i:a*1099511627776/18446744073709551616<b:=by omega
   rw[Uf m _ _ _ (tB _ (by omega)) (by omega) i,←Ue (a*1099511627776) 18446744073709551616,qN]
   obtain⟨t,o,u⟩:=slN d g rfl rfl
   generalize a*1099511627776/b=q at*
   generalize a*1099511627776%b=r at*
   have j:(a:Int)*1099511627776=q*b+r:=by rw[show (1099511627776:Int)=((1099511627776:Nat):Int) from rfl,←uK,o,Int.natCast_add,uK]
   by_cases p:r=0
   ·subst p
    rw[show decide (((0:Nat):Int)≠0)=false from rfl,qQ]
    unfold Hy
    rw[Cx (by omega) (by omega)]
    refine⟨_,rfl,by omega,by omega,λ_ _=>⟨by omega,by omega,c.2,by omega,by rw[j];exact Int.le_of_eq (Int.add_zero _)⟩,λ_ _=>by show(a:Int)*1099511627776≤_;rw[j];exact Int.le_of_eq (Int.add_zero _)⟩
   ·rw[show decide ((r:Int)≠0)=true by simp;omega,qO]
    unfold Hy
    rw[show ((q:Int)+1)=((q+1:Nat):Int) from rfl,Ed (q+1) (by omega),Cx (by omega) (by omega)]
    have l:(a:Int)*1099511627776≤((q+1:Nat):Int)*b:=by
     rw[j,Int.natCast_add,Int.add_mul]
     omega
    exact⟨_,rfl,by omega,by omega,λ_ _=>⟨by omega,by omega,c.2,by omega,l⟩,λ_ _=>l⟩
def WG {u:Type}(L:Nat) (f:Nat→Int→Int→Option u) (c:Int→Option u) (I:Nat→Int→Prop) (a:∀n (k:Nat) s,L≤k→f (n+1) s (k:Int)=c s) (b:∀n (k:Nat) s,I k s→k<L→1≤k→∃s',I (k+1) s'∧f (n+1) s (k:Int)=f n s' ((k+1:Nat):Int)):
  ∀n (k:Nat) s,I k s→1≤k→L<n+k→k≤L→∃s',I L s'∧f n s (k:Int)=c s'
 |0,k,s,_,_,v,i=>by omega
 |n+1,k,s,g,j,v,i=>by
  rcases rL k L with d|d
  ·obtain⟨l,m,o⟩:=b n k s g d j
   obtain⟨p,q,t⟩:=WG L f c I a b n (k+1) l m (by omega) (by omega) (by omega)
   exact⟨p,q,o.trans t⟩
  ·have:k=L:=by omega
   subst this
   exact⟨s,g,a n k s d⟩
def RA (N:Nat) (c:List BS) (m:Nat) (s:Int):Prop:=∀k l r,k+1<m→c[k]? =some l→c[k+1]? =some r→sl N (r.Q-l.Q) (r.K-l.K)≤s
def U3 {N:Nat}(v:18446744073709551616<N) {c:List BS}(b:EU c) (g:Int→Option Int) (a:Int) (j:0≤a∧a≤1099511627777):∃s,(a≤s∧s≤1099511627777∧RA N c c.length s)∧Cr N c g N a 1=g s:=by
 have w:=b.1
 have B:=b.2.1
 refine WG c.length (Cr N c g) g (λk s=>a≤s∧s≤1099511627777∧RA N c k s) (λn k s d=>by
  simp only[Cr];rw[E4 d];rfl) (λn k s p d C=>?_) N 1 a ⟨rN _,j.2,λk l r J=>by omega⟩ (by omega) (by omega) w
 obtain⟨D,F,x⟩:=p
 have m:c[k]? =some c[k]:=by simp [d]
 have o:c[k-1]? =some c[k-1]:=by simp
 have G:=b.step o (q:=c[k]) (by rw[show k-1+1=k by omega];exact m)
 have y:=b.vol m
 have z:=b.vol o
 unfold Hu at y z
 simp only[Cr]
 have A:Bw ((k:Int)-1)=((k-1:Nat):Int):=by rw[Cx (by omega) (by omega)];omega
 rw[En d,qO,A,BR d,BR (show k-1<c.length by omega)]
 simp only[qN,BT (show k<4611686018427387904 by omega)]
 rw[Cx (n:=(c[k]).Q-(c[k-1]).Q) (by omega) (by omega),Cx (n:=(c[k]).K-(c[k-1]).K) (by omega) (by omega)]
 obtain⟨v1,H,I,_⟩:=Gi v (num:=(c[k]).Q-(c[k-1]).Q) (den:=(c[k]).K-(c[k-1]).K) (by omega) (by omega)
 rw[v1]
 refine⟨_,⟨?_,?_,?_⟩,rfl⟩
 ·omega
 ·omega
 ·intro i l r p t u
  by_cases e:i+1=k
  ·subst e
   cases m.symm.trans u
   have:l=c[i+1-1]:=by
    have:=o.symm.trans (show c[i+1-1]? =some l by rw[vE];exact t)
    exact(qS this).symm
   rw[this]
   omega
  ·have:=x i l r (by omega) t u
   omega
def Xg (N:Nat) (l:BL):Int:=(Fa N [l.Af,l.Y.Ar,l.Y.Aw]).getD 0
def Oc {N:Nat}(b:18446744073709551616<N) {l:BL}(j:EU l.Af) (m:EU l.Y.Ar) (n:EU l.Y.Aw):Fa N [l.Af,l.Y.Ar,l.Y.Aw]=some (Xg N l)∧0≤Xg N l∧Xg N l≤1099511627777∧RA N l.Y.Ar l.Y.Ar.length (Xg N l)∧RA N l.Af l.Af.length (Xg N l):=by
 suffices D:∃s,Fa N [l.Af,l.Y.Ar,l.Y.Aw]=some s∧0≤s∧s≤1099511627777∧RA N l.Y.Ar l.Y.Ar.length s∧RA N l.Af l.Af.length s by
  obtain⟨s,e,D⟩:=D
  have:Xg N l=s:=by unfold Xg;rw[e];rfl
  rw[this]
  exact⟨e,D⟩
 unfold Fa
 obtain⟨M,rfl⟩:∃M,N=M+4:=⟨N-4,by omega⟩
 obtain⟨g,⟨v,w,o⟩,p⟩:=U3 b j (DG (M+4) 0 (CU (M+4) [l.Af,l.Y.Ar,l.Y.Aw] (Cs (M+4)) (M+3))) 0 (by omega)
 obtain⟨i,⟨z,A,q⟩,t⟩:=U3 b m (DG (M+4) 1 (CU (M+4) [l.Af,l.Y.Ar,l.Y.Aw] (Cs (M+4)) (M+2))) g (by omega)
 obtain⟨a,⟨B,C,_⟩,u⟩:=U3 b n (DG (M+4) 2 (CU (M+4) [l.Af,l.Y.Ar,l.Y.Aw] (Cs (M+4)) (M+1))) i (by omega)
 refine⟨a,?_,by omega,by omega,λk x y D c d=>by have:=q k x y D c d;omega,λk x y D c d=>by have:=o k x y D c d;omega⟩
 show Cr (M+4) l.Af (DG (M+4) 0 (CU (M+4) [l.Af,l.Y.Ar,l.Y.Aw] (Cs (M+4)) (M+3))) (M+4) 0 1=some a
 rw[p]
 show Cr (M+4) l.Y.Ar (DG (M+4) 1 (CU (M+4) [l.Af,l.Y.Ar,l.Y.Aw] (Cs (M+4)) (M+2))) (M+4) g 1=some a
 rw[t]
 show Cr (M+4) l.Y.Aw (DG (M+4) 2 (CU (M+4) [l.Af,l.Y.Ar,l.Y.Aw] (Cs (M+4)) (M+1))) (M+4) i 1=some a
 rw[u]
 rfl
def Vz {N:Nat}(o:18446744073709551616<N) {c:List BS}(b:EU c) {s:Int}(h0:0≤s) (y:s≤1099511627776) (z:RA N c c.length s):Xk (KE c) s:=by
 intro k l r g a
 have t:=QT b k l r g a
 rcases XV g with ⟨rfl,e⟩|⟨m,rfl,hm⟩|⟨rfl,e⟩
 ·have u:c[0]? =some r:=by rw[←NN c (by have:=b.1;omega)];exact a
  have d:l.Q=r.Q:=by rw[e,←QI u]
  rw[d,Int.sub_self,Int.zero_mul]
  exact tZ h0 (by omega)
 ·have v:=(rB.1 hm).1
  by_cases d:m+1<c.length
  ·rw[NN c d] at a
   have w:=z m l r d hm a
   have v1:=b.vol hm
   have x:=b.vol a
   unfold Hu at v1 x
   obtain⟨_,_,_,_,q⟩:=Gi o (num:=r.Q-l.Q) (den:=r.K-l.K) (by omega) (by omega)
   have q:=q (by omega) (by omega)
   exact Int.le_trans q (tF w (by omega))
  ·have i:m+1=c.length:=by omega
   rw[i,Ub] at a
   cases a
   have j:=QG (c:=c) (p:=l) (by rw[←i,vE];exact hm)
   rw[j,Int.sub_self,Int.zero_mul]
   rw[j] at t
   exact tZ h0 (by omega)
 ·have n:(KE c).length=c.length+2:=by simp [KE]
  have:=(rB.1 a).1
  omega
structure iT (N:Nat) (b:AU) (l:BL):Prop where
 base:IA b l
 gate:l.B=0→Gh N l.Y.Ar l.Af=some true∧Gh N l.Af l.Y.Aw=some true∧(0≤l.R∧l.R≤64)∧(0≤l.Ab∧l.Ab≤l.R)∧(0≤l.Aj∧l.Aj≤1125899906842624)∧(l.Aa=0→l.Ac=0)∧(l.C≠ -1∨l.Aa=0)
 weir:l.B=1∨l.B=5→0≤l.Al∧l.Al≤1125899906842624
 pump:l.B=2→(0≤l.L∧l.L≤1125899906842624)∧(1≤l.R∧l.R≤64)∧(0≤l.Ab∧l.Ab≤l.R)
 siph:l.B=3→(0≤l.Ah∧l.Ah≤1125899906842624)∧(0≤l.Ai∧l.Ai≤1125899906842624)∧l.Ai<l.Ah
 seep:l.B=4→(l.Aa=0→l.Ac=0)
 none_:l.B≠0→l.B≠2→l.R=0∧l.Ab=0
def WP {a b:Int}(d:SA a b=true):b=0→a=0:=by
 intro c
 simp only[SA,qT,rI,rJ] at d
 exact d.2.resolve_left λd=>d c
def VT {N:Nat}(t:18446744073709551616<N) {b:AU}{l:BL}(d:IA b l) (V:Fk N l=some true) (a:Fj N l=some true):iT N b l:=by
 have H:=d.kind
 have k:l.B≠0→l.B≠2→l.R=0∧l.Ab=0:=by
  intro h0 g
  unfold Fj at a
  rw[rD h0,rF g] at a
  simp only[Bool.not_false,Bool.true_and] at a
  cases n:(decide (0<(l.Af.length:Int))||decide (0<(l.Y.Ar.length:Int))||decide (0<(l.Y.Aw.length:Int))||decide (l.Aj≠0)) with
  |true=>rw[n] at a;cases a
  |false=>
   rw[n,qQ] at a
   cases i:(decide (l.R≠0)||decide (l.Ab≠0)) with
   |true=>rw[i] at a;cases a
   |false=>
    simp only[rS,rO] at i
    exact⟨Decidable.not_not.1 i.1,Decidable.not_not.1 i.2⟩
 unfold Fk at V
 by_cases k0:l.B=0
 ·obtain⟨n,i,A,I,J⟩:=d.gate k0
  obtain⟨K,u⟩:=OZ t l.Y.Ar l.Af
  obtain⟨M,v⟩:=OZ t l.Af l.Y.Aw
  rw[rF k0,qO,Mh (by omega) n,Mh (by omega) i,Mh (by omega) A] at V
  simp only[u,v,ML,LV,Oq,qN,GC,OJ] at V
  have V:=qS V
  simp only[qT,rI,rJ] at V
  obtain⟨⟨⟨⟨⟨⟨⟨⟨⟨_,_⟩,_⟩,o⟩,q⟩,C⟩,D⟩,F⟩,G⟩,s⟩:=V
  subst o;subst q
  exact⟨d,λ_=>⟨u,v,KB C,KB D,Kb F,WP G,s⟩,λV=>by omega,λV=>by omega,λV=>by omega,λV=>by omega,k⟩
 ·rw[rD k0,qQ] at V
  have w:∀c:Bool,(c=true↔l.B=1∨l.B=5)→EB N l c=some true→iT N b l:=by
   intro c x V
   unfold EB at V
   simp only[ML,LV,Oq,qN,GC,OJ] at V
   cases c
   ·have Q:¬(l.B=1∨l.B=5):=λV=>by have:=x.2 V;cases this
    rw[qQ] at V
    by_cases y:l.B=2
    ·rw[rF y,qO] at V
     have V:=qS V
     simp only[qT] at V
     obtain⟨⟨m,g⟩,j⟩:=V
     exact⟨d,λV=>by omega,λV=>by omega,λ_=>⟨Kb m,KB g,KB j⟩,λV=>by omega,λV=>by omega,k⟩
    ·rw[rD y,qQ] at V
     by_cases z:l.B=3
     ·rw[rF z,qO] at V
      have V:=qS V
      simp only[qT,rJ] at V
      obtain⟨⟨⟨⟨m,g⟩,j⟩,o⟩,q⟩:=V
      exact⟨d,λV=>by omega,λV=>by omega,λV=>by omega,λ_=>⟨Kb j,Kb o,q⟩,λV=>by omega,k⟩
     ·rw[rD z,qQ] at V
      have V:=qS V
      simp only[qT,rJ] at V
      obtain⟨⟨⟨m,g⟩,j⟩,o⟩:=V
      exact⟨d,λV=>by omega,λV=>by omega,λV=>by omega,λV=>by omega,λ_=>WP j,k⟩
   ·have U:=x.1 rfl
    rw[qO] at V
    have V:=qS V
    simp only[qT] at V
    obtain⟨⟨m,g⟩,j⟩:=V
    exact⟨d,λV=>by omega,λ_=>Kb m,λV=>by omega,λV=>by omega,λV=>by omega,k⟩
  by_cases p:l.B=1
  ·rw[rF p,qO] at V
   exact w true (by simp [p]) V
  ·rw[rD p,qQ] at V
   exact w _ (by simp [p]) V
def R4 {N:Nat}(c:18446744073709551616<N) {b:AU}(d:IB b) (p:∀l∈b.E,IA b l) (z:EE N b=some true):∀l∈b.E,iT N b l:=by
 have v:=d.pl
 have w:=d.li
 unfold EE at z
 rcases IZ b.E.length (Cf N b (DY N)) (DY N) (λi=>∀l,b.E[i]? =some l→iT N b l) (λn k z=>by
  simp only[Cf];rw[E4 z];rfl) (λn k z=>by
  simp only[Cf]
  obtain⟨x,g,y⟩:=SD c b.E[k]
  obtain⟨q,j⟩:=Rm N b.E[k]
  rw[En z,qO,BR z]
  simp only[qN,ML,Om N _ (show b.A.length<4611686018427387904 by omega),Nf N b _ _ (show b.A.length<4611686018427387904 by omega),g,j,GC,Ke,BT (show k<4611686018427387904 by omega)]
  generalize m:(_|| !q)=B
  cases B
  ·simp only[rS,tP] at m
   obtain⟨⟨_,s⟩,t⟩:=m
   subst s;subst t
   refine .inr ⟨λl a=>?_,rfl⟩
   have:l=b.E[k]:=by simpa [z] using a.symm
   rw[this]
   exact VT c (p _ (rH z)) g j
  ·exact .inl rfl) N 0 (by omega) (qW _) with u|⟨hp,_⟩
 ·rw[show Cf N b (DY N) N 0=some false from u] at z;cases z
 ·intro l a
  obtain⟨i,o,rfl⟩:=tQ.1 a
  exact hp i (qW _) o _ (by simp [o])
def J7 (N:Nat) (l:BL):Int:=if l.B=0 then Xg N l else if l.B=1∨l.B=5∨l.B=3 then sl N l.L l.I else if l.B=4 then 2*sl N l.L l.I else 0
def Mv (N:Nat) (l:BL):Int:=if l.B=0∧l.C≠ -1 then sl N l.Ac l.Aa else if l.B=4 then 2*sl N l.Ac l.Aa else 0
def MY (N:Nat) (l:BL) (i:Nat):Int:=(if l.G=(i:Int) then J7 N l else 0)+(if l.C=(i:Int) then Mv N l else 0)
def FL {n:Int}(a:Hu n):0≤n∧n≤1125899906842624:=a
def Sc {N:Nat}(a:18446744073709551616<N) {b:AU}{l:BL}(d:IA b l):(0≤J7 N l∧J7 N l≤2199023255554)∧(0≤Mv N l∧Mv N l≤2199023255554):=by
 unfold J7 Mv
 by_cases k0:l.B=0
 ·obtain⟨k,m,n,o,p⟩:=d.gate k0
  obtain⟨_,v,w,_⟩:=Oc a k m n
  obtain⟨_,j,t2,_⟩:=Gi a (FL o) (FL p)
  rw[qR k0]
  refine⟨by omega,?_⟩
  split
  ·omega
  ·rw[qP (by omega)];omega
 ·rw[qP k0,qP (show ¬(l.B=0∧l.C≠ -1) from λz=>k0 z.1)]
  by_cases g:l.B=1∨l.B=5∨l.B=3
  ·obtain⟨i,q,s⟩:=d.part g
   obtain⟨_,j,t2,_⟩:=Gi a (FL i) (show 0≤l.I∧l.I≤_ by omega)
   rw[qR g,qP (by omega)]
   omega
  ·rw[qP g]
   by_cases c:l.B=4
   ·obtain⟨i,q,s,t,u,_⟩:=d.seep c
    obtain⟨_,j,t2,_⟩:=Gi a (FL i) (show 0≤l.I∧l.I≤_ by omega)
    obtain⟨_,x,y,_⟩:=Gi a (FL t) (FL u)
    rw[qR c,qR c]
    omega
   ·rw[qP c,qP c]
    omega
def ZU {N:Nat}(a:18446744073709551616<N) {b:AU}{l:BL}(c:IA b l) (i:Nat):0≤MY N l i∧MY N l i≤4398046511108:=by
 obtain⟨d,g⟩:=Sc a c
 unfold MY
 split<;>split<;>omega
def Holds (n:Nat) (s:List Int) (g:Nat→Int):Prop:=s.length=n∧∀i,i<n→s[i]? =some (g i)
def Holds.ix {n:Nat}{s:List Int}{g:Nat→Int}(c:Holds n s g) {a:Int}(h0:0≤a) (b:a<n):ix s a=some (g a.toNat):=by
 unfold Go.Proofs.YtblcgjadhemlbaaGreat.ix
 rw[qP (by omega)]
 exact c.2 _ (by omega)
def Holds.upd {n:Nat}{s:List Int}{g:Nat→Int}(j:Holds n s g) {a:Int}(h0:0≤a) (c:a<n) (v:Int):Holds n (upd s a v) (λi=>if (i:Int)=a then v else g i):=by
 refine⟨by rw[Ki,j.1],λi b=>?_⟩
 unfold Go.Proofs.YtblcgjadhemlbaaGreat.upd
 rw[List.getElem?_set]
 have d:=j.1
 show _=some (if (i:Int)=a then v else g i)
 by_cases e:(i:Int)=a
 ·rw[qR (by omega),qR (by omega),qR e]
 ·rw[qP (by omega),qP e]
  exact j.2 i b
def Holds.congr {n:Nat}{s:List Int}{g a:Nat→Int}(c:Holds n s g) (e:∀i,i<n→g i=a i):Holds n s a:=⟨c.1,λi b=>(c.2 i b).trans (rE some (e i b))⟩
def Vx {N:Nat}(u:18446744073709551616<N) (b:AU) (M:IB b) (hl:∀l∈b.E,IA b l) (w:List Int→Option Bool):∀(n k:Nat) (s:List Int) (g:Nat→Int),Holds b.A.length s g→(∀i,0≤g i∧g i≤(1+4*(k:Int))*1099511627777)→b.E.length<n+k→k≤b.E.length→
  ∃s',Holds b.A.length s' (λi=>g i+((b.E.drop k).map λl=>MY N l i).sum)∧BW N b w n (k:Int) s=w s'
 |0,k,s,g,q,_,h,hk=>by omega
 |n+1,k,s,g,q,hg,h,hk=>by
  have q3:=M.pl
  have q4:=M.li
  simp only[BW]
  rcases rL k b.E.length with p|p
  ·rw[En p,qO,BR p]
   simp only[qN]
   have v:=hl b.E[k] (rH p)
   rw[uJ p]
   generalize b.E[k]=l at v
   have sp:=Sc u v
   have aa:=v.to
   have j:=v.fr
   have F:∀s:List Int,Holds b.A.length s (λi=>g i+MY N l i)→∃s',Holds b.A.length s' (λi=>g i+((l::b.E.drop (k+1)).map λl=>MY N l i).sum)∧CN N (k:Int) (BW N b w n) s=w s':=λs q=>by
    unfold CN
    rw[BT (show k<4611686018427387904 by omega)]
    obtain⟨s',H,Q⟩:=Vx u b M hl w n (k+1) s _ q (λi=>by have:=hg i;have:=ZU u v i;omega) (by omega) (by omega)
    exact⟨s',H.congr λi _=>by simp only[sM,sU];omega,Q⟩
   have m:∀i,0≤g i∧g i≤4503599627370496:=λi=>by have:=hg i;omega
   have U:=q.ix j.1 j.2
   have gx:=m l.G.toNat
   have V:∀c:Bool,(c=true↔l.B=1∨l.B=5∨l.B=3)→l.B≠0→∃s',Holds b.A.length s' (λi=>g i+((l::b.E.drop (k+1)).map λl=>MY N l i).sum)∧DP N s l (CN N (k:Int) (BW N b w n)) c=w s':=λc p k0=>by
    unfold DP
    cases c
    ·have hn:¬(l.B=1∨l.B=5∨l.B=3):=λh=>by have:=p.2 h;cases this
     rw[qQ]
     by_cases x:l.B=4
     ·rw[rF x,qO]
      obtain⟨H,Q,h3,h4,h5,h6⟩:=v.seep x
      obtain⟨J,v1,v2,_⟩:=Gi u (FL H) (show 0≤l.I∧l.I≤_ by omega)
      obtain⟨y,v3,v4,_⟩:=Gi u (FL h4) (FL h5)
      have D:=q.upd j.1 j.2 (Bw (g l.G.toNat+Bw (2*sl N l.L l.I)))
      have z:=D.ix (a:=l.C) (by omega) (by omega)
      simp only[U,J,z,y,qN]
      refine F _ ((D.upd (a:=l.C) (by omega) (by omega) _).congr λi W=>?_)
      have gi:=m i
      have gt:=m l.C.toNat
      unfold MY J7 Mv
      rw[qP k0,qP hn,qR x,qP (show ¬(l.B=0∧l.C≠ -1) from λh=>k0 h.1),qR x]
      rw[Cx (n:=2*sl N l.L l.I) (by omega) (by omega),Cx (n:=2*sl N l.Ac l.Aa) (by omega) (by omega),Cx (n:=g l.G.toNat+2*sl N l.L l.I) (by omega) (by omega)]
      by_cases t:(i:Int)=l.C
      ·have X:l.C.toNat=i:=by omega
       rw[qR t,qR t.symm,X]
       by_cases d:(i:Int)=l.G
       ·have o:l.G.toNat=i:=by omega
        rw[qR d,qR d.symm,o,Cx (by omega) (by omega)]
        omega
       ·rw[qP d,qP (show ¬l.G=(i:Int) from λh=>d h.symm),Cx (by omega) (by omega)]
        omega
      ·rw[qP t,qP (show ¬l.C=(i:Int) from λh=>t h.symm)]
       by_cases d:(i:Int)=l.G
       ·have o:l.G.toNat=i:=by omega
        rw[qR d,qR d.symm,o]
        omega
       ·rw[qP d,qP (show ¬l.G=(i:Int) from λh=>d h.symm)]
        omega
     ·rw[rD x,qQ]
      refine F s (q.congr λi _=>?_)
      unfold MY J7 Mv
      rw[qP k0,qP hn,qP x,qP (show ¬(l.B=0∧l.C≠ -1) from λh=>k0 h.1),qP x]
      split<;>split<;>omega
    ·have hy:=p.1 rfl
     rw[qO]
     obtain⟨H,Q,h3⟩:=v.part hy
     obtain⟨J,v1,v2,_⟩:=Gi u (FL H) (show 0≤l.I∧l.I≤_ by omega)
     simp only[U,J,qN]
     refine F _ ((q.upd j.1 j.2 _).congr λi W=>?_)
     unfold MY J7 Mv
     rw[qP k0,qR hy,qP (show ¬(l.B=0∧l.C≠ -1) from λh=>k0 h.1),qP (show ¬l.B=4 by omega),Cx (by omega) (by omega)]
     by_cases d:(i:Int)=l.G
     ·have o:l.G.toNat=i:=by omega
      rw[qR d,qR d.symm,o]
      split<;>omega
     ·rw[qP d,qP (show ¬l.G=(i:Int) from λh=>d h.symm)]
      split<;>omega
   by_cases k0:l.B=0
   ·rw[rF k0,qO]
    obtain⟨c1,c2,c3,c4,c5⟩:=v.gate k0
    obtain⟨J,v1,v2,_⟩:=Oc u c1 c2 c3
    obtain⟨y,v3,v4,_⟩:=Gi u (FL c4) (FL c5)
    have D:=q.upd j.1 j.2 (Bw (g l.G.toNat+Xg N l))
    simp only[U,J,qN]
    by_cases K:l.C= -1
    ·rw[show decide (l.C≠ -1)=false by simp [K],qQ]
     refine F _ (D.congr λi W=>?_)
     unfold MY J7 Mv
     rw[qR k0,qP (show ¬(l.B=0∧l.C≠ -1) from λh=>h.2 K),qP (show ¬l.B=4 by omega),Cx (by omega) (by omega)]
     by_cases d:(i:Int)=l.G
     ·have o:l.G.toNat=i:=by omega
      rw[qR d,qR d.symm,o]
      split<;>omega
     ·rw[qP d,qP (show ¬l.G=(i:Int) from λh=>d h.symm)]
      split<;>omega
    ·rw[show decide (l.C≠ -1)=true by simp [K],qO]
     have z:=D.ix (a:=l.C) (by omega) (by omega)
     simp only[z,y,qN]
     refine F _ ((D.upd (a:=l.C) (by omega) (by omega) _).congr λi W=>?_)
     have gi:=m i
     have gt:=m l.C.toNat
     unfold MY J7 Mv
     rw[qR k0,qR (show l.B=0∧l.C≠ -1 from⟨k0,K⟩),Cx (n:=g l.G.toNat+Xg N l) (by omega) (by omega)]
     by_cases t:(i:Int)=l.C
     ·have X:l.C.toNat=i:=by omega
      rw[qR t,qR t.symm,X]
      by_cases d:(i:Int)=l.G
      ·have o:l.G.toNat=i:=by omega
       rw[qR d,qR d.symm,o,Cx (by omega) (by omega)]
       omega
      ·rw[qP d,qP (show ¬l.G=(i:Int) from λh=>d h.symm),Cx (by omega) (by omega)]
       omega
     ·rw[qP t,qP (show ¬l.C=(i:Int) from λh=>t h.symm)]
      by_cases d:(i:Int)=l.G
      ·have o:l.G.toNat=i:=by omega
       rw[qR d,qR d.symm,o]
       omega
      ·rw[qP d,qP (show ¬l.G=(i:Int) from λh=>d h.symm)]
       omega
   ·rw[rD k0,qQ]
    by_cases Y:l.B=1
    ·rw[rF Y,qO]
     exact V true ⟨λ_=> .inl Y,λ_=>rfl⟩ k0
    ·rw[rD Y,qQ]
     by_cases Z:l.B=5
     ·rw[rF Z,qO]
      exact V true ⟨λ_=> .inr (.inl Z),λ_=>rfl⟩ k0
     ·rw[rD Z,qQ]
      exact V _ ⟨λh=> .inr (.inr (by simpa using h)),λh=>by simp;omega⟩ k0
  ·rw[E4 p]
   refine⟨s,q.congr λi _=>?_,rfl⟩
   rw[tJ p]
   simp
def U5 {N:Nat}(q:18446744073709551616<N) {b:AU}(t:IB b) (y:∀p∈b.A,HZ b p) (F:∀l∈b.E,IA b l) (W:Ev N b=some true):
  ∀(i:Nat) p,b.A[i]? =some p→sl N p.L p.I+(b.E.map λl=>MY N l i).sum≤1099511627776:=by
 have U:=t.pl
 have V:=t.li
 unfold Ev at W
 rw[show Jk (b.A.length:Int) (b.A.length:Int) 8=true by simp [Jk];omega] at W
 simp only[chk,qO] at W
 obtain⟨u,G,H⟩:=Ee b.A.length (λn i s=>C1 N b (Cj N b) n i s) (Cj N b) (λk s=>Holds b.A.length s (λi=>if i<k then sl N ((b.A.getD i default).L) ((b.A.getD i default).I) else 0)) (λn k s d=>by
  simp only[C1];rw[E4 d];rfl) (λn k s c d=>by
  have j:=y b.A[k] (rH d)
  obtain⟨z,v1,J,_⟩:=Gi q (FL j.num) (FL j.den)
  have o:=c.ix (a:=(k:Int)) (by omega) (by omega)
  simp only[C1]
  rw[En d,qO,BR d]
  simp only[qN,z,o,BT (show k<4611686018427387904 by omega)]
  refine⟨_,(c.upd (a:=(k:Int)) (by omega) (by omega) (sl N b.A[k].L b.A[k].I)).congr λi K=>?_,rfl⟩
  by_cases e:i=k
  ·subst e
   rw[qR rfl,qR (by omega),rR,rC d]
   rfl
  ·rw[qP (by omega)]
   by_cases B:i<k
   ·rw[qR B,qR (by omega)]
   ·rw[qP B,qP (by omega)]) N 0 (List.replicate ((b.A.length:Int):Int).toNat 0) ⟨by simp,λi c=>by simp [c]⟩ (by omega) (qW _)
 rw[show C1 N b (Cj N b) N 0 (List.replicate ((b.A.length:Int):Int).toNat 0)=Cj N b u from H] at W
 unfold Cj at W
 have v:∀i,0≤(if i<b.A.length then sl N ((b.A.getD i default).L) ((b.A.getD i default).I) else 0)∧(if i<b.A.length then sl N ((b.A.getD i default).L) ((b.A.getD i default).I) else 0)≤(1+4*((0:Nat):Int))*1099511627777:=by
  intro i
  split
  ·rename_i c
   have j:=y b.A[i] (rH c)
   obtain⟨z,v1,J,_⟩:=Gi q (FL j.num) (FL j.den)
   rw[rR,rC c]
   simp only[rZ]
   omega
  ·omega
 obtain⟨g,C,M⟩:=Vx q b t F (CO N) N 0 u _ G v (by omega) (qW _)
 rw[show BW N b (CO N) N 0 u=CO N g from M] at W
 unfold CO at W
 have Q:=C.1
 rcases IZ g.length (C0 N g (Da N)) (Da N) (λi=>∀x,g[i]? =some x→x≤1099511627776) (λn k W=>by
  simp only[C0];rw[E4 W];rfl) (λn k W=>by
  simp only[C0]
  rw[En W,qO,BR W]
  simp only[qN,BT (show k<4611686018427387904 by omega)]
  by_cases o:1099511627776<g[k]
  ·rw[rF o];exact .inl rfl
  ·rw[rD o]
   refine .inr ⟨λx e=>?_,rfl⟩
   rw[rC W] at e
   cases e
   omega) N 0 (by omega) (qW _) with w|⟨w,_⟩
 ·rw[show C0 N g (Da N) N 0=some false from w] at W;cases W
 ·intro i p m
  have c:=(rB.1 m).1
  have D:(if i<b.A.length then sl N (b.A.getD i default).L (b.A.getD i default).I else 0)+((b.E.drop 0).map λl=>MY N l i).sum≤1099511627776:=w i (qW _) (by omega) _ (C.2 i c)
  rw[qR c,rR,m] at D
  exact D
structure W2 (N:Nat) (b:AU):Prop where
 head:IB b
 places:∀p∈b.A,HZ b p
 links:∀l∈b.E,IA b l
 lk:∀l∈b.E,iS N l (J7 N l) (Mv N l)
 ctr0:∀l∈b.E,∀i,0≤MY N l i
 rt:∀p∈b.A,p.I≠0→Va p.L p.I (sl N p.L p.I)
 rt0:∀p∈b.A,0≤sl N p.L p.I
 sums:∀(i:Nat) p,b.A[i]? =some p→sl N p.L p.I+(b.E.map λl=>MY N l i).sum≤1099511627776
def pE {N:Nat}(a:18446744073709551616<N) {b:AU}{l:BL}(h:iT N b l) (c:J7 N l≤1099511627776) (g:l.C≠ -1→Mv N l≤1099511627776):iS N l (J7 N l) (Mv N l):=by
 have j:=h.base
 have x:=Sc a j
 have hk:=j.kind
 refine⟨x.1.1,x.2.1,λk0=>?_,λQ=>?_,λk=>⟨(h.pump k).1,(h.pump k).2.1⟩,λy=>?_,λp=>?_,?_⟩
 ·obtain⟨z,q,D,U,V⟩:=j.gate k0
  obtain⟨t,u,v,W,F,G,X⟩:=h.gate k0
  obtain⟨_,Y,s2,Z,_⟩:=Oc a z q D
  have i:J7 N l=Xg N l:=by unfold J7;rw[qR k0]
  rw[i] at c ⊢
  refine⟨z,q,D,t,u,v,F,Vz a q Y c Z,λH=>?_⟩
  have w:Mv N l=sl N l.Ac l.Aa:=by unfold Mv;rw[qR (show l.B=0∧l.C≠ -1 from⟨k0,H⟩)]
  have g:=g H
  rw[w] at g ⊢
  exact(Gi a (FL U) (FL V)).2.2.2.1 g G
 ·obtain⟨m,J,K⟩:=j.part (by omega)
  have i:J7 N l=sl N l.L l.I:=by unfold J7;rw[qP (show ¬l.B=0 by omega),qR (show l.B=1∨l.B=5∨l.B=3 by omega)]
  rw[i] at c ⊢
  exact⟨(Gi a (FL m) (show 0≤l.I∧l.I≤_ by omega)).2.2.2.1 c (λh=>by omega),h.weir Q⟩
 ·obtain⟨m,J,K⟩:=j.part (by omega)
  have i:J7 N l=sl N l.L l.I:=by unfold J7;rw[qP (show ¬l.B=0 by omega),qR (show l.B=1∨l.B=5∨l.B=3 by omega)]
  rw[i] at c ⊢
  exact⟨(Gi a (FL m) (show 0≤l.I∧l.I≤_ by omega)).2.2.2.1 c (λh=>by omega),(h.siph y).1,(h.siph y).2.1⟩
 ·obtain⟨m,J,K,p4,p5,M⟩:=j.seep p
  have i:J7 N l=2*sl N l.L l.I:=by unfold J7;rw[qP (show ¬l.B=0 by omega),qP (show ¬(l.B=1∨l.B=5∨l.B=3) by omega),qR p]
  have w:Mv N l=2*sl N l.Ac l.Aa:=by unfold Mv;rw[qP (show ¬(l.B=0∧l.C≠ -1) by omega),qR p]
  have g:=g M
  rw[i] at c ⊢
  rw[w] at g ⊢
  obtain⟨_,a1,_,a2,_⟩:=Gi a (FL m) (show 0≤l.I∧l.I≤_ by omega)
  obtain⟨_,b1,_,b2,_⟩:=Gi a (FL p4) (FL p5)
  have A:=a2 (by omega) (λh=>by omega)
  have B:=b2 (by omega) (h.seep p)
  have o:∀{n d s:Int},Va n d s→Va n d (2*s):=λ{n d s} h=>by
   have h0:=h.n0
   have h1:=h.nd
   have h2:=h.s0
   refine⟨h0,h1,h.dm,by omega,Int.le_trans h.sl (tF (by omega) (by omega))⟩
  exact⟨o A,o B,M⟩
 ·by_cases k0:l.B=0
  ·obtain⟨t,u,v,W,F,G,X⟩:=h.gate k0
   omega
  ·by_cases k:l.B=2
   ·obtain⟨t,u,v⟩:=h.pump k
    omega
   ·have:=h.none_ k0 k
    omega
def gR {N:Nat}(j:18446744073709551616<N) {b:AU}(h:GB N b=some true):W2 N b∧J1 b:=by
 obtain⟨v,e,k⟩:=Qm j b
 rw[h] at e
 cases e
 have k:=k rfl
 have m:EE N b=some true∧Ev N b=some true:=by
  unfold GB at h
  obtain⟨y9,_,h⟩:=bd h
  obtain⟨aa,ab,h⟩:=bd h
  obtain⟨ac,ad,h⟩:=bd h
  obtain⟨ae,w,h⟩:=bd h
  obtain⟨af,B,h⟩:=bd h
  obtain⟨ag,D,h⟩:=bd h
  obtain⟨ah,F,h⟩:=bd h
  obtain⟨ai,H,h⟩:=bd h
  obtain⟨aj,J,h⟩:=bd h
  have n:∀{c:Bool} {x:Option Bool} {d:Bool},cond c (x.bind λy=>some y) (some false)=some d→d=true→c=true∧x=some true:=by
   intro c x d K hd
   subst hd
   cases c
   ·cases K
   ·cases x with
    |none=>cases K
    |some y=>exact⟨rfl,K⟩
  have M:=qS h
  have Q:=n J M
  have U:=n H Q.1
  have V:=n F U.1
  have o:=n D V.1
  have W:=n B o.1
  have X:=n w W.1
  exact⟨X.2,o.2⟩
 have lf:=R4 j k.head k.links m.1
 have sm:=U5 j k.head k.places k.links m.2
 have t:∀l∈b.E,∀i,0≤MY N l i:=λl a i=>(ZU j (k.links l a) i).1
 have Y:∀p∈b.A,0≤sl N p.L p.I:=λp q=>(Gi j (FL (k.places p q).num) (FL (k.places p q).den)).2.1
 have one:∀l∈b.E,∀(i:Nat),i<b.A.length→MY N l i≤1099511627776:=λl a i u=>by
  have g:=sm i _ (rC u)
  have h2:=Y _ (rH u)
  obtain⟨x,y,e⟩:=List.append_of_mem a
  have hx:0≤(x.map λl=>MY N l i).sum:=Ni λz s=>t z (by rw[e];simp [s]) i
  have hy:0≤(y.map λl=>MY N l i).sum:=Ni λz s=>t z (by rw[e];simp [s]) i
  have e2:(b.E.map λl=>MY N l i).sum=(x.map λl=>MY N l i).sum+(MY N l i+(y.map λl=>MY N l i).sum):=by
   rw[e,tS,sT,sM,sU]
  omega
 refine⟨⟨k.head,k.places,k.links,λl a=>?_,t,λp q hd=>?_,Y,sm⟩,k⟩
 ·have sp:=Sc j (k.links l a)
  have fr:=(k.links l a).fr
  have to:=(k.links l a).to
  refine pE j (lf l a) ?_ λht=>?_
  ·have g:=one l a l.G.toNat (by omega)
   unfold MY at g
   rw[qR (show l.G=((l.G.toNat:Nat):Int) by omega)] at g
   split at g<;>omega
  ·have g:=one l a l.C.toNat (by omega)
   unfold MY at g
   rw[qR (show l.C=((l.C.toNat:Nat):Int) by omega)] at g
   split at g<;>omega
 ·obtain⟨i,u,rfl⟩:=tQ.1 q
  have g:=sm i _ (rC u)
  have h2:0≤(b.E.map λl=>MY N l i).sum:=Ni λz s=>t z s i
  have Z:=k.places _ q
  exact(Gi j (FL Z.num) (FL Z.den)).2.2.2.1 (by omega) (λh=>absurd h hd)
end Go.Proofs.YtblcgjadhemlbaaGreat
