import Derived.Test.YtblcgjadhemlbaaGreatVPureR1
import Derived.Test.YtblcgjadhemlbaaGreatVPureEx
namespace Go.Proofs.YtblcgjadhemlbaaGreat
set_option linter.all false
open Go.RowKit
structure T7 (l:BQ) (g:BH):Prop where
 pos:0≤g.V∧g.V≤l.T
 tgt:0≤g.W∧g.W≤l.T
 opn:g.Al=true→l.C=5∨l.C=3
def MQ (b:AU) (a:List BH):Prop:=a.length=b.E.length∧∀(k:Nat) l g,b.E[k]? =some l→a[k]? =some g→T7 l g
def QV (b:AU):Prop:=∀l∈b.E,(0≤l.T∧l.T≤64)∧0≤l.Z∧l.Z≤l.T
def MQ.at_ {b:AU}{a:List BH}(j:MQ b a) {i:Int}{l:BQ}{g:BH}(c:ix b.E i=some l) (d:ix a i=some g):T7 l g:=j.2 _ _ _ (Eu c).2 (Eu d).2
def MQ.upd {b:AU}{j:List BH}(p:MQ b j) {i:Int}{l:BQ}{g:BH}(d:ix b.E i=some l) (m:T7 l g):MQ b (upd j i g):=by
 obtain⟨h0,d⟩:=Eu d
 refine⟨by rw[K0];exact p.1,λk n o c a=>?_⟩
 unfold Go.Proofs.YtblcgjadhemlbaaGreat.upd at a
 by_cases e:i.toNat=k
 ·rw[e] at d a
  rw[d] at c
  cases c
  rw[pU (by rw[p.1];exact(nK.1 d).1)] at a
  cases a
  exact m
 ·rw[pN e] at a
  exact p.2 k n o c a
def T7.fault {N:Nat}{l:BQ}{g a:BH}{k:Int}(m:T7 l g) (e:HL N l g k=some a):T7 l a:=by
 have d:∀c:Bool,Ga N l g k (Ft N g) c=some a→T7 l a:=λc e=>by
  unfold Ga at e
  cases c
  ·cases e;exact⟨m.pos,m.tgt,m.opn⟩
  ·by_cases b:l.C=5
   ·rw[nW b] at e
    cases e
    exact⟨m.pos,m.tgt,λ_=> .inl b⟩
   ·rw[nL b] at e
    cases e
    exact⟨m.pos,m.tgt,m.opn⟩
 unfold HL at e
 cases h0:decide (k=0)<;>rw[h0] at e
 ·cases i:decide (k=1)<;>rw[i] at e
  ·cases j:decide (k=2)<;>rw[j] at e
   ·exact d (decide (k=3)) e
   ·exact d true e
  ·cases e;exact⟨m.pos,m.tgt,m.opn⟩
 ·cases e;exact⟨m.pos,m.tgt,m.opn⟩
def T7.aim {N:Nat}{l:BQ}{g a:BH}{t:Int}(c:0≤l.T) (o:T7 l g) (e:Ih N l g t=some a):T7 l a:=by
 obtain⟨x,d,i,n,j⟩:=YT N l g t
 have b:a=x:=mZ (e.symm.trans d)
 have k:a.Al=g.Al:=by
  unfold Ih at e
  cases m:decide (l.T≠0)<;>rw[m] at e
  ·cases e;rfl
  ·obtain⟨y,_,e⟩:=bd e
   cases e;rfl
 exact⟨by rw[b,i];exact o.pos,by rw[b];exact j c o.tgt.1 o.tgt.2,by rw[k];exact o.opn⟩
def T7.move {N:Nat}{l:BQ}{g a:BH}(b:(0≤l.T∧l.T≤64)∧0≤l.Z∧l.Z≤l.T) (k:T7 l g) (e:HV N l g=some a):T7 l a:=by
 have i:gM N l g=a:=mZ ((Xd N l g).symm.trans e)
 have c:=(cJ N l g b.1.2 b.2 k.pos k.tgt).1
 rw[i] at c
 have d:a.W=g.W∧a.Al=g.Al:=by
  unfold HV at e
  cases j:g.Aw<;>rw[j] at e
  ·rw[mX] at e
   obtain⟨_,_,e⟩:=bd e
   obtain⟨_,_,e⟩:=bd e
   obtain⟨_,_,e⟩:=bd e
   obtain⟨_,_,e⟩:=bd e
   cases e;exact⟨rfl,rfl⟩
  ·cases e;exact⟨rfl,rfl⟩
 exact⟨c,by rw[d.1];exact k.tgt,by rw[d.2];exact k.opn⟩
def T7.siphon {N:Nat}{l:BQ}{g b:BH}{v:Int}(d:T7 l g) (e:Gr N l g v=some b):T7 l b:=by
 unfold Gr at e
 by_cases a:l.C=3
 ·rw[show decide (l.C≠3)=false by simp [a],mX] at e
  cases c:decide (l.Ah≤v)<;>rw[c] at e
  ·cases hd:decide (v≤l.Ai)<;>rw[hd] at e<;>cases e
   ·exact⟨d.pos,d.tgt,λ_=> .inr a⟩
   ·exact⟨d.pos,d.tgt,λ_=> .inr a⟩
  ·cases e
   exact⟨d.pos,d.tgt,λ_=> .inr a⟩
 ·rw[show decide (l.C≠3)=true by simp [a],mW] at e
  cases e
  exact d
def RK {N:Nat}{w:A4}(j:QV w.b):∀(n:Nat) (i:Int) {a r:List BH},MQ w.b a→DM N w n i a=some r→MQ w.b r
 |0,_,_,_,_,e=>by cases e
 |n+1,i,a,r,q,e=>by
  simp only[DM] at e
  cases k:decide (i<(w.b.E.length:Int))<;>rw[k] at e
  ·cases e;exact q
  ·rw[mW] at e
   obtain⟨l,c,e⟩:=bd e
   obtain⟨o,_,e⟩:=bd e
   obtain⟨g,m,e⟩:=bd e
   obtain⟨p,d,e⟩:=bd e
   obtain⟨_,_,e⟩:=bd e
   obtain⟨_,_,e⟩:=bd e
   exact RK j n _ (q.upd c ((q.at_ c m).move (j l (oM (Eu c).2)) d)) e
def Ou {N:Nat}{w:A4}(a:QV w.b):∀(n:Nat) (i:Int) {c r:List BH},MQ w.b c→Co N w (C8 N w) n i c=some r→MQ w.b r
 |0,_,_,_,_,e=>by cases e
 |n+1,i,c,r,q,e=>by
  simp only[Co,F8] at e
  cases k:decide (i<(w.in_.Ar.length:Int))<;>rw[k] at e
  ·exact RK a N 0 q e
  ·rw[mW] at e
   obtain⟨x,_,e⟩:=bd e
   obtain⟨y,_,e⟩:=bd e
   cases y with
   |false=>exact Ou a n _ q e
   |true=>
    rw[mW] at e
    obtain⟨l,d,e⟩:=bd e
    obtain⟨o,_,e⟩:=bd e
    obtain⟨g,m,e⟩:=bd e
    obtain⟨p,j,e⟩:=bd e
    obtain⟨_,_,e⟩:=bd e
    obtain⟨_,_,e⟩:=bd e
    exact Ou a n _ (q.upd d ((q.at_ d m).aim (a l (oM (Eu d).2)).1.1 j)) e
def Ov {N:Nat}{w:A4}(a:QV w.b):∀(n:Nat) (i:Int) {c r:List BH},MQ w.b c→Cp N w (C9 N w) n i c=some r→MQ w.b r
 |0,_,_,_,_,e=>by cases e
 |n+1,i,c,r,q,e=>by
  simp only[Cp,F9] at e
  cases k:decide (i<(w.in_.Am.length:Int))<;>rw[k] at e
  ·exact Ou a N 0 q e
  ·rw[mW] at e
   obtain⟨x,_,e⟩:=bd e
   obtain⟨y,_,e⟩:=bd e
   cases y with
   |false=>exact Ov a n _ q e
   |true=>
    rw[mW] at e
    obtain⟨l,j,e⟩:=bd e
    obtain⟨o,_,e⟩:=bd e
    obtain⟨g,m,e⟩:=bd e
    obtain⟨p,d,e⟩:=bd e
    obtain⟨_,_,e⟩:=bd e
    obtain⟨_,_,e⟩:=bd e
    exact Ov a n _ (q.upd j ((q.at_ j m).fault d)) e
def SY {N:Nat}{w:A4}{y:List (List Int)×List BE}{o:List (List Int)}{j:List Int}:∀(n:Nat) (i:Int) {a:List BH}{r:List (List Int)×List BE×List BH×List Int},MQ w.b a→Ca N w y o j n i a=some r→MQ w.b r.2.2.1
 |0,_,_,_,_,e=>by cases e
 |n+1,i,a,r,t,e=>by
  simp only[Ca,Es] at e
  cases k:decide (i<(w.b.E.length:Int))<;>rw[k] at e
  ·cases e;exact t
  ·rw[mW] at e
   obtain⟨l,d,e⟩:=bd e
   cases m:decide (l.C=3)<;>rw[m] at e
   ·exact SY n _ t e
   ·rw[mW] at e
    obtain⟨q,_,e⟩:=bd e
    obtain⟨g,p,e⟩:=bd e
    obtain⟨_,_,e⟩:=bd e
    obtain⟨v,_,e⟩:=bd e
    obtain⟨s,c,e⟩:=bd e
    obtain⟨_,_,e⟩:=bd e
    obtain⟨_,_,e⟩:=bd e
    exact SY n _ (t.upd d ((t.at_ d p).siphon c)) e
def Va {N:Nat}{w:A4}{y:List (List Int)×List BE}:∀(n:Nat) (i:Int) {o:List (List Int)}{a:List Int}{r:List (List Int)×List BE×List BH×List Int},MQ w.b w.s.Q→Cq N w y (C6 N w y) n i o a=some r→MQ w.b r.2.2.1
 |0,_,_,_,_,_,e=>by cases e
 |n+1,i,o,a,r,d,e=>by
  simp only[Cq] at e
  cases c:decide (i<(w.b.A.length:Int))<;>rw[c] at e
  ·exact SY N 0 d e
  ·rw[mW] at e
   iterate 12 (replace e:=(bd e).choose_spec.2)
   exact Va n _ d e
def Sd (b:AU) (rem:List Int):Prop:=rem.length=b.A.length∧∀(k:Nat) p m,b.A[k]? =some p→rem[k]? =some m→0≤m∧m≤max 0 (p.L-1)
def Sd.upd {b:AU}{rem:List Int}(n:Sd b rem) {i:Int}{p:D1}{m:Int}(d:ix b.A i=some p) (g:0≤m∧m≤max 0 (p.L-1)):Sd b (upd rem i m):=by
 obtain⟨h0,d⟩:=Eu d
 refine⟨by rw[K0];exact n.1,λk j l c a=>?_⟩
 unfold Go.Proofs.YtblcgjadhemlbaaGreat.upd at a
 by_cases e:i.toNat=k
 ·rw[e] at d a
  rw[d] at c
  cases c
  rw[pU (by rw[n.1];exact(nK.1 d).1)] at a
  cases a
  exact g
 ·rw[pN e] at a
  exact n.2 k j l c a
def V5 {N:Nat}(g:18446744073709551616<N) {a:D1}(hd:0≤a.L∧a.L≤1125899906842624) {v m:Int}{y:Int×Int}(e:IE N a v m=some y):0≤y.2∧y.2≤max 0 (a.L-1):=by
 unfold IE at e
 rw[Mp g,mV] at e
 unfold fG at e
 split at e
 ·rename_i i
  obtain⟨_,_,⟨j,k⟩,_⟩:=i
  have l:=Int.emod_nonneg (v*a.S) (show a.L≠0 by omega)
  have o:=Int.emod_lt_of_pos (v*a.S) (show 0<a.L by omega)
  have d:∀b,0≤b→b<a.L→Gj N a (v*a.S/a.L,v*a.S%a.L,true) b=some y→0≤y.2∧y.2≤max 0 (a.L-1):=λb h0 p e=>by
   unfold Gj at e
   simp only at e
   rw[DG (n:=v*a.S%a.L+b) (by omega) (by omega)] at e
   by_cases q:v*a.S%a.L+b<a.L
   ·rw[nW q,mW] at e
    cases e
    show 0≤v*a.S%a.L+b∧v*a.S%a.L+b≤_
    omega
   ·rw[nL q,mX,DG (n:=v*a.S%a.L+b-a.L) (by omega) (by omega)] at e
    cases e
    show 0≤v*a.S%a.L+b-a.L∧v*a.S%a.L+b-a.L≤_
    omega
  simp only[oF,mX] at e
  cases c:(decide (0≤m)&&decide (m<a.L))<;>rw[c] at e
  ·exact d 0 (by omega) (by omega) e
  ·simp only[mY,nR] at c
   exact d m c.1 c.2 e
 ·simp only[Bool.not_false,mW] at e
  cases e
  show(0:Int)≤0∧(0:Int)≤_
  omega
def RL {N:Nat}{w:A4}{p:Int}{c:List AK}{d:List (List Int)→List Int→List BA→List BE→Option (List (List Int)×List Int×List Int×List BA×List BE)}:∀(n:Nat) (i:Int) {o:List (List Int)}{out:List Int}{a:List BA}{b:List BE}{r},DA N w p c d n i o out a b=some r→∃o out a b,d o out a b=some r
 |0,_,_,_,_,_,_,e=>by cases e
 |n+1,i,o,out,a,b,r,e=>by
  simp only[DA] at e
  cases g:decide (i<(c.length:Int))<;>rw[g] at e
  ·exact⟨_,_,_,_,e⟩
  ·rw[mW] at e
   iterate 3 (replace e:=(bd e).choose_spec.2)
   exact RL n _ e
def RO {N:Nat}{w:A4}{p:Int}{a:D1}{o:List (List Int)}{out:List Int}{b:List BA}{c:List BE}{rem:List Int}{r}(e:C4 N w p a o out b c rem=some r):r.2.1=rem:=by
 unfold C4 at e
 obtain⟨_,_,e⟩:=bd e
 obtain⟨_,_,e⟩:=bd e
 obtain⟨v,_,e⟩:=bd e
 cases d:decide (0<B0 (v-a.Aj))<;>rw[d] at e
 ·cases e;rfl
 ·rw[mW] at e
  obtain⟨_,_,e⟩:=bd e
  obtain⟨_,_,e⟩:=bd e
  cases e;rfl
def UW {N:Nat}(j:18446744073709551616<N) {w:A4}(c:∀p∈w.b.A,HR w.b p) {p:Int}{r}(u:Sd w.b w.s.M) (e:GS N w p=some r):Sd w.b r.2.1:=by
 unfold GS at e
 obtain⟨d,a,e⟩:=bd e
 obtain⟨_,_,e⟩:=bd e
 obtain⟨_,_,e⟩:=bd e
 obtain⟨q,_,e⟩:=bd e
 obtain⟨o,out,k,l,e⟩:=RL N 0 e
 have hd:=(c _ (oM (Eu a).2)).den
 unfold Ia at hd
 unfold Ew at e
 cases m:decide (d.L≠0)<;>rw[m] at e
 ·rw[RO e];exact u
 ·rw[mW] at e
  obtain⟨_,_,e⟩:=bd e
  obtain⟨_,_,e⟩:=bd e
  obtain⟨_,_,e⟩:=bd e
  obtain⟨_,_,e⟩:=bd e
  obtain⟨y,n,e⟩:=bd e
  obtain⟨_,_,e⟩:=bd e
  obtain⟨_,_,e⟩:=bd e
  obtain⟨_,_,e⟩:=bd e
  obtain⟨_,_,e⟩:=bd e
  obtain⟨t,_,e⟩:=bd e
  have h0:Sd w.b (upd w.s.M p 0):=u.upd a (by omega)
  have i:∀rem,EI N w p d o out k l y (C4 N w p d) rem=some r→r.2.1=rem:=λrem e=>by
   unfold EI at e
   obtain⟨_,_,e⟩:=bd e
   obtain⟨_,_,e⟩:=bd e
   exact RO e
  cases g:decide (y.1≤t)<;>rw[g] at e
  ·rw[i _ e];exact h0
  ·rw[mW] at e
   obtain⟨_,_,e⟩:=bd e
   obtain⟨_,_,e⟩:=bd e
   rw[i _ e]
   exact h0.upd a (V5 j hd n)
def TD {N:Nat}(j:18446744073709551616<N) {b:AU}(a:∀p∈b.A,HR b p) {in_:Eb}{s:BD}{y z}:∀(n:Nat) (i:Int) {o:List (List Int)}{c out:List Int}{d:List BA}{g:List BE}{r},Sd b c→EY N b in_ s y z (EZ N s y z) n i o c out d g=some r→Sd b r.1.M∧r.1.Q=z.2.2.1
 |0,_,_,_,_,_,_,_,_,e=>by cases e
 |n+1,i,o,c,out,d,g,r,m,e=>by
  simp only[EY] at e
  cases k:decide (i<(b.A.length:Int))<;>rw[k] at e
  ·rw[mX] at e
   unfold EZ at e
   obtain⟨_,e⟩:=Mc e
   cases e
   exact⟨m,rfl⟩
  ·rw[mW] at e
   obtain⟨x,l,e⟩:=bd e
   exact TD j a n _ (UW j (w:=(⟨b,in_,(⟨s.B,o,c,z.2.1,z.2.2.1,y.2.1,out⟩:BD),d,z.2.2.2,g⟩:A4)) a m l) e
def Ys {N:Nat}(u:18446744073709551616<N) {b:AU}(m:HD b) (c:∀p∈b.A,HR b p) (v:QV b) {s:BD}(d:jZ b s) {in_:Eb}{r}(e:Gz N b s in_=some r):Sd b r.1.M∧MQ b r.1.Q:=by
 have C:=m.pl
 have K:=m.li
 have U:=m.own
 have a:=d.rg.x
 have D:MQ b s.Q:=⟨a.gates,λk l g n o=>⟨(d.rg.gts k l g n o).1,(d.rg.gts k l g n o).2,d.opn k l g n o⟩⟩
 unfold Gz at e
 rw[RZ (by omega) (by have:=a.own.len;omega) (λx q=>by have:=(a.own.all x q).len;omega) (by have:=a.rem;omega) (by have:=a.gates;omega) (by have:=a.inn;omega) (by have:=a.out;omega),mV] at e
 obtain⟨_,e⟩:=Mc e
 obtain⟨t,i,e⟩:=bd e
 obtain⟨V,_,e⟩:=bd e
 obtain⟨y,_,e⟩:=bd e
 obtain⟨z,j,e⟩:=bd e
 have F:MQ b t:=by
  unfold GR at i
  exact Ov (w:=(⟨b,in_,s,([]:List BA),(List.replicate ((b.A.length:Int)).toNat (0:Int)),([]:List BE)⟩:A4)) v N 0 D i
 have G:MQ b z.2.2.1:=by
  unfold Ex at j
  obtain⟨_,_,j⟩:=bd j
  exact Va (w:=(⟨b,in_,(⟨s.B,y.1,s.M,s.J,t,y.2.1,s.P⟩:BD),y.2.2,(List.replicate ((b.A.length:Int)).toNat (0:Int)),([]:List BE)⟩:A4)) N 0 F j
 obtain⟨H,I⟩:=TD u c N 0 ⟨a.rem,d.rem⟩ e
 exact⟨H,by rw[I];exact G⟩
def RB {N:Nat}(p:D1) (i:Int→Option Bool) (l:p.As.length≤1000):∀(n:Nat) (s:Int) (k:Nat),0≤s→s+((p.As.length:Int)-k)*1125899906842624≤4611686018427387904→k≤p.As.length→C0 N p i n s (k:Int)=some true→i (s+(p.As.drop k).sum)=some true∧∀x∈p.As.drop k,0≤x∧x≤1125899906842624
 |0,s,k,h0,m,o,q=>by cases q
 |n+1,s,k,h0,m,o,q=>by
  simp only[C0] at q
  rcases nT k p.As.length with d|d
  ·rw[Ev d,mW,BS d,mV,Kk,mV,BX (by omega)] at q
   cases j:Qj p.As[k] with
   |false=>rw[j] at q;cases q
   |true=>
    have g:=Jn j
    unfold Ia at g
    rw[j,oF,mX,DG (n:=s+p.As[k]) (by omega) (by omega)] at q
    obtain⟨a,c⟩:=RB p i l n _ (k+1) (by omega) (by omega) (by omega) q
    rw[qY d,oU,←Int.add_assoc]
    refine⟨a,λx b=>?_⟩
    rcases nM.1 b with rfl|b
    ·exact g
    ·exact c x b
  ·rw[E7 d,mX] at q
   rw[pX d]
   exact⟨by rw[List.sum_nil,Int.add_zero];exact q,λx g=>by cases g⟩
def TU {N:Nat}(b:AU) (p:D1) (a:Int) (d:Int→Option Bool):∀(n:Nat) (s j:Int),Cz N b p a d n s j=some true→d a=some true
 |0,_,_,i=>by cases i
 |n+1,s,j,i=>by
  simp only[Cz] at i
  cases g:decide (j<(p.Aa.length:Int)) with
  |false=>rw[g] at i;exact i
  |true=>
   rw[g,mW] at i
   obtain⟨x,_,i⟩:=bd i
   obtain⟨c,_,i⟩:=bd i
   cases c with
   |true=>cases i
   |false=>exact TU b p a d n _ _ i
def QB {N:Nat}{b:AU}(o:HD b):∀(n:Nat) (s:Int) (k:Nat),0≤s→s+((b.A.length:Int)-k)*18014398509481984≤2305843009213693952→k≤b.A.length→B8 N b (CI N) n s (k:Int)=some true→s+((b.A.drop k).map λp=>p.As.sum).sum≤1125899906842624∧∀p∈b.A.drop k,p.As.length=b.H.length∧∀x∈p.As,0≤x
 |0,s,k,h0,B,C,Q=>by cases Q
 |n+1,s,k,h0,B,C,Q=>by
  have M:=o.own
  have D:=o.pl
  simp only[B8] at Q
  rcases nT k b.A.length with d|d
  ·rw[Ev d,mW,BS d,mV] at Q
   obtain⟨_,_,Q⟩:=bd Q
   obtain⟨_,_,Q⟩:=bd Q
   obtain⟨_,_,Q⟩:=bd Q
   obtain⟨_,_,Q⟩:=bd Q
   obtain⟨_,_,Q⟩:=bd Q
   obtain⟨q,_,Q⟩:=bd Q
   obtain⟨t,g,Q⟩:=bd Q
   obtain⟨u,v,w⟩:=bd Q
   cases u with
   |true=>cases w
   |false=>
    rw[mX] at w
    cases t with
    |true=>cases v
    |false=>
     cases a:(q||decide (((b.A[k]).As.length:Int)≠(b.H.length:Int))) with
     |true=>rw[a] at g;cases g
     |false=>
      simp only[nZ,nV,ne_eq,Decidable.not_not] at a
      have F:(b.A[k]).As.length=b.H.length:=by omega
      obtain⟨z,m⟩:=RB (N:=N) b.A[k] _ (by omega) N s 0 h0 (by omega) (nE _) w
      rw[List.drop_zero] at z m
      have y:=TU b b.A[k] _ _ N _ _ z
      have G:=I0 (l:=(b.A[k]).As) λx i=>(m x i).1
      have I:=Jf (l:=(b.A[k]).As) (c:=1125899906842624) λx i=>(m x i).2
      unfold Ck at y
      rw[BX (by omega)] at y
      obtain⟨J,K⟩:=QB o n _ (k+1) (by omega) (by omega) (by omega) y
      rw[qY d,oJ,oU,←Int.add_assoc]
      refine⟨J,λp j=>?_⟩
      rcases nM.1 j with rfl|j
      ·exact⟨F,λx i=>(m x i).1⟩
      ·exact K p j
  ·rw[E7 d,mX] at Q
   rw[pX d]
   refine⟨?_,λp j=>by cases j⟩
   unfold CI at Q
   rw[List.map_nil,List.sum_nil,Int.add_zero]
   exact pR (mZ Q)
end Go.Proofs.YtblcgjadhemlbaaGreat
