import Derived.Test.YtibidnaedddfdaaGreatEPureHArr
import Derived.Test.YtibidnaedddfdaaGreatEForms
import Derived.Test.YtibidnaedddfdaaGreatEInsert
namespace Go.Proofs.YtibidnaedddfdaaGreat
set_option linter.all false
open Go.RowKit
structure fO (P:Nat) (peak:AB) (s:Int) (e:AK):Prop where
 s0:0≤s
 to:e.to_= -1∨(0≤e.to_∧e.to_<P)
 dl:0≤e.delay∧e.delay≤240
 sk:e.slack=0∨e.slack=2
 ask:∃a c,e.asks peak.B=some a∧e.asks peak.A=some c∧0≤a.B∧(0≤a.A∧a.A≤9223372036854775807)∧(0≤c.B∧c.B≤4503599627370496)∧a.B≤c.A∧(c.B-a.A-2*e.slack)*1099511627776≤s*(peak.A-peak.B)
def Xu {P:Nat}{b:AB}{s:Int}(i:0≤s) {to d:Int}(g:to= -1∨(0≤to∧to<P)) (hd:0≤d∧d≤240) {f:Int→Option AB}{a c:AB}(j:f b.B=some a) (k:f b.A=some c) (h:SA s b.B b.A a c):fO P b s ⟨to,d,2,f⟩:=
 ⟨i,g,hd,.inr rfl,a,c,j,k,h.lo,⟨h.hi.1,by have:=h.hi.2;omega⟩,h.lo2,h.le,wT (vT (by show c.B-a.A-2*2≤c.B-a.A-1;omega) (by decide)) h.lip⟩
def fO.mono {P:Nat}{b:AB}{s s':Int}{e:AK}(h:fO P b s e) (o:b.B≤b.A) (d:s≤s'):fO P b s' e:=by
 obtain⟨a,c,g,i,j,k,l,m,n⟩:=h.ask;exact⟨wT h.s0 d,h.to,h.dl,h.sk,a,c,g,i,j,k,l,m,wT n (vT d (by omega))⟩
def iM {N:Nat}{P:Nat}{a:AB}(d:a.B≤a.A) {t:IL}(c:0<t.Al∧t.Al≤9223372036854775807) (b:t.C= -1∨(0≤t.C∧t.C<P)):fO P a 0 ⟨t.C,0,0,λx=>DH N t x⟩:=
 ⟨vZ _,b,⟨vZ _,show(0:Int)≤240 by decide⟩,.inl rfl,⟨0,t.Al⟩,⟨0,t.Al⟩,rfl,rfl,vZ _,⟨by show 0≤t.Al;omega,c.2⟩,⟨vZ _,show(0:Int)≤4503599627370496 by decide⟩,by show 0≤t.Al;omega,by show(0-t.Al-2*0)*1099511627776≤0*_;rw[Int.zero_mul];omega⟩
def XJ {N:Nat}(a:18446744073709551616<N) {l:AO}(b:l.F=4) (fr to:Int):Kn N l fr to=some (pt fr l.V l.Q-pt to l.Ak l.Af):=by
 have c:=MH fr l.V l.Q;have d:=MH to l.Ak l.Af;unfold Kn;rw[show decide (l.F≠4)=false by simp [b],uH,Sn a,uF,Sn a,uF,CT (by omega) (by omega)]
def V4 {s u v x y p q:Int}(g:0≤s) (a:u≤v) (i:0≤x∧x≤1125899906842624) (j:0≤y∧y≤1125899906842624) (b:x≤y) (c:(y-x-1)*1099511627776≤s*(v-u)) (k:0≤p∧p≤1125899906842624) (d:p≤q) (l:q≤1125899906842624):SA s u v ⟨max 0 (x-q),max 0 (x-p)⟩ ⟨max 0 (y-q),max 0 (y-p)⟩:=by
 refine⟨by show 0≤max 0 _;omega,⟨by show 0≤max 0 _;omega,by show max 0 _≤_;omega⟩,⟨by show 0≤max 0 _;omega,by show max 0 _≤_;omega⟩,by show max 0 _≤_;omega,by show max 0 _≤max 0 _;omega,?_⟩;show(max 0 (y-q)-max 0 (x-p)-1)*1099511627776≤_
 exact wT (vT (show _≤y-x-1 by omega) (by decide)) c
def oD {N:Nat}(j:18446744073709551616<N) {l:AO}{s t:Int}(g:VB N l s t) (i:l.F=4) {to:AB}(d:H6 to) {u v:Int}(k:0≤u) (b:u≤v) (o:v≤1125899906842624):
  ∃a c,DP N l to u=some a∧DP N l to v=some c∧SA s u v a c:=by
 obtain⟨p,q,_⟩:=g.seep i;unfold DP JG HD;simp only[FE,uF,XJ j i];obtain⟨m,w,L⟩:=p.lip k b o;obtain⟨n,_,_⟩:=q.lip d.1 d.2.1 d.2.2;exact⟨_,_,rfl,rfl,V4 g.s0 b (MH _ _ _) (MH _ _ _) m L (MH _ _ _) n (MH _ _ _).2⟩
def oC {N:Nat}(j:18446744073709551616<N) {l:AO}{s t:Int}(g:VB N l s t) (i:l.F=4) {fr:AB}(d:H6 fr) {u v:Int}(k:0≤u) (b:u≤v) (o:v≤1125899906842624):
  ∃a c,DO N l fr u=some a∧DO N l fr v=some c∧SA t u v a c:=by
 obtain⟨p,q,_⟩:=g.seep i;obtain⟨m,C,L⟩:=q.lip k b o;obtain⟨n,_,_⟩:=p.lip d.1 d.2.1 d.2.2;have w:=MH u l.Ak l.Af;have x:=MH v l.Ak l.Af;have y:=MH fr.B l.V l.Q;have z:=MH fr.A l.V l.Q;unfold DO JG HD M5;simp only[FE,uF,XJ j i];rw[KY N (by omega) (by omega) (by omega) (by omega),KY N (by omega) (by omega) (by omega) (by omega),KY N (by omega) (by omega) (by omega) (by omega),KY N (by omega) (by omega) (by omega) (by omega)];simp only[uF];have:=V4 g.t0 b w x m L y n z.2;refine⟨_,_,rfl,rfl,?_⟩;rw[show (0:Int)-(pt fr.A l.V l.Q-pt u l.Ak l.Af)=pt u l.Ak l.Af-pt fr.A l.V l.Q by omega,show(0:Int)-(pt fr.B l.V l.Q-pt u l.Ak l.Af)=pt u l.Ak l.Af-pt fr.B l.V l.Q by omega,show(0:Int)-(pt fr.A l.V l.Q-pt v l.Ak l.Af)=pt v l.Ak l.Af-pt fr.A l.V l.Q by omega,show(0:Int)-(pt fr.B l.V l.Q-pt v l.Ak l.Af)=pt v l.Ak l.Af-pt fr.B l.V l.Q by omega];exact this
def Qs {N:Nat}(i:18446744073709551616<N) {p:EU}{s:Int}(b:WN p.V p.Q s) (hd:p.Q≠0) {v:Int}(c:0≤v∧v≤1125899906842624) (m:Int) (g:0≤m∧m<p.Q):∃r,JH N p v m=some r∧r.1=v*p.V/p.Q+(if v*p.V%p.Q+m<p.Q then 0 else 1):=by
 have h0:=b.n0;have j:=b.nd;have k:=b.dm;have l:=QA (t:=v) (n:=p.V) (d:=p.Q) (by omega) j c.1;have o:=OR (t:=v) (n:=p.V) (d:=p.Q) (by omega) h0 c.1;have u:=Int.emod_nonneg (v*p.V) hd;have w:=zW (v*p.V) (show 0<p.Q by omega);unfold JH J6;rw[K8 i,UZ c (by omega) (by omega) (by omega),uF];simp only[vL,uH];rw[uK g.1,uK g.2];simp only[xB,uG];generalize v*p.V/p.Q=q at*
 generalize v*p.V%p.Q=r at*
 rw[CT (n:=r+m) (by omega) (by omega)];by_cases a:r+m<p.Q
 ·rw[uK a,uG,uJ a];exact⟨_,rfl,by show q=_;omega⟩
 ·rw[uM a,uH,uI a,CT (n:=q+1) (by omega) (by omega)];exact⟨_,rfl,rfl⟩
def ZU {N:Nat}(l:18446744073709551616<N) {p:EU}{s:Int}(b:WN p.V p.Q s) (hd:p.Q≠0) {u v:Int}(g:0≤u) (w:u≤v) (i:v≤1125899906842624):
  ∃a c,DG N p u=some a∧DG N p v=some c∧SA s u v a c:=by
 have h0:=b.n0;have z:=b.nd;have A:=b.dm;obtain⟨o,D,B⟩:=Qs l b hd (v:=u) ⟨g,by omega⟩ 0 (by omega);obtain⟨j,F,G⟩:=Qs l b hd (v:=u) ⟨g,by omega⟩ (p.Q-1) (by omega);obtain⟨k,H,C⟩:=Qs l b hd (v:=v) ⟨by omega,i⟩ 0 (by omega);obtain⟨q,I,J⟩:=Qs l b hd (v:=v) ⟨by omega,i⟩ (p.Q-1) (by omega);unfold DG;rw[CT (by omega) (by omega),D,F,H,I];simp only[uF];refine⟨_,_,rfl,rfl,?_⟩;obtain⟨m,K,L⟩:=b.lip g w i;rw[Ry ⟨g,by omega⟩ h0 z A,Ry ⟨by omega,i⟩ h0 z A] at m L;rw[Ry ⟨by omega,i⟩ h0 z A] at K;have M:=OR (t:=u) (n:=p.V) (d:=p.Q) (by omega) h0 g;have U:=zW (u*p.V) (show 0<p.Q by omega);have W:=zW (v*p.V) (show 0<p.Q by omega);rw[uJ (by omega)] at B C;have X:o.1≤j.1∧j.1≤o.1+1:=by rw[B,G];split<;>omega
 have Y:k.1≤q.1∧q.1≤k.1+1:=by rw[C,J];split<;>omega
 generalize u*p.V/p.Q=x at*
 generalize v*p.V/p.Q=y at*
 refine⟨by show 0≤o.1;omega,⟨by show 0≤j.1;omega,by show j.1≤_;omega⟩,⟨by show 0≤k.1;omega,by show k.1≤_;omega⟩,by show q.1≤_;omega,by show o.1≤q.1;omega,?_⟩;show(k.1-j.1-1)*1099511627776≤_
 exact wT (vT (show _≤y-x-1 by omega) (by decide)) L
structure W1 (P:Nat) (peak:AB) (ps:List (AK×Int)):Prop where
 ok:∀x∈ps,fO P peak x.2 x.1
def W1.snoc {P:Nat}{a:AB}{c:List (AK×Int)}(h:W1 P a c) {e:AK}{s:Int}(d:fO P a s e):W1 P a (c++[(e,s)]):=⟨λx b=>by
 rcases wF.1 b with b|b
 ·exact h.ok x b
 ·rw[wI.1 b];exact d⟩
def Vz {N:Nat}(hN:18446744073709551616<N) {w:BX}{b:AF}(ae:w.b=b) (M:L4 N b) (ac:Lc b w.h.D) (Y:La H6 b.E.length w.peaks) {p:Nat}(u:p<b.E.length) {g:AB}(af:w.peaks[p]? =some g) {takes:List IL}(aj:takes.length≤1800000) (ht:∀t∈takes,AA t.Al):
  ∃d,Hk N w (p:Int) takes=some (d.map (·.1))∧W1 b.E.length g d∧(d.map (·.2)).sum≤1099511627776∧d.length≤takes.length+100:=by
 subst ae;have ak:=M.head.li;have ag:=M.head.pl;obtain⟨k1,k2,k3⟩:=Y.2 g (wO af);have sm:=M.sums p _ (uU u);unfold Hk;obtain⟨l1,⟨U,rfl,x1,z1,n1⟩,e1⟩:=Gi takes.length (λn i l=>B5 N w (p:Int) takes (B9 N w (p:Int)) n l i) (B9 N w (p:Int)) (λk l=>∃d:List (AK×Int),l=d.map (·.1)∧W1 w.b.E.length g d∧(d.map (·.2)).sum=0∧d.length≤k) (λn k l s=>by
  simp only[B5];rw[ES s];rfl) (λn k l hi s=>by
  obtain⟨d,rfl,h1,h2,h3⟩:=hi;have hL:=ht _ (vA s);simp only[B5];rw[Ei s,uG,A9 s];simp only[uF,GL,BE (show k<4611686018427387904 by omega),Pi,Fb];generalize takes[k]=t at hL
  have H:∃s',(∃d:List (AK×Int),s'=d.map (·.1)∧W1 w.b.E.length g d∧(d.map (·.2)).sum=0∧d.length≤k+1)∧B5 N w (p:Int) takes (B9 N w (p:Int)) n (d.map (·.1)) ((k+1:Nat):Int)=B5 N w (p:Int) takes (B9 N w (p:Int)) n s' ((k+1:Nat):Int):=⟨_,⟨d,rfl,h1,h2,by omega⟩,rfl⟩
  cases hB:(cond (decide (t.Ah≠(p:Int))) true (!(decide (0≤t.Bo)&&decide (t.Bo<(w.b.Aq.length:Int))))||decide (t.Al≤0))
  ·rw[uH];have ai:¬t.Al≤0:=by
    rw[vH] at hB;exact yA hB.2
   have m:(t.C= -1∨(0≤t.C∧t.C<w.b.E.length))→∃s',(∃d:List (AK×Int),s'=d.map (·.1)∧W1 w.b.E.length g d∧(d.map (·.2)).sum=0∧d.length≤k+1)∧chk (room ((d.map (·.1)).length+1) 32) (B5 N w (p:Int) takes (B9 N w (p:Int)) n (d.map (·.1)++([(⟨t.C,0,0,(λx=>DH N t x)⟩:AK)]:List AK)) ((k+1:Nat):Int))=B5 N w (p:Int) takes (B9 N w (p:Int)) n s' ((k+1:Nat):Int):=λj=>by
    rw[Kh (by rw[vQ];omega)];refine⟨_,⟨d++[(⟨t.C,0,0,λx=>DH N t x⟩,0)],by simp,h1.snoc (iM k2 ⟨by omega,hL.2⟩ j),by simp [h2],by simp;omega⟩,rfl⟩
   by_cases j:t.C= -1
   ·rw[show decide (t.C≠ -1)=false by simp [j],uH];simp only[uF,uH];exact m (.inl j)
   ·rw[show decide (t.C≠ -1)=true by simp [j],uG];by_cases I:0≤t.C∧t.C<w.b.E.length
    ·obtain⟨y,Z,_⟩:=Tj (l:=w.b.E) I.1 I.2;rw[uK I.1,uK I.2];simp only[xB,vL,uH,Z,A9 u,uF];cases decide (y.Aw≠(w.b.E[p]).Aw)
     ·exact m (.inr I)
     ·exact H
    ·rw[show (decide (0≤t.C)&&decide (t.C<(w.b.E.length:Int)))=false by
      rw[zO];simp only[vC];omega]
     exact H
  ·exact H) N 0 [] ⟨[],rfl,⟨λx hx=>by cases hx⟩,rfl,uW _⟩ (by omega) (uO _)
 rw[show B5 N w (p:Int) takes (B9 N w (p:Int)) N [] 0=B9 N w (p:Int) (U.map (·.1)) from e1];unfold B9;obtain⟨l2,⟨aa,rfl,x2,z2,n2⟩,e2⟩:=Gi w.b.D.length (λn i l=>BY N w (p:Int) (CG N w (p:Int)) n l i) (CG N w (p:Int)) (λk l=>∃d:List (AK×Int),l=d.map (·.1)∧W1 w.b.E.length g d∧(d.map (·.2)).sum≤((w.b.D.take k).map λl=>PO N l p).sum∧d.length≤takes.length+k) (λn k l s=>by
  simp only[BY];rw[ES s];rfl) (λn k l hi s=>by
  obtain⟨d,rfl,h1,h2,h3⟩:=hi;have J:=vA s;have G:=M.links _ J;have lk:=M.lk _ J;have c0:=M.ctr0 _ J p;have ad:k<w.h.D.length:=by rw[ac.1];exact s
  have hK:=ac.2 k _ _ (uU s) (uU ad);have sp:=So hN G;simp only[BY];rw[Ei s,uG,A9 s];simp only[uF,DY,BE (show k<4611686018427387904 by omega)];have mt:=Ye (f:=λl=>PO N l p) s;generalize hl:w.b.D[k]=l at G lk c0 hK sp mt
  generalize ah:w.h.D[k]=kn at hK
  have m:∀(e:AK) (z:Int),fO w.b.E.length g z e→z≤PO N l p→∃s',(∃d:List (AK×Int),s'=d.map (·.1)∧W1 w.b.E.length g d∧(d.map (·.2)).sum≤((w.b.D.take (k+1)).map λl=>PO N l p).sum∧d.length≤takes.length+(k+1))∧chk (room ((d.map (·.1)).length+1) 32) (BY N w (p:Int) (CG N w (p:Int)) n (d.map (·.1)++([e]:List AK)) ((k+1:Nat):Int))=BY N w (p:Int) (CG N w (p:Int)) n s' ((k+1:Nat):Int):=λe z he hz=>by
   rw[Kh (by rw[vQ];omega)];refine⟨_,⟨d++[(e,z)],by simp,h1.snoc he,?_,by simp;omega⟩,rfl⟩;rw[xX,yZ,mt];simp only[wA,List.map_nil,zA,List.sum_nil];omega
  by_cases hF:l.P=(p:Int)
  ·have o:NL N l≤PO N l p:=by
    unfold PO;rw[uJ hF];split<;>omega
   rw[uK hF];by_cases h4:l.F=4
   ·rw[show decide (l.F≠4)=false by simp [h4]];simp only[Bool.and_false,uH,uG];obtain⟨_,_,j⟩:=lk.seep h4;have q:=G.to.resolve_left j;obtain⟨y,Z,K⟩:=Tj (l:=w.peaks) (i:=l.C) q.1 (by rw[Y.1];exact q.2);obtain⟨a,c,ea,ec,hA⟩:=oD hN lk h4 (Y.2 y (wO K)) k1 k2 k3;simp only[Z,uF];exact m _ _ (Xu sp.1.1 G.to G.delay ea ec hA) o
   ·rw[show decide (l.F≠4)=true by simp [h4]];simp only[xB,uG,A9 ad,uF,ah,HS,DY,BE (show k<4611686018427387904 by omega)];have kd:=G.kind;have e2:∀(to:AB) v,DQ N l kn to v=E4 N l kn ⟨v,v⟩ to:=λto v=>by
     unfold DQ;simp only[FE,uF];cases E4 N l kn ⟨v,v⟩ to<;>rfl
    have mk:∀to:AB,H6 to→fO w.b.E.length g (NL N l) ⟨l.C,l.X,2,λx=>DQ N l kn to x⟩:=λto j=>by
     obtain⟨a,c,ea,ec,hA⟩:=Yz hN lk (by omega) hK j k1 k2 k3;exact Xu sp.1.1 G.to G.delay ((e2 to _).trans ea) ((e2 to _).trans ec) hA
    by_cases j:l.C= -1
    ·rw[show decide (l.C≠ -1)=false by simp [j],uH];exact m _ _ (mk ⟨0,0⟩ ⟨by decide,by decide,by decide⟩) o
    ·rw[show decide (l.C≠ -1)=true by simp [j],uG];have q:=G.to.resolve_left j;obtain⟨y,Z,K⟩:=Tj (l:=w.peaks) (i:=l.C) q.1 (by rw[Y.1];exact q.2);simp only[Z,uF];exact m _ _ (mk ⟨y.B,y.A⟩ (Y.2 y (wO K))) o
  ·rw[uM hF];simp only[xJ,uH];by_cases hT:l.C=(p:Int)∧l.F=4
   ·obtain⟨hT,h4⟩:=hT;have o:O5 N l≤PO N l p:=by
     unfold PO;rw[uI hF,uJ hT];omega
    rw[uK hT,uK h4];simp only[xB,uG];obtain⟨y,Z,K⟩:=Tj (l:=w.peaks) (i:=l.P) G.fr.1 (by rw[Y.1];exact G.fr.2);obtain⟨a,c,ea,ec,hA⟩:=oC hN lk h4 (Y.2 y (wO K)) k1 k2 k3;simp only[Z,uF];exact m _ _ (Xu sp.2.1 (.inr G.fr) G.delay ea ec hA) o
   ·rw[show (decide (l.C=(p:Int))&&decide (l.F=4))=false by
     rw[zO];simp only[vC];omega,uH]
    exact⟨_,⟨d,rfl,h1,by rw[mt];omega,by omega⟩,rfl⟩) N 0 (U.map (·.1)) ⟨U,rfl,x1,by rw[z1];simp,by omega⟩ (by omega) (uO _)
 rw[show BY N w (p:Int) (CG N w (p:Int)) N (U.map (·.1)) 0=CG N w (p:Int) (aa.map (·.1)) from e2];rw[wQ] at z2;unfold CG HR;rw[A9 u,uF];have ab:=M.places _ (vA u);have rt:=M.rt _ (vA u);have rt0:=M.rt0 _ (vA u);generalize w.b.E[p]=W at ab rt rt0 sm
 by_cases hd:W.Q=0
 ·rw[show decide (W.Q≠0)=false by simp [hd],uH];exact⟨aa,rfl,x2,by omega,by omega⟩
 ·rw[show decide (W.Q≠0)=true by simp [hd],uG,Kh (by rw[vQ];omega)];obtain⟨a,c,ea,ec,hA⟩:=ZU hN (rt hd) hd k1 k2 k3;refine⟨aa++[(⟨W.Ap,W.X,2,λx=>DG N W x⟩,sl N W.V W.Q)],by simp,x2.snoc (Xu rt0 ab.down ab.delay ea ec hA),?_,by simp;omega⟩;rw[xX,yZ];simp only[wA,List.map_nil,zA,List.sum_nil];omega
def SW {N:Nat}{a:AB}(b:H6 a) {m z S:Int}(g:0≤m∧m≤9223372036854775807) (i: -4611686018427387000≤z∧z≤4611686018427387000) (c:S≤1099511627776) (j:(z-m)*1099511627776≤S*(a.A-a.B)):
  ∃y,Fj N a m z=some y∧H6 y∧y.A≤a.A:=by
 obtain⟨k,l,n⟩:=b;have d:z-m≤a.A-a.B:=by
  have:=vT c (show 0≤a.A-a.B by omega);omega
 unfold Fj;rw[sU N (by unfold AA;omega) (by unfold AA;omega),uF,KY N (by omega) (by omega) (by omega) (by omega),uF,iT (by unfold AA;omega)];refine⟨_,rfl,⟨by show 0≤max 0 _;omega,by show max 0 _≤max 0 _;omega,by show max 0 _≤_;omega⟩,by show max 0 _≤_;omega⟩
def Vq {N:Nat}(hN:18446744073709551616<N) {w:BX}{b:AF}(ae:w.b=b) (hb:L4 N b) {t:Int}(ht:w.h.I=t) (h0:0≤t∧t≤33554432) (hv:w.h.K.length=b.E.length) {p:Nat}(U:p<b.E.length) {d:AB}(V:w.peaks[p]? =some d) (af:H6 d)
  (hq:OK b.E.length (t+1) w.h.N) (an:w.h.N.length+300<4398048301104) {g:List (AK×Int)} (W:W1 b.E.length d g) (u:(g.map (·.2)).sum≤1099511627776) (ao:g.length≤200):
  ∃sp v q,Hj N w (p:Int) (g.map (·.1))=some (sp,w.h.K.set p v,q)∧H6 sp∧H6 v∧v.A≤(b.E[p]).Ai∧v.A≤d.A∧OK b.E.length (t+1) q∧q.length≤w.h.N.length+g.length+1:=by
 subst ae;subst ht;obtain⟨k1,k2,k3⟩:=af;have j:=hb.places _ (vA U);have X:p<w.peaks.length:=(uV.1 V).1;have Y:w.peaks[p]=d:=(uV.1 V).2;have Z:∀x∈g.map (·.2),0≤x:=λx hx=>by
  obtain⟨z,hz,rfl⟩:=wN.1 hx;exact(W.ok z hz).s0
 have hD:0≤d.A-d.B:=by omega
 unfold Hj;rw[A9 U,A9 X,Y];simp only[uF];generalize ak:w.b.E[p]=pl at j
 obtain⟨⟨z,m,q⟩,⟨C,G,o,D,H⟩,e1⟩:=Gi (g.map (·.1)).length (λn i (s:Int×Int×List AZ)=>Cy N w (g.map (·.1)) d (Cz N w (p:Int) pl d) n i s.1 s.2.1 s.2.2) (λs=>Cz N w (p:Int) pl d s.1 s.2.1 s.2.2)
  (λk s=>(0≤s.2.1∧s.2.1≤9223372036854775807)∧(-(k:Int)*4503599627370498≤s.1∧s.1≤(k:Int)*4503599627370498)∧(s.1-s.2.1)*1099511627776≤((g.map (·.2)).take k).sum*(d.A-d.B)∧OK w.b.E.length (w.h.I+1) s.2.2∧s.2.2.length≤w.h.N.length+k) (λn k s J=>by
  simp only[Cy];rw[ES J];rfl) (λn k s hi J=>by
  obtain⟨z,m,q⟩:=s;obtain⟨C,G,o,D,H⟩:=hi;have C:0≤m∧m≤9223372036854775807:=C;have G: -(k:Int)*4503599627370498≤z∧z≤(k:Int)*4503599627370498:=G;have o:(z-m)*1099511627776≤((g.map (·.2)).take k).sum*(d.A-d.B):=o;have D:OK w.b.E.length (w.h.I+1) q:=D;have H:q.length≤w.h.N.length+k:=H;have aa:k<g.length:=by rw[vQ] at J;exact J
  have M:=W.ok _ (vA aa);have st:=VT (l:=g.map (·.2)) (k:=k) (by rw[vQ];exact aa);have sl:=NQ Z k;have ag:=NQ Z (k+1);simp only[Cy];rw[Ei J,uG,A9 J];simp only[List.getElem_map] at st ⊢;generalize g[k]=x at M st
  obtain⟨e,sx⟩:=x;obtain⟨a,c,ea,ec,a1,a2,c1,ac,L⟩:=M.ask;have L:(c.B-a.A-2*e.slack)*1099511627776≤sx*(d.A-d.B):=L;have sk:=M.sk;have ea:e.asks d.B=some a:=ea;have ec:e.asks d.A=some c:=ec;have sk:e.slack=0∨e.slack=2:=sk;obtain⟨y,ey,y1,y2⟩:=SW (N:=N) ⟨k1,k2,k3⟩ (m:=m) (z:=z) C (by omega) (wT sl.2 u) o;obtain⟨ah,ai,aj⟩:=y1;obtain⟨Q,F,q1,q2⟩:=Ta (N:=N) (w:={ w with h:={ w.h with N:=q}}) (q:=q) (by omega) rfl rfl h0 D (by omega) M.to M.dl (s:=⟨min a.B y.B,min c.A y.A⟩) ⟨by show 0≤min _ _;omega,by show min _ _≤min _ _;omega,by show min _ _≤_;omega⟩;simp only[uF,ea,ec,ey];rw[F,uF,TV N (a:=a.A) (b:=e.slack) (by unfold AA;omega) (by unfold AA;omega),uF,TV N (a:=m) (by unfold AA;omega) (Ua _),uF,KY N (by omega) (by omega) (by omega) (by omega),uF,L9 N (by omega) (by omega) (by omega) (by omega),uF,BE (by omega)];refine⟨(z+(c.B-e.slack),H4 (m+H4 (a.A+e.slack)),Q),⟨?_,?_,?_,q1,?_⟩,rfl⟩
  ·show 0≤H4 _∧H4 _≤_
   unfold H4;omega
  ·show -((k+1:Nat):Int)*4503599627370498≤z+(c.B-e.slack)∧z+(c.B-e.slack)≤((k+1:Nat):Int)*4503599627370498
   omega
  ·show(z+(c.B-e.slack)-H4 (m+H4 (a.A+e.slack)))*1099511627776≤_
   rw[st];have ap:0≤sx:=M.s0;have ab:=yC ag.1 hD;rw[st] at ab;by_cases al:m+(a.A+e.slack)≤9223372036854775807
   ·have e3:H4 (m+H4 (a.A+e.slack))=m+(a.A+e.slack):=by unfold H4;omega
    rw[e3,Int.add_mul];show _≤_+sx*(d.A-d.B)
    generalize sx*(d.A-d.B)=A at*
    generalize ((g.map (·.2)).take k).sum*(d.A-d.B)=B at*
    omega
   ·have e3:H4 (m+H4 (a.A+e.slack))=9223372036854775807:=by unfold H4;omega
    rw[e3];refine wT ?_ ab;omega
  ·show Q.length≤_
   have:Q.length≤q.length+1:=q2;omega) N 0 (0,0,w.h.N) ⟨⟨vZ 0,show(0:Int)≤9223372036854775807 by decide⟩,⟨show -((0:Nat):Int)*4503599627370498≤0 by decide,show(0:Int)≤((0:Nat):Int)*4503599627370498 by decide⟩,by simp,hq,uW _⟩ (by rw[vQ];omega) (uO _)
 rw[show Cy N w (g.map (·.1)) d (Cz N w (p:Int) pl d) N 0 0 0 w.h.N=Cz N w (p:Int) pl d z m q from e1];rw[vQ] at G o H;rw[yM (by rw[vQ];exact uW _)] at o;have C:0≤m∧m≤9223372036854775807:=C;have G: -(g.length:Int)*4503599627370498≤z∧z≤(g.length:Int)*4503599627370498:=G;have o:(z-m)*1099511627776≤(g.map (·.2)).sum*(d.A-d.B):=o;have D:OK w.b.E.length (w.h.I+1) q:=D;have H:q.length≤w.h.N.length+g.length:=H;obtain⟨y,ey,⟨ah,ai,aj⟩,y2⟩:=SW (N:=N) ⟨k1,k2,k3⟩ (m:=m) (z:=z) C (by omega) u o;have am:0≤pl.Ai∧pl.Ai≤1125899906842624:=j.cap;unfold Cz;rw[ey,uF,KY N (by omega) (by omega) (by omega) (by omega),uF,KY N (by omega) (by omega) (by omega) (by omega),uF];have ad:H6 ⟨max 0 (y.B-pl.Ai),max 0 (y.A-pl.Ai)⟩:=⟨by show 0≤max 0 _;omega,by show max 0 _≤max 0 _;omega,by show max 0 _≤_;omega⟩
 obtain⟨Q,F,q1,q2⟩:=Ta (N:=N) (w:={ w with h:={ w.h with N:=q}}) (q:=q) (by omega) rfl rfl h0 D (by omega) j.down j.delay ad;have q2:Q.length≤q.length+1:=q2;rw[F,uF,A9 (show p<w.h.K.length by omega)];simp only[uF,RU];exact⟨_,⟨min y.B pl.Ai,min y.A pl.Ai⟩,Q,rfl,ad,⟨by show 0≤min _ _;omega,by show min _ _≤min _ _;omega,by show min _ _≤_;omega⟩,by show min _ _≤_;omega,by show min _ _≤_;omega,q1,by omega⟩
structure rP (b:AF) (t:Int) (r:BV×List AB×List AB):Prop where
 hour:r.1.I=t+1
 vol:r.1.K.length=b.E.length
 lks:Lc b r.1.D
 que:OK b.E.length (t+1) r.1.N
 pk:La H6 b.E.length r.2.1
 sp:La H6 b.E.length r.2.2
 vols:∀(p:Nat) v,r.1.K[p]? =some v→H6 v∧(∀pl,b.E[p]? =some pl→v.A≤pl.Ai)∧∀k,r.2.1[p]? =some k→v.A≤k.A
def XB {N:Nat}(Z:18446744073709551616<N) {b:AF}(z:L4 N b) {h:BV}(hv:h.K.length=b.E.length) (aa:∀v∈h.K,H6 v) (h0:0≤h.I∧h.I≤33554432) (hq:OK b.E.length h.I h.N) (g:Lc b h.D) {in_:BT}(hf:in_.Bc.length≤1000) (hc:in_.Bb.length≤1000) (ad:in_.Ag.length≤90) (ht:∀t∈in_.Ag,AA t.Al) {sure:List Bool}{l:List AB}(hr:∀s∈l,AA s.B∧AA s.A)
  (ae:h.N.length≤4398048211104):∃r,Jn N b h in_ sure l=some r∧rP b h.I r∧r.1.N.length≤h.N.length+b.E.length*(in_.Ag.length+101):=by
 have u:=z.head.pl;have af:=z.head.li;have ag:=g.1;have H:Mn (b.E.length:Int) (b.E.length:Int) 16=true:=by simp [Mn];omega
 unfold Jn Cq Cj;rw[Kh (by simp only[yU];omega),uF,Kh (by simp only[yU];omega),uF,H];simp only[wB,chk,uG];generalize hz:List.replicate ((b.E.length:Int):Int).toNat ((⟨0,0⟩:AB):AB)=C
 have J:C.length=b.E.length:=by rw[←hz];simp
 have M:∀x∈C,x=⟨0,0⟩:=λx y=>by rw[←hz] at y;exact List.eq_of_mem_replicate y
 obtain⟨l1,e1,k1⟩:=Vp Z (w:=⟨b,⟨h.I,h.K,h.N,h.D⟩,C⟩) rfl z (in_:=in_) (by omega) (by omega) sure g;rw[e1,uF];obtain⟨c,m,d,e2,k2,k3,k4,k5⟩:=R8 Z (w:=⟨b,⟨h.I,h.K,h.N,l1⟩,C⟩) rfl z hv aa (t:=h.I) rfl hq (by show h.N.length≤_;omega) k1 J M hr;rw[e2,uF];have k3:c.length≤h.N.length:=k3;obtain⟨⟨Q,vs,q⟩,⟨F,o,U,V,W⟩,e3⟩:=Gi b.E.length (λn i (s:List AB×List AB×List AZ)=>Ez N b h in_ (c,m,d) (E0 N h (c,m,d)) n i s.1 s.2.1 s.2.2) (λs=>E0 N h (c,m,d) s.1 s.2.1 s.2.2)
  (λk s=>La H6 b.E.length s.1∧s.2.1.length=b.E.length∧(∀(p:Nat) v,p<k→s.2.1[p]? =some v→H6 v∧(∀G,b.E[p]? =some G→v.A≤G.Ai)∧∀x,d[p]? =some x→v.A≤x.A)∧OK b.E.length (h.I+1) s.2.2∧s.2.2.length≤c.length+k*(in_.Ag.length+101)) (λn k s g=>by
  simp only[Ez];rw[ES g];rfl) (λn k s hi g=>by
  obtain⟨Q,vs,q⟩:=s;obtain⟨F,o,U,V,W⟩:=hi;have F:La H6 b.E.length Q:=F;have o:vs.length=b.E.length:=o;have U:∀(p:Nat) v,p<k→vs[p]? =some v→H6 v∧(∀G,b.E[p]? =some G→v.A≤G.Ai)∧∀x,d[p]? =some x→v.A≤x.A:=U;have V:OK b.E.length (h.I+1) q:=V;have W:q.length≤c.length+k*(in_.Ag.length+101):=W;have X:k<d.length:=by rw[k5.1];exact g
  have j:=uU X;have Y:=k5.2 _ (vA X);generalize d[k]=ab at j Y
  have ah:k*(in_.Ag.length+101)+(in_.Ag.length+101)=(k+1)*(in_.Ag.length+101):=by rw[wJ];omega
  have ac:(k+1)*(in_.Ag.length+101)≤64*191:=yY (by omega) (by omega);obtain⟨ps,ep,p3,p4,p5⟩:=Vz Z (w:=⟨b,⟨h.I,vs,q,m⟩,d⟩) rfl z k4 k5 g j (takes:=in_.Ag) (by omega) ht;obtain⟨s1,v1,q1,el,a1,a2,a3,a4,a5,a6⟩:=Vq Z (w:=⟨b,⟨h.I,vs,q,m⟩,d⟩) rfl z (t:=h.I) rfl h0 o g j Y V (by show q.length+300<4398048301104;omega) p3 p4 (by omega);have a6:q1.length≤q.length+ps.length+1:=a6;simp only[Ez];rw[Ei g,uG,ep,uF,el,uF,A9 (show k<Q.length by rw[F.1];exact g)];simp only[uF,BE (show k<4611686018427387904 by omega),RU];refine⟨(Q.set k s1,vs.set k v1,q1),⟨F.set k a1,by show(vs.set k v1).length=_;rw[yL];exact o,λp v hp a=>?_,a5,by show q1.length≤_;omega⟩,rfl⟩;have a:(vs.set k v1)[p]? =some v:=a;by_cases e:k=p
  ·subst e;rw[yN (by omega)] at a;cases a;refine⟨a2,λG u=>?_,λx y=>?_⟩
   ·rw[uU g] at u;cases u;exact a3
   ·rw[j] at y;cases y;exact a4
  ·rw[yD e] at a;exact U p v (by omega) a) N 0 (C,h.K,c) ⟨⟨J,λx y=>by rw[M x y];exact⟨by decide,by decide,by decide⟩⟩,hv,λp v hp=>by omega,k2,by simp⟩ (by omega) (uO _)
 rw[show Ez N b h in_ (c,m,d) (E0 N h (c,m,d)) N 0 C h.K c=E0 N h (c,m,d) Q vs q from e3];have o:vs.length=b.E.length:=o;have W:q.length≤c.length+b.E.length*(in_.Ag.length+101):=W;unfold E0;rw[CT (by omega) (by omega)];exact⟨_,rfl,⟨rfl,o,k4,V,k5,F,λp v a=>U p v (by have:=(uV.1 a).1;have this:p<vs.length:=this;show p<_;omega) a⟩,by show q.length≤_;omega⟩
def dK:Ef=Es:=rfl
def YY:DE=Dq:=rfl
def oG:G0=HI:=rfl
def jB:Fo=JU:=rfl
def dJ (N:Nat) (s:AB):DW N s=HD N s:=by
 simp only[DW,HD,Int.max_comm]
def Yh (s:AB):AB:=⟨min s.B 1125899906842624,min s.A 1125899906842624⟩
def rN (x:AZ) (s:AB):AZ:={ x with K:=Yh ⟨x.K.B+s.B,x.K.A+s.A⟩}
def pq (a t:Int) (s:AB):List AZ→Bool→List AZ×Bool
 |[],b=>([],b)
 |x::r,b=>
  if x.O=a∧x.C=t then (rN x s::(pq a t s r true).1,(pq a t s r true).2)
  else if b=false∧(a<x.O∨(x.O=a∧t<x.C)) then (⟨a,t,Yh s⟩::x::(pq a t s r true).1,(pq a t s r true).2)
  else (x::(pq a t s r b).1,(pq a t s r b).2)
def Vj {N:Nat}{a t:Int}{s:AB}(u:H6 s) (q:List AZ) (p:∀e∈q,H6 e.K) (v:q.length<4398048311104) (j:List AZ→Bool→Option (List AZ)):∀n (k:Nat) l b,k≤q.length→q.length<n+k→l.length≤k+(if b then 1 else 0)→
  Da N q a t s j n l b (k:Int)=j (l++(pq a t s (q.drop k) b).1) (pq a t s (q.drop k) b).2
 |0,k,l,b,w,y,i=>by omega
 |n+1,k,l,b,w,y,i=>by
  obtain⟨z,A,B⟩:=u;simp only[Da];rcases vG k q.length with g|g
  ·obtain⟨⟨F,G,H⟩⟩:=And.intro (p _ (vA g)) trivial;rw[Ei g,uG,A9 g,yI g];have m:=λl b i=>Vj (N:=N) ⟨z,A,B⟩ q p v j (a:=a) (t:=t) n (k+1) l b (by omega) (by omega) i;generalize q[k]=x at*
   have D:(if b then 1 else 0)≤1:=by split<;>omega
   simp only[uF,IZ,IY,oG,jB,Mz,HI,BE (show k<4611686018427387904 by omega)];rw[L9 N (by omega) (by omega) (by omega) (by omega),uF,L9 N (by omega) (by omega) (by omega) (by omega)];simp only[uF,vL,xJ,uH];unfold pq;by_cases c:x.O=a∧x.C=t
   ·rw[uJ c,show(decide (x.O=a)&&decide (x.C=t))=true by simp [c],uG,N6 (by omega) (by decide)];rw[m _ true (by simp;omega),xE];rfl
   ·rw[uI c,show(decide (x.O=a)&&decide (x.C=t))=false by simpa using c,uH];by_cases d:b=false∧(a<x.O∨(x.O=a∧t<x.C))
    ·rw[uJ d,show(!b&&(decide (a<x.O)||(decide (x.O=a)&&decide (t<x.C))))=true by simpa using d,uG];have o:=d.1;subst o;simp only[wS,if_false] at i;rw[N6 (by omega) (by decide),N6 (by simp;omega) (by decide),m _ true (by simp;omega)];simp only[xE];rfl
    ·rw[uI d,show(!b&&(decide (a<x.O)||(decide (x.O=a)&&decide (t<x.C))))=false by
      rw[←xQ];simpa using d,uH,N6 (by omega) (by decide),m _ b (by simp;omega),xE]
     rfl
  ·have:k=q.length:=by omega
   subst this;rw[ES (uW _),uH,List.drop_length];simp [pq]
def Ue (a t:Int) (s:AB) (x:AZ) (r:List AZ) (b:Bool):pq a t s (x::r) b=if x.O=a∧x.C=t then (rN x s::(pq a t s r true).1,(pq a t s r true).2)
  else if b=false∧(a<x.O∨(x.O=a∧t<x.C)) then (⟨a,t,Yh s⟩::x::(pq a t s r true).1,(pq a t s r true).2)
  else (x::(pq a t s r b).1,(pq a t s r b).2):=by rw[pq]
def jN {a t:Int}{s:AB}:∀{r:List AZ},(∀e∈r,¬(e.O=a∧e.C=t))→pq a t s r true=(r,true)
 |[],_=>rfl
 |x::r,h=>by
  unfold pq;rw[uI (h x vW),uI (by simp),jN λe b=>h e (vX _ b)]
def Zc {a t:Int}{s:AB}{r:List AZ}:∀{p:List AZ},(∀e∈p,QT e.O e.C a t)→pq a t s (p++r) false=(p++(pq a t s r false).1,(pq a t s r false).2)
 |[],_=>rfl
 |x::p,h=>by
  have b:=h x vW;unfold QT at b;rw[wZ,Ue,uI (by omega),uI (by omega),Zc λe c=>h e (vX _ c)];rfl
def oH {N:Nat}(V:9007199254740992<N) {q:List AZ}(d:Wr q) (g:∀e∈q,H6 e.K) (W:q.length<4398048311104) {a t:Int}{s:AB}(H:H6 s):Ih N q a t s=KK N q a t s:=by
 unfold Ih KK;cases Z:decide (s.A≤0)
 case true=>rfl
 rw[uH,uH];have I:=Vj (N:=N) (a:=a) (t:=t) H q g W (Db N a t s) N 0 [] false (uO _) (by omega) (by simp);rw[List.drop_zero,wB] at I;rw[show Da N q a t s (Db N a t s) N [] false 0=_ from I];obtain⟨r,v,h2,X,J⟩:=bP V q d (by omega) (⟨a,t,⟨0,0⟩⟩:AZ);have v:A4 N q (⟨a,t,⟨0,0⟩⟩:AZ) (λx=>FJ N x.1 x.2)=_:=v;rw[v];simp only[uF];have w:∀e∈q.take r,QT e.O e.C a t:=λe b=>by
  obtain⟨i,c⟩:=vY.1 b;rw[xZ] at c;split at c
  ·exact X i e (by assumption) c
  ·cases c
 have m:=Zc (a:=a) (t:=t) (s:=s) (r:=q.drop r) w;rw[yK] at m;rw[m];by_cases B:∃y,q[r]? =some y∧y.O=a∧y.C=t
 ·obtain⟨y,n,k,l⟩:=B;obtain⟨u,D⟩:=uV.1 n;rw[uK ⟨y,n,k,l⟩,uG,A9 u];obtain⟨v1,v2,v3⟩:=g _ (vA u);obtain⟨s1,s2,s3⟩:=H;simp only[uF,HI];rw[L9 N (by omega) (by omega) (by omega) (by omega),uF,L9 N (by omega) (by omega) (by omega) (by omega)];simp only[uF,Mz,RU];rw[yI u,Ue,uJ (by rw[D];exact⟨k,l⟩),jN λe b j=>?_]
  ·simp only[Db,vL,uH,GN];rw[List.set_eq_take_append_cons_drop,uJ u];rfl
  ·obtain⟨i,c⟩:=vY.1 b;rw[wX] at c;have:=XF d n c ⟨k.trans j.1.symm,l.trans j.2.symm⟩;omega
 ·rw[uM B,uH,Mz];simp only[uF];unfold Jg Yo;rw[uJ ⟨by omega,by omega,rfl,by unfold room;simp;omega⟩,xT];have F:∀(i:Nat) e,r≤i→q[i]? =some e→QT a t e.O e.C:=λi e c b=>by
   have Y:=J i e c b;refine Ui Y λj=>?_;rcases vG r i with M|M
   ·have G:=(uV.1 b).1;have Q:=zB.1 d r i (by omega) G M;rw[(uV.1 b).2,j.1,j.2] at Q;exact J r _ (uW _) (uU (by omega)) Q
   ·have:i=r:=by omega
    subst this;exact B ⟨e,b,j.1,j.2⟩
  have o:∀e∈q.drop r,QT a t e.O e.C:=λe b=>by
   obtain⟨i,c⟩:=vY.1 b;rw[wX] at c;exact F (r+i) e (by omega) c
  have U:(q.take r).length≤r:=by rw[vV];exact Nat.min_le_left _ _
  generalize q.take r=p at*
  generalize q.drop r=z at*
  cases z with
  |nil=>
   simp only[pq,vR,Db,Bool.not_false,uG,jB,Mz,uF,GN];rw[N6 (by omega) (by decide)]
  |cons y z=>
   have n:=o y vW;unfold QT at n;rw[Ue,uI (by omega),uJ ⟨rfl,by omega⟩,jN λe b j=>by
    have:=o e (vX _ b);unfold QT at this;omega]
   simp only[Db,vL,uH,GN,uF,Yh,xE,List.singleton_append,wZ,wB]
abbrev dL (l:List Lr):List Int:=l.map λx=>x.Ax.sum
instance (a t a' t':Int):Decidable (QT a t a' t'):=by unfold QT;infer_instance
def QO (l:List Lr) (a t:Int):Int:=(l.map λx=>if x.O=a∧x.C=t then x.Ax.sum else 0).sum
def UT (l:List Lr) (x:Lr) (a t:Int):QO (l++[x]) a t=QO l a t+if x.O=a∧x.C=t then x.Ax.sum else 0:=by
 unfold QO;rw[xX,yZ];simp
def ZH:∀{l:List Lr},(∀x∈l,0≤x.Ax.sum)→∀(a t:Int),QO l a t≤(dL l).sum
 |[],_,a,t=>by simp [QO]
 |x::l,h,a,t=>by
  have b:=ZH (l:=l) (λy c=>h y (vX _ c)) a t;have d:=h x (vW ..);unfold QO at b ⊢;simp only[wA,zA,dL] at b ⊢;split<;>omega
def ZG {l:List Lr}{a t:Int}(h:∀x∈l,¬(x.O=a∧x.C=t)):QO l a t=0:=by
 induction l with
 |nil=>rfl
 |cons x l c=>
  have b:=c λy d=>h y (vX _ d);have g:=h x (vW ..);unfold QO at b ⊢;simp only[wA,zA,uI g,b];rfl
structure QI (l:List Lr) (q:List AZ):Prop where
 srt:Wr q
 val:∀e∈q,e.K.B=QO l e.O e.C∧e.K.A=QO l e.O e.C∧0<QO l e.O e.C
 key:∀x∈l,∃e∈q,e.O=x.O∧e.C=x.C
 bk:∀e∈q,∃x∈l,x.O=e.O∧x.C=e.C
 len:q.length≤l.length
def QI.nil:QI [] []:=⟨List.Pairwise.nil,λe h=>(by cases h),λe h=>(by cases h),λe h=>(by cases h),uW _⟩
def QI.add {N:Nat}(hN:9007199254740992<N) {l:List Lr}{q:List AZ}(k:QI l q) (hl:l.length<1000) {x:Lr}(hp:0<x.Ax.sum) (F:∀y∈l,0≤y.Ax.sum) (hM:(dL l).sum+x.Ax.sum≤MV):∃W,KK N q x.O x.C ⟨x.Ax.sum,x.Ax.sum⟩=some W∧QI (l++[x]) W:=by
 have aa:=k.len;have h0:=Si (l:=dL l) λy B=>by obtain⟨z,c,rfl⟩:=wN.1 B;exact F z c
 unfold MV at hM;unfold KK;rw[show decide (x.Ax.sum≤0)=false by simp;omega,uH];obtain⟨r,H,h2,X,Y⟩:=bP hN q k.srt (by omega) (⟨x.O,x.C,⟨0,0⟩⟩:AZ);have H:A4 N q (⟨x.O,x.C,⟨0,0⟩⟩:AZ) (λx=>FJ N x.1 x.2)=_:=H;rw[H];simp only[uF];by_cases I:∃y,q[r]? =some y∧y.O=x.O∧y.C=x.C
 ·obtain⟨y,B,j,m⟩:=I;obtain⟨D,p⟩:=uV.1 B;rw[uK ⟨y,B,j,m⟩,uG,A9 D,p];obtain⟨Z,v2,v3⟩:=k.val y (p▸vA D);have ab:=ZH F x.O x.C;rw[j,m] at Z v2 v3;simp only[uF,HI];rw[Z,v2,L9 N (by omega) (by omega) (by omega) (by omega)];simp only[uF,Mz];have J:min (QO l x.O x.C+x.Ax.sum) 1125899906842624=QO l x.O x.C+x.Ax.sum:=by omega
  rw[J];refine⟨_,rfl,?_⟩;have M:nK ({ y with K:=⟨QO l x.O x.C+x.Ax.sum,QO l x.O x.C+x.Ax.sum⟩}:AZ)=nK q[r]:=by rw[p]
  have hu:upd q (r:Int) ({ y with K:=⟨QO l x.O x.C+x.Ax.sum,QO l x.O x.C+x.Ax.sum⟩}:AZ)=q.set r { y with K:=⟨QO l x.O x.C+x.Ax.sum,QO l x.O x.C+x.Ax.sum⟩}:=rfl;rw[hu];have G:∀e,e∈q.set r ({ y with K:=⟨QO l x.O x.C+x.Ax.sum,QO l x.O x.C+x.Ax.sum⟩}:AZ)→e=({ y with K:=⟨QO l x.O x.C+x.Ax.sum,QO l x.O x.C+x.Ax.sum⟩}:AZ)∨(e∈q∧¬(x.O=e.O∧x.C=e.C)):=by
   intro e a;obtain⟨i,b⟩:=vY.1 a;by_cases n:r=i
   ·subst n;rw[yN D] at b;cases b;exact .inl rfl
   ·rw[yD n] at b;refine .inr ⟨wO b,λd=>n (XF k.srt B b ⟨j.trans d.1,m.trans d.2⟩)⟩
  refine⟨XE k.srt D M,λe a=>?_,λz c=>?_,λe a=>?_,by simp only[yL,wC];omega⟩
  ·rw[UT];rcases G e a with rfl|⟨a,hne⟩
   ·show QO l x.O x.C+x.Ax.sum=QO l y.O y.C+(if x.O=y.O∧x.C=y.C then x.Ax.sum else 0)∧QO l x.O x.C+x.Ax.sum=QO l y.O y.C+(if x.O=y.O∧x.C=y.C then x.Ax.sum else 0)∧0<QO l y.O y.C+(if x.O=y.O∧x.C=y.C then x.Ax.sum else 0)
    rw[j,m,uJ ⟨rfl,rfl⟩];exact⟨rfl,rfl,by omega⟩
   ·rw[uI hne];obtain⟨w1,w2,w3⟩:=k.val e a;omega
  ·have Q:∃e∈q,e.O=z.O∧e.C=z.C:=by
    rcases wF.1 c with c|c
    ·exact k.key z c
    ·simp only[wI] at c;subst c;exact⟨y,p▸vA D,j,m⟩
   obtain⟨e,a,s,t⟩:=Q;obtain⟨i,b⟩:=vY.1 a;by_cases n:r=i
   ·subst n;rw[B] at b;cases b;exact⟨_,wO (yN D),s,t⟩
   ·exact⟨e,wO (by rw[yD n];exact b),s,t⟩
  ·rcases G e a with rfl|⟨a,_⟩
   ·exact⟨x,zT _ (wI.2 rfl),j.symm,m.symm⟩
   ·obtain⟨z,c,h⟩:=k.bk e a;exact⟨z,xH _ c,h⟩
 ·rw[uM I,uH,Mz];simp only[uF];have J:min x.Ax.sum 1125899906842624=x.Ax.sum:=by omega
  rw[J];unfold Jg Yo;rw[uJ ⟨by omega,by omega,rfl,by unfold room;simp;omega⟩];refine⟨_,rfl,?_⟩;rw[xT];have g:∀e∈q,¬(x.O=e.O∧x.C=e.C):=by
   intro e a d;obtain⟨i,b⟩:=vY.1 a;rcases vG i r with v|hge
   ·have:=X i e v b;rw[d.1,d.2] at this;exact Sa this
   ·rcases vG r i with h5|h5
    ·have U:=(uV.1 b).1;have h6:=zB.1 k.srt r i (by omega) U h5;rw[(uV.1 b).2,←d.1,←d.2] at h6;exact Y r _ (uW _) (uU (by omega)) h6
    ·have:i=r:=by omega
     subst this;exact I ⟨e,b,d.1.symm,d.2.symm⟩
  have z0:QO l x.O x.C=0:=ZG λz c d=>by
   obtain⟨e,a,s,t⟩:=k.key z c;exact g e a ⟨(s.trans d.1).symm,(t.trans d.2).symm⟩
  have u:∀e,e∈q.take r++[(⟨x.O,x.C,⟨x.Ax.sum,x.Ax.sum⟩⟩:AZ)]++q.drop r→e=⟨x.O,x.C,⟨x.Ax.sum,x.Ax.sum⟩⟩∨e∈q:=λe a=>by
   simp only[wF,wI] at a;rcases a with (a|a)|a
   ·exact .inr (zM a)
   ·exact .inl a
   ·exact .inr (zN a)
  have w:∀e,e∈q→e∈q.take r++[(⟨x.O,x.C,⟨x.Ax.sum,x.Ax.sum⟩⟩:AZ)]++q.drop r:=λe a=>by
   rw[←yK r q] at a;simp only[wF,wI] at a ⊢;exact a.elim (λh=> .inl (.inl h)) .inr
  refine⟨?_,λe a=>?_,λz c=>?_,λe a=>?_,by simp only[wC,vV,xC,List.length_singleton];omega⟩
  ·have v:∀e∈q.take r,QT e.O e.C x.O x.C:=λe a=>by
    obtain⟨i,b⟩:=vY.1 a;rw[xZ] at b;split at b
    ·exact X i e (by assumption) b
    ·cases b
   have V:∀e∈q.drop r,QT x.O x.C e.O e.C:=λe a=>by
    have hq:=zN a;obtain⟨i,b⟩:=vY.1 a;rw[wX] at b;exact Ui (Y (r+i) e (by omega) b) λd=>g e hq ⟨d.1.symm,d.2.symm⟩
   unfold Wr;rw[xE,List.pairwise_append];have o:=k.srt;unfold Wr at o;rw[←yK r q,List.pairwise_append] at o;refine⟨o.1,List.pairwise_cons.2 ⟨λe a=>V e a,o.2.1⟩,λe a e' A=>?_⟩;rcases uS.1 A with rfl|A
   ·exact v e a
   ·exact o.2.2 e a e' A
  ·rw[UT];rcases u e a with rfl|a
   ·simp only[and_self,if_true,z0];omega
   ·rw[uI (g e a)];obtain⟨w1,w2,w3⟩:=k.val e a;omega
  ·rcases wF.1 c with c|c
   ·obtain⟨e,a,h⟩:=k.key z c;exact⟨e,w e a,h⟩
   ·simp only[wI] at c;subst c;exact⟨⟨z.O,z.C,⟨z.Ax.sum,z.Ax.sum⟩⟩,by simp,rfl,rfl⟩
  ·rcases u e a with rfl|a
   ·exact⟨x,by simp,rfl,rfl⟩
   ·obtain⟨z,c,h⟩:=k.bk e a;exact⟨z,xH _ c,h⟩
abbrev kK (k:DN):Value:=Value.agg (DN.v k).toArray
def pO (k b:DN):MT (kK k) (kK b)=true↔k=b:=by
 obtain⟨a,t⟩:=k;obtain⟨c,t'⟩:=b;simp [MT,R6,Y4]
instance:DecidableEq DN:=λa b=>decidable_of_iff (MT (kK a) (kK b)=true) (pO a b)
section
variable {β:Type}
def Nr (a:DN) (y:β) (r:List (DN×β)) (k:DN):Oc kK ((a,y)::r) k=if k=a then some y else Oc kK r k:=by
 unfold Oc;rw[List.find?_cons];by_cases h:k=a
 ·rw[uJ h,show MT (kK k) (kK (a,y).1)=true from(pO _ _).2 h];rfl
 ·rw[uI h];cases b:MT (kK k) (kK (a,y).1) with
  |true=>exact absurd ((pO _ _).1 b) h
  |false=>rfl
def T7 (a:DN) (y:β) (r:List (DN×β)) (k:DN) (x:β):Nq kK ((a,y)::r) k x=if k=a then (k,x)::r else (a,y)::Nq kK r k x:=by
 by_cases h:k=a
 ·rw[uJ h,Nq,uJ ((pO _ _).2 h)]
 ·rw[uI h,Nq,uI λb=>h ((pO _ _).1 b)]
def T8:∀(m:List (DN×β)) (k:DN) (x:β) (a:DN),Oc kK (Nq kK m k x) a=if a=k then some x else Oc kK m a
 |[],k,x,a=>by unfold Nq;rw[Nr]
 |(c,y)::r,k,x,a=>by
  rw[T7];by_cases h:k=c
  ·subst h;rw[uJ rfl,Nr,Nr];split<;>rfl
  ·rw[uI h,Nr,T8 r k x a,Nr];by_cases b:a=c
   ·rw[uJ b,uJ b,uI λe=>h (e.symm.trans b)]
   ·rw[uI b,uI b]
def Rf:∀(m:List (DN×β)) (k:DN) (x:β),(Nq kK m k x).map (·.1)=if k∈m.map (·.1) then m.map (·.1) else m.map (·.1)++[k]
 |[],k,x=>by simp [Nq]
 |(b,y)::r,k,x=>by
  rw[T7];by_cases h:k=b
  ·subst h;simp
  ·rw[uI h,wA,Rf r k x];by_cases a:k∈r.map (·.1)
   ·have c:k∈((b,y)::r).map (·.1):=vX _ a;rw[uJ a,uJ c];rfl
   ·have c:¬k∈((b,y)::r).map (·.1):=λd=>(uS.1 d).elim h a;rw[uI a,uI c];rfl
def dS {m:List (DN×β)}(h:(m.map (·.1)).Nodup) (k:DN) (x:β):((Nq kK m k x).map (·.1)).Nodup:=by
 rw[Rf];split
 ·exact h
 ·rename_i d;rw[List.nodup_append];exact⟨h,by simp,λa g b c=>by simp only[wI] at c;subst c;exact λe=>d (e▸g)⟩
def Zg (m:List (DN×β)) (k:DN) (x:β) (a:DN):a∈(Nq kK m k x).map (·.1)↔a=k∨a∈m.map (·.1):=by
 rw[Rf];split
 ·rename_i h;exact⟨.inr,λb=>b.elim (λe=>e▸h) id⟩
 ·simp only[wF,wI];exact Or.comm
end
structure SI (l:List Lr) (m:List (DN×Int)):Prop where
 uq:(m.map (·.1)).Nodup
 get:∀k,(Oc kK m k).getD 0=QO l k.at_ k.to_
 key:∀k,k∈m.map (·.1)↔∃x∈l,x.O=k.at_∧x.C=k.to_
def SI.nil:SI [] []:=⟨List.nodup_nil,λk=>rfl,λk=>by simp⟩
def SI.put {l:List Lr}{m:List (DN×Int)}(h:SI l m) (x:Lr):SI (l++[x]) (Nq kK m ⟨x.O,x.C⟩ (QO l x.O x.C+x.Ax.sum)):=by
 refine⟨dS h.uq _ _,λk=>?_,λk=>?_⟩
 ·rw[T8,UT];by_cases c:k=⟨x.O,x.C⟩
  ·subst c;rw[uJ rfl,uJ ⟨rfl,rfl⟩];rfl
  ·rw[uI c,uI λd=>c (by cases k;simp only at d;rw[d.1,d.2]),h.get];omega
 ·rw[Zg,h.key];constructor
  ·rintro(rfl|⟨y,a,b⟩)
   ·exact⟨x,by simp,rfl,rfl⟩
   ·exact⟨y,xH _ a,b⟩
  ·rintro⟨y,a,b,g⟩;rcases wF.1 a with a|a
   ·exact .inr ⟨y,a,b,g⟩
   ·simp only[wI] at a;subst a;left;cases k;simp only at b g;rw[b,g]
end Go.Proofs.YtibidnaedddfdaaGreat
