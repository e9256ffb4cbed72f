import Derived.Test.YtibidnaedddfdaaGreatDPureHArr
namespace Go.Proofs.YtibidnaedddfdaaGreat
set_option linter.all false
open Go.RowKit
structure Yj (P:Nat) (peak:AH) (s:Int) (e:A0):Prop where
 s0:0≤s
 to:e.to_= -1∨(0≤e.to_∧e.to_<P)
 dl:0≤e.delay∧e.delay≤240
 sk:e.slack=0∨e.slack=2
 ask:∃a c,e.asks peak.B=some a∧e.asks peak.A=some c∧0≤a.B∧(0≤a.A∧a.A≤9223372036854775807)∧(0≤c.B∧c.B≤4503599627370496)∧a.B≤c.A∧(c.B-a.A-2*e.slack)*1099511627776≤s*(peak.A-peak.B)
def US {P:Nat}{b:AH}{s:Int}(i:0≤s) {to d:Int}(g:to= -1∨(0≤to∧to<P)) (hd:0≤d∧d≤240) {f:Int→Option AH}{a c:AH}(j:f b.B=some a) (k:f b.A=some c) (h:OZ s b.B b.A a c):Yj P b s ⟨to,d,2,f⟩:=
 ⟨i,g,hd,.inr rfl,a,c,j,k,h.lo,⟨h.hi.1,by have:=h.hi.2;omega⟩,h.lo2,h.le,kR (jT (by show c.B-a.A-2*2≤c.B-a.A-1;omega) (by decide)) h.lip⟩
def Yj.mono {P:Nat}{b:AH}{s s':Int}{e:A0}(h:Yj P b s e) (o:b.B≤b.A) (d:s≤s'):Yj P b s' e:=by
 obtain⟨a,c,g,i,j,k,l,m,n⟩:=h.ask
 exact⟨kR h.s0 d,h.to,h.dl,h.sk,a,c,g,i,j,k,l,m,kR n (jT d (by omega))⟩
def ZQ {N:Nat}{P:Nat}{a:AH}(d:a.B≤a.A) {t:II}(c:0<t.As∧t.As≤9223372036854775807) (b:t.E= -1∨(0≤t.E∧t.E<P)):Yj P a 0 ⟨t.E,0,0,λx=>Dp N t x⟩:=
 ⟨kG _,b,⟨kG _,show(0:Int)≤240 by decide⟩,.inl rfl,⟨0,t.As⟩,⟨0,t.As⟩,rfl,rfl,kG _,⟨by show 0≤t.As;omega,c.2⟩,⟨kG _,show(0:Int)≤4503599627370496 by decide⟩,by show 0≤t.As;omega,by show(0-t.As-2*0)*1099511627776≤0*_;rw[Int.zero_mul];omega⟩
def Tr {N:Nat}(a:18446744073709551616<N) {l:A7}(b:l.C=4) (fr to:Int):JB N l fr to=some (pt fr l.N l.H-pt to l.Aa l.Y):=by
 have c:=Jk fr l.N l.H
 have d:=Jk to l.Aa l.Y
 unfold JB
 rw[show decide (l.C≠4)=false by simp [b],iO,Rv a,iM,Rv a,iM,DE (by omega) (by omega)]
def Sb {s u v x y p q:Int}(g:0≤s) (a:u≤v) (i:0≤x∧x≤1125899906842624) (j:0≤y∧y≤1125899906842624) (b:x≤y) (c:(y-x-1)*1099511627776≤s*(v-u)) (k:0≤p∧p≤1125899906842624) (d:p≤q) (l:q≤1125899906842624):OZ s u v ⟨max 0 (x-q),max 0 (x-p)⟩ ⟨max 0 (y-q),max 0 (y-p)⟩:=by
 refine⟨by show 0≤max 0 _;omega,⟨by show 0≤max 0 _;omega,by show max 0 _≤_;omega⟩,⟨by show 0≤max 0 _;omega,by show max 0 _≤_;omega⟩,by show max 0 _≤_;omega,by show max 0 _≤max 0 _;omega,?_⟩
 show(max 0 (y-q)-max 0 (x-p)-1)*1099511627776≤_
 exact kR (jT (show _≤y-x-1 by omega) (by decide)) c
def cQ {N:Nat}(j:18446744073709551616<N) {l:A7}{s t:Int}(g:Sv N l s t) (i:l.C=4) {to:AH}(d:IA to) {u v:Int}(k:0≤u) (b:u≤v) (o:v≤1125899906842624):
  ∃a c,Dn N l to u=some a∧Dn N l to v=some c∧OZ s u v a c:=by
 obtain⟨p,q,_⟩:=g.seep i
 unfold Dn Ho Gm
 simp only[E2,iM,Tr j i]
 obtain⟨m,w,L⟩:=p.lip k b o
 obtain⟨n,_,_⟩:=q.lip d.1 d.2.1 d.2.2
 exact⟨_,_,rfl,rfl,Sb g.s0 b (Jk _ _ _) (Jk _ _ _) m L (Jk _ _ _) n (Jk _ _ _).2⟩
def cP {N:Nat}(j:18446744073709551616<N) {l:A7}{s t:Int}(g:Sv N l s t) (i:l.C=4) {fr:AH}(d:IA fr) {u v:Int}(k:0≤u) (b:u≤v) (o:v≤1125899906842624):
  ∃a c,Dm N l fr u=some a∧Dm N l fr v=some c∧OZ t u v a c:=by
 obtain⟨p,q,_⟩:=g.seep i
 obtain⟨m,D,L⟩:=q.lip k b o
 obtain⟨n,_,_⟩:=p.lip d.1 d.2.1 d.2.2
 have w:=Jk u l.Aa l.Y
 have x:=Jk v l.Aa l.Y
 have y:=Jk fr.B l.N l.H
 have z:=Jk fr.A l.N l.H
 unfold Dm Ho Gm K6
 simp only[E2,iM,Tr j i]
 rw[I6 N (by omega) (by omega) (by omega) (by omega),I6 N (by omega) (by omega) (by omega) (by omega),I6 N (by omega) (by omega) (by omega) (by omega),I6 N (by omega) (by omega) (by omega) (by omega)]
 simp only[iM]
 have:=Sb g.t0 b w x m L y n z.2
 refine⟨_,_,rfl,rfl,?_⟩
 rw[show (0:Int)-(pt fr.A l.N l.H-pt u l.Aa l.Y)=pt u l.Aa l.Y-pt fr.A l.N l.H by omega,show(0:Int)-(pt fr.B l.N l.H-pt u l.Aa l.Y)=pt u l.Aa l.Y-pt fr.B l.N l.H by omega,show(0:Int)-(pt fr.A l.N l.H-pt v l.Aa l.Y)=pt v l.Aa l.Y-pt fr.A l.N l.H by omega,show(0:Int)-(pt fr.B l.N l.H-pt v l.Aa l.Y)=pt v l.Aa l.Y-pt fr.B l.N l.H by omega]
 exact this
def NZ {N:Nat}(i:18446744073709551616<N) {p:EM}{s:Int}(b:Sz p.N p.H s) (hd:p.H≠0) {v:Int}(c:0≤v∧v≤1125899906842624) (m:Int) (g:0≤m∧m<p.H):∃r,Hp N p v m=some r∧r.1=v*p.N/p.H+(if v*p.N%p.H+m<p.H then 0 else 1):=by
 have h0:=b.n0
 have j:=b.nd
 have k:=b.dm
 have l:=Mq (t:=v) (n:=p.N) (d:=p.H) (by omega) j c.1
 have o:=Mp (t:=v) (n:=p.N) (d:=p.H) (by omega) h0 c.1
 have u:=Int.emod_nonneg (v*p.N) hd
 have w:=Int.emod_lt_of_pos (v*p.N) (show 0<p.H by omega)
 unfold Hp HO
 rw[NW i,Vi c (by omega) (by omega) (by omega),iM]
 simp only[jV,iO]
 rw[iW g.1,iW g.2]
 simp only[mB,iN]
 generalize v*p.N/p.H=q at*
 generalize v*p.N%p.H=r at*
 rw[DE (n:=r+m) (by omega) (by omega)]
 by_cases a:r+m<p.H
 ·rw[iW a,iN,iR a]
  exact⟨_,rfl,by show q=_;omega⟩
 ·rw[jD a,iO,iP a,DE (n:=q+1) (by omega) (by omega)]
  exact⟨_,rfl,rfl⟩
def Vk {N:Nat}(l:18446744073709551616<N) {p:EM}{s:Int}(b:Sz p.N p.H s) (hd:p.H≠0) {u v:Int}(g:0≤u) (w:u≤v) (i:v≤1125899906842624):
  ∃a c,DT N p u=some a∧DT N p v=some c∧OZ s u v a c:=by
 have h0:=b.n0
 have z:=b.nd
 have A:=b.dm
 obtain⟨o,D,B⟩:=NZ l b hd (v:=u) ⟨g,by omega⟩ 0 (by omega)
 obtain⟨j,F,G⟩:=NZ l b hd (v:=u) ⟨g,by omega⟩ (p.H-1) (by omega)
 obtain⟨k,I,C⟩:=NZ l b hd (v:=v) ⟨by omega,i⟩ 0 (by omega)
 obtain⟨q,J,K⟩:=NZ l b hd (v:=v) ⟨by omega,i⟩ (p.H-1) (by omega)
 unfold DT
 rw[DE (by omega) (by omega),D,F,I,J]
 simp only[iM]
 refine⟨_,_,rfl,rfl,?_⟩
 obtain⟨m,M,L⟩:=b.lip g w i
 rw[OR ⟨g,by omega⟩ h0 z A,OR ⟨by omega,i⟩ h0 z A] at m L
 rw[OR ⟨by omega,i⟩ h0 z A] at M
 have Q:=Mp (t:=u) (n:=p.N) (d:=p.H) (by omega) h0 g
 have U:=Int.emod_lt_of_pos (u*p.N) (show 0<p.H by omega)
 have V:=Int.emod_lt_of_pos (v*p.N) (show 0<p.H by omega)
 rw[iR (by omega)] at B C
 have W:o.1≤j.1∧j.1≤o.1+1:=by rw[B,G];split<;>omega
 have X:k.1≤q.1∧q.1≤k.1+1:=by rw[C,K];split<;>omega
 generalize u*p.N/p.H=x at*
 generalize v*p.N/p.H=y at*
 refine⟨by show 0≤o.1;omega,⟨by show 0≤j.1;omega,by show j.1≤_;omega⟩,⟨by show 0≤k.1;omega,by show k.1≤_;omega⟩,by show q.1≤_;omega,by show o.1≤q.1;omega,?_⟩
 show(k.1-j.1-1)*1099511627776≤_
 exact kR (jT (show _≤y-x-1 by omega) (by decide)) L
structure Xa (P:Nat) (peak:AH) (ps:List (A0×Int)):Prop where
 ok:∀x∈ps,Yj P peak x.2 x.1
def Xa.snoc {P:Nat}{a:AH}{c:List (A0×Int)}(h:Xa P a c) {e:A0}{s:Int}(d:Yj P a s e):Xa P a (c++[(e,s)]):=⟨λx b=>by
 rcases kT.1 b with b|b
 ·exact h.ok x b
 ·rw[mK.1 b];exact d⟩
def Wa {N:Nat}(hN:18446744073709551616<N) {w:BS}{b:AU}(ae:w.b=b) (U:Mw N b) (ac:Jo b w.h.F) (Y:J9 IA b.D.length w.peaks) {p:Nat}(u:p<b.D.length) {g:AH}(af:w.peaks[p]? =some g) {takes:List II}(aj:takes.length≤1800000) (ht:∀t∈takes,AD t.As):
  ∃d,Gy N w (p:Int) takes=some (d.map (·.1))∧Xa b.D.length g d∧(d.map (·.2)).sum≤1099511627776∧d.length≤takes.length+100:=by
 subst ae
 have ak:=U.head.li
 have ag:=U.head.pl
 obtain⟨k1,k2,k3⟩:=Y.2 g (lI af)
 have sm:=U.sums p _ (jE u)
 unfold Gy
 obtain⟨l1,⟨W,rfl,x1,z1,n1⟩,e1⟩:=HZ takes.length (λn i l=>CA N w (p:Int) takes (CQ N w (p:Int)) n l i) (CQ N w (p:Int)) (λk l=>∃d:List (A0×Int),l=d.map (·.1)∧Xa w.b.D.length g d∧(d.map (·.2)).sum=0∧d.length≤k) (λn k l s=>by
  simp only[CA];rw[FY s];rfl) (λn k l hi s=>by
  obtain⟨d,rfl,h1,h2,h3⟩:=hi
  have hL:=ht _ (jQ s)
  simp only[CA]
  rw[FX s,iN,Bv s]
  simp only[iM,FK,BV (show k<4611686018427387904 by omega),OF,E7]
  generalize takes[k]=t at hL
  have J:∃s',(∃d:List (A0×Int),s'=d.map (·.1)∧Xa w.b.D.length g d∧(d.map (·.2)).sum=0∧d.length≤k+1)∧CA N w (p:Int) takes (CQ N w (p:Int)) n (d.map (·.1)) ((k+1:Nat):Int)=CA N w (p:Int) takes (CQ N w (p:Int)) n s' ((k+1:Nat):Int):=⟨_,⟨d,rfl,h1,h2,by omega⟩,rfl⟩
  cases hB:(cond (decide (t.Ah≠(p:Int))) true (!(decide (0≤t.Bm)&&decide (t.Bm<(w.b.Ar.length:Int))))||decide (t.As≤0))
  ·rw[iO]
   have ai:¬t.As≤0:=by
    rw[jP] at hB
    exact mX hB.2
   have m:(t.E= -1∨(0≤t.E∧t.E<w.b.D.length))→∃s',(∃d:List (A0×Int),s'=d.map (·.1)∧Xa w.b.D.length g d∧(d.map (·.2)).sum=0∧d.length≤k+1)∧chk (room ((d.map (·.1)).length+1) 32) (CA N w (p:Int) takes (CQ N w (p:Int)) n (d.map (·.1)++([(⟨t.E,0,0,(λx=>Dp N t x)⟩:A0)]:List A0)) ((k+1:Nat):Int))=CA N w (p:Int) takes (CQ N w (p:Int)) n s' ((k+1:Nat):Int):=λj=>by
    rw[PI (by rw[kZ];omega)]
    refine⟨_,⟨d++[(⟨t.E,0,0,λx=>Dp N t x⟩,0)],by simp,h1.snoc (ZQ k2 ⟨by omega,hL.2⟩ j),by simp [h2],by simp;omega⟩,rfl⟩
   by_cases j:t.E= -1
   ·rw[show decide (t.E≠ -1)=false by simp [j],iO]
    simp only[iM,iO]
    exact m (.inl j)
   ·rw[show decide (t.E≠ -1)=true by simp [j],iN]
    by_cases K:0≤t.E∧t.E<w.b.D.length
    ·obtain⟨y,Z,_⟩:=Us (l:=w.b.D) K.1 K.2
     rw[iW K.1,iW K.2]
     simp only[mB,jV,iO,Z,Bv u,iM]
     cases decide (y.Aj≠(w.b.D[p]).Aj)
     ·exact m (.inr K)
     ·exact J
    ·rw[show (decide (0≤t.E)&&decide (t.E<(w.b.D.length:Int)))=false by
      rw[mQ]
      simp only[jK]
      omega]
     exact J
  ·exact J) N 0 [] ⟨[],rfl,⟨λx hx=>by cases hx⟩,rfl,jB _⟩ (by omega) (iU _)
 rw[show CA N w (p:Int) takes (CQ N w (p:Int)) N [] 0=CQ N w (p:Int) (W.map (·.1)) from e1]
 unfold CQ
 obtain⟨l2,⟨aa,rfl,x2,z2,n2⟩,e2⟩:=HZ w.b.F.length (λn i l=>B1 N w (p:Int) (CZ N w (p:Int)) n l i) (CZ N w (p:Int)) (λk l=>∃d:List (A0×Int),l=d.map (·.1)∧Xa w.b.D.length g d∧(d.map (·.2)).sum≤((w.b.F.take k).map λl=>L8 N l p).sum∧d.length≤takes.length+k) (λn k l s=>by
  simp only[B1];rw[FY s];rfl) (λn k l hi s=>by
  obtain⟨d,rfl,h1,h2,h3⟩:=hi
  have M:=jQ s
  have G:=U.links _ M
  have lk:=U.lk _ M
  have c0:=U.ctr0 _ M p
  have ad:k<w.h.F.length:=by rw[ac.1];exact s
  have hK:=ac.2 k _ _ (jE s) (jE ad)
  have sp:=PD hN G
  simp only[B1]
  rw[FX s,iN,Bv s]
  simp only[iM,C8,BV (show k<4611686018427387904 by omega)]
  have mt:=Up (f:=λl=>L8 N l p) s
  generalize hl:w.b.F[k]=l at G lk c0 hK sp mt
  generalize ah:w.h.F[k]=kn at hK
  have m:∀(e:A0) (z:Int),Yj w.b.D.length g z e→z≤L8 N l p→∃s',(∃d:List (A0×Int),s'=d.map (·.1)∧Xa w.b.D.length g d∧(d.map (·.2)).sum≤((w.b.F.take (k+1)).map λl=>L8 N l p).sum∧d.length≤takes.length+(k+1))∧chk (room ((d.map (·.1)).length+1) 32) (B1 N w (p:Int) (CZ N w (p:Int)) n (d.map (·.1)++([e]:List A0)) ((k+1:Nat):Int))=B1 N w (p:Int) (CZ N w (p:Int)) n s' ((k+1:Nat):Int):=λe z he hz=>by
   rw[PI (by rw[kZ];omega)]
   refine⟨_,⟨d++[(e,z)],by simp,h1.snoc he,?_,by simp;omega⟩,rfl⟩
   rw[List.map_append,mP,mt]
   simp only[jZ,List.map_nil,List.sum_cons,List.sum_nil]
   omega
  by_cases hF:l.I=(p:Int)
  ·have o:KK N l≤L8 N l p:=by
    unfold L8
    rw[iR hF]
    split<;>omega
   rw[iW hF]
   by_cases h4:l.C=4
   ·rw[show decide (l.C≠4)=false by simp [h4]]
    simp only[Bool.and_false,iO,iN]
    obtain⟨_,_,j⟩:=lk.seep h4
    have q:=G.to.resolve_left j
    obtain⟨y,Z,Q⟩:=Us (l:=w.peaks) (i:=l.E) q.1 (by rw[Y.1];exact q.2)
    obtain⟨a,c,ea,ec,hA⟩:=cQ hN lk h4 (Y.2 y (lI Q)) k1 k2 k3
    simp only[Z,iM]
    exact m _ _ (US sp.1.1 G.to G.delay ea ec hA) o
   ·rw[show decide (l.C≠4)=true by simp [h4]]
    simp only[mB,iN,Bv ad,iM,ah,F2,C8,BV (show k<4611686018427387904 by omega)]
    have kd:=G.kind
    have e2:∀(to:AH) v,Do N l kn to v=Eg N l kn ⟨v,v⟩ to:=λto v=>by
     unfold Do
     simp only[E2,iM]
     cases Eg N l kn ⟨v,v⟩ to<;>rfl
    have mk:∀to:AH,IA to→Yj w.b.D.length g (KK N l) ⟨l.E,l.V,2,λx=>Do N l kn to x⟩:=λto j=>by
     obtain⟨a,c,ea,ec,hA⟩:=U4 hN lk (by omega) hK j k1 k2 k3
     exact US sp.1.1 G.to G.delay ((e2 to _).trans ea) ((e2 to _).trans ec) hA
    by_cases j:l.E= -1
    ·rw[show decide (l.E≠ -1)=false by simp [j],iO]
     exact m _ _ (mk ⟨0,0⟩ ⟨by decide,by decide,by decide⟩) o
    ·rw[show decide (l.E≠ -1)=true by simp [j],iN]
     have q:=G.to.resolve_left j
     obtain⟨y,Z,Q⟩:=Us (l:=w.peaks) (i:=l.E) q.1 (by rw[Y.1];exact q.2)
     simp only[Z,iM]
     exact m _ _ (mk ⟨y.B,y.A⟩ (Y.2 y (lI Q))) o
  ·rw[jD hF]
   simp only[mA,iO]
   by_cases hT:l.E=(p:Int)∧l.C=4
   ·obtain⟨hT,h4⟩:=hT
    have o:Lm N l≤L8 N l p:=by
     unfold L8
     rw[iP hF,iR hT]
     omega
    rw[iW hT,iW h4]
    simp only[mB,iN]
    obtain⟨y,Z,Q⟩:=Us (l:=w.peaks) (i:=l.I) G.fr.1 (by rw[Y.1];exact G.fr.2)
    obtain⟨a,c,ea,ec,hA⟩:=cP hN lk h4 (Y.2 y (lI Q)) k1 k2 k3
    simp only[Z,iM]
    exact m _ _ (US sp.2.1 (.inr G.fr) G.delay ea ec hA) o
   ·rw[show (decide (l.E=(p:Int))&&decide (l.C=4))=false by
     rw[mQ]
     simp only[jK]
     omega,iO]
    exact⟨_,⟨d,rfl,h1,by rw[mt];omega,by omega⟩,rfl⟩) N 0 (W.map (·.1)) ⟨W,rfl,x1,by rw[z1];simp,by omega⟩ (by omega) (iU _)
 rw[show B1 N w (p:Int) (CZ N w (p:Int)) N (W.map (·.1)) 0=CZ N w (p:Int) (aa.map (·.1)) from e2]
 rw[mG] at z2
 unfold CZ Fy
 rw[Bv u,iM]
 have ab:=U.places _ (jQ u)
 have rt:=U.rt _ (jQ u)
 have rt0:=U.rt0 _ (jQ u)
 generalize w.b.D[p]=X at ab rt rt0 sm
 by_cases hd:X.H=0
 ·rw[show decide (X.H≠0)=false by simp [hd],iO]
  exact⟨aa,rfl,x2,by omega,by omega⟩
 ·rw[show decide (X.H≠0)=true by simp [hd],iN,PI (by rw[kZ];omega)]
  obtain⟨a,c,ea,ec,hA⟩:=Vk hN (rt hd) hd k1 k2 k3
  refine⟨aa++[(⟨X.Ao,X.V,2,λx=>DT N X x⟩,sl N X.N X.H)],by simp,x2.snoc (US rt0 ab.down ab.delay ea ec hA),?_,by simp;omega⟩
  rw[List.map_append,mP]
  simp only[jZ,List.map_nil,List.sum_cons,List.sum_nil]
  omega
def Tu {N:Nat}{a:AH}(b:IA a) {m z S:Int}(g:0≤m∧m≤9223372036854775807) (i: -4611686018427387000≤z∧z≤4611686018427387000) (c:S≤1099511627776) (j:(z-m)*1099511627776≤S*(a.A-a.B)):
  ∃y,Fj N a m z=some y∧IA y∧y.A≤a.A:=by
 obtain⟨k,l,n⟩:=b
 have d:z-m≤a.A-a.B:=by
  have:=jT c (show 0≤a.A-a.B by omega)
  omega
 unfold Fj
 rw[gI N (by unfold AD;omega) (by unfold AD;omega),iM,I6 N (by omega) (by omega) (by omega) (by omega),iM,ZY (by unfold AD;omega)]
 refine⟨_,rfl,⟨by show 0≤max 0 _;omega,by show max 0 _≤max 0 _;omega,by show max 0 _≤_;omega⟩,by show max 0 _≤_;omega⟩
def Vy {N:Nat}(hN:18446744073709551616<N) {w:BS}{b:AU}(af:w.b=b) (hb:Mw N b) {t:Int}(ht:w.h.K=t) (h0:0≤t∧t≤33554432) (hv:w.h.M.length=b.D.length) {p:Nat}(V:p<b.D.length) {d:AH}(W:w.peaks[p]? =some d) (ag:IA d)
  (hq:N4 b.D.length (t+1) w.h.S) (ao:w.h.S.length+300<4398048301104) {g:List (A0×Int)} (X:Xa b.D.length d g) (u:(g.map (·.2)).sum≤1099511627776) (ap:g.length≤200):
  ∃sp v q,Gx N w (p:Int) (g.map (·.1))=some (sp,w.h.M.set p v,q)∧IA sp∧IA v∧v.A≤(b.D[p]).Ag∧v.A≤d.A∧N4 b.D.length (t+1) q∧q.length≤w.h.S.length+g.length+1:=by
 subst af
 subst ht
 obtain⟨k1,k2,k3⟩:=ag
 have j:=hb.places _ (jQ V)
 have Y:p<w.peaks.length:=(jF.1 W).1
 have Z:w.peaks[p]=d:=(jF.1 W).2
 have aa:∀x∈g.map (·.2),0≤x:=λx hx=>by
  obtain⟨z,hz,rfl⟩:=kM.1 hx
  exact(X.ok z hz).s0
 have hD:0≤d.A-d.B:=by omega
 unfold Gx
 rw[Bv V,Bv Y,Z]
 simp only[iM]
 generalize al:w.b.D[p]=pl at j
 obtain⟨⟨z,m,q⟩,⟨C,H,o,F,I⟩,e1⟩:=HZ (g.map (·.1)).length (λn i (s:Int×Int×List B9)=>Da N w (g.map (·.1)) d (Db N w (p:Int) pl d) n i s.1 s.2.1 s.2.2) (λs=>Db N w (p:Int) pl d s.1 s.2.1 s.2.2)
  (λk s=>(0≤s.2.1∧s.2.1≤9223372036854775807)∧(-(k:Int)*4503599627370498≤s.1∧s.1≤(k:Int)*4503599627370498)∧(s.1-s.2.1)*1099511627776≤((g.map (·.2)).take k).sum*(d.A-d.B)∧N4 w.b.D.length (w.h.K+1) s.2.2∧s.2.2.length≤w.h.S.length+k) (λn k s J=>by
  simp only[Da];rw[FY J];rfl) (λn k s hi J=>by
  obtain⟨z,m,q⟩:=s
  obtain⟨C,H,o,F,I⟩:=hi
  have C:0≤m∧m≤9223372036854775807:=C
  have H: -(k:Int)*4503599627370498≤z∧z≤(k:Int)*4503599627370498:=H
  have o:(z-m)*1099511627776≤((g.map (·.2)).take k).sum*(d.A-d.B):=o
  have F:N4 w.b.D.length (w.h.K+1) q:=F
  have I:q.length≤w.h.S.length+k:=I
  have ab:k<g.length:=by rw[kZ] at J;exact J
  have Q:=X.ok _ (jQ ab)
  have st:=VX (l:=g.map (·.2)) (k:=k) (by rw[kZ];exact ab)
  have sl:=OP aa k
  have ah:=OP aa (k+1)
  simp only[Da]
  rw[FX J,iN,Bv J]
  simp only[List.getElem_map] at st ⊢
  generalize g[k]=x at Q st
  obtain⟨e,sx⟩:=x
  obtain⟨a,c,ea,ec,a1,a2,c1,ac,L⟩:=Q.ask
  have L:(c.B-a.A-2*e.slack)*1099511627776≤sx*(d.A-d.B):=L
  have sk:=Q.sk
  have ea:e.asks d.B=some a:=ea
  have ec:e.asks d.A=some c:=ec
  have sk:e.slack=0∨e.slack=2:=sk
  obtain⟨y,ey,y1,y2⟩:=Tu (N:=N) ⟨k1,k2,k3⟩ (m:=m) (z:=z) C (by omega) (kR sl.2 u) o
  obtain⟨ai,aj,ak⟩:=y1
  obtain⟨U,G,q1,q2⟩:=Ss (N:=N) (w:={ w with h:={ w.h with S:=q}}) (q:=q) (by omega) rfl rfl h0 F (by omega) Q.to Q.dl (s:=⟨min a.B y.B,min c.A y.A⟩) ⟨by show 0≤min _ _;omega,by show min _ _≤min _ _;omega,by show min _ _≤_;omega⟩
  simp only[iM,ea,ec,ey]
  rw[G,iM,YO N (a:=a.A) (b:=e.slack) (by unfold AD;omega) (by unfold AD;omega),iM,YO N (a:=m) (by unfold AD;omega) (ZX _),iM,I6 N (by omega) (by omega) (by omega) (by omega),iM,OK N (by omega) (by omega) (by omega) (by omega),iM,BV (by omega)]
  refine⟨(z+(c.B-e.slack),Jx (m+Jx (a.A+e.slack)),U),⟨?_,?_,?_,q1,?_⟩,rfl⟩
  ·show 0≤Jx _∧Jx _≤_
   unfold Jx
   omega
  ·show -((k+1:Nat):Int)*4503599627370498≤z+(c.B-e.slack)∧z+(c.B-e.slack)≤((k+1:Nat):Int)*4503599627370498
   omega
  ·show(z+(c.B-e.slack)-Jx (m+Jx (a.A+e.slack)))*1099511627776≤_
   rw[st]
   have aq:0≤sx:=Q.s0
   have ad:=lR ah.1 hD
   rw[st] at ad
   by_cases am:m+(a.A+e.slack)≤9223372036854775807
   ·have e3:Jx (m+Jx (a.A+e.slack))=m+(a.A+e.slack):=by unfold Jx;omega
    rw[e3,Int.add_mul]
    show _≤_+sx*(d.A-d.B)
    generalize sx*(d.A-d.B)=A at*
    generalize ((g.map (·.2)).take k).sum*(d.A-d.B)=B at*
    omega
   ·have e3:Jx (m+Jx (a.A+e.slack))=9223372036854775807:=by unfold Jx;omega
    rw[e3]
    refine kR ?_ ad
    omega
  ·show U.length≤_
   have:U.length≤q.length+1:=q2
   omega) N 0 (0,0,w.h.S) ⟨⟨kG 0,show(0:Int)≤9223372036854775807 by decide⟩,⟨show -((0:Nat):Int)*4503599627370498≤0 by decide,show(0:Int)≤((0:Nat):Int)*4503599627370498 by decide⟩,by simp,hq,jB _⟩ (by rw[kZ];omega) (iU _)
 rw[show Da N w (g.map (·.1)) d (Db N w (p:Int) pl d) N 0 0 0 w.h.S=Db N w (p:Int) pl d z m q from e1]
 rw[kZ] at H o I
 rw[lY (by rw[kZ];exact jB _)] at o
 have C:0≤m∧m≤9223372036854775807:=C
 have H: -(g.length:Int)*4503599627370498≤z∧z≤(g.length:Int)*4503599627370498:=H
 have o:(z-m)*1099511627776≤(g.map (·.2)).sum*(d.A-d.B):=o
 have F:N4 w.b.D.length (w.h.K+1) q:=F
 have I:q.length≤w.h.S.length+g.length:=I
 obtain⟨y,ey,⟨ai,aj,ak⟩,y2⟩:=Tu (N:=N) ⟨k1,k2,k3⟩ (m:=m) (z:=z) C (by omega) u o
 have an:0≤pl.Ag∧pl.Ag≤1125899906842624:=j.cap
 unfold Db
 rw[ey,iM,I6 N (by omega) (by omega) (by omega) (by omega),iM,I6 N (by omega) (by omega) (by omega) (by omega),iM]
 have ae:IA ⟨max 0 (y.B-pl.Ag),max 0 (y.A-pl.Ag)⟩:=⟨by show 0≤max 0 _;omega,by show max 0 _≤max 0 _;omega,by show max 0 _≤_;omega⟩
 obtain⟨U,G,q1,q2⟩:=Ss (N:=N) (w:={ w with h:={ w.h with S:=q}}) (q:=q) (by omega) rfl rfl h0 F (by omega) j.down j.delay ae
 have q2:U.length≤q.length+1:=q2
 rw[G,iM,Bv (show p<w.h.M.length by omega)]
 simp only[iM,S3]
 exact⟨_,⟨min y.B pl.Ag,min y.A pl.Ag⟩,U,rfl,ae,⟨by show 0≤min _ _;omega,by show min _ _≤min _ _;omega,by show min _ _≤_;omega⟩,by show min _ _≤_;omega,by show min _ _≤_;omega,q1,by omega⟩
structure fI (b:AU) (t:Int) (r:Cf×List AH×List AH):Prop where
 hour:r.1.K=t+1
 vol:r.1.M.length=b.D.length
 lks:Jo b r.1.F
 que:N4 b.D.length (t+1) r.1.S
 pk:J9 IA b.D.length r.2.1
 sp:J9 IA b.D.length r.2.2
 vols:∀(p:Nat) v,r.1.M[p]? =some v→IA v∧(∀pl,b.D[p]? =some pl→v.A≤pl.Ag)∧∀k,r.2.1[p]? =some k→v.A≤k.A
def Xf {N:Nat}(hN:18446744073709551616<N) {b:AU}(z:Mw N b) {h:Cf}(hv:h.M.length=b.D.length) (aa:∀v∈h.M,IA v) (h0:0≤h.K∧h.K≤33554432) (hq:N4 b.D.length h.K h.S) (g:Jo b h.F) {in_:CW}(hf:in_.Ba.length≤1000) (hc:in_.Bb.length≤1000) (ad:in_.Au.length≤90) (ht:∀t∈in_.Au,AD t.As) {sure:List Bool}{l:List AH}(hr:∀s∈l,AD s.B∧AD s.A)
  (ae:h.S.length≤4398048211104):∃r,H4 N b h in_ sure l=some r∧fI b h.K r∧r.1.S.length≤h.S.length+b.D.length*(in_.Au.length+101):=by
 have u:=z.head.pl
 have af:=z.head.li
 have ag:=g.1
 have I:Kj (b.D.length:Int) (b.D.length:Int) 16=true:=by simp [Kj];omega
 unfold H4 Cu Cp
 rw[PI (by simp only[List.length_nil];omega),iM,PI (by simp only[List.length_nil];omega),iM,I]
 simp only[kF,chk,iN]
 generalize hz:List.replicate ((b.D.length:Int):Int).toNat ((⟨0,0⟩:AH):AH)=C
 have J:C.length=b.D.length:=by rw[←hz];simp
 have Q:∀x∈C,x=⟨0,0⟩:=λx y=>by rw[←hz] at y;exact List.eq_of_mem_replicate y
 obtain⟨l1,e1,k1⟩:=Vv hN (w:=⟨b,⟨h.K,h.M,h.S,h.F⟩,C⟩) rfl z (in_:=in_) (by omega) (by omega) sure g
 rw[e1,iM]
 obtain⟨c,m,d,e2,k2,k3,k4,k5⟩:=Si hN (w:=⟨b,⟨h.K,h.M,h.S,l1⟩,C⟩) rfl z hv aa (t:=h.K) rfl hq (by show h.S.length≤_;omega) k1 J Q hr
 rw[e2,iM]
 have k3:c.length≤h.S.length:=k3
 obtain⟨⟨U,vs,q⟩,⟨G,o,V,W,X⟩,e3⟩:=HZ b.D.length (λn i (s:List AH×List AH×List B9)=>Fe N b h in_ (c,m,d) (Ff N h (c,m,d)) n i s.1 s.2.1 s.2.2) (λs=>Ff N h (c,m,d) s.1 s.2.1 s.2.2)
  (λk s=>J9 IA b.D.length s.1∧s.2.1.length=b.D.length∧(∀(p:Nat) v,p<k→s.2.1[p]? =some v→IA v∧(∀H,b.D[p]? =some H→v.A≤H.Ag)∧∀x,d[p]? =some x→v.A≤x.A)∧N4 b.D.length (h.K+1) s.2.2∧s.2.2.length≤c.length+k*(in_.Au.length+101)) (λn k s g=>by
  simp only[Fe];rw[FY g];rfl) (λn k s hi g=>by
  obtain⟨U,vs,q⟩:=s
  obtain⟨G,o,V,W,X⟩:=hi
  have G:J9 IA b.D.length U:=G
  have o:vs.length=b.D.length:=o
  have V:∀(p:Nat) v,p<k→vs[p]? =some v→IA v∧(∀H,b.D[p]? =some H→v.A≤H.Ag)∧∀x,d[p]? =some x→v.A≤x.A:=V
  have W:N4 b.D.length (h.K+1) q:=W
  have X:q.length≤c.length+k*(in_.Au.length+101):=X
  have Y:k<d.length:=by rw[k5.1];exact g
  have j:=jE Y
  have Z:=k5.2 _ (jQ Y)
  generalize d[k]=ab at j Z
  have ah:k*(in_.Au.length+101)+(in_.Au.length+101)=(k+1)*(in_.Au.length+101):=by rw[kA];omega
  have ac:(k+1)*(in_.Au.length+101)≤64*191:=Nat.mul_le_mul (by omega) (by omega)
  obtain⟨ps,ep,p3,p4,p5⟩:=Wa hN (w:=⟨b,⟨h.K,vs,q,m⟩,d⟩) rfl z k4 k5 g j (takes:=in_.Au) (by omega) ht
  obtain⟨s1,v1,q1,el,a1,a2,a3,a4,a5,a6⟩:=Vy hN (w:=⟨b,⟨h.K,vs,q,m⟩,d⟩) rfl z (t:=h.K) rfl h0 o g j Z W (by show q.length+300<4398048301104;omega) p3 p4 (by omega)
  have a6:q1.length≤q.length+ps.length+1:=a6
  simp only[Fe]
  rw[FX g,iN,ep,iM,el,iM,Bv (show k<U.length by rw[G.1];exact g)]
  simp only[iM,BV (show k<4611686018427387904 by omega),S3]
  refine⟨(U.set k s1,vs.set k v1,q1),⟨G.set k a1,by show(vs.set k v1).length=_;rw[List.length_set];exact o,λp v hp a=>?_,a5,by show q1.length≤_;omega⟩,rfl⟩
  have a:(vs.set k v1)[p]? =some v:=a
  by_cases e:k=p
  ·subst e
   rw[List.getElem?_set_self (by omega)] at a
   cases a
   refine⟨a2,λH u=>?_,λx y=>?_⟩
   ·rw[jE g] at u
    cases u
    exact a3
   ·rw[j] at y
    cases y
    exact a4
  ·rw[List.getElem?_set_ne e] at a
   exact V p v (by omega) a) N 0 (C,h.M,c) ⟨⟨J,λx y=>by rw[Q x y];exact⟨by decide,by decide,by decide⟩⟩,hv,λp v hp=>by omega,k2,by simp⟩ (by omega) (iU _)
 rw[show Fe N b h in_ (c,m,d) (Ff N h (c,m,d)) N 0 C h.M c=Ff N h (c,m,d) U vs q from e3]
 have o:vs.length=b.D.length:=o
 have X:q.length≤c.length+b.D.length*(in_.Au.length+101):=X
 unfold Ff
 rw[DE (by omega) (by omega)]
 exact⟨_,rfl,⟨rfl,o,k4,W,k5,G,λp v a=>V p v (by have:=(jF.1 a).1;have this:p<vs.length:=this;show p<_;omega) a⟩,by show q.length≤_;omega⟩
end Go.Proofs.YtibidnaedddfdaaGreat
