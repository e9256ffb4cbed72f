import Derived.Test.YtibidnaedddfdaaGreatDPureHStep
namespace Go.Proofs.YtibidnaedddfdaaGreat
set_option linter.all false
open Go.RowKit
def Ke (c:Cr):Prop:=(0≤c.I∧c.I≤16777216)∧c.Ai.length≤24∧∀r∈c.Ai,∀s∈r,AD s.B∧AD s.A
def gV {N:Nat}(a:Option Bool) (r:List AH) (j:r.length≤4398046511104) (l:9007199254740992<N):Ei N r a N 0=some false∨((∀s∈r,AD s.B∧AD s.A)∧Ei N r a N 0=a):=by
 rcases Fl r.length (Ei N r a) a (λi=>∀s,r[i]? =some s→AD s.B∧AD s.A) (λn k b=>by
  simp only[Ei];rw[FY b];rfl) (λn k b=>by
  simp only[Ei,EO]
  rw[FX b,iN,Bv b]
  simp only[iM,BV (show k<4611686018427387904 by omega)]
  by_cases g:(r[k]).B≤(r[k]).A∧0≤(r[k]).B∧(r[k]).A≤1125899906842624
  ·rw[iW g.1,jD (show ¬(r[k]).B<0 by omega),jD (show ¬1125899906842624<(r[k]).A by omega)]
   refine .inr ⟨λs c=>?_,rfl⟩
   rw[jE b] at c
   cases c
   unfold AD
   omega
  ·have:((!decide ((r[k]).B≤(r[k]).A)||decide ((r[k]).B<0))||decide (1125899906842624<(r[k]).A))=true:=by
    simp only[jC,jI,jK,jG]
    omega
   rw[this]
   exact .inl rfl) N 0 (by omega) (iU _) with h|⟨h1,h2⟩
 ·exact .inl h
 ·refine .inr ⟨λs c=>?_,h2⟩
  obtain⟨i,d⟩:=kJ.1 c
  exact h1 i (iU _) (jF.1 d).1 s d
def U2 {N:Nat}(j:9007199254740992<N) (b:AU) (o:b.D.length≤4398046511104) (c:Cr):∃v,Ix N b c=some v∧(v=true→Ke c):=by
 unfold Ix
 cases l:((((decide (c.At<0)||decide (1073741824<c.At))||decide (c.I<0))||decide (16777216<c.I))||decide (24<(c.Ai.length:Int)))
 ·simp only[jP,jK] at l
  rw[iO]
  rcases Fl c.Ai.length (D9 N b c (FA N)) (FA N) (λi=>∀r,c.Ai[i]? =some r→∀s∈r,AD s.B∧AD s.A) (λn k a=>by
   simp only[D9];rw[FY a];rfl) (λn k a=>by
   simp only[D9]
   rw[FX a,iN,Bv a,iM]
   by_cases m:(c.Ai[k]).length=b.D.length
   ·rw[show decide (((c.Ai[k]).length:Int)≠(b.D.length:Int))=false by simp [m],iO]
    rcases gV (N:=N) (Gp N (k:Int) (D9 N b c (FA N) n)) (c.Ai[k]) (by omega) j with h|⟨h1,h2⟩
    ·exact .inl h
    ·refine .inr ⟨λr d=>?_,?_⟩
     ·rw[jE a] at d
      cases d
      exact h1
     ·rw[h2]
      unfold Gp
      rw[BV (by omega)]
   ·rw[show decide (((c.Ai[k]).length:Int)≠(b.D.length:Int))=true by simp;omega,iN]
    exact .inl rfl) N 0 (by omega) (iU _) with h|⟨h1,h2⟩
  ·exact⟨false,h,λh=>by cases h⟩
  ·refine⟨true,h2,λ_=>⟨by omega,by omega,λr d=>?_⟩⟩
   obtain⟨i,g⟩:=kJ.1 d
   exact h1 i (iU _) (jF.1 g).1 r g
 ·exact⟨false,rfl,λh=>by cases h⟩
def fF {N:Nat}{c:Cr}(k:Ke c) {t:Int}(o:0≤t∧t≤33554432) {P:Nat}(p:P≤64):∃l,JC N c t (P:Int)=some l∧∀s∈l,AD s.B∧AD s.A:=by
 obtain⟨q,u,m⟩:=k
 have b:∀s∈List.replicate ((P:Nat):Int).toNat (⟨0,0⟩:AH),AD s.B∧AD s.A:=λs a=>by
  rw[List.eq_of_mem_replicate a]
  exact⟨⟨by decide,by decide⟩,⟨by decide,by decide⟩⟩
 unfold JC Iy
 by_cases h0:(P:Int)<1∨64<(P:Int)
 ·rw[show (decide ((P:Int)<1)||decide (64<(P:Int)))=true by simp only[jC,jG];exact h0,iN]
  exact⟨_,rfl,λs a=>by cases a⟩
 ·rw[show (decide ((P:Int)<1)||decide (64<(P:Int)))=false by simp only[jP,jK];omega,iO,show Kj (P:Int) (P:Int) 16=true by simp [Kj];omega]
  simp only[chk,iN]
  by_cases j:t<c.I
  ·rw[iW j,iN]
   exact⟨_,rfl,b⟩
  ·rw[jD j,iO,DE (by omega) (by omega),iW (show 0≤t-c.I by omega),lC]
   by_cases d:t-c.I<c.Ai.length
   ·obtain⟨r,n,g⟩:=Us (l:=c.Ai) (i:=t-c.I) (by omega) d
    rw[iW d,iN,n,iM]
    refine⟨_,rfl,λs a=>?_⟩
    unfold XX at a
    rcases kT.1 a with a|a
    ·exact m r (lI g) s (List.mem_of_mem_take a)
    ·exact b s (nA a)
   ·rw[jD d,iO]
    exact⟨_,rfl,b⟩
structure bV (b:AU) (h:Cf) (m:Nat):Prop where
 hour:0≤h.K∧h.K≤16777216+(m:Int)
 vol:h.M.length=b.D.length
 vols:∀v∈h.M,IA v
 que:N4 b.D.length h.K h.S
 kn:Jo b h.F
 len:h.S.length≤4398046511104+m*6400
def Og (a:List CW) (i:Nat):CW:=(a[i]?).getD ⟨[],[],[],[],[]⟩
def Pw (a:List CW):Prop:=∀x∈a,x.Ba.length≤6∧x.Bb.length≤6∧x.Au.length≤6∧∀t∈x.Au,AD t.As
def Pw.at_ {a:List CW}(h:Pw a) (i:Nat):(Og a i).Ba.length≤6∧(Og a i).Bb.length≤6∧(Og a i).Au.length≤6∧∀t∈(Og a i).Au,AD t.As:=by
 unfold Og
 cases e:a[i]? with
 |none=>exact⟨iU _,iU _,iU _,λt b=>by cases b⟩
 |some x=>exact h x (lI e)
def SC (N:Nat) (b:AU) (a:List CW) (sure:List Bool) (c:Cr) (i:Nat) (h:Cf):Cf×List AH:=match JC N c h.K (b.D.length:Int) with
 |some r=>match H4 N b h (Og a i) sure r with
  |some x=>(x.1,x.2.1)
  |none=>(h,[])
 |none=>(h,[])
def X1 {N:Nat}(u:18446744073709551616<N) {b:AU}(n:Mw N b) (j:b.D.length≤6) {a:List CW}(w:Pw a) (sure:List Bool) {c:Cr}(y:Ke c) (i:Nat) {h:Cf}{m:Nat}(F:m≤50) (d:bV b h m):
  ∃r x,JC N c h.K (b.D.length:Int)=some r∧H4 N b h (Og a i) sure r=some x∧SC N b a sure c i h=(x.1,x.2.1)∧bV b x.1 (m+1):=by
 have G:=d.hour
 have H:=d.len
 have l:=n.head.pl
 obtain⟨r,o,z⟩:=fF (N:=N) y (t:=h.K) (by omega) l
 obtain⟨I,J,M,A⟩:=w.at_ i
 obtain⟨x,p,g,q⟩:=Xf u n d.vol d.vols (by omega) d.que d.kn (in_:=Og a i) (by omega) (by omega) (by omega) A (sure:=sure) z (by omega)
 have s:b.D.length*((Og a i).Au.length+101)≤6*107:=Nat.mul_le_mul j (by omega)
 refine⟨r,x,o,p,by unfold SC;rw[o];simp only;rw[p],⟨?_,g.vol,λv B=>?_,by rw[g.hour];exact g.que,g.lks,by omega⟩⟩
 ·rw[g.hour]
  omega
 ·obtain⟨k,C⟩:=kJ.1 B
  exact(g.vols k v C).1
def X5 (t:Fk) (a:List AH):Bool:=decide (0≤t.Ah)&&decide (t.Ah<(a.length:Int))&&decide (t.Bc<((a[t.Ah.toNat]?).getD ⟨0,0⟩).A)
def Kn (N:Nat) (b:AU) (a:List CW) (sure:List Bool) (c:Cr) (t:Fk):Nat→Nat→Cf→Int
 |0,_,_=> -1
 |n+1,i,h=>if X5 t (SC N b a sure c i h).2=true then (i:Int) else Kn N b a sure c t n (i+1) (SC N b a sure c i h).1
def M7 (N:Nat) (b:AU) (a:List CW) (sure:List Bool) (c:Cr) (t:Fk):∀n i h,Kn N b a sure c t n i h= -1∨((i:Int)≤Kn N b a sure c t n i h∧Kn N b a sure c t n i h<(i+n:Nat))
 |0,i,h=> .inl rfl
 |n+1,i,h=>by
  unfold Kn
  split
  ·right;omega
  ·rcases M7 N b a sure c t n (i+1) (SC N b a sure c i h).1 with e|⟨e1,e2⟩
   ·exact .inl e
   ·exact .inr ⟨by omega,by omega⟩
def TT (N:Nat) (b:AU) (a:List CW) (sure:List Bool) (c:Cr) (t:Fk):∀m n i h,m≤n→Kn N b a sure c t m i h=if 0≤Kn N b a sure c t n i h∧Kn N b a sure c t n i h<(i+m:Nat) then Kn N b a sure c t n i h else -1
 |0,n,i,h,_=>by
  rcases M7 N b a sure c t n i h with e|⟨e1,e2⟩
  ·rw[e];rfl
  ·rw[iP (by omega)];rfl
 |m+1,0,i,h,d=>by omega
 |m+1,n+1,i,h,d=>by
  unfold Kn
  split
  ·rw[iR (by omega)]
  ·rw[TT N b a sure c t m n (i+1) _ (by omega)]
   have e:((i+1+m:Nat):Int)=((i+(m+1):Nat):Int):=by omega
   rw[e]
def bY (N:Nat) (t:Fk) (i:Int) (b:List AH) (a d:Int):FT N t i b a d=some (cond (X5 t b) (false,(i,i)) (true,(a,d))):=by
 unfold FT X5
 by_cases h:0≤t.Ah∧t.Ah<b.length
 ·obtain⟨x,g,c⟩:=Us (l:=b) h.1 h.2
  rw[iW h.1,iW h.2,mB,iN,g,c]
  simp only[iM,lC,jO]
  cases decide (t.Bc<x.A)<;>rfl
 ·have e:(decide (0≤t.Ah)&&decide (t.Ah<(b.length:Int)))=false:=by
   rw[mQ]
   simp only[jK]
   omega
  rw[e]
  rfl
abbrev fU (N:Nat) (t:Fk):(Int×(List AH))→(Int×Int)→Option (Bool×(Int×Int)):=λa b=>FT N t a.1 a.2 b.1 b.2
def Ty {N:Nat}(w:18446744073709551616<N) {b:AU}(y:Mw N b) (q:b.D.length≤6) {a:List CW}(z:Pw a) (u:a.length≤100) (sure:List Bool) {c:Cr}(A:Ke c) (t:Fk) (L:Nat) (C:L≤40) (s:Int×Int):
  ∀(n f i:Nat) (h:Cf),i+n=L→n<f→bV b h i→DF N (fU N t) (L:Int) a b sure c f (i:Int) h.K h.M h.S h.F s=some (if Kn N b a sure c t n i h= -1 then (true,s) else (false,(Kn N b a sure c t n i h,Kn N b a sure c t n i h)))
 |0,f,i,h,e,G,B=>by
  obtain⟨V,rfl⟩:∃V,f=V+1:=⟨f-1,by omega⟩
  simp only[DF]
  rw[FY (by omega),iO]
  rfl
 |n+1,f,i,h,e,G,B=>by
  obtain⟨V,rfl⟩:∃V,f=V+1:=⟨f-1,by omega⟩
  obtain⟨r,x,H,I,J,Q⟩:=X1 w y q z sure A i (by omega) B
  have d:∀j k l m o,(⟨j,k,l,m,o⟩:CW)=Og a i→Fw N (fU N t) b sure c (i:Int) h.K h.M h.S h.F s (DF N (fU N t) (L:Int) a b sure c V) j k l m o=some (if Kn N b a sure c t (n+1) i h= -1 then (true,s) else (false,(Kn N b a sure c t (n+1) i h,Kn N b a sure c t (n+1) i h))):=by
   intro j k l m o v
   unfold Fw
   rw[H,iM,v,show(⟨h.K,h.M,h.S,h.F⟩:Cf)=h from rfl,I,iM]
   rw[show fU N t ((i:Int),x.2.1) s=_ from bY N t _ _ _ _,iM]
   unfold Kn
   rw[J]
   cases U:X5 t x.2.1
   ·simp only[iO,iN,BV (show i<4611686018427387904 by omega),kW,if_false]
    exact Ty w y q z u sure A t L C s n V (i+1) x.1 (by omega) (by omega) Q
   ·simp only[iN,iO,if_true]
    rw[iP (by omega)]
  simp only[DF]
  rw[FX (show i<L by omega),iN]
  by_cases p:i<a.length
  ·rw[FX p,iN,Bv p,iM]
   exact d _ _ _ _ _ (by unfold Og;rw[jE p];rfl)
  ·rw[FY (by omega),iO]
   exact d _ _ _ _ _ (by unfold Og;rw[List.getElem?_eq_none (by omega)];rfl)
def comb (a k:Int):Int:=if 0≤k∧(a<0∨k<a) then k else a
def Jr (f:Cr→Int) (a:Int) (l:List Cr):Int:=l.foldl (λa c=>comb a (f c)) a
def TV {a x y:Int}(b: -1≤a) (c: -1≤x):comb (comb a x) y=comb a (comb x y):=by unfold comb;(repeat' split)<;>omega
def UN {x y:Int}(a: -1≤x): -1≤comb x y:=by unfold comb;split<;>omega
def O3 (f:Cr→Int):∀(l:List Cr) (a:Int), -1≤a→ -1≤Jr f a l
 |[],a,h=>h
 |c::l,a,h=>O3 f l _ (UN h)
def NA (f:Cr→Int) (b:∀c, -1≤f c):∀(l:List Cr) (a:Int), -1≤a→Jr f a l=comb a (Jr f (-1) l)
 |[],a,d=>by unfold Jr comb;simp
 |c::l,a,d=>by
  have g:Jr f a (c::l)=Jr f (comb a (f c)) l:=rfl
  have i:Jr f (-1) (c::l)=Jr f (comb (-1) (f c)) l:=rfl
  have j:comb (-1) (f c)=f c:=by have:=b c;unfold comb;split<;>omega
  rw[g,i,j,NA f b l _ (UN d),NA f b l _ (b c),TV d (b c)]
def Xk {N:Nat}(C:18446744073709551616<N) {b:AU}(F:Mw N b) (p:b.D.length≤6) {d:List CW}(G:Pw d) (q:d.length≤100) (sure:List Bool) (t:Fk) {h:Cf}(H:bV b h 0) (a:List Cr) (I:∀c∈a,Ke c) (J:a.length≤100) (n:Nat) (V:n≤40):
  DX N b h d sure t a (EF N) N 0 (n:Int) (-1)=some ⟨Jr (λc=>Kn N b d sure c t n 0 h) (-1) a,false⟩:=by
 obtain⟨⟨L,g⟩,⟨j,m⟩,e⟩:=HZ a.length (λf k (s:Int×Int)=>DX N b h d sure t a (EF N) f k s.1 s.2) (λs=>EF N s.2) (λk s=>s.2=Jr (λc=>Kn N b d sure c t n 0 h) (-1) (a.take k)∧((s.1=n∧s.2= -1)∨(s.1=s.2∧0≤s.2∧s.2<n))) (λf k s l=>by
  simp only[DX];rw[FY l];rfl) (λf k s u l=>by
  obtain⟨L,g⟩:=s
  obtain⟨j,m⟩:=u
  have K:g=Jr (λc=>Kn N b d sure c t n 0 h) (-1) (a.take k):=j
  have m:(L=n∧g= -1)∨(L=g∧0≤g∧g<n):=m
  simp only[DX]
  rw[FX l,iN,Bv l]
  simp only[iM,JL,HT,BV (show k<4611686018427387904 by omega)]
  have v:=I _ (jQ l)
  obtain⟨M,Q,w⟩:∃M:Nat,L=M∧M≤n:=⟨L.toNat,by omega,by omega⟩
  subst Q
  have x:=Ty C F p G q sure v t M (by omega) ((M:Int),g) M N 0 h (by omega) (by omega) H
  have x:IX N h (M:Int) d b sure a[k] (λy z=>FT N t y.1 y.2 z.1 z.2) ((M:Int),g)=_:=x
  rw[x,iM]
  have i:=TT N b d sure a[k] t M n 0 h w
  have U:=M7 N b d sure a[k] t n 0 h
  have A:=M7 N b d sure a[k] t M 0 h
  have B:Jr (λc=>Kn N b d sure c t n 0 h) (-1) (a.take (k+1))=comb g (Kn N b d sure a[k] t n 0 h):=by
   rw[mD l,K]
   unfold Jr
   rw[List.foldl_append]
   rfl
  by_cases o:Kn N b d sure a[k] t M 0 h= -1
  ·rw[iR o]
   refine⟨((M:Int),g),⟨?_,m⟩,rfl⟩
   rw[B]
   show g=comb g _
   rw[o] at i
   unfold comb
   split at i
   ·omega
   ·rw[iP (by omega)]
  ·rw[iP o]
   refine⟨(Kn N b d sure a[k] t M 0 h,Kn N b d sure a[k] t M 0 h),⟨?_,.inr ⟨rfl,?_⟩⟩,rfl⟩
   ·rw[B]
    show Kn N b d sure a[k] t M 0 h=comb g _
    split at i
    ·rw[i]
     unfold comb
     rw[iR (by omega)]
    ·exact absurd i o
   ·show 0≤Kn N b d sure a[k] t M 0 h∧Kn N b d sure a[k] t M 0 h<n
    omega) N 0 ((n:Int), -1) ⟨rfl,.inl ⟨rfl,rfl⟩⟩ (by omega) (iU _)
 rw[mG] at j
 have j:g=_:=j
 have e:DX N b h d sure t a (EF N) N 0 (n:Int) (-1)=EF N g:=e
 rw[e,j]
 rfl
end Go.Proofs.YtibidnaedddfdaaGreat
