import Derived.Test.YtibidnaedddfdaaGreatDPureHAdd
namespace Go.Proofs.YtibidnaedddfdaaGreat
set_option linter.all false
open Go.RowKit
def Ye (s:Int×Int×Bool):Prop:=s.2.2=true→0≤s.1∧s.1≤s.2.1∧s.2.1≤1
def Vu (N:Nat) {i j:Int}{b:Bool}(h:Ye (i,j,b)) {a:Int}(c:0≤a∧a≤1) (d:Int→Int→Bool→Option (Bool×(Int×Int×Bool))):∃g k,Gl N i j b d a=d g k true∧Ye (g,k,true):=by
 unfold Gl
 cases b
 ·exact⟨a,a,rfl,λ_=>⟨c.1,kG _,c.2⟩⟩
 ·obtain⟨l,m,n⟩:=h rfl
  have l:0≤i:=l
  have m:i≤j:=m
  have n:j≤1:=n
  exact⟨min i a,max j a,rfl,λ_=>⟨by show 0≤min i a;omega,by show min i a≤max j a;omega,by show max j a≤1;omega⟩⟩
def Uj (N:Nat) (l:A7) (a:Et) (v:Int):∃y,IN N l a v=some y:=by
 unfold IN GS
 exact Df.cond (λ_=>Df.mk _) λ_=>Df.cond (λ_=>Df.mk _) λ_=>Df.cond (λ_=>Df.mk _) λ_=>Df.mk _
def Zl {N:Nat}(v:10<N) (l:A7) (k:BA) (x:Int) {i j:Int}{b:Bool}(h:Ye (i,j,b)):∃s,GC N l k x i j b=some (true,s)∧Ye s:=by
 unfold GC
 obtain⟨s,p,q⟩:=HZ 2 (λn m s=>DC N l k x n m s.1 s.2.1 s.2.2) (λs=>some (true,s)) (λ_ s=>Ye s) (λn m s t=>by
  simp only[DC]
  rw[jD (show ¬(m:Int)<2 by omega)]
  rfl) (λn m s c t=>by
  simp only[DC]
  rw[iW (show(m:Int)<2 by omega),iN]
  simp only[H3,iM,D8,BV (show m<4611686018427387904 by omega)]
  cases (decide (k.R.B≤(m:Int))&&decide ((m:Int)≤k.R.A))
  ·exact⟨s,c,rfl⟩
  ·obtain⟨y,u⟩:=Uj N l (⟨0,0,false,(decide ((m:Int)=1))⟩:Et) x
   rw[u]
   simp only[jV,iO,iM]
   cases y.R
   ·obtain⟨d,g,e,o⟩:=Vu N (i:=s.1) (j:=s.2.1) (b:=s.2.2) c (a:=0) (by decide) (D8 N (m:Int) (DC N l k x n))
    refine⟨(d,g,true),o,Eq.trans e ?_⟩
    unfold D8
    rw[BV (by omega)]
   ·obtain⟨d,g,e,o⟩:=Vu N (i:=s.1) (j:=s.2.1) (b:=s.2.2) c (a:=1) (by decide) (D8 N (m:Int) (DC N l k x n))
    refine⟨(d,g,true),o,Eq.trans e ?_⟩
    unfold D8
    rw[BV (by omega)]) N 0 (i,j,b) h (by omega) (iU _)
 exact⟨s,q,p⟩
def TU {N:Nat}(c:AH) (l:A7) (a:Int→(Int×Int×Bool)→Option (Bool×(Int×Int×Bool))) (b:∀x s,Ye s→∃s',a x s=some (true,s')∧Ye s') {s:Int×Int×Bool}(d:Ye s):∃s',HN N c l a s=some (true,s')∧Ye s':=by
 unfold HN
 simp only[EO,H3,iM]
 cases decide (c.B≤c.A)
 ·exact⟨s,rfl,d⟩
 ·simp only[jV,iO]
  obtain⟨j,k,m⟩:=b c.B s d
  obtain⟨g,n,i⟩:=b c.A j m
  obtain⟨o,p,q⟩:=b (B8 (l.Ae+1)) g i
  rw[k]
  simp only[iM,iN]
  rw[n]
  simp only[iM,iN,E7]
  rw[p]
  simp only[iM,iN]
  cases cond (decide (l.Ae<9223372036854775807)) (decide (c.B≤B8 (l.Ae+1))&&decide (B8 (l.Ae+1)≤c.A)) false
  ·exact⟨g,rfl,i⟩
  ·exact⟨o,rfl,q⟩
def Vt {N:Nat}(q:10<N) (l:A7) {k:BA}(a:Pv l k) (v:AH):∃g,Is N l k v=some g∧Pv l g:=by
 unfold Is
 by_cases c:l.C=3
 ·rw[show decide (l.C≠3)=false by simp [c],iO]
  simp only[Ir,iM]
  obtain⟨s,e,o⟩:=TU (N:=N) v l (λt d=>GC N l k t d.1 d.2.1 d.2.2) (λx s u=>Zl q l k x u) (s:=(0,0,false)) (λh=>by cases h)
  rw[e]
  simp only[iM,iN,Hh]
  obtain⟨i,j,b⟩:=s
  cases b
  ·exact⟨_,rfl,a.pos,a.tgt,a.opn⟩
  ·obtain⟨m,n,p⟩:=o rfl
   have m:0≤i:=m
   have n:i≤j:=n
   have p:j≤1:=p
   refine⟨_,rfl,a.pos,a.tgt,?_⟩
   have w:(i=0∧j=0)∨(i=1∧j=1)∨(i=0∧j=1):=by omega
   rcases w with ⟨rfl,rfl⟩|⟨rfl,rfl⟩|⟨rfl,rfl⟩
   ·exact .inl rfl
   ·exact .inr ⟨.inr c,.inl rfl⟩
   ·exact .inr ⟨.inr c,.inr rfl⟩
 ·rw[show decide (l.C≠3)=true by simp [c],iN]
  exact⟨k,rfl,a⟩
def XZ (s:AH):Prop:=0≤s.B∧s.B≤s.A∧s.A≤9223372036854775807
def IA.n {s:AH}(h:IA s):XZ s:=by obtain⟨a,b,c⟩:=h;exact⟨a,b,by omega⟩
def Rw (N:Nat) {a b:AH}(d:XZ a) (g:XZ b):∃c,Ha N a b=some c∧XZ c:=by
 obtain⟨i,k,l⟩:=d
 obtain⟨j,m,n⟩:=g
 unfold Ha
 rw[YO N (by unfold AD;omega) (by unfold AD;omega),iM,YO N (by unfold AD;omega) (by unfold AD;omega),iM,Vj i j,Vj (by omega) (by omega)]
 exact⟨_,rfl,by show 0≤min _ _;omega,by show min _ _≤min _ _;omega,by show min _ _≤_;omega⟩
def J9 (P:AH→Prop) (n:Nat) (l:List AH):Prop:=l.length=n∧∀x∈l,P x
def J9.set {P:AH→Prop}{n:Nat}{l:List AH}(h:J9 P n l) (k:Nat) {x:AH}(a:P x):J9 P n (l.set k x):=
 ⟨by simp [h.1],λy b=>(List.mem_or_eq_of_mem_set b).elim (h.2 y) λe=>e▸a⟩
def N4.filt {P:Nat}{t:Int}{q:List B9}(k:N4 P t q) {r:List B9}(d:r.Sublist q) (h:∀e∈r,t+1≤e.X):N4 P (t+1) r:=
 ⟨List.Pairwise.sublist d k.srt,λe g=>by
  obtain⟨a,b,_,c⟩:=k.el e (d.subset g)
  exact⟨a,b,h e g,c⟩⟩
def Si {N:Nat}(hN:18446744073709551616<N) {w:BS}{b:AU}(ad:w.b=b) (hb:Mw N b) (hv:w.h.M.length=b.D.length) (ae:∀v∈w.h.M,IA v) {t:Int}(ht:w.h.K=t) (hq:N4 b.D.length t w.h.S) (al:w.h.S.length≤4398048311104) (g:Jo b w.h.F) (hp:w.peaks.length=b.D.length) (af:∀x∈w.peaks,x=⟨0,0⟩) {d:List AH}(hr:∀s∈d,AD s.B∧AD s.A):
  ∃q l p,F3 N w d=some (q,l,p)∧N4 b.D.length (t+1) q∧q.length≤w.h.S.length∧Jo b l∧J9 IA b.D.length p:=by
 subst ad
 subst ht
 have am:=hb.head.pl
 have an:=hb.head.li
 unfold F3
 have start:J9 XZ w.b.D.length w.peaks:=⟨hp,λx o=>by rw[af x o];exact⟨by decide,by decide,by decide⟩⟩
 obtain⟨p1,i1,e1⟩:=HZ w.h.M.length (λn i l=>BZ N w d (Bw N w) n i l) (Bw N w) (λ_ l=>J9 XZ w.b.D.length l) (λn k l g=>by
  simp only[BZ];rw[FY g];rfl) (λn k l j g=>by
  have m:k<l.length:=by rw[j.1];omega
  have hV:=ae _ (jQ g)
  have ag:∀a c:Int,ES N (k:Int) l (BZ N w d (Bw N w) n) a c=BZ N w d (Bw N w) n ((k+1:Nat):Int) (l.set k ⟨a,c⟩):=λa c=>by
   unfold ES
   rw[Bv m]
   simp only[iM,BV (show k<4611686018427387904 by omega),S3]
  simp only[BZ]
  rw[FX g,iN,Bv g]
  simp only[iM,ag]
  generalize w.h.M[k]=v at hV
  by_cases h:k<d.length
  ·rw[FX h,iN,Bv h]
   simp only[iM,EO]
   have hR:=hr _ (jQ h)
   generalize d[k]=r at hR
   obtain⟨⟨r1,r2⟩,r3,r4⟩:=hR
   by_cases U:r.B≤r.A∧0≤r.B
   ·rw[iW U.1,iW U.2]
    simp only[iN,iM]
    obtain⟨c,ec,hc⟩:=Rw N hV.n (show XZ r from⟨U.2,U.1,r4⟩)
    rw[ec,iM]
    exact⟨_,j.set k (x:=⟨c.B,c.A⟩) hc,rfl⟩
   ·have e:(cond (decide (r.B≤r.A)) (some (decide (0≤r.B))) (some false)).bind (λah=>cond ah ((Ha N v r).bind λV=>BZ N w d (Bw N w) n ((k+1:Nat):Int) (l.set k ⟨V.B,V.A⟩)) (BZ N w d (Bw N w) n ((k+1:Nat):Int) (l.set k ⟨v.B,v.A⟩)))=BZ N w d (Bw N w) n ((k+1:Nat):Int) (l.set k ⟨v.B,v.A⟩):=by
     by_cases c2:r.B≤r.A
     ·rw[iW c2,jD (λc3=>U ⟨c2,c3⟩)];rfl
     ·rw[jD c2];rfl
    rw[e]
    exact⟨_,j.set k (x:=⟨v.B,v.A⟩) hV.n,rfl⟩
  ·rw[FY (by omega)]
   exact⟨_,j.set k (x:=⟨v.B,v.A⟩) hV.n,rfl⟩) N 0 w.peaks start (by omega) (iU _)
 rw[show BZ N w d (Bw N w) N 0 w.peaks=Bw N w p1 from e1]
 unfold Bw
 obtain⟨⟨u,H⟩,⟨i2,W,a2⟩,e2⟩:=HZ w.h.S.length (λn i (s:List B9×List AH)=>Ca N w (Co N w) n s.1 i s.2) (λs=>Co N w s.1 s.2) (λk s=>J9 XZ w.b.D.length s.2∧s.1.Sublist (w.h.S.take k)∧∀e∈s.1,w.h.K+1≤e.X) (λn k s g=>by
  simp only[Ca];rw[FY g];rfl) (λn k s j g=>by
  obtain⟨z,Y,Z⟩:=j
  obtain⟨v1,v2,v3,v4,v5⟩:=hq.el _ (jQ g)
  have aa:=Y.length_le
  rw[kH] at aa
  have ai:∀r:List B9,r.Sublist (w.h.S.take k)→r.Sublist (w.h.S.take (k+1)):=λr hr=>hr.trans (by rw[mD g];exact List.sublist_append_left _ _)
  have G:(s.1++[w.h.S[k]]).Sublist (w.h.S.take (k+1)):=by rw[mD g];exact Y.append (List.Sublist.refl _)
  simp only[Ca]
  rw[FX g,iN,Bv g]
  simp only[iM,FM,BV (show k<4611686018427387904 by omega)]
  generalize o:w.h.S[k]=x at v1 v2 v3 v4 v5 G
  by_cases ha:x.X≤w.h.K
  ·obtain⟨y,ey,aj⟩:=Us (l:=s.2) (i:=x.E) v4 (by rw[z.1];exact v5)
   obtain⟨c,ec,hc⟩:=Rw N (z.2 y (lI aj)) v1.n
   rw[iW ha]
   simp only[iN,ey,ec,iM]
   exact⟨(s.1,upd s.2 x.E c),⟨z.set _ hc,ai _ Y,Z⟩,rfl⟩
  ·rw[jD ha,iO,Za (by omega) (by decide)]
   refine⟨(s.1++[x],s.2),⟨z,G,λe J=>?_⟩,rfl⟩
   rcases kT.1 J with J|J
   ·exact Z e J
   ·rw[mK.1 J];omega) N 0 ([],p1) ⟨i1,by simp,λe J=>by cases J⟩ (by omega) (iU _)
 rw[show Ca N w (Co N w) N [] 0 p1=Co N w u H from e2]
 rw[mG] at W
 have W:u.Sublist w.h.S:=W
 have i2:J9 XZ w.b.D.length H:=i2
 unfold Co
 have ao:=i2.1
 obtain⟨Q,⟨i3,j3⟩,e3⟩:=HZ H.length (λn i l=>Cy N H (Cz N w u) n i l) (Cz N w u) (λk l=>J9 XZ w.b.D.length l∧∀i,i<k→∀x,l[i]? =some x→IA x) (λn k l g=>by
  simp only[Cy];rw[FY g];rfl) (λn k l j g=>by
  obtain⟨z,Y⟩:=j
  have m:k<l.length:=by rw[z.1];omega
  obtain⟨x1,x2,x3⟩:=z.2 _ (jQ m)
  simp only[Cy]
  rw[FX g,iN,Bv m]
  simp only[iM,TP,BV (show k<4611686018427387904 by omega),S3]
  have hS:IA ⟨min (l[k]).B 1125899906842624,min (l[k]).A 1125899906842624⟩:=⟨by show 0≤min _ _;omega,by show min _ _≤min _ _;omega,by show min _ _≤_;omega⟩
  refine⟨_,⟨z.set k hS.n,λi j x o=>?_⟩,rfl⟩
  by_cases e:k=i
  ·subst e
   rw[List.getElem?_set_self m] at o
   cases o
   exact hS
  ·rw[List.getElem?_set_ne e] at o
   exact Y i (by omega) x o) N 0 H ⟨i2,λi j=>by omega⟩ (by omega) (iU _)
 rw[show Cy N H (Cz N w u) N 0 H=Cz N w u Q from e3]
 have ab:J9 IA w.b.D.length Q:=⟨i3.1,λx o=>by
  obtain⟨i,j⟩:=kJ.1 o
  have:=(jF.1 j).1
  exact j3 i (by have:=i3.1;omega) x j⟩
 unfold Cz
 obtain⟨l4,i4,e4⟩:=HZ w.b.F.length (λn i l=>Cn N w u Q n i l) (λl=>some (u,l,Q)) (λ_ l=>Jo w.b l) (λn k l g=>by
  simp only[Cn];rw[FY g];rfl) (λn k l j g=>by
  have m:k<l.length:=by rw[j.1];exact g
  have ok:=hb.links _ (jQ g)
  have hK:=j.2 k _ _ (jE g) (jE m)
  simp only[Cn]
  rw[FX g,iN,Bv g]
  simp only[iM,FL,BV (show k<4611686018427387904 by omega)]
  by_cases Z:(w.b.F[k]).C=3
  ·obtain⟨y,ey,_⟩:=Us (l:=Q) (i:=(w.b.F[k]).I) ok.fr.1 (by rw[ab.1];exact ok.fr.2)
   obtain⟨k',ek,ak⟩:=Vt (N:=N) (by omega) _ hK y
   rw[iW Z,iN,Bv m]
   simp only[ey,ek,iM,S3]
   exact⟨_,j.set λa2 ac=>by rw[jE g] at ac;cases ac;exact ak,rfl⟩
  ·rw[jD Z,iO]
   exact⟨_,j,rfl⟩) N 0 w.h.F g (by omega) (iU _)
 exact⟨u,l4,Q,e4,hq.filt W a2,W.length_le,i4,ab⟩
end Go.Proofs.YtibidnaedddfdaaGreat
