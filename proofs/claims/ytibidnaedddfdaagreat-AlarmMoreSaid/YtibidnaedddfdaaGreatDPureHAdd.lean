import Derived.Test.YtibidnaedddfdaaGreatDPureHRight
namespace Go.Proofs.YtibidnaedddfdaaGreat
set_option linter.all false
open Go.RowKit
def Us {α}{l:List α}{i:Int}(h0:0≤i) (b:i<l.length):∃x,ix l i=some x∧l[i.toNat]? =some x:=by
 obtain⟨k,rfl⟩:∃k:Nat,i=k:=⟨i.toNat,by omega⟩
 have a:k<l.length:=by omega
 exact⟨_,Bv a,by simp [a]⟩
def S3 {α}(l:List α) (k:Nat) (x:α):upd l (k:Int) x=l.set k x:=by simp [upd]
def N4.set {P:Nat}{t:Int}{q:List B9}(k:N4 P t q) {r:Nat}(d:r<q.length) {v:AH}(g:IA v) (h0:0<v.A):N4 P t (q.set r { q[r] with M:=v}):=by
 refine⟨Xg k.srt d rfl,λe i=>?_⟩
 rcases List.mem_or_eq_of_mem_set i with h|h
 ·exact k.el e h
 ·rw[h]
  obtain⟨_,_,a,b,c⟩:=k.el _ (jQ d)
  exact⟨g,h0,a,b,c⟩
def Vj {a b:Int}(c:0≤a) (d:0≤b):Jx (a+b)=min 9223372036854775807 (a+b):=by unfold Jx;omega
def N4.add {N:Nat}(J:9007199254740992<N) {P:Nat}{t:Int}{q:List B9}(k:N4 P t q) (W:q.length<4398048311104) {at_ to:Int}(K:t≤at_) (m:0≤to∧to<P) {s:AH}(M:IA s):∃n,J3 N q at_ to s=some n∧N4 P t n∧n.length≤q.length+1:=by
 obtain⟨Y,Z,s3⟩:=M
 unfold J3
 by_cases C:s.A≤0
 ·rw[iW C,iN]
  exact⟨q,rfl,k,Nat.le_succ _⟩
 rw[jD C,iO]
 obtain⟨r,o,h2,D,F⟩:=fE J q k.srt (by omega) (⟨at_,to,⟨0,0⟩⟩:B9)
 have o:BH N q (⟨at_,to,⟨0,0⟩⟩:B9) (λx=>Eo N x.1 x.2)=_:=o
 rw[o]
 simp only[iM]
 by_cases p:∃y,q[r]? =some y∧y.X=at_∧y.E=to
 ·obtain⟨y,G,u,v⟩:=p
  obtain⟨w,Q⟩:=jF.1 G
  rw[iW ⟨y,G,u,v⟩,iN,Bv w]
  obtain⟨⟨v1,v2,v3⟩,_,_⟩:=k.el _ (jQ w)
  simp only[iM,Ha]
  rw[OK N (by omega) (by omega) (by omega) (by omega),iM,OK N (by omega) (by omega) (by omega) (by omega)]
  simp only[iM,TP,S3]
  exact⟨_,rfl,k.set w ⟨by show 0≤min _ _;omega,by show min _ _≤min _ _;omega,by show min _ _≤_;omega⟩ (by show 0<min _ _;omega),by simp⟩
 ·rw[jD p,iO,TP]
  simp only[iM]
  unfold IW X0
  rw[iR ⟨by omega,by omega,rfl,by unfold room;simp;omega⟩]
  refine⟨_,rfl,?_⟩
  rw[Int.toNat_natCast]
  have g:∀e∈q,¬(at_=e.X∧to=e.E):=by
   intro e a d
   obtain⟨i,b⟩:=kJ.1 a
   rcases jN i r with j|hge
   ·have:=D i e j b
    rw[d.1,d.2] at this
    exact Xw this
   ·rcases jN r i with H|H
    ·have z:=(jF.1 b).1
     have I:=nC.1 k.srt r i (by omega) z H
     rw[(jF.1 b).2,←d.1,←d.2] at I
     exact F r _ (jB _) (jE (by omega)) I
    ·have:i=r:=by omega
     subst this
     exact p ⟨e,b,d.1.symm,d.2.symm⟩
  refine⟨⟨?_,λe a=>?_⟩,by simp only[kD,kH,kK,List.length_singleton];omega⟩
  ·have j:∀e∈q.take r,QR e.X e.E at_ to:=λe a=>by
    obtain⟨i,b⟩:=kJ.1 a
    rw[lZ] at b
    split at b
    ·exact D i e (by assumption) b
    ·cases b
   have B:∀e∈q.drop r,QR at_ to e.X e.E:=λe a=>by
    have U:=nA a
    obtain⟨i,b⟩:=kJ.1 a
    rw[lD] at b
    exact Xv (F (r+i) e (by omega) b) λd=>g e U ⟨d.1.symm,d.2.symm⟩
   unfold XY
   rw[mH,List.pairwise_append]
   have c:=k.srt
   unfold XY at c
   rw[←mU r q,List.pairwise_append] at c
   refine⟨c.1,List.pairwise_cons.2 ⟨λe a=>B e a,c.2.1⟩,λe a V l=>?_⟩
   rcases iZ.1 l with rfl|l
   ·exact j e a
   ·exact c.2.2 e a V l
  ·simp only[kT,mK] at a
   rcases a with (a|a)|a
   ·exact k.el e (List.mem_of_mem_take a)
   ·rw[a]
    exact⟨⟨by show 0≤min _ _;omega,by show min _ _≤min _ _;omega,by show min _ _≤_;omega⟩,by show 0<min _ _;omega,K,m⟩
   ·exact k.el e (nA a)
def Ss {N:Nat}(c:9007199254740992<N) {w:BS}{q:List B9}(g:w.h.S=q) {t:Int}(i:w.h.K=t) (h0:0≤t∧t≤33554432) {P:Nat}(k:N4 P (t+1) q) (j:q.length<4398048311104) {to d:Int}(b:to= -1∨(0≤to∧to<P)) (hd:0≤d∧d≤240) {s:AH}(l:IA s):∃a,GU N w to d s=some a∧N4 P (t+1) a∧a.length≤q.length+1:=by
 subst g
 subst i
 unfold GU
 by_cases h:to= -1
 ·rw[show decide (to≠ -1)=false by simp [h],iO]
  exact⟨_,rfl,k,Nat.le_succ _⟩
 ·rw[show decide (to≠ -1)=true by simp [h],iN,DE (n:=w.h.K+1) (by omega) (by omega),DE (n:=w.h.K+1+d) (by omega) (by omega)]
  obtain⟨a,m,o,p⟩:=k.add c j (at_:=w.h.K+1+d) (by omega) (b.resolve_left h) l
  rw[m]
  exact⟨a,rfl,o,p⟩
def Jo (b:AU) (l:List BA):Prop:=l.length=b.F.length∧∀(k:Nat) a x,b.F[k]? =some a→l[k]? =some x→Pv a x
def Jo.set {b:AU}{l:List BA}(h:Jo b l) {k:Nat}{x:BA}(g:∀a,b.F[k]? =some a→Pv a x):Jo b (l.set k x):=by
 refine⟨by simp [h.1],λi a y d c=>?_⟩
 rw[List.getElem?_set] at c
 split at c
 ·rename_i e
  subst e
  split at c
  ·cases c;exact g a d
  ·cases c
 ·exact h.2 i a y d c
def RI (N:Nat) {n a b:Int}(h:a≤b):GQ N n a b=some (max a (min b n)):=by
 unfold GQ
 by_cases c:n<a
 ·rw[iW c,iN];congr 1;omega
 ·rw[jD c,iO]
  by_cases d:b<n
  ·rw[iW d,iN];congr 1;omega
  ·rw[jD d,iO];congr 1;omega
def We (N:Nat) {l:A7}{k:BA}(a:0≤l.Ab∧l.Ab≤l.Q∧l.Q≤64) (b:0≤k.T∧k.T≤l.Q) {p:Int}(c:0≤p∧p≤l.Q):HR N l k p=some (p+max (0-l.Ab) (min l.Ab (k.T-p))):=by
 unfold HR KU
 simp only[iO]
 rw[I6 N (by omega) (by omega) (by omega) (by omega),iM,I6 N (by omega) (by omega) (by omega) (by omega),iM,RI N (by omega),iM,OK N (by omega) (by omega) (by omega) (by omega)]
 rfl
def Wc {N:Nat}{l:A7}{s t:Int}(g:Sv N l s t) {k:BA}(a:Pv l k) (sure:Bool):∃c,Iv N l k sure=some c∧Pv l c:=by
 have d:=g.spd
 have i:=a.pos
 have b:=a.tgt
 unfold Iv
 cases sure
 ·rw[iO,I6 N (by omega) (by omega) (by omega) (by omega),iM,RI N (by omega),iM,OK N (by omega) (by omega) (by omega) (by omega),iM,RI N (by omega),iM]
  refine⟨_,rfl,⟨?_,?_,?_⟩,b,a.opn⟩
  ·show 0≤max 0 _;omega
  ·show max 0 (min l.Q (k.P.B-l.Ab))≤max 0 (min l.Q (k.P.A+l.Ab));omega
  ·show max 0 (min l.Q (k.P.A+l.Ab))≤l.Q;omega
 ·rw[iN,We N d b (by omega),iM,We N d b (by omega),iM]
  refine⟨_,rfl,⟨?_,?_,?_⟩,b,a.opn⟩
  ·show 0≤k.P.B+max (0-l.Ab) (min l.Ab (k.T-k.P.B));omega
  ·show k.P.B+max (0-l.Ab) (min l.Ab (k.T-k.P.B))≤k.P.A+max (0-l.Ab) (min l.Ab (k.T-k.P.A));omega
  ·show k.P.A+max (0-l.Ab) (min l.Ab (k.T-k.P.A))≤l.Q;omega
def aU (N:Nat) {l:A7}(a:0≤l.Q) {t:Int}(b:0≤t∧t≤l.Q) (c:Int):∃y,J4 N l (⟨0,t,false,false⟩:Et) c=some y∧0≤y.T∧y.T≤l.Q:=by
 unfold J4 IP
 by_cases h:l.Q=0
 ·rw[show decide (l.Q≠0)=false by simp [h],iO]
  exact⟨_,rfl,b⟩
 ·rw[show decide (l.Q≠0)=true by simp [h],iN,RI N a,iM]
  exact⟨_,rfl,by show 0≤max 0 (min l.Q c);omega,by show max 0 (min l.Q c)≤l.Q;omega⟩
def OF (N:Nat) (i:Int) (L:Nat):GK N i (L:Int)=some (decide (0≤i)&&decide (i<(L:Int))):=rfl
def Vv {N:Nat}(hN:18446744073709551616<N) {w:BS}{b:AU}(W:w.b=b) (G:Mw N b) {in_:CW}(hf:in_.Ba.length≤4398048311104) (hc:in_.Bb.length≤4398048311104) (sure:List Bool) (g:Jo b w.h.F):∃l,Gw N w in_ sure=some l∧Jo b l:=by
 subst W
 have X:=G.head.li
 unfold Gw
 obtain⟨H,Y,Z⟩:=HZ in_.Ba.length (λn i l=>CD N w in_ (Ck N w in_ sure) n i l) (Ck N w in_ sure) (λ_ l=>Jo w.b l) (λn k l g=>by
  simp only[CD];rw[FY g];rfl) (λn k l m g=>by
  simp only[CD]
  rw[FX g,iN,Bv g,iM,OF,iM]
  have s:∀l,Dw N (k:Int) (CD N w in_ (Ck N w in_ sure) n) l=CD N w in_ (Ck N w in_ sure) n ((k+1:Nat):Int) l:=λl=>by
   unfold Dw
   rw[BV (by omega)]
  simp only[s]
  generalize in_.Ba[k]=f
  by_cases d:0≤f.Al∧f.Al<w.b.F.length
  ·obtain⟨a,I,p⟩:=Us (l:=w.b.F) d.1 d.2
   obtain⟨x,B,t⟩:=Us (l:=l) (i:=f.Al) d.1 (by rw[m.1];exact d.2)
   rw[iW d.1,iW d.2]
   simp only[mB,jV,iO,I,iM]
   by_cases J:a.C=5
   ·rw[show decide (a.C≠5)=false by simp [J],iO]
    have v:∀o:AH,(o=⟨1,1⟩∨o=⟨0,0⟩)→Jo w.b (upd l f.Al ({ x with R:=o}:BA)):=λo ho=>by
     unfold upd
     refine m.set λD j=>?_
     have:D=a:=by rw[p] at j;exact(jH j).symm
     subst this
     have q:=m.2 _ _ _ p t
     refine⟨q.pos,q.tgt,?_⟩
     rcases ho with rfl|rfl
     ·exact .inr ⟨.inl J,.inl rfl⟩
     ·exact .inl rfl
    by_cases Q:f.C=2
    ·rw[iW Q,iN]
     simp only[E2,B,iM]
     exact⟨_,v _ (.inl rfl),rfl⟩
    ·rw[jD Q,iO]
     by_cases U:f.C=3
     ·rw[iW U,iN]
      simp only[E2,B,iM]
      exact⟨_,v _ (.inr rfl),rfl⟩
     ·rw[jD U,iO]
      exact⟨_,m,rfl⟩
   ·rw[show decide (a.C≠5)=true by simp [J],iN]
    exact⟨_,m,rfl⟩
  ·rw[show (decide (0≤f.Al)&&decide (f.Al<(w.b.F.length:Int)))=false by
    rw[mQ]
    simp only[jK]
    omega]
   exact⟨_,m,rfl⟩) N 0 w.h.F g (by omega) (iU _)
 rw[show CD N w in_ (Ck N w in_ sure) N 0 w.h.F=Ck N w in_ sure H from Z]
 unfold Ck
 obtain⟨V,i2,e2⟩:=HZ in_.Bb.length (λn i l=>CY N w in_ (Cj N w sure) n i l) (Cj N w sure) (λ_ l=>Jo w.b l) (λn k l g=>by
  simp only[CY];rw[FY g];rfl) (λn k l m g=>by
  simp only[CY]
  rw[FX g,iN,Bv g,iM,OF,iM]
  have s:∀l,FJ N (k:Int) (CY N w in_ (Cj N w sure) n) l=CY N w in_ (Cj N w sure) n ((k+1:Nat):Int) l:=λl=>by
   unfold FJ
   rw[BV (by omega)]
  simp only[s]
  generalize in_.Bb[k]=f
  by_cases d:0≤f.Al∧f.Al<w.b.F.length
  ·obtain⟨a,I,p⟩:=Us (l:=w.b.F) d.1 d.2
   obtain⟨x,B,t⟩:=Us (l:=l) (i:=f.Al) d.1 (by rw[m.1];exact d.2)
   have q:=m.2 _ _ _ p t
   have K:a∈w.b.F:=lI p
   obtain⟨y,M,y1⟩:=aU N (l:=a) (by have:=(G.lk a K).spd;omega) q.tgt f.T
   rw[iW d.1,iW d.2]
   simp only[mB,iN,I,B,M,iM]
   refine⟨_,?_,rfl⟩
   unfold upd
   refine m.set λD j=>?_
   have:D=a:=by rw[p] at j;exact(jH j).symm
   subst this
   exact⟨q.pos,y1,q.opn⟩
  ·rw[show (decide (0≤f.Al)&&decide (f.Al<(w.b.F.length:Int)))=false by
    rw[mQ]
    simp only[jK]
    omega]
   exact⟨_,m,rfl⟩) N 0 H Y (by omega) (iU _)
 rw[show CY N w in_ (Cj N w sure) N 0 H=Cj N w sure V from e2]
 unfold Cj
 obtain⟨l3,i3,e3⟩:=HZ w.b.F.length (λn i l=>Dv N w sure n i l) some (λ_ l=>Jo w.b l) (λn k l g=>by
  simp only[Dv];rw[FY g];rfl) (λn k l m g=>by
  have z:k<l.length:=by rw[m.1];exact g
  simp only[Dv]
  rw[FX g,iN,Bv g,Bv z]
  simp only[iM,BV (show k<4611686018427387904 by omega)]
  have q:=m.2 k _ _ (jE g) (jE z)
  have u:∃c,cond (decide ((k:Int)<(sure.length:Int))) ((ix sure (k:Int)).bind λA=>some A) (some false)=some c:=by
   by_cases h:k<sure.length
   ·rw[FX h,iN,Bv h];exact⟨_,rfl⟩
   ·rw[FY (by omega)];exact⟨_,rfl⟩
  obtain⟨c,ec⟩:=u
  obtain⟨y,M,hy⟩:=Wc (G.lk _ (jQ g)) q c
  rw[ec]
  simp only[iM,M,S3]
  exact⟨_,m.set λD j=>by rw[jE g] at j;cases j;exact hy,rfl⟩) N 0 V i2 (by omega) (iU _)
 exact⟨l3,e3,i3⟩
end Go.Proofs.YtibidnaedddfdaaGreat
