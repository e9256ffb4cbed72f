import Derived.Test.YtblcgjadhemlbaaGreatWPureRight
import Derived.Test.YtblcgjadhemlbaaGreatWPureCurve
namespace Go.Proofs.YtblcgjadhemlbaaGreat
set_option linter.all false
open Go.RowKit
def VY (N:Nat) (a b:Int):Df (Gx N a b):=by
 unfold Gx;exact Df.cond (λ_=>Df.mk _) λ_=>Df.cond (λ_=>Df.mk _) λ_=>Df.mk _
def Qb (N:Nat) (a b:Int):Df (Gw N a b):=by
 unfold Gw;exact Df.cond (λ_=>Df.mk _) λ_=>Df.cond (λ_=>Df.mk _) λ_=>Df.mk _
def Jj {k:Nat}(b:k≤1000) (c:Nat) (a:c≤1000) {α}(x:Option α):chk (Jk (k:Int) (k:Int) c) x=x:=by
 have:Jk (k:Int) (k:Int) c=true:=by
  simp only[Jk,qT,rJ]
  refine⟨⟨by omega,by omega⟩,?_⟩
  have:(c:Int)*(k:Int)≤1000*1000:=Int.mul_le_mul (by omega) (by omega) (by omega) (by omega)
  omega
 rw[this];rfl
def qC {α}{l:List α}{i:Nat}(a:i<l.length):∃x,ix l (i:Int)=some x∧x∈l:=⟨l[i],BR a,rH a⟩
def bF {α}(l xs:List α):(Ns l xs).length=l.length:=by unfold Ns;simp;omega
def ZV {α}{l xs:List α}(a:l.length=xs.length):Ns l xs=xs:=by
 unfold Ns;rw[a,rY,List.drop_of_length_le (by omega),sL]
def Md (k:Nat) (z:Int):(List.replicate ((k:Int)).toNat z).length=k:=by simp
def Og {α}(k:Nat) (z:α):(List.replicate ((k:Int)).toNat z).length=k:=by simp
def TM (p:List Int):Ns (List.replicate ((p.length:Int)).toNat (0:Int)) p=p:=ZV (by simp)
def LH {α}(l:List α) (i:Int) (x:α):(upd l i x).length=l.length:=by simp [upd]
def LT (N:Nat) {p:List Int}(a:p.length≤1000000):DC N p=some p:=by
 unfold DC
 rw[KI (by simp;omega)];rfl
def VU (N:Nat) {p:List BG}(a:p.length≤1000000):Cy N p=some p:=by
 unfold Cy
 rw[KI (by simp;omega)];rfl
def Ya {N:Nat}(l:1000000<N) {p q:List Int}(m:p.length≤1000) (o:q.length≤1000):∃r,G2 N p q=some r∧r.length=max p.length q.length:=by
 unfold G2
 have c:max (p.length:Int) (q.length:Int)=((max p.length q.length:Nat):Int):=by omega
 rw[c,Jj (by omega) _ (by decide)]
 obtain⟨s,d,e⟩:=Ee q.length (λn i s=>F9 N q (Hq N) n i s) (Hq N) (λ_ s=>s.length=max p.length q.length) (λn k s a=>by
  simp only[F9];rw[E4 a];rfl) (λn k s g a=>by
  simp only[F9]
  have b:k<s.length:=by omega
  obtain⟨v,j⟩:=VY N s[k] q[k]
  rw[En a,qO,BR a]
  simp only[BR b,qN]
  rw[j,qN,BT (by omega)]
  exact⟨_,by rw[LH];exact g,rfl⟩) N 0 (Ns (List.replicate (((max p.length q.length:Nat):Int)).toNat (0:Int)) p) (by rw[bF,Md]) (by omega) (qW _)
 exact⟨s,e,d⟩
def XG {N:Nat}(l:1000000<N) {p:List Int}(m:p.length≤1000):∃v,IR N p=some v∧(v=true→(∀x∈p,0≤x)∧p.sum≤1125899906842624):=by
 unfold IR
 rcases LN p.length (λn i s=>Eo N p (Gs N) n s i) (λ_=>Gs N) (some false) (λk s=>(∀x∈p.take k,0≤x)∧s=(p.take k).sum∧s≤1125899906842624∧0≤s) (λn k s a=>by
  simp only[Eo];rw[E4 a];rfl) (λn k s d a=>by
  obtain⟨b,c,g,o⟩:=d
  simp only[Eo]
  rw[En a,qO,BR a,qN,Cx (n:=1125899906842624-s) (by omega) (by omega)]
  cases j:(decide (p[k]<0)||decide (1125899906842624-s<p[k]))
  ·simp only[rS,rO] at j
   rw[qQ,BT (by omega),Cx (n:=s+p[k]) (by omega) (by omega)]
   exact .inr ⟨_,⟨JC a b (by omega),by rw[I2 a,c],by omega,by omega⟩,rfl⟩
  ·exact .inl rfl) N 0 0 ⟨by simp,rfl,by decide,by decide⟩ (by omega) (qW _) with e|⟨s,⟨b,c,g,_⟩,e⟩
 ·exact⟨false,e,λq=>by cases q⟩
 ·rw[rY] at b c
  exact⟨true,e,λ_=>⟨b,by omega⟩⟩
end Go.Proofs.YtblcgjadhemlbaaGreat
namespace Go.Proofs.YtblcgjadhemlbaaGreat
set_option linter.all false
open Go.RowKit
def F5 {α}{l:List α}{k:Nat}(a:k<l.length) (x:α):(upd l (k:Int) x)[k]? =some x:=by
 simp [upd,a]
def Hb {α}{l:List α}{k j:Nat}(a:k≠j) (x:α):(upd l (k:Int) x)[j]? =l[j]? :=by
 simp [upd,tM a]
end Go.Proofs.YtblcgjadhemlbaaGreat
namespace Go.Proofs.YtblcgjadhemlbaaGreat
set_option linter.all false
open Go.RowKit
def NO (N:Nat) (n a b:Int):Hs N n a b=some (if n<a then a else if b<n then b else n):=by
 unfold Hs
 by_cases c:n<a
 ·rw[rF c,qR c];rfl
 ·rw[rD c,qP c]
  by_cases d:b<n
  ·rw[rF d,qR d];rfl
  ·rw[rD d,qP d];rfl
def MI (N:Nat) (i n:Int):Gj N i n=some (decide (0≤i)&&decide (i<n)):=rfl
def Yy (N:Nat) (l:BL) (g:BG) (k:Int):∃a,Ho N l g k=some a∧a.W=g.W∧a.Z=g.Z:=by
 have b:∀c:Bool,∃a,Gv N l g k (GK N g) c=some a∧a.W=g.W∧a.Z=g.Z:=λc=>by
  unfold Gv
  cases c
  ·exact⟨_,rfl,rfl,rfl⟩
  ·cases decide (l.B=5)<;>exact⟨_,rfl,rfl,rfl⟩
 unfold Ho
 cases decide (k=0)
 ·cases decide (k=1)
  ·cases decide (k=2)
   ·exact b (decide (k=3))
   ·exact b true
  ·exact⟨_,rfl,rfl,rfl⟩
 ·exact⟨_,rfl,rfl,rfl⟩
def Zh (N:Nat) (l:BL) (g:BG) (t:Int):∃a,Ix N l g t=some a∧a.W=g.W∧a.Az=g.Az∧(0≤l.R→0≤g.Z→g.Z≤l.R→0≤a.Z∧a.Z≤l.R):=by
 unfold Ix
 cases decide (l.R≠0)
 ·exact⟨_,rfl,rfl,rfl,λ_ b c=>⟨b,c⟩⟩
 ·rw[qO,NO,qN]
  refine⟨_,rfl,rfl,rfl,λh0 b c=>?_⟩
  show 0≤(if t<0 then 0 else if l.R<t then l.R else t)∧_≤l.R
  split
  ·exact⟨rN _,h0⟩
  ·split
   ·exact⟨h0,rN _⟩
   ·exact⟨by omega,show t≤_ by omega⟩
def aN (N:Nat) (l:BL) (g:BG):Df (Hr N l g):=by
 unfold Hr
 cases g.Az
 ·obtain⟨a,d⟩:=Qb N g.Z g.W
  obtain⟨b,i⟩:=Qb N 0 l.Ab
  rw[qQ,d,qN,i,qN,NO,qN]
  obtain⟨c,j⟩:=VY N g.W (if a<b then b else if l.Ab<a then l.Ab else a)
  rw[j]
  exact⟨_,rfl⟩
 ·exact⟨_,rfl⟩
def W8 (N:Nat) (l:BL) (g:BG) (v:Int):∃b,HB N l g v=some b∧b.W=g.W∧(l.B≠3→b=g):=by
 unfold HB
 by_cases a:l.B=3
 ·rw[show decide (l.B≠3)=false by simp [a],qQ]
  cases decide (l.Ah≤v)
  ·cases decide (v≤l.Ai)<;>exact⟨_,rfl,rfl,λc=>absurd a c⟩
  ·exact⟨_,rfl,rfl,λc=>absurd a c⟩
 ·rw[show decide (l.B≠3)=true by simp [a],qO]
  exact⟨g,rfl,rfl,λ_=>rfl⟩
def gF (N:Nat) (l:BL) (g:BG) (k:Int):BG:=(Ho N l g k).getD g
def gA (N:Nat) (l:BL) (g:BG) (k:Int):BG:=(Ix N l g k).getD g
def gM (N:Nat) (l:BL) (g:BG):BG:=(Hr N l g).getD g
def gS (N:Nat) (l:BL) (g:BG) (v:Int):BG:=(HB N l g v).getD g
def lK (N:Nat) (l:BL) (g:BG) (k:Int):Ho N l g k=some (gF N l g k)∧(gF N l g k).W=g.W∧(gF N l g k).Z=g.Z:=by
 obtain⟨a,e,b⟩:=Yy N l g k
 unfold gF;rw[e];exact⟨rfl,b⟩
def lL (N:Nat) (l:BL) (g:BG) (k:Int):Ix N l g k=some (gA N l g k)∧(gA N l g k).W=g.W∧(gA N l g k).Az=g.Az∧(0≤l.R→0≤g.Z→g.Z≤l.R→0≤(gA N l g k).Z∧(gA N l g k).Z≤l.R):=by
 obtain⟨a,e,b⟩:=Zh N l g k
 unfold gA;rw[e];exact⟨rfl,b⟩
def Yv (N:Nat) (l:BL) (g:BG):Hr N l g=some (gM N l g):=by
 obtain⟨a,e⟩:=aN N l g
 unfold gM;rw[e];rfl
def lJ (N:Nat) (l:BL) (g:BG) (v:Int):HB N l g v=some (gS N l g v)∧(gS N l g v).W=g.W∧(l.B≠3→gS N l g v=g):=by
 obtain⟨a,e,b⟩:=W8 N l g v
 unfold gS;rw[e];exact⟨rfl,b⟩
def fS (N:Nat) (l:BL) (g:BG) (k:l.R≤64) (m:0≤l.Ab∧l.Ab≤l.R) (d:0≤g.W∧g.W≤l.R) (n:0≤g.Z∧g.Z≤l.R):(0≤(gM N l g).W∧(gM N l g).W≤l.R)∧(gM N l g).W-g.W≤l.Ab∧ -l.Ab≤(gM N l g).W-g.W∧(g.Az=true→gM N l g=g):=by
 have e:=Yv N l g
 unfold Hr at e
 cases a:g.Az with
 |true=>
  rw[a,qO] at e
  have e:=qS e
  rw[←e]
  exact⟨d,by omega,by omega,λ_=>rfl⟩
 |false=>
  rw[a,qQ,Qa N (by omega) (by omega) (by omega) (by omega),qN,Qa N (by omega) (by omega) (by omega) (by omega),qN,NO,qN] at e
  have b:∃c,(if g.Z-g.W<0-l.Ab then 0-l.Ab else if l.Ab<g.Z-g.W then l.Ab else g.Z-g.W)=c∧ -l.Ab≤c∧c≤l.Ab∧0≤g.W+c∧g.W+c≤l.R:=by
   refine⟨_,rfl,?_⟩
   split
   ·omega
   ·split<;>omega
  obtain⟨c,b,o,p,i,j⟩:=b
  rw[b,PU N (by omega) (by omega) (by omega) (by omega),qN] at e
  have e:=qS e
  rw[←e]
  exact⟨⟨i,j⟩,by show g.W+c-g.W≤_;omega,by show _≤g.W+c-g.W;omega,λq=>by cases q⟩
def aA (N:Nat) (l:BL) (k:Nat) (a:List Kh) (g:BG):BG:=a.foldl (λg f=>if f.Bb=(k:Int) then gF N l g f.B else g) g
def stA (N:Nat) (l:BL) (k:Nat) (cs:List P9) (g:BG):BG:=cs.foldl (λg c=>if c.Bb=(k:Int) then gA N l g c.Z else g) g
def Qe {N:Nat}{l:BL}{k:Nat}{a:List Kh}{g:BG}{i:Nat}(b:i<a.length):aA N l k (a.take (i+1)) g=if a[i].Bb=(k:Int) then gF N l (aA N l k (a.take i) g) a[i].B else aA N l k (a.take i) g:=by
 unfold aA;rw[tG b,uM];rfl
def Qf {N:Nat}{l:BL}{k:Nat}{cs:List P9}{g:BG}{i:Nat}(a:i<cs.length):stA N l k (cs.take (i+1)) g=if cs[i].Bb=(k:Int) then gA N l (stA N l k (cs.take i) g) cs[i].Z else stA N l k (cs.take i) g:=by
 unfold stA;rw[tG a,uM];rfl
def W1 (L:Nat) (a:List BG) (g:Nat→BG):Prop:=a.length=L∧∀k,k<L→a[k]? =some (g k)
def W1.ix {L:Nat}{a:List BG}{g:Nat→BG}(c:W1 L a g) {k:Nat}(b:k<L):ix a (k:Int)=some (g k):=by
 have:=c.2 k b
 simp [Go.Proofs.YtblcgjadhemlbaaGreat.ix,this]
def W1.upd {L:Nat}{b:List BG}{g a:Nat→BG}(m:W1 L b g) {j:Nat}(d:j<L) (x:BG) (i:a j=x) (l:∀k,k<L→k≠j→a k=g k):W1 L (upd b (j:Int) x) a:=
 ⟨by rw[LH];exact m.1,λk c=>by
  by_cases e:j=k
  ·subst e;rw[F5 (by rw[m.1];exact d),i]
  ·rw[Hb e,m.2 k c,l k c λm=>e m.symm]⟩
def W1.congr {L:Nat}{a:List BG}{g b:Nat→BG}(d:W1 L a g) (e:∀k,k<L→b k=g k):W1 L a b:=⟨d.1,λk c=>by rw[d.2 k c,e k c]⟩
def Lc (b:AU) (k:Nat):BL:=b.E.getD k default
def NJ {b:AU}{k:Nat}(a:k<b.E.length):Lc b k=b.E[k]:=by unfold Lc;simp [rR,a]
def dG {α}{l:List α}{i:Int}(h0:0≤i) (a:i<l.length):∃n:Nat,i=(n:Int)∧n<l.length:=⟨i.toNat,by omega,by omega⟩
def On {i:Int}{n:Nat}:(decide (0≤i)&&decide (i<(n:Int)))=true↔0≤i∧i<n:=by simp
def Yf {N:Nat}(H:1000000<N) {w:AX}{b:AU}(q:w.b=b) (I:b.E.length≤1000) (J:w.in_.Ap.length≤1000) (K:w.in_.At.length≤1000) {o:Nat→BG}(h0:W1 b.E.length w.s.P o):
  ∃x,E6 N w=some x∧W1 b.E.length x (λk=>gM N (Lc b k) (stA N (Lc b k) k w.in_.At (aA N (Lc b k) k w.in_.Ap (o k)))):=by
 subst q
 unfold E6
 obtain⟨t,y,B⟩:=Ee w.in_.Ap.length (λn i s=>CT N w (Cc N w) n i s) (Cc N w) (λi s=>W1 w.b.E.length s (λk=>aA N (Lc w.b k) k (w.in_.Ap.take i) (o k))) (λn k s a=>by
  simp only[CT];rw[E4 a];rfl) (λn i s g a=>by
  simp only[CT,FB]
  rw[En a,qO,BR a,qN,MI,qN,BT (by omega)]
  cases l:(decide (0≤w.in_.Ap[i].Bb)&&decide (w.in_.Ap[i].Bb<(w.b.E.length:Int)))
  ·refine⟨s,g.congr λk d=>?_,rfl⟩
   rw[Qe a,qP]
   intro e
   rw[e] at l
   simp [d] at l
  ·obtain⟨u,v⟩:=On.1 l
   obtain⟨j,m,c⟩:=dG u v
   rw[qO,m,BR c]
   simp only[g.ix c,qN]
   rw[(lK N _ _ _).1,qN]
   refine⟨_,g.upd c _ ?_ λk d p=>?_,rfl⟩
   ·rw[Qe a,qR m,NJ c]
   ·rw[Qe a,qP (by rw[m];omega)]) N 0 w.s.P h0 (by omega) (qW _)
 rw[show CT N w (Cc N w) N 0 w.s.P=Cc N w t from B]
 rw[rY] at y
 unfold Cc
 obtain⟨z,A,C⟩:=Ee w.in_.At.length (λn i s=>CS N w (Cb N w) n i s) (Cb N w) (λi s=>W1 w.b.E.length s (λk=>stA N (Lc w.b k) k (w.in_.At.take i) (aA N (Lc w.b k) k w.in_.Ap (o k)))) (λn k s a=>by
  simp only[CS];rw[E4 a];rfl) (λn i s g a=>by
  simp only[CS,FA]
  rw[En a,qO,BR a,qN,MI,qN,BT (by omega)]
  cases l:(decide (0≤w.in_.At[i].Bb)&&decide (w.in_.At[i].Bb<(w.b.E.length:Int)))
  ·refine⟨s,g.congr λk d=>?_,rfl⟩
   rw[Qf a,qP]
   intro e
   rw[e] at l
   simp [d] at l
  ·obtain⟨u,v⟩:=On.1 l
   obtain⟨j,m,c⟩:=dG u v
   rw[qO,m,BR c]
   simp only[g.ix c,qN]
   rw[(lL N _ _ _).1,qN]
   refine⟨_,g.upd c _ ?_ λk d p=>?_,rfl⟩
   ·rw[Qf a,qR m,NJ c]
   ·rw[Qf a,qP (by rw[m];omega)]) N 0 t y (by omega) (qW _)
 rw[show CS N w (Cb N w) N 0 t=Cb N w z from C]
 rw[rY] at A
 unfold Cb
 obtain⟨D,F,G⟩:=Ee w.b.E.length (λn i s=>C6 N w n i s) (λs=>some s) (λi s=>W1 w.b.E.length s (λk=>if k<i then gM N (Lc w.b k) (stA N (Lc w.b k) k w.in_.At (aA N (Lc w.b k) k w.in_.Ap (o k))) else stA N (Lc w.b k) k w.in_.At (aA N (Lc w.b k) k w.in_.Ap (o k)))) (λn k s a=>by
  simp only[C6];rw[E4 a];rfl) (λn i s g a=>by
  simp only[C6]
  rw[En a,qO,BR a]
  simp only[g.ix a,qN]
  rw[Yv,qN,BT (by omega),qP (Nat.lt_irrefl i)]
  refine⟨_,g.upd a _ ?_ λk d p=>?_,rfl⟩
  ·rw[qR (Nat.lt_succ_self i),NJ a]
  ·by_cases M:k<i
   ·rw[qR M,qR (by omega)]
   ·rw[qP M,qP (by omega)]) N 0 z (A.congr λk _=>by rw[qP (Nat.not_lt_zero k)]) (by omega) (qW _)
 exact⟨D,G,F.congr λk a=>by rw[qR a]⟩
end Go.Proofs.YtblcgjadhemlbaaGreat
namespace Go.Proofs.YtblcgjadhemlbaaGreat
set_option linter.all false
open Go.RowKit
structure Xd (P W:Nat) (o:List (List Int)):Prop where
 len:o.length=P
 all:∀x∈o,x.length=W
def Xd.ix {P W:Nat}{o:List (List Int)}(c:Xd P W o) {k:Nat}(a:k<P):∃x,Go.Proofs.YtblcgjadhemlbaaGreat.ix o (k:Int)=some x∧x.length=W:=by
 obtain⟨x,e,b⟩:=qC (l:=o) (i:=k) (by rw[c.len];exact a)
 exact⟨x,e,c.all x b⟩
def Xd.upd {P W:Nat}{o:List (List Int)}(c:Xd P W o) (i:Int) {x:List Int}(b:x.length=W):Xd P W (upd o i x):=
 ⟨by rw[LH];exact c.len,λy a=>by
  rcases uV a with a|rfl
  ·exact c.all y a
  ·exact b⟩
def SH {N:Nat}(q:1000000<N) {s:A7}(t:s.F.length≤64) (g:∀x∈s.F,x.length≤1000) (u:s.O.length≤1000) (v:s.P.length≤1000) (w:s.S.length≤1000) (y:s.U.length≤1000):Jq N s=some s:=by
 unfold Jq
 rw[Jj (by omega) _ (by decide)]
 obtain⟨o,⟨z,j⟩,e⟩:=Ee s.F.length (λn i l=>FQ N s (FT N s) n i l) (FT N s) (λk (l:List (List Int))=>l.length=s.F.length∧∀i,i<k→l[i]? =s.F[i]?) (λn k l a=>by
  simp only[FQ];rw[E4 a];rfl) (λn k l d a=>by
  simp only[FQ]
  have b:k<l.length:=by rw[d.1];exact a
  rw[En a,qO,BR a,qN,LT N (by have:=g _ (rH a);omega)]
  simp only[BR b,qN]
  rw[BT (by omega)]
  refine⟨_,⟨by rw[LH];exact d.1,λi m=>?_⟩,rfl⟩
  by_cases c:k=i
  ·subst c;rw[F5 b];simp [a]
  ·rw[Hb c];exact d.2 i (by omega)) N 0 (List.replicate ((s.F.length:Int)).toNat ([]:List Int)) ⟨Og _ _,λi d=>by omega⟩ (by omega) (qW _)
 rw[show FQ N s (FT N s) N 0 _=FT N s o from e]
 have p:o=s.F:=sK λi=>by
  rcases rL i s.F.length with A|A
  ·exact j i A
  ·rw[rU A,rU (by omega)]
 subst p
 unfold FT
 rw[LT N (by omega),qN,VU N (by omega),qN,LT N (by omega),qN,LT N (by omega),qN]
def KX (a:List Int) (i:Int):Int:=a.getD i.toNat 0
def VG {a:List Int}{i:Int}(h0:0≤i) (c:i<a.length):ix a i=some (KX a i):=by
 obtain⟨n,rfl,b⟩:=dG h0 c
 rw[BR b];simp [KX,rR,b]
end Go.Proofs.YtblcgjadhemlbaaGreat
namespace Go.Proofs.YtblcgjadhemlbaaGreat
set_option linter.all false
open Go.RowKit
def Oi {N:Nat}(a:18446744073709551616<N) (v n d:Int):Df (Gu N v n d):=by
 unfold Gu
 rw[KH a,qN]
 exact Df.cond (λ_=>Df.mk _) λ_=>Df.mk _
def T7 {N:Nat}(a:18446744073709551616<N) (v n d:Int):Df (It N v n d):=by
 unfold It
 rw[KH a,qN]
 exact Df.cond (λ_=>Df.mk _) λ_=>Df.mk _
def nT {N:Nat}(a:18446744073709551616<N) (c:List BS) (x:Int):Df (J9 N c x):=by
 unfold J9
 obtain⟨v,b,k⟩:=JW (N:=N) (by omega) c
 rw[b,qN]
 cases v
 ·exact Df.mk _
 ·have g:=k rfl
  obtain⟨y,d⟩:=QY a g.1 g.2.1 x
  exact⟨y.1,by rw[d];rfl⟩
def WO {N:Nat}(i:18446744073709551616<N) (l:BL) (g:BG) (fr to:Int):Df (Iw N l g fr to):=by
 have head:Df (JQ N l fr to):=by
  unfold JQ
  refine Df.cond (λ_=>Df.mk _) λ_=>?_
  refine(Oi i _ _ _).bind λv _=>(Qb N _ _).bind λu _=>Df.mk _
 have j:Df (Iu N l g.W g.Ao l.Af fr to):=by
  unfold Iu JR JS KR JT HJ In
  have n:Df ((Gw N fr l.Al).bind λm=>(Gu N (max 0 m) l.L l.I).bind λk=>some k):=(Qb N _ _).bind λu _=>(Oi i _ _ _).bind λv _=>Df.mk _
  refine Df.cond (λ_=>?_) λ_=>Df.cond (λ_=>(Oi i _ _ _).bind λv _=>Df.mk _) λ_=>Df.cond (λ_=>Df.cond (λ_=>(Oi i _ _ _).bind λv _=>Df.mk _) λ_=>Df.mk _) λ_=>Df.cond (λ_=>Df.cond (λ_=>Df.mk _) λ_=>n) λ_=>Df.cond (λ_=>n) λ_=>Df.mk _
  exact head.bind λa _=>(nT i _ _).bind λb _=>(Oi i _ _ _).bind λc _=>(VY N _ _).bind λd _=>Df.mk _
 unfold Iw
 exact j.bind λv _=>Df.mk _
def V1 {N:Nat}(c:18446744073709551616<N) (l:BL) (fr to:Int):Df (IX N l fr to):=by
 unfold IX
 exact Df.cond (λ_=>Df.mk _) λ_=>(T7 c _ _ _).bind λa _=>(T7 c _ _ _).bind λb _=>Df.mk _
def nU (W:Nat) (f:List Int→Option (List Int×List Int)):Prop:=∀x,x.length=W→∃r,f x=some r∧r.1.length=W∧r.2.length=W
def pZ (W:Nat) (l:List AK):Prop:=∀e∈l,nU W e.take
def pZ.snoc {W:Nat}{l:List AK}(c:pZ W l) {e:AK}(b:nU W e.take):pZ W (l++[e]):=λx a=>by
 rcases sN.1 a with a|a
 ·exact c x a
 ·rw[tA.1 a];exact b
def SI {N:Nat}(i:1000000<N) (a b:List AK) (j:a.length≤100000) (k:b.length≤100000):Ci N [a,b]=some (a++b):=by
 obtain⟨n,rfl⟩:∃n,N=n+3:=⟨N-3,by omega⟩
 have d:Bw ((a.length:Int)+(b.length:Int))=((a.length+b.length:Nat):Int):=by rw[Cx (by omega) (by omega)];rfl
 have g:Bw (0+(a.length:Int))=((a.length:Nat):Int):=by rw[Cx (by omega) (by omega)];omega
 have c:Cu (n+3) ((a.length+b.length:Nat):Int)=some []:=by
  unfold Cu Ce
  rw[rD (show ¬((a.length+b.length:Nat):Int)<0 by omega),qQ,Cx (n:=(0:Int)-0) (by decide) (by decide),Cx (n:=((a.length+b.length:Nat):Int)-(0-0)) (by omega) (by omega)]
  cases l:decide (0<((a.length+b.length:Nat):Int)-(0-0))
  ·rfl
  ·rw[qO,KI (by omega)]
   rfl
 unfold Ci
 simp only[CE]
 rw[show decide ((0:Int)<(([a,b]:List (List AK)).length:Int))=true by simp,qO,show Go.Proofs.YtblcgjadhemlbaaGreat.ix [a,b] 0=some a from rfl,qN,g,rD (show ¬((a.length:Nat):Int)<0 by omega),qQ,show Bw (0+1)=1 from rfl,show decide ((1:Int)<(([a,b]:List (List AK)).length:Int))=true by simp,qO,show Go.Proofs.YtblcgjadhemlbaaGreat.ix [a,b] 1=some b from rfl,qN,d,rD (show ¬((a.length+b.length:Nat):Int)<0 by omega),qQ,show Bw (1+1)=2 from rfl,show decide ((2:Int)<(([a,b]:List (List AK)).length:Int))=false by simp,qQ]
 unfold CW
 rw[c,qN]
 simp only[CD]
 rw[show decide ((0:Int)<(([a,b]:List (List AK)).length:Int))=true by simp,qO,show Go.Proofs.YtblcgjadhemlbaaGreat.ix [a,b] 0=some a from rfl,qN,KI (by simp;omega),show Bw (0+1)=1 from rfl,show decide ((1:Int)<(([a,b]:List (List AK)).length:Int))=true by simp,qO,show Go.Proofs.YtblcgjadhemlbaaGreat.ix [a,b] 1=some b from rfl,qN,KI (by simp;omega),show Bw (1+1)=2 from rfl,show decide ((2:Int)<(([a,b]:List (List AK)).length:Int))=false by simp,qQ]
 rfl
def YQ {N:Nat}(a:18446744073709551616<N) (pl:Dm) (v m:Int):Df (Gg N pl v m):=by
 unfold Gg FU
 rw[KH a,qN]
 exact Df.cond (λ_=>Df.mk _) λ_=>Df.cond (λ_=>Df.cond (λ_=>Df.mk _) λ_=>Df.mk _) λ_=>Df.cond (λ_=>Df.mk _) λ_=>Df.mk _
structure pY (P W:Nat) (o:List (List Int)) (out:List Int) (ms:List BB) (sn:List BD) (M:Nat):Prop where
 own:Xd P W o
 out:out.length=W
 mv:ms.length≤M
 sn:sn.length≤M
def pY.le {P W:Nat}{o:List (List Int)}{a:List Int}{b:List BB}{c:List BD}{M d:Nat}(i:pY P W o a b c M) (g:M≤d):pY P W o a b c d:=⟨i.own,i.out,sP i.mv g,sP i.sn g⟩
end Go.Proofs.YtblcgjadhemlbaaGreat
namespace Go.Proofs.YtblcgjadhemlbaaGreat
set_option linter.all false
open Go.RowKit
def pt (v n d:Int):Int:=(Zv v n d).1
def Oo {N:Nat}(a:18446744073709551616<N) (v n d:Int):Gu N v n d=some (pt v n d):=by
 unfold Gu pt
 rw[KH a,qN]
 unfold Zv
 split<;>rfl
def Tz {N:Nat}(a:18446744073709551616<N) (v n d:Int):It N v n d=some (pt v n d):=by
 unfold It pt
 rw[KH a,qN]
 unfold Zv
 split<;>rfl
def V9 {v n d:Int}(b:0≤v∧v≤1125899906842624) (c:0≤n) (a:n≤d) (hd:d≤1125899906842624):pt v n d=v*n/d:=by
 have:=Qw (t:=v) (n:=n) (d:=d) (by omega) a b.1
 unfold pt Zv
 by_cases i:1≤d
 ·rw[qR ⟨b,⟨c,by omega⟩,⟨i,hd⟩,by omega⟩]
 ·have e:d=0:=by omega
  rw[qP (λg=>i g.2.2.1.1),e]
  simp
def Pg (v n d:Int):0≤pt v n d∧pt v n d≤1125899906842624:=by
 unfold pt Zv
 split
 ·rename_i a
  exact⟨Ot (by omega) a.2.1.1 a.1.1,a.2.2.2⟩
 ·exact⟨by decide,by decide⟩
structure Va (n d s:Int):Prop where
 n0:0≤n
 nd:n≤d
 dm:d≤1125899906842624
 s0:0≤s
 sl:n*1099511627776≤s*d
def Va.lip {n d s:Int}(i:Va n d s) {u v:Int}(b:0≤u) (a:u≤v) (c:v≤1125899906842624):pt u n d≤pt v n d∧pt v n d≤v∧(pt v n d-pt u n d-1)*1099511627776≤s*(v-u):=by
 have h0:=i.n0
 have g:=i.nd
 rw[V9 ⟨b,by omega⟩ i.n0 i.nd i.dm,V9 ⟨by omega,c⟩ i.n0 i.nd i.dm]
 refine⟨S5 (by omega) h0 a,Qw (by omega) g (by omega),?_⟩
 by_cases hd:0<d
 ·exact VS hd i.sl a
 ·have:d=0:=by omega
  subst this
  have:=tZ i.s0 (show 0≤v-u by omega)
  simp
  omega
def fT {y z p P:Int}(h0:0≤p) (b:p≤P) (d:y≤z):z*p/P≤y*p/P+(z-y):=by
 by_cases c:0<P
 ·have:z*p≤y*p+(z-y)*P:=by
   have:=uE b (show 0≤z-y by omega)
   grind
  have a:=Int.ediv_le_ediv c this
  rw[Int.add_mul_ediv_right _ _ (by omega)] at a
  exact a
 ·have:P=0:=by omega
  subst this
  simp
  omega
structure iS (N:Nat) (l:BL) (s t:Int):Prop where
 s0:0≤s
 t0:0≤t
 gate:l.B=0→EU l.Af∧EU l.Y.Ar∧EU l.Y.Aw∧Gh N l.Y.Ar l.Af=some true∧Gh N l.Af l.Y.Aw=some true∧(0≤l.R∧l.R≤64)∧(0≤l.Aj∧l.Aj≤1125899906842624)∧Xk (KE l.Y.Ar) s∧(l.C≠ -1→Va l.Ac l.Aa t)
 weir:l.B=1∨l.B=5→Va l.L l.I s∧(0≤l.Al∧l.Al≤1125899906842624)
 pump:l.B=2→(0≤l.L∧l.L≤1125899906842624)∧(1≤l.R∧l.R≤64)
 siph:l.B=3→Va l.L l.I s∧(0≤l.Ah∧l.Ah≤1125899906842624)∧(0≤l.Ai∧l.Ai≤1125899906842624)
 seep:l.B=4→Va l.L l.I s∧Va l.Ac l.Aa t∧l.C≠ -1
 spd:0≤l.Ab∧l.Ab≤l.R∧l.R≤64
def KC (l:BL) (fr to:Int):Int:=if l.C= -1 then fr else max 0 (fr-pt to l.Ac l.Aa)
def XP {N:Nat}(a:18446744073709551616<N) (l:BL) {fr to:Int}(b:0≤fr∧fr≤1125899906842624):JQ N l fr to=some (KC l fr to):=by
 unfold JQ KC
 by_cases c:l.C= -1
 ·rw[rF c,qO,qR c]
 ·have:=Pg to l.Ac l.Aa
  rw[rD c,qQ,qP c,Oo a,qN,Qa N (by omega) (by omega) (by omega) (by omega),qN]
def Yr (l:BL) {fr:Int}(to:Int) (a:0≤fr∧fr≤1125899906842624):0≤KC l fr to∧KC l fr to≤1125899906842624:=by
 have:=Pg to l.Ac l.Aa
 unfold KC
 split<;>omega
def XQ (l:BL) {u v to:Int}(a:u≤v):KC l u to≤KC l v to∧KC l v to-KC l u to≤v-u:=by
 unfold KC
 split<;>omega
def dZ {N:Nat}(g:18446744073709551616<N) {l:BL}(h0:l.B=0) {c:List BS}(i:EU c) (s:0≤l.R∧l.R≤64) (u:0≤l.Aj∧l.Aj≤1125899906842624) {pos fr to:Int}(a:0≤pos∧pos≤l.R) (o:Bool) (j:0≤fr∧fr≤1125899906842624):
  ∃k p q,Xl (KE c) (KC l fr to) k p q∧Iu N l pos o c fr to=some (J4 p q (KC l fr to)*pos/l.R+l.Aj):=by
 obtain⟨k,p,q,m,e⟩:=gU g i (Yr l to j)
 refine⟨k,p,q,m,?_⟩
 have b:=gT i m
 unfold Hu at b
 unfold Iu JR
 rw[rF h0,qO,XP g l j,qN,e,qN,Oo g,V9 b a.1 a.2 (by omega),qN]
 have:=Qw (t:=J4 p q (KC l fr to)) (n:=pos) (d:=l.R) (by omega) a.2 b.1
 have:=Ot (t:=J4 p q (KC l fr to)) (n:=pos) (d:=l.R) (by omega) a.1 b.1
 rw[PU N (by omega) (by omega) (by omega) (by omega),qN]
end Go.Proofs.YtblcgjadhemlbaaGreat
