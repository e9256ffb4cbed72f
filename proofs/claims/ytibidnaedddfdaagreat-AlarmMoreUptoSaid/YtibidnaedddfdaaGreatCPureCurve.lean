import Derived.Test.YtibidnaedddfdaaGreatCPureDiv2
import Derived.Test.YtibidnaedddfdaaGreatCPureBase
namespace Go.Proofs.YtibidnaedddfdaaGreat
open Go.RowKit
set_option linter.unusedVariables false
set_option linter.unusedSimpArgs false
theorem Qt {t t' n d s:Int}(hd:0<d) (hn:n*1099511627776≤s*d) (ht:t≤t'):(t'*n/d-t*n/d-1)*1099511627776≤s*(t'-t):=by
 have h1:=Int.ediv_mul_le (t'*n) (b:=d) (by omega)
 have h2:=Int.lt_ediv_add_one_mul_self (t*n) hd
 have h3:(t'-t)*(n*1099511627776)≤(t'-t)*(s*d):=Int.mul_le_mul_of_nonneg_left hn (by omega)
 refine Int.le_of_mul_le_mul_right (a:=d) ?_ hd
 generalize t'*n/d=q' at*
 generalize t*n/d=q at*
 grind
theorem ZC {t n d s:Int}(hd:0<d) (hn:n*1099511627776≤s*d) (ht:0≤t):t*n/d*1099511627776≤s*t:=by
 have h1:=Int.ediv_mul_le (t*n) (b:=d) (by omega)
 have h3:t*(n*1099511627776)≤t*(s*d):=Int.mul_le_mul_of_nonneg_left hn ht
 refine Int.le_of_mul_le_mul_right (a:=d) ?_ hd
 generalize t*n/d=q at*
 grind
theorem Lq {t t' n d:Int}(hd:0≤d) (hn:0≤n) (ht:t≤t'):t*n/d≤t'*n/d:=by
 rcases Int.lt_or_eq_of_le hd with h|h
 ·exact Int.ediv_le_ediv h (Int.mul_le_mul_of_nonneg_right ht hn)
 ·rw[←h];simp
theorem Ky {t n d:Int}(hd:0≤d) (hn:0≤n) (ht:0≤t):0≤t*n/d:=Int.ediv_nonneg (Int.mul_nonneg ht hn) hd
theorem Kz {t n d:Int}(hd:0≤d) (h:n≤d) (ht:0≤t):t*n/d≤t:=by
 rcases Int.lt_or_eq_of_le hd with h0|h0
 ·refine Int.ediv_le_of_le_mul h0 (Int.mul_le_mul_of_nonneg_left h ht)
 ·rw[←h0];simp [ht]
def GS (c:List AU):List AU:=(⟨-1,(c.headD ⟨0,0⟩).Y⟩:AU)::(c++[(⟨2251799813685248,(c.getLastD ⟨0,0⟩).Y⟩:AU)])
def Wi (e:List AU):Prop:=∀k l r,e[k]? =some l→e[k+1]? =some r→l.X<r.X∧l.Y≤r.Y
theorem Nf (c:List AU):(GS c)[0]? =some ⟨-1,(c.headD ⟨0,0⟩).Y⟩:=rfl
theorem KH (c:List AU) {k:Nat}(h:k<c.length):(GS c)[k+1]? =c[k]? :=by
 simp [GS,List.getElem?_append,h]
theorem OT (c:List AU):(GS c)[c.length+1]? =some ⟨2251799813685248,(c.getLastD ⟨0,0⟩).Y⟩:=by
 simp [GS]
theorem KZ {c:List AU}{p:AU}(h:c[0]? =some p):c.headD ⟨0,0⟩=p:=by
 cases c with
 |nil=>cases h
 |cons a l=>simpa using h
theorem KY {c:List AU}{p:AU}(h:c[c.length-1]? =some p):c.getLastD ⟨0,0⟩=p:=by
 rw[List.getLastD_eq_getLast?,List.getLast?_eq_getElem?,h];rfl
theorem Bn.vol {c:List AU}(h:Bn c) {k:Nat}{p:AU}(hp:c[k]? =some p):FB p.X∧FB p.Y:=⟨(h.2.2 k p hp).1,(h.2.2 k p hp).2.1⟩
theorem Bn.step {c:List AU}(h:Bn c) {k:Nat}{p q:AU}(hp:c[k]? =some p) (hq:c[k+1]? =some q):p.X<q.X∧p.Y≤q.Y:=(h.2.2 (k+1) q hq).2.2 p (by omega) hp
theorem IF {c:List AU}(h:Bn c):Wi (GS c):=by
 intro k l r hl hr
 have hlen:(GS c).length=c.length+2:=by simp [GS]
 have hk:=(List.getElem?_eq_some_iff.1 hr).1
 have h1:=h.1
 rw[hlen] at hk
 cases k with
 |zero=>
  rw[Nf] at hl
  rw[KH c (by omega)] at hr
  have hv:=h.vol hr
  have he:=KZ hr
  cases hl
  rw[he]
  exact⟨by have:=hv.1.1;show(-1:Int)<_;omega,Int.le_refl _⟩
 |succ k=>
  rw[KH c (by omega)] at hl
  by_cases hk2:k+1<c.length
  ·rw[KH c hk2] at hr
   exact h.step hl hr
  ·have e:k+1=c.length:=by omega
   rw[show k+1+1=c.length+1 by omega,OT] at hr
   have he:=KY (c:=c) (p:=l) (by rw[←hl];congr 1;omega)
   cases hr
   rw[he]
   exact⟨by have:=(h.vol hl).1.2;show _<(2251799813685248:Int);omega,Int.le_refl _⟩
theorem Wi.mono {e:List AU}(h:Wi e) {i:Nat}:∀{j:Nat}{a b:AU},i≤j→e[i]? =some a→e[j]? =some b→a.X≤b.X∧a.Y≤b.Y∧(i<j→a.X<b.X)
 |j,a,b,hij,ha,hb=>by
  rcases Nat.lt_or_ge i j with hlt|hge
  ·obtain⟨j,rfl⟩:∃m,j=m+1:=⟨j-1,by omega⟩
   have hj:=(List.getElem?_eq_some_iff.1 hb).1
   obtain⟨c,hc⟩:∃c,e[j]? =some c:=⟨e[j],by simp [show j<e.length by omega]⟩
   have h1:=Wi.mono h (j:=j) (by omega) ha hc
   have h2:=h j c b hc hb
   exact⟨by omega,by omega,λ_=>by omega⟩
  ·have:i=j:=by omega
   subst this
   rw[ha] at hb
   cases hb
   exact⟨Int.le_refl _,Int.le_refl _,λh=>by omega⟩
structure PR (e:List AU) (x:Int) (k:Nat) (l r:AU):Prop where
 l_:e[k]? =some l
 r_:e[k+1]? =some r
 lo:l.X≤x
 hi:x<r.X
structure U6 (e:List AU) (x:Int) (k:Nat) (l r:AU):Prop where
 l_:e[k]? =some l
 r_:e[k+1]? =some r
 lo:l.X≤x
 hi:x≤r.X
def FC (l r:AU) (x:Int):Int:=l.Y+(x-l.X)*(r.Y-l.Y)/(r.X-l.X)
def Mj (l r:AU) (x:Int):Int:=(x-l.X)*(r.Y-l.Y)%(r.X-l.X)
theorem QT {e:List AU}(h:Wi e) {x:Int}{k k':Nat}{l r l' r':AU}(a:U6 e x k l r) (b:PR e x k' l' r'):(k=k'∧l=l'∧r=r')∨(k'=k+1∧l'=r∧x=r.X):=by
 rcases Nat.lt_trichotomy k k' with hlt|heq|hgt
 ·have h1:=h.mono (show k+1≤k' by omega) a.r_ b.l_
  have h2:=a.hi
  have h3:=b.lo
  by_cases e1:k'=k+1
  ·subst e1
   have:=a.r_.symm.trans b.l_
   cases this
   exact .inr ⟨rfl,rfl,by omega⟩
  ·have:=h1.2.2 (by omega);omega
 ·subst heq
  have e1:=a.l_.symm.trans b.l_
  have e2:=a.r_.symm.trans b.r_
  cases e1;cases e2
  exact .inl ⟨rfl,rfl,rfl⟩
 ·have h1:=h.mono (show k'+1≤k by omega) b.r_ a.l_
  have h2:=a.lo
  have h3:=b.hi
  omega
theorem PR.bounds {e:List AU}(h:Wi e) {x:Int}{k:Nat}{l r:AU}(a:PR e x k l r):l.Y≤FC l r x∧FC l r x≤r.Y:=by
 have h1:=h k l r a.l_ a.r_
 have h2:=a.lo
 have h3:=a.hi
 have h4:=Ky (t:=x-l.X) (n:=r.Y-l.Y) (d:=r.X-l.X) (by omega) (by omega) (by omega)
 have h5:(x-l.X)*(r.Y-l.Y)/(r.X-l.X)≤r.Y-l.Y:=by
  refine Int.ediv_le_of_le_mul (by omega) ?_
  rw[Int.mul_comm]
  exact Int.mul_le_mul_of_nonneg_left (by omega) (by omega)
 unfold FC
 omega
theorem PR.mono {e:List AU}(h:Wi e) {x x':Int}{k k':Nat}{l r l' r':AU}(a:PR e x k l r) (b:PR e x' k' l' r') (hx:x≤x'):FC l r x≤FC l' r' x':=by
 rcases Nat.lt_trichotomy k k' with hlt|heq|hgt
 ·have h1:=h.mono (show k+1≤k' by omega) a.r_ b.l_
  have h2:=(a.bounds h).2
  have h3:=(b.bounds h).1
  omega
 ·subst heq
  have e1:=a.l_.symm.trans b.l_
  have e2:=a.r_.symm.trans b.r_
  cases e1;cases e2
  have h1:=h k l r a.l_ a.r_
  have:=Lq (t:=x-l.X) (t':=x'-l.X) (n:=r.Y-l.Y) (d:=r.X-l.X) (by omega) (by omega) (by omega)
  unfold FC
  omega
 ·have h1:=h.mono (show k'+1≤k by omega) b.r_ a.l_
  have h2:=a.lo
  have h3:=b.hi
  omega
def YN (e:List AU) (s:Int):Prop:=∀k l r,e[k]? =some l→e[k+1]? =some r→(r.Y-l.Y)*1099511627776≤s*(r.X-l.X)
theorem YN.mono {e:List AU}{s:Int}(h:YN e s) {i:Nat}:∀{j:Nat}{a b:AU},i≤j→e[i]? =some a→e[j]? =some b→(b.Y-a.Y)*1099511627776≤s*(b.X-a.X)
 |j,a,b,hij,ha,hb=>by
  rcases Nat.lt_or_ge i j with hlt|hge
  ·obtain⟨j,rfl⟩:∃m,j=m+1:=⟨j-1,by omega⟩
   have hj:=(List.getElem?_eq_some_iff.1 hb).1
   obtain⟨c,hc⟩:∃c,e[j]? =some c:=⟨e[j],by simp [show j<e.length by omega]⟩
   have h1:=YN.mono h (j:=j) (by omega) ha hc
   have h2:=h j c b hc hb
   grind
  ·have:i=j:=by omega
   subst this
   rw[ha] at hb
   cases hb
   grind
theorem PR.lip {e:List AU}(h:Wi e) {s:Int}(hs:YN e s) {x x':Int}{k k':Nat}{l r l' r':AU}(a:PR e x k l r) (b:PR e x' k' l' r') (hx:x≤x'):(FC l' r' x'-FC l r x-1)*1099511627776≤s*(x'-x):=by
 have ha:=h k l r a.l_ a.r_
 have hb:=h k' l' r' b.l_ b.r_
 have sa:=hs k l r a.l_ a.r_
 have sb:=hs k' l' r' b.l_ b.r_
 have a1:=a.lo
 have a2:=a.hi
 have b1:=b.lo
 have b2:=b.hi
 rcases Nat.lt_trichotomy k k' with hlt|heq|hgt
 ·have h1:=hs.mono (show k+1≤k' by omega) a.r_ b.l_
  have h2:=Qt (t:=x-l.X) (t':=r.X-l.X) (show 0<r.X-l.X by omega) sa (by omega)
  have h3:=ZC (t:=x'-l'.X) (show 0<r'.X-l'.X by omega) sb (by omega)
  have h4:(r.X-l.X)*(r.Y-l.Y)/(r.X-l.X)=r.Y-l.Y:=Int.mul_ediv_cancel_left _ (by omega)
  rw[h4] at h2
  unfold FC
  generalize (x-l.X)*(r.Y-l.Y)/(r.X-l.X)=q at*
  generalize (x'-l'.X)*(r'.Y-l'.Y)/(r'.X-l'.X)=q' at*
  grind
 ·subst heq
  have e1:=a.l_.symm.trans b.l_
  have e2:=a.r_.symm.trans b.r_
  cases e1;cases e2
  have h2:=Qt (t:=x-l.X) (t':=x'-l.X) (show 0<r.X-l.X by omega) sa (by omega)
  unfold FC
  generalize (x-l.X)*(r.Y-l.Y)/(r.X-l.X)=q at*
  generalize (x'-l.X)*(r.Y-l.Y)/(r.X-l.X)=q' at*
  grind
 ·have h1:=h.mono (show k'+1≤k by omega) b.r_ a.l_
  omega
theorem TY {a n d:Int}(h1:0≤a∧a≤1125899906842624) (h2:0≤n∧n≤1125899906842624) (h3:1≤d∧d≤1125899906842624) (h4:a*n/d≤1125899906842624):VT a n d=(a*n/d,a*n%d,true):=by
 unfold VT
 rw[if_pos ⟨h1,h2,h3,h4⟩]
theorem Gf {N:Nat}(hN:18446744073709551616<N) {c:List AU}(h:Bn c) {x:Int}(hx:0≤x∧x≤1125899906842624):∃k l r,PR (GS c) x k l r∧Cv N c x=some (FC l r x,decide (0<Mj l r x)):=by
 have h1:=h.1
 have h2:=h.2.1
 unfold Cv
 obtain⟨r,e1,e2,e3,e4⟩:=OH (N:=N) (λy=>DP N c x y) c.length (by omega) (by omega) λi hi=>by
  unfold DP
  rw[Al hi];exact Df.mk _
 have hf:∀i (hi:i<c.length),DP N c x (i:Int)=some (decide (x<(c[i]).X)):=λi hi=>by
  unfold DP
  rw[Al hi];rfl
 rw[e1,Option.bind_some]
 by_cases hr0:r=0
 ·subst hr0
  have h0:c[0]? =some c[0]:=by simp
  have e5:=e4 (by omega)
  rw[hf 0 (by omega)] at e5
  have e6:=of_decide_eq_true (Option.some.inj e5)
  refine⟨0,_,_,⟨Nf c,(KH c (by omega)).trans h0,by show(-1:Int)≤x;omega,e6⟩,?_⟩
  rw[show decide (((0:Nat):Int)=0)=true by simp,cond_true,show ix c 0=some c[0] from Al (i:=0) (by omega),Option.bind_some]
  have e7:=KZ h0
  rw[e7]
  simp [FC,Mj]
 ·have hlr:c[r-1]? =some c[r-1]:=by simp
  have e5:=e3 (by omega)
  rw[hf (r-1) (by omega)] at e5
  have e6:=of_decide_eq_false (Option.some.inj e5)
  have v1:=h.vol hlr
  have w1:Aw ((r:Int)-1)=((r-1:Nat):Int):=by rw[B1 (by omega) (by omega)];omega
  rw[show decide ((r:Int)=0)=false by simp;omega,cond_false,w1,Al (show r-1<c.length by omega),Option.bind_some]
  by_cases hrl:r=c.length
  ·subst hrl
   rw[show decide ((c.length:Int)=(c.length:Int))=true by simp,cond_true]
   have e7:=KY hlr
   have g1:(GS c)[c.length-1+1]? =some c[c.length-1]:=(KH c (by omega)).trans hlr
   rw[show c.length-1+1=c.length by omega] at g1
   refine⟨c.length,_,_,⟨g1,OT c,by omega,by show x<(2251799813685248:Int);omega⟩,?_⟩
   rw[e7]
   simp [FC,Mj]
  ·have hr:r<c.length:=by omega
   have hrr:c[r]? =some c[r]:=by simp [hr]
   have e8:=e4 hr
   rw[hf r hr] at e8
   have e9:=of_decide_eq_true (Option.some.inj e8)
   have v2:=h.vol hrr
   have st:=h.step hlr (q:=c[r]) (by rw[show r-1+1=r by omega];exact hrr)
   have g1:(GS c)[r-1+1]? =some c[r-1]:=(KH c (by omega)).trans hlr
   rw[show r-1+1=r by omega] at g1
   refine⟨r,_,_,⟨g1,(KH c hr).trans hrr,by omega,e9⟩,?_⟩
   rw[show decide ((r:Int)=(c.length:Int))=false by simp;omega,cond_false,Al hr]
   simp only[Option.bind_some]
   unfold FB at v1 v2
   generalize c[r-1]=p at*
   generalize c[r]=q at*
   rw[B1 (n:=x-p.X) (by omega) (by omega),B1 (n:=q.Y-p.Y) (by omega) (by omega),B1 (n:=q.X-p.X) (by omega) (by omega),Le hN]
   have b1:(x-p.X)*(q.Y-p.Y)/(q.X-p.X)≤q.Y-p.Y:=by
    refine Int.ediv_le_of_le_mul (by omega) ?_
    rw[Int.mul_comm]
    exact Int.mul_le_mul_of_nonneg_left (by omega) (by omega)
   have b0:=Ky (t:=x-p.X) (n:=q.Y-p.Y) (d:=q.X-p.X) (by omega) (by omega) (by omega)
   rw[TY (by omega) (by omega) (by omega) (by omega),Option.bind_some]
   unfold FC Mj
   rw[B1 (by omega) (by omega)]
theorem Hb {N:Nat}(hN:33<N) {c:List AU}(h:Bn c):Cy N c=some true:=by
 unfold Cy
 have h1:=h.1
 have h2:=h.2.1
 rw[show (decide ((c.length:Int)<1)||decide (32<(c.length:Int)))=false by simp;omega,cond_false]
 exact Rf c.length (Cx N c (ET N)) (ET N) (λn k hk=>by
  simp only[Cx];rw[EA hk];rfl) (λn k hk=>by
  have hp:c[k]? =some c[k]:=by simp [hk]
  have v:=h.vol hp
  unfold FB at v
  simp only[Cx]
  rw[D9 hk,cond_true,Al hk,Option.bind_some,show(((decide ((c[k]).X<0)||decide (1125899906842624<(c[k]).X))||decide ((c[k]).Y<0))||decide (1125899906842624<(c[k]).Y))=false by simp only[Bool.or_eq_false_iff,decide_eq_false_iff_not];omega,cond_false,Ae (by omega)]
  by_cases h0:k=0
  ·subst h0
   rfl
  ·have hq:c[k-1]? =some c[k-1]:=by simp
   have st:=h.step hq (q:=c[k]) (by rw[show k-1+1=k by omega];exact hp)
   have w1:Aw ((k:Int)-1)=((k-1:Nat):Int):=by rw[B1 (by omega) (by omega)];omega
   rw[show decide ((0:Int)<(k:Int))=true by simp;omega,cond_true,w1,Al (show k-1<c.length by omega)]
   simp only[Option.bind_some]
   rw[show decide ((c[k]).X≤(c[k-1]).X)=false by simp only[decide_eq_false_iff_not];omega,show decide ((c[k]).Y<(c[k-1]).Y)=false by simp only[decide_eq_false_iff_not];omega]
   rfl) N 0 (by omega) (Nat.zero_le _)
theorem MR {N:Nat}(hN:18446744073709551616<N) {c:List AU}(h:Bn c) {x:Int}(hx:0≤x∧x≤1125899906842624):∃k l r,PR (GS c) x k l r∧IT N c x=some (FC l r x):=by
 obtain⟨k,l,r,h1,h2⟩:=Gf hN h hx
 refine⟨k,l,r,h1,?_⟩
 unfold IT
 rw[Hb (by omega) h]
 simp only[Option.bind_some,Bool.not_true,cond_false,h2]
theorem Rv {c:List AU}(h:Bn c):∀{k:Nat}{p:AU},(GS c)[k]? =some p→FB p.Y:=by
 intro k p hp
 have h1:=h.1
 have hlen:(GS c).length=c.length+2:=by simp [GS]
 have hk:=(List.getElem?_eq_some_iff.1 hp).1
 rw[hlen] at hk
 have hg:∀i (hi:i<c.length),FB (c[i]).Y:=λi hi=>(h.vol (k:=i) (by simp [hi])).2
 cases k with
 |zero=>
  rw[Nf] at hp
  cases hp
  rw[KZ (p:=c[0]) (by simp)]
  exact hg 0 (by omega)
 |succ k=>
  by_cases hk2:k<c.length
  ·rw[KH c hk2] at hp
   exact(h.vol hp).2
  ·rw[show k+1=c.length+1 by omega,OT] at hp
   cases hp
   rw[KY (p:=c[c.length-1]) (by simp)]
   exact hg _ (by omega)
theorem LQ {c:List AU}(h:Bn c) {x:Int}{k:Nat}{l r:AU}(s:PR (GS c) x k l r):FB (FC l r x):=by
 have h1:=s.bounds (IF h)
 have h2:=Rv h s.l_
 have h3:=Rv h s.r_
 unfold FB at*
 omega
theorem SI {N:Nat}(hN:18446744073709551616<N) {a b:List AU}(ha:Bn a) (hb:Bn b) (h:Cw N a b=some true):
  (∀(i:Nat) p,a[i]? =some p→∃v,Cv N b p.X=some v∧p.Y≤v.1)∧(∀(i:Nat) p,b[i]? =some p→∃v,Cv N a p.X=some v∧v.1≤p.Y∧(v.1=p.Y→v.2=false)):=by
 have a2:=ha.2.1
 have b2:=hb.2.1
 unfold Cw at h
 rw[Hb (by omega) ha,Hb (by omega) hb] at h
 simp only[Option.bind_some,Bool.not_true,cond_false] at h
 rcases EN a.length (Bw N a b (Bm N a b)) (Bm N a b) (λi=>∀p,a[i]? =some p→∃v,Cv N b p.X=some v∧p.Y≤v.1) (λn k hk=>by
  simp only[Bw];rw[EA hk];rfl) (λn k hk=>by
  simp only[Bw]
  have hp:a[k]? =some a[k]:=by simp [hk]
  obtain⟨_,_,_,_,e⟩:=Gf hN hb (ha.vol hp).1
  rw[D9 hk,cond_true,Al hk,Option.bind_some,e,Option.bind_some,Ae (by omega)]
  cases hc:decide (FC _ _ _<(a[k]).Y)
  ·refine .inr ⟨λp hp2=>?_,rfl⟩
   cases hp.symm.trans hp2
   exact⟨_,e,by simpa using hc⟩
  ·exact .inl rfl) N 0 (by omega) (Nat.zero_le _) with h1|⟨h1,h2⟩
 ·rw[show Bw N a b (Bm N a b) N 0=some false from h1] at h;cases h
 ·rw[show Bw N a b (Bm N a b) N 0=Bm N a b from h2] at h
  unfold Bm at h
  rcases EN b.length (CI N a b (DY N)) (DY N) (λi=>∀p,b[i]? =some p→∃v,Cv N a p.X=some v∧v.1≤p.Y∧(v.1=p.Y→v.2=false)) (λn k hk=>by
   simp only[CI];rw[EA hk];rfl) (λn k hk=>by
   simp only[CI]
   have hp:b[k]? =some b[k]:=by simp [hk]
   obtain⟨_,_,_,_,e⟩:=Gf hN ha (hb.vol hp).1
   rw[D9 hk,cond_true,Al hk,Option.bind_some,e,Option.bind_some,Ae (by omega)]
   generalize FC _ _ _=q at*
   generalize decide (0<Mj _ _ _)=m at*
   cases hc:(decide ((b[k]).Y<q)||(decide (q=(b[k]).Y)&&m))
   ·refine .inr ⟨λp hp2=>?_,rfl⟩
    cases hp.symm.trans hp2
    simp only[Bool.or_eq_false_iff,Bool.and_eq_false_iff,decide_eq_false_iff_not] at hc
    exact⟨_,e,by show q≤_;omega,λh=>hc.2.resolve_left λhn=>hn h⟩
   ·exact .inl rfl) N 0 (by omega) (Nat.zero_le _) with h3|⟨h3,h4⟩
  ·rw[show CI N a b (DY N) N 0=some false from h3] at h;cases h
  ·refine⟨λi p hp=>h1 i (Nat.zero_le _) (List.getElem?_eq_some_iff.1 hp).1 p hp,λi p hp=>h3 i (Nat.zero_le _) (List.getElem?_eq_some_iff.1 hp).1 p hp⟩
def Fi (l r:AU) (x:Int):Int:=l.Y*(r.X-l.X)+(x-l.X)*(r.Y-l.Y)
theorem KV {l r:AU}(h:l.X<r.X) (x:Int):FC l r x*(r.X-l.X)+Mj l r x=Fi l r x:=by
 have:=Int.ediv_mul_add_emod ((x-l.X)*(r.Y-l.Y)) (r.X-l.X)
 unfold FC Mj Fi
 grind
theorem Mw {l r:AU}(h:l.X<r.X) (x:Int):0≤Mj l r x∧Mj l r x<r.X-l.X:=⟨Int.emod_nonneg _ (by omega),Int.emod_lt_of_pos _ (by omega)⟩
def Sq (l r l' r':AU) (x:Int):Prop:=Fi l r x*(r'.X-l'.X)≤Fi l' r' x*(r.X-l.X)
theorem Sq.mid {l r l' r':AU}{x u v:Int}(h1:Sq l r l' r' u) (h2:Sq l r l' r' v) (hu:u≤x) (hv:x≤v) (huv:u<v):Sq l r l' r' x:=by
 unfold Sq Fi at*
 have a1:=Int.mul_le_mul_of_nonneg_right h1 (show 0≤v-x by omega)
 have a2:=Int.mul_le_mul_of_nonneg_right h2 (show 0≤x-u by omega)
 refine Int.le_of_mul_le_mul_right (a:=v-u) ?_ (by omega)
 grind
theorem Sq.val {l r l' r':AU}{x:Int}(h:Sq l r l' r' x) (hl:l.X<r.X) (hl':l'.X<r'.X):FC l r x≤FC l' r' x:=by
 have e1:=KV hl x
 have e2:=KV hl' x
 have m1:=Mw hl x
 have m2:=Mw hl' x
 unfold Sq at h
 rw[←e1,←e2] at h
 refine Int.not_lt.1 λhc=>?_
 generalize FC l r x=a at*
 generalize FC l' r' x=b at*
 generalize Mj l r x=m at*
 generalize Mj l' r' x=m' at*
 have d1:0<r.X-l.X:=by omega
 have d2:0<r'.X-l'.X:=by omega
 generalize r.X-l.X=d at*
 generalize r'.X-l'.X=d' at*
 have q1:(b+1)*(d*d')≤a*(d*d'):=Int.mul_le_mul_of_nonneg_right (by omega) (Int.mul_nonneg (by omega) (by omega))
 have q2:0≤m*d':=Int.mul_nonneg m1.1 (by omega)
 have q3:m'*d<d'*d:=Int.mul_lt_mul_of_pos_right m2.2 d1
 grind
theorem Ki {c:List AU}{i:Nat}{p:AU}(hp:(GS c)[i]? =some p):(i=0∧p=⟨-1,(c.headD ⟨0,0⟩).Y⟩)∨(∃m,i=m+1∧c[m]? =some p)∨(i=c.length+1∧p=⟨2251799813685248,(c.getLastD ⟨0,0⟩).Y⟩):=by
 have hlen:(GS c).length=c.length+2:=by simp [GS]
 have hk:=(List.getElem?_eq_some_iff.1 hp).1
 rw[hlen] at hk
 cases i with
 |zero=>rw[Nf] at hp;cases hp;exact .inl ⟨rfl,rfl⟩
 |succ m=>
  by_cases h:m<c.length
  ·rw[KH c h] at hp
   exact .inr (.inl ⟨m,rfl,hp⟩)
  ·have:m=c.length:=by omega
   subst this
   rw[OT] at hp
   cases hp
   exact .inr (.inr ⟨rfl,rfl⟩)
theorem Rh (l r:AU):Fi l r l.X=l.Y*(r.X-l.X):=by unfold Fi;grind
theorem Mz (l r:AU):Fi l r r.X=r.Y*(r.X-l.X):=by unfold Fi;grind
theorem Sz (l r:AU):FC l r l.X=l.Y:=by unfold FC;simp
theorem NJ {b:List AU}(hb:Bn b) {j:Nat}{u v:AU}(t:U6 (GS b) (-1) j u v):u=⟨-1,(b.headD ⟨0,0⟩).Y⟩:=by
 rcases Nat.eq_zero_or_pos j with e|e
 ·subst e
  have:=t.l_
  rw[Nf] at this
  exact(Option.some.inj this).symm
 ·have h:=((IF hb).mono (Nat.zero_le j) (Nf b) t.l_).2.2 e
  have:=t.lo
  have h:(-1:Int)<u.X:=h
  omega
theorem Pg {b:List AU}(hb:Bn b) {j:Nat}{u v:AU}(t:U6 (GS b) 2251799813685248 j u v):v=⟨2251799813685248,(b.getLastD ⟨0,0⟩).Y⟩:=by
 rcases Ki t.r_ with ⟨h,_⟩|⟨m,h1,h2⟩|⟨_,h⟩
 ·omega
 ·have:=(hb.vol h2).1.2
  have:=t.hi
  omega
 ·exact h
theorem Pz {b:List AU}(hb:Bn b) {j:Nat}{p:AU}(h:(GS b)[j]? =some p):(b.headD ⟨0,0⟩).Y≤p.Y:=((IF hb).mono (Nat.zero_le j) (Nf b) h).2.1
theorem Rj {b:List AU}(hb:Bn b) {j:Nat}{p:AU}(h:(GS b)[j]? =some p):p.Y≤(b.getLastD ⟨0,0⟩).Y:=by
 have hlen:(GS b).length=b.length+2:=by simp [GS]
 have hk:=(List.getElem?_eq_some_iff.1 h).1
 exact((IF hb).mono (show j≤b.length+1 by omega) h (OT b)).2.1
theorem LT {N:Nat}(hN:18446744073709551616<N) {a b:List AU}(ha:Bn a) (hb:Bn b) (h:Cw N a b=some true) {x:Int}{k k':Nat}{l r l' r':AU}(s:PR (GS a) x k l r) (t:PR (GS b) x k' l' r'):FC l r x≤FC l' r' x:=by
 obtain⟨ua,ub⟩:=SI hN ha hb h
 have ia:=IF ha
 have ib:=IF hb
 have a1:=ha.1
 have b1:=hb.1
 have ca:∀(i:Nat) p,(GS a)[i]? =some p→∀j u v,U6 (GS b) p.X j u v→p.Y*(v.X-u.X)≤Fi u v p.X:=by
  intro i p hp j u v hs
  have huv:=(ib j u v hs.l_ hs.r_).1
  have hd:0≤v.X-u.X:=by omega
  rcases Ki hp with ⟨_,rfl⟩|⟨m,_,hm⟩|⟨_,rfl⟩
  ·have hu:=NJ hb hs
   have e:Fi u v (-1)=u.Y*(v.X-u.X):=by
    have:=Rh u v
    rw[hu] at this ⊢
    exact this
   show _≤Fi u v (-1)
   rw[e]
   refine Int.mul_le_mul_of_nonneg_right ?_ hd
   have hb0:b[0]? =some b[0]:=by simp
   obtain⟨w,w1,w2,_⟩:=ub 0 _ hb0
   obtain⟨k2,l2,r2,q1,q2⟩:=Gf hN ha (hb.vol hb0).1
   rw[q2] at w1
   cases w1
   have w2:FC l2 r2 (b[0]).X≤(b[0]).Y:=w2
   have:=(q1.bounds ia).1
   have:=Pz ha q1.l_
   have hh:=KZ hb0
   rw[hu,hh]
   show(a.headD ⟨0,0⟩).Y≤(b[0]).Y
   omega
  ·obtain⟨w,w1,w2⟩:=ua m p hm
   obtain⟨k2,l2,r2,q1,q2⟩:=Gf hN hb (ha.vol hm).1
   rw[q2] at w1
   cases w1
   have w2:p.Y≤FC l2 r2 p.X:=w2
   rcases QT ib hs q1 with ⟨_,rfl,rfl⟩|⟨_,rfl,e⟩
   ·have h1:=KV huv p.X
    have h2:=(Mw huv p.X).1
    have h3:=Int.mul_le_mul_of_nonneg_right w2 hd
    omega
   ·rw[e,Sz] at w2
    rw[e,Mz]
    exact Int.mul_le_mul_of_nonneg_right w2 hd
  ·have hv:=Pg hb hs
   have e:Fi u v 2251799813685248=v.Y*(v.X-u.X):=by
    have:=Mz u v
    rw[hv] at this ⊢
    exact this
   show _≤Fi u v 2251799813685248
   rw[e]
   refine Int.mul_le_mul_of_nonneg_right ?_ hd
   have hal:a[a.length-1]? =some a[a.length-1]:=by simp
   obtain⟨w,w1,w2⟩:=ua _ _ hal
   obtain⟨k2,l2,r2,q1,q2⟩:=Gf hN hb (ha.vol hal).1
   rw[q2] at w1
   cases w1
   have w2:(a[a.length-1]).Y≤FC l2 r2 (a[a.length-1]).X:=w2
   have:=(q1.bounds ib).2
   have:=Rj hb q1.r_
   have hh:=KY hal
   rw[hv,hh]
   show(a[a.length-1]).Y≤(b.getLastD ⟨0,0⟩).Y
   omega
 have cb:∀(i:Nat) p,(GS b)[i]? =some p→∀j u v,U6 (GS a) p.X j u v→Fi u v p.X≤p.Y*(v.X-u.X):=by
  intro i p hp j u v hs
  have huv:=(ia j u v hs.l_ hs.r_).1
  have hd:0≤v.X-u.X:=by omega
  rcases Ki hp with ⟨_,rfl⟩|⟨m,_,hm⟩|⟨_,rfl⟩
  ·have hu:=NJ ha hs
   have e:Fi u v (-1)=u.Y*(v.X-u.X):=by
    have:=Rh u v
    rw[hu] at this ⊢
    exact this
   show Fi u v (-1)≤_
   rw[e]
   refine Int.mul_le_mul_of_nonneg_right ?_ hd
   have hb0:b[0]? =some b[0]:=by simp
   obtain⟨w,w1,w2,_⟩:=ub 0 _ hb0
   obtain⟨k2,l2,r2,q1,q2⟩:=Gf hN ha (hb.vol hb0).1
   rw[q2] at w1
   cases w1
   have w2:FC l2 r2 (b[0]).X≤(b[0]).Y:=w2
   have:=(q1.bounds ia).1
   have:=Pz ha q1.l_
   have hh:=KZ hb0
   rw[hu,hh]
   show(a.headD ⟨0,0⟩).Y≤(b[0]).Y
   omega
  ·obtain⟨w,w1,w2,w3⟩:=ub m p hm
   obtain⟨k2,l2,r2,q1,q2⟩:=Gf hN ha (hb.vol hm).1
   rw[q2] at w1
   cases w1
   have w2:FC l2 r2 p.X≤p.Y:=w2
   have w3:FC l2 r2 p.X=p.Y→¬0<Mj l2 r2 p.X:=λh=>of_decide_eq_false (w3 h)
   rcases QT ia hs q1 with ⟨_,rfl,rfl⟩|⟨_,rfl,e⟩
   ·have h1:=KV huv p.X
    have h2:=Mw huv p.X
    rcases Int.lt_or_eq_of_le w2 with h|h
    ·have h3:=Int.mul_le_mul_of_nonneg_right (show FC u v p.X+1≤p.Y by omega) hd
     rw[Int.add_mul,Int.one_mul] at h3
     omega
    ·have h3:=w3 h
     rw[h] at h1
     omega
   ·rw[e,Sz] at w2
    rw[e,Mz]
    exact Int.mul_le_mul_of_nonneg_right w2 hd
  ·have hv:=Pg ha hs
   have e:Fi u v 2251799813685248=v.Y*(v.X-u.X):=by
    have:=Mz u v
    rw[hv] at this ⊢
    exact this
   show Fi u v 2251799813685248≤_
   rw[e]
   refine Int.mul_le_mul_of_nonneg_right ?_ hd
   have hal:a[a.length-1]? =some a[a.length-1]:=by simp
   obtain⟨w,w1,w2⟩:=ua _ _ hal
   obtain⟨k2,l2,r2,q1,q2⟩:=Gf hN hb (ha.vol hal).1
   rw[q2] at w1
   cases w1
   have w2:(a[a.length-1]).Y≤FC l2 r2 (a[a.length-1]).X:=w2
   have:=(q1.bounds ib).2
   have:=Rj hb q1.r_
   have hh:=KY hal
   rw[hv,hh]
   show(a[a.length-1]).Y≤(b.getLastD ⟨0,0⟩).Y
   omega
 have hl:=(ia k l r s.l_ s.r_).1
 have hl':=(ib k' l' r' t.l_ t.r_).1
 have s1:=s.lo
 have s2:=s.hi
 have t1:=t.lo
 have t2:=t.hi
 have low:Sq l r l' r' (max l.X l'.X):=by
  unfold Sq
  rcases Int.le_total l.X l'.X with e|e
  ·rw[Int.max_eq_right e]
   have:=cb k' l' t.l_ k l r ⟨s.l_,s.r_,e,by omega⟩
   have e2:Fi l' r' l'.X=l'.Y*(r'.X-l'.X):=by unfold Fi;grind
   rw[e2]
   have:=Int.mul_le_mul_of_nonneg_right this (show 0≤r'.X-l'.X by omega)
   grind
  ·rw[Int.max_eq_left e]
   have:=ca k l s.l_ k' l' r' ⟨t.l_,t.r_,e,by omega⟩
   have e2:Fi l r l.X=l.Y*(r.X-l.X):=by unfold Fi;grind
   rw[e2]
   have:=Int.mul_le_mul_of_nonneg_right this (show 0≤r.X-l.X by omega)
   grind
 have high:Sq l r l' r' (min r.X r'.X):=by
  unfold Sq
  rcases Int.le_total r.X r'.X with e|e
  ·rw[Int.min_eq_left e]
   have:=ca (k+1) r s.r_ k' l' r' ⟨t.l_,t.r_,by omega,e⟩
   have e2:Fi l r r.X=r.Y*(r.X-l.X):=by unfold Fi;grind
   rw[e2]
   have:=Int.mul_le_mul_of_nonneg_right this (show 0≤r.X-l.X by omega)
   grind
  ·rw[Int.min_eq_right e]
   have:=cb (k'+1) r' t.r_ k l r ⟨s.l_,s.r_,by omega,e⟩
   have e2:Fi l' r' r'.X=r'.Y*(r'.X-l'.X):=by unfold Fi;grind
   rw[e2]
   have:=Int.mul_le_mul_of_nonneg_right this (show 0≤r'.X-l'.X by omega)
   grind
 exact(low.mid high (by omega) (by omega) (by omega)).val hl hl'
end Go.Proofs.YtibidnaedddfdaaGreat
