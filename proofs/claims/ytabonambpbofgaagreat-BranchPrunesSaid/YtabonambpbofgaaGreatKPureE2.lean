import Derived.Test.YtabonambpbofgaaGreatKPureEx
namespace Go.Proofs.YtabonambpbofgaaGreat
set_option linter.all false
open Go.RowKit
def O2 (N:Nat) (n a b:Int):Ib N n a b=some (if n<a then a else if b<n then b else n):=by
 unfold Ib;by_cases c:n<a
 ·rw[Ab3 c,Abm c];rfl
 ·rw[Abs c,Abl c];by_cases d:b<n
  ·rw[Ab3 d,Abm d];rfl
  ·rw[Abs d,Abl d];rfl
def Nm (N:Nat) (i n:Int):HO N i n=some (decide (0≤i)&&decide (i<n)):=rfl
def dS (N:Nat) (l:BB) (g:A4) (k:Int):∃a,IS N l g k=some a∧a.Z=g.Z∧a.Aa=g.Aa:=by
 have b:∀c:Bool,∃a,Hh N l g k (G6 N g) c=some a∧a.Z=g.Z∧a.Aa=g.Aa:=λc=>by
  unfold Hh;cases c
  ·exact⟨_,rfl,rfl,rfl⟩
  ·cases decide (l.F=5)<;>exact⟨_,rfl,rfl,rfl⟩
 unfold IS;cases decide (k=0)
 ·cases decide (k=1)
  ·cases decide (k=2)
   ·exact b (decide (k=3))
   ·exact b true
  ·exact⟨_,rfl,rfl,rfl⟩
 ·exact⟨_,rfl,rfl,rfl⟩
def fS (N:Nat) (l:BB) (g:A4) (t:Int):∃a,Jx N l g t=some a∧a.Z=g.Z∧a.Ay=g.Ay∧(0≤l.W→0≤g.Aa→g.Aa≤l.W→0≤a.Aa∧a.Aa≤l.W):=by
 unfold Jx;cases decide (l.W≠0)
 ·exact⟨_,rfl,rfl,rfl,λ_ b c=>⟨b,c⟩⟩
 ·rw[Abj,O2,Abi];refine⟨_,rfl,rfl,rfl,λh0 b c=>?_⟩;show 0≤(if t<0 then 0 else if l.W<t then l.W else t)∧_≤l.W
  split
  ·exact⟨Acj _,h0⟩
  ·split
   ·exact⟨h0,Acj _⟩
   ·exact⟨by omega,show t≤_ by omega⟩
def jA (N:Nat) (l:BB) (g:A4):Df (Ia N l g):=by
 unfold Ia;cases g.Ay
 ·obtain⟨a,d⟩:=Sf N g.Aa g.Z;obtain⟨b,i⟩:=Sf N 0 l.Ag;rw[Abk,d,Abi,i,Abi,O2,Abi];obtain⟨c,j⟩:=XS N g.Z (if a<b then b else if l.Ag<a then l.Ag else a);rw[j];exact⟨_,rfl⟩
 ·exact⟨_,rfl⟩
def ZF (N:Nat) (l:BB) (g:A4) (v:Int):∃b,Hy N l g v=some b∧b.Z=g.Z∧(l.F≠3→b=g):=by
 unfold Hy;by_cases a:l.F=3
 ·rw[show decide (l.F≠3)=false by simp [a],Abk];cases decide (l.Az≤v)
  ·cases decide (v≤l.Ba)<;>exact⟨_,rfl,rfl,λc=>absurd a c⟩
  ·exact⟨_,rfl,rfl,λc=>absurd a c⟩
 ·rw[show decide (l.F≠3)=true by simp [a],Abj];exact⟨g,rfl,rfl,λ_=>rfl⟩
def gF (N:Nat) (l:BB) (g:A4) (k:Int):A4:=(IS N l g k).getD g
def gA (N:Nat) (l:BB) (g:A4) (k:Int):A4:=(Jx N l g k).getD g
def gM (N:Nat) (l:BB) (g:A4):A4:=(Ia N l g).getD g
def gS (N:Nat) (l:BB) (g:A4) (v:Int):A4:=(Hy N l g v).getD g
def wO (N:Nat) (l:BB) (g:A4) (k:Int):IS N l g k=some (gF N l g k)∧(gF N l g k).Z=g.Z∧(gF N l g k).Aa=g.Aa:=by
 obtain⟨a,e,b⟩:=dS N l g k;unfold gF;rw[e];exact⟨rfl,b⟩
def wP (N:Nat) (l:BB) (g:A4) (k:Int):Jx N l g k=some (gA N l g k)∧(gA N l g k).Z=g.Z∧(gA N l g k).Ay=g.Ay∧(0≤l.W→0≤g.Aa→g.Aa≤l.W→0≤(gA N l g k).Aa∧(gA N l g k).Aa≤l.W):=by
 obtain⟨a,e,b⟩:=fS N l g k;unfold gA;rw[e];exact⟨rfl,b⟩
def dN (N:Nat) (l:BB) (g:A4):Ia N l g=some (gM N l g):=by
 obtain⟨a,e⟩:=jA N l g;unfold gM;rw[e];rfl
def wN (N:Nat) (l:BB) (g:A4) (v:Int):Hy N l g v=some (gS N l g v)∧(gS N l g v).Z=g.Z∧(l.F≠3→gS N l g v=g):=by
 obtain⟨a,e,b⟩:=ZF N l g v;unfold gS;rw[e];exact⟨rfl,b⟩
def qR (N:Nat) (l:BB) (g:A4) (k:l.W≤64) (m:0≤l.Ag∧l.Ag≤l.W) (d:0≤g.Z∧g.Z≤l.W) (n:0≤g.Aa∧g.Aa≤l.W):(0≤(gM N l g).Z∧(gM N l g).Z≤l.W)∧(gM N l g).Z-g.Z≤l.Ag∧ -l.Ag≤(gM N l g).Z-g.Z∧(g.Ay=true→gM N l g=g):=by
 have e:=dN N l g;unfold Ia at e;cases a:g.Ay with
 |true=>
  rw[a,Abj] at e;have e:=Abo e;rw[←e];exact⟨d,by omega,by omega,λ_=>rfl⟩
 |false=>
  rw[a,Abk,bG N (by omega) (by omega) (by omega) (by omega),Abi,bG N (by omega) (by omega) (by omega) (by omega),Abi,O2,Abi] at e;have b:∃c,(if g.Aa-g.Z<0-l.Ag then 0-l.Ag else if l.Ag<g.Aa-g.Z then l.Ag else g.Aa-g.Z)=c∧ -l.Ag≤c∧c≤l.Ag∧0≤g.Z+c∧g.Z+c≤l.W:=by
   refine⟨_,rfl,?_⟩;split
   ·omega
   ·split<;>omega
  obtain⟨c,b,o,p,i,j⟩:=b;rw[b,VD N (by omega) (by omega) (by omega) (by omega),Abi] at e;have e:=Abo e;rw[←e];exact⟨⟨i,j⟩,by show g.Z+c-g.Z≤_;omega,by show _≤g.Z+c-g.Z;omega,λq=>by cases q⟩
def iO (N:Nat) (l:BB) (k:Nat) (a:List G1) (g:A4):A4:=a.foldl (λg f=>if f.Ar=(k:Int) then gF N l g f.F else g) g
def stA (N:Nat) (l:BB) (k:Nat) (cs:List LA) (g:A4):A4:=cs.foldl (λg c=>if c.Ar=(k:Int) then gA N l g c.Aa else g) g
def Si {N:Nat}{l:BB}{k:Nat}{a:List G1}{g:A4}{i:Nat}(b:i<a.length):iO N l k (a.take (i+1)) g=if a[i].Ar=(k:Int) then gF N l (iO N l k (a.take i) g) a[i].F else iO N l k (a.take i) g:=by
 unfold iO;rw[Ac1 b,Aek];rfl
def Sj {N:Nat}{l:BB}{k:Nat}{cs:List LA}{g:A4}{i:Nat}(a:i<cs.length):stA N l k (cs.take (i+1)) g=if cs[i].Ar=(k:Int) then gA N l (stA N l k (cs.take i) g) cs[i].Aa else stA N l k (cs.take i) g:=by
 unfold stA;rw[Ac1 a,Aek];rfl
def Y2 (L:Nat) (a:List A4) (g:Nat→A4):Prop:=a.length=L∧∀k,k<L→a[k]? =some (g k)
def Y2.ix {L:Nat}{a:List A4}{g:Nat→A4}(c:Y2 L a g) {k:Nat}(b:k<L):ix a (k:Int)=some (g k):=by
 have:=c.2 k b;simp [Go.Proofs.YtabonambpbofgaaGreat.ix,this]
def Y2.upd {L:Nat}{b:List A4}{g a:Nat→A4}(m:Y2 L b g) {j:Nat}(d:j<L) (x:A4) (i:a j=x) (l:∀k,k<L→k≠j→a k=g k):Y2 L (upd b (j:Int) x) a:=
 ⟨by rw[Mu];exact m.1,λk c=>by
  by_cases e:j=k
  ·subst e;rw[Hk (by rw[m.1];exact d),i]
  ·rw[Jf e,m.2 k c,l k c λm=>e m.symm]⟩
def Y2.congr {L:Nat}{a:List A4}{g b:Nat→A4}(d:Y2 L a g) (e:∀k,k<L→b k=g k):Y2 L a b:=⟨d.1,λk c=>by rw[d.2 k c,e k c]⟩
def X9 (b:AF) (k:Nat):BB:=b.C.getD k default
def TB {b:AF}{k:Nat}(a:k<b.C.length):X9 b k=b.C[k]:=by unfold X9;simp [Acv,a]
def mY {α}{l:List α}{i:Int}(h0:0≤i) (a:i<l.length):∃n:Nat,i=(n:Int)∧n<l.length:=⟨i.toNat,by omega,by omega⟩
def Qp {i:Int}{n:Nat}:(decide (0≤i)&&decide (i<(n:Int)))=true↔0≤i∧i<n:=by simp
def cU {N:Nat}(I:8000000000000<N) {w:AM}{b:AF}(q:w.b=b) (J:b.C.length≤1000) (K:w.in_.Ab.length≤1000) (M:w.in_.Ac.length≤1000) {o:Nat→A4}(h0:Y2 b.C.length w.s.P o):
  ∃x,HQ N w=some x∧Y2 b.C.length x (λk=>gM N (X9 b k) (stA N (X9 b k) k w.in_.Ac (iO N (X9 b k) k w.in_.Ab (o k)))):=by
 subst q;unfold HQ;obtain⟨t,y,B⟩:=Fs w.in_.Ab.length (λn i s=>DF N w (Dm N w) n i s) (Dm N w) (λi s=>Y2 w.b.C.length s (λk=>iO N (X9 w.b k) k (w.in_.Ab.take i) (o k))) (λn k s a=>by
  simp only[DF];rw[Fj a];rfl) (λn i s g a=>by
  simp only[DF,HC];rw[FD a,Abj,BF a,Abi,Nm,Abi,A9 (by omega)];cases l:(decide (0≤w.in_.Ab[i].Ar)&&decide (w.in_.Ab[i].Ar<(w.b.C.length:Int)))
  ·refine⟨s,g.congr λk d=>?_,rfl⟩;rw[Si a,Abl];intro e;rw[e] at l;simp [d] at l
  ·obtain⟨u,v⟩:=Qp.1 l;obtain⟨j,m,c⟩:=mY u v;rw[Abj,m,BF c];simp only[g.ix c,Abi];rw[(wO N _ _ _).1,Abi];refine⟨_,g.upd c _ ?_ λk d p=>?_,rfl⟩
   ·rw[Si a,Abm m,TB c]
   ·rw[Si a,Abl (by rw[m];omega)]) N 0 w.s.P h0 (by omega) (Abn _)
 rw[show DF N w (Dm N w) N 0 w.s.P=Dm N w t from B];rw[Ack] at y;unfold Dm;obtain⟨z,A,D⟩:=Fs w.in_.Ac.length (λn i s=>DE N w (Dk N w) n i s) (Dk N w) (λi s=>Y2 w.b.C.length s (λk=>stA N (X9 w.b k) k (w.in_.Ac.take i) (iO N (X9 w.b k) k w.in_.Ab (o k)))) (λn k s a=>by
  simp only[DE];rw[Fj a];rfl) (λn i s g a=>by
  simp only[DE,HB];rw[FD a,Abj,BF a,Abi,Nm,Abi,A9 (by omega)];cases l:(decide (0≤w.in_.Ac[i].Ar)&&decide (w.in_.Ac[i].Ar<(w.b.C.length:Int)))
  ·refine⟨s,g.congr λk d=>?_,rfl⟩;rw[Sj a,Abl];intro e;rw[e] at l;simp [d] at l
  ·obtain⟨u,v⟩:=Qp.1 l;obtain⟨j,m,c⟩:=mY u v;rw[Abj,m,BF c];simp only[g.ix c,Abi];rw[(wP N _ _ _).1,Abi];refine⟨_,g.upd c _ ?_ λk d p=>?_,rfl⟩
   ·rw[Sj a,Abm m,TB c]
   ·rw[Sj a,Abl (by rw[m];omega)]) N 0 t y (by omega) (Abn _)
 rw[show DE N w (Dk N w) N 0 t=Dk N w z from D];rw[Ack] at A;unfold Dk;obtain⟨F,G,H⟩:=Fs w.b.C.length (λn i s=>D9 N w n i s) (λs=>some s) (λi s=>Y2 w.b.C.length s (λk=>if k<i then gM N (X9 w.b k) (stA N (X9 w.b k) k w.in_.Ac (iO N (X9 w.b k) k w.in_.Ab (o k))) else stA N (X9 w.b k) k w.in_.Ac (iO N (X9 w.b k) k w.in_.Ab (o k)))) (λn k s a=>by
  simp only[D9];rw[Fj a];rfl) (λn i s g a=>by
  simp only[D9];rw[FD a,Abj,BF a];simp only[g.ix a,Abi];rw[dN,Abi,A9 (by omega),Abl (Nat.lt_irrefl i)];refine⟨_,g.upd a _ ?_ λk d p=>?_,rfl⟩
  ·rw[Abm (Nat.lt_succ_self i),TB a]
  ·by_cases Q:k<i
   ·rw[Abm Q,Abm (by omega)]
   ·rw[Abl Q,Abl (by omega)]) N 0 z (A.congr λk _=>by rw[Abl (Nat.not_lt_zero k)]) (by omega) (Abn _)
 exact⟨F,H,G.congr λk a=>by rw[Abm a]⟩
def cL:∀{a b:List Int},a.Perm b→a.sum=b.sum:=λi=>by
 induction i with
 |nil=>rfl
 |cons x _ c=>simp only[Acz,c]
 |swap x y l=>simp only[Acz];omega
 |trans _ _ d g=>exact d.trans g
def Kx:∀{l:List Int}{c:Int},(∀x∈l,x≤c)→l.sum≤l.length*c
 |[],c,_=>by simp
 |a::l,c,i=>by
  have d:=i a (Ab8 ..);have g:=Kx (l:=l) (c:=c) λx b=>i x (Acn _ b);rw[Acz,Ady,Int.natCast_succ,Int.add_mul,Int.one_mul];omega
def YH {lt:Int→Int→Bool}(R:Int→Int) (g:∀x y,lt x y=true→R y≤R x) (d:∀x y,lt x y=false→R x≤R y) (x:Int):∀l:List Int,l.Pairwise (λa b=>R b≤R a)→(Tn lt x l).Pairwise λa b=>R b≤R a
 |[],_=>by simp [Tn]
 |y::l,k=>by
  have j:∀z,z∈l→R z≤R y:=λz c=>List.rel_of_pairwise_cons k c;unfold Tn;cases i:lt y x with
  |true=>
   refine List.Pairwise.cons (λz c=>?_) (YH R g d x l k.of_cons);rcases Abr.1 ((PZ lt x l).mem_iff.1 c) with rfl|c
   ·exact g _ _ i
   ·exact j z c
  |false=>
   refine List.Pairwise.cons (λz c=>?_) k;rcases Abr.1 c with rfl|c
   ·exact d _ _ i
   ·exact Int.le_trans (j z c) (d _ _ i)
def WM {lt:Int→Int→Bool}(R:Int→Int) (c:∀x y,lt x y=true→R y≤R x) (d:∀x y,lt x y=false→R x≤R y):∀l:List Int,(Nq lt l).Pairwise λa b=>R b≤R a
 |[]=> .nil
 |x::l=>YH R c d x _ (WM R c d l)
def cA (c:List Int) (x y:Int):(Rh c x y=true→c.getD y.toNat 0≤c.getD x.toNat 0)∧(Rh c x y=false→c.getD x.toNat 0≤c.getD y.toNat 0):=by
 show(cond (!decide (c.getD x.toNat 0=c.getD y.toNat 0)) (decide (c.getD y.toNat 0<c.getD x.toNat 0)) (decide (x.toNat<y.toNat))=true→_)∧(cond (!decide (c.getD x.toNat 0=c.getD y.toNat 0)) (decide (c.getD y.toNat 0<c.getD x.toNat 0)) (decide (x.toNat<y.toNat))=false→_)
 generalize c.getD x.toNat 0=a
 generalize c.getD y.toNat 0=b
 by_cases d:a=b
 ·subst d;exact⟨λ_=>Acj _,λ_=>Acj _⟩
 ·rw[Abs d,Bool.not_false,Abj];exact⟨λd=>by have:=Ac9 d;omega,λd=>by have:=Aev d;omega⟩
def bC {n:Nat}{S:Int}(X:0<S) {b a:List Int}(H:b.length=n) (s:∀i,i<n→b[i]? =some (i:Int)) (I:a.length=n) (J:∀x∈a,0≤x∧x≤S-1) {p:Nat}(t:a.sum=p*S):∀x∈(Nq (Rh a) b).take p,0<a.getD x.toNat 0:=by
 intro x K;have M:=M3 (Rh a) b;have u:=WM (lt:=Rh a) (λx=>a.getD x.toNat 0) (λx y h=>(cA a x y).1 h) (λx y h=>(cA a x y).2 h) b;have m:b.map (λx=>a.getD x.toNat 0)=a:=Acr λi=>by
  rcases Ab4 i n with h|h
  ·rw[Adc,s i h];have:i<a.length:=by omega
   simp [Acv,this]
  ·rw[Acc (by simp;omega),Acc (by omega)]
 have C:((Nq (Rh a) b).map λx=>a.getD x.toNat 0).sum=p*S:=by
  rw[cL (M.map _),m,t]
 have v:∀y:Int,0≤a.getD y.toNat 0∧a.getD y.toNat 0≤S-1:=λy=>by
  rw[Acv];cases h:a[y.toNat]? with
  |none=>exact⟨Acj _,by show(0:Int)≤S-1;omega⟩
  |some z=>exact J z (Acy h)
 generalize Nq (Rh a) b=l at*
 obtain⟨j,o⟩:=Adr.1 K;rw[Ae6] at o;split at o
 ·rename_i Q;apply Aei;intro Y;have g:a.getD x.toNat 0=0:=by have:=(v x).1;omega
  have d:∀y∈l.drop j,a.getD y.toNat 0=0:=λy q=>by
   obtain⟨k,w⟩:=Adr.1 q;rw[Adx] at w;have U:=(Aby.1 o).1;have V:=(Aby.1 w).1;have D:=(Aby.1 o).2;have F:=(Aby.1 w).2;rcases Afa k with h0|h0
   ·subst h0;have:y=x:=by rw[←D,←F];rfl
    rw[this];exact g
   ·have:=Ae8.1 u j (j+k) U V (by omega);rw[D,F,g] at this;have:=(v y).1;omega
  have W:((l.drop j).map λx=>a.getD x.toNat 0).sum≤0:=by
   have:=Kx (l:=(l.drop j).map λx=>a.getD x.toNat 0) (c:=0) λz g=>by
    obtain⟨y,q,rfl⟩:=Ach.1 g;exact Int.le_of_eq (d y q)
   omega
  have A:((l.take j).map λx=>a.getD x.toNat 0).sum≤(j:Int)*(S-1):=by
   have:=Kx (l:=(l.take j).map λx=>a.getD x.toNat 0) (c:=S-1) λz g=>by
    obtain⟨y,q,rfl⟩:=Ach.1 g;exact(v y).2
   have Z:((l.take j).map λx=>a.getD x.toNat 0).length≤j:=by simp;omega
   have:(((l.take j).map λx=>a.getD x.toNat 0).length:Int)*(S-1)≤(j:Int)*(S-1):=Aec (by omega) (by omega);omega
  have G:(l.map λx=>a.getD x.toNat 0).sum=((l.take j).map λx=>a.getD x.toNat 0).sum+((l.drop j).map λx=>a.getD x.toNat 0).sum:=by
   rw[←Adh,←Adb,List.take_append_drop]
  have B:((j:Int)+1)*S≤p*S:=Aec (by omega) (by omega);rw[Int.add_mul,Int.one_mul] at B;rw[Int.mul_sub,Int.mul_one] at A;omega
 ·cases o
def ZH {N:Nat}(M:8000000000000<N) (l:List Int) (Q:l.length≤1000) (y:l.Nodup) {n:Nat}(c:∀x∈l,0≤x∧x<n) (a:List Int) (D:a.length=n) (F:∀x∈a, -4611686018427387904≤x∧x≤4611686018427387000):
  ∃r,GM N l (Hr N) N 0 a=some (r,true)∧r.length=n∧r.sum=a.sum+l.length∧∀(i:Nat) x,a[i]? =some x→r[i]? =some (x+if (i:Int)∈l then 1 else 0):=by
 obtain⟨s,⟨z,A,p⟩,e⟩:=Fs l.length (λm i s=>GM N l (Hr N) m i s) (Hr N) (λk s=>s.length=n∧s.sum=a.sum+k∧∀(i:Nat) x,a[i]? =some x→s[i]? =some (x+if (i:Int)∈l.take k then 1 else 0)) (λm k s d=>by
  simp only[GM];rw[Fj d];rfl) (λm k s G d=>by
  obtain⟨z,A,p⟩:=G;simp only[GM];obtain⟨H,U⟩:=c _ (Ab2 d);obtain⟨j,B,b⟩:=mY (l:=s) H (by omega);have g:j<a.length:=by omega
  have t:(j:Int)∉l.take k:=λI=>by
   obtain⟨q,w⟩:=Adr.1 I;rw[Ae6] at w;split at w
   ·rename_i C;have J:=(Aby.1 w).2;exact Ae8.1 y q k (by omega) d C (by rw[J,B])
   ·cases w
  have u:s[j]=a[j]:=by
   have:=p j _ (Abw g);rw[Abl t,Abw b] at this;have:=Abo this;omega
  have K:=F _ (Ab2 g);rw[FD d,Abj,BF d,Abi,B,BF b,Abi,Abi,Abi,Abi,u,ER (n:=a[j]+1) (by omega) (by omega),A9 (by omega)];refine⟨_,⟨by rw[Mu];exact z,?_,λi x c=>?_⟩,rfl⟩
  ·show(s.set (j:Int).toNat _).sum=_
   rw[Acs,N1 b,A,u];omega
  ·have v:l.take (k+1)=l.take k++[(j:Int)]:=by rw[Ac1 d,B]
   by_cases o:j=i
   ·subst o;rw[Hk b,v,Abm (by simp)];rw[Abw g] at c;cases c;rfl
   ·rw[Jf o,p i x c,v];have:(i:Int)≠(j:Int):=λV=>o (by omega);simp [this]) N 0 a ⟨D,by simp,λi x c=>by simp [c]⟩ (by omega) (Abn _)
 rw[Ack] at p;exact⟨s,e,z,A,p⟩
structure ShX (t S:Int) (w:List Int) (k:Nat) (s:Int×List Int×List Int×List Int):Prop where
 l1:s.2.1.length=w.length
 l2:s.2.2.1.length=w.length
 l3:s.2.2.2.length=w.length
 or_:∀i,i<k→s.2.1[i]? =some (i:Int)
 rm:∀i x,i<k→w[i]? =some x→s.2.2.1[i]? =some (t*x%S)
 qt:∀i x,i<k→w[i]? =some x→s.2.2.2[i]? =some (t*x/S)
 ex:s.1=t-((w.take k).map λx=>t*x/S).sum
def X1 {t S:Int}(b:0<S):∀w:List Int,S*(w.map λx=>t*x/S).sum+(w.map λx=>t*x%S).sum=t*w.sum
 |[]=>by simp
 |a::w=>by
  have c:=X1 (t:=t) b w;have d:=Int.mul_ediv_add_emod (t*a) S;simp only[Ab9,Acz];rw[Int.mul_add,Int.mul_add];omega
def bY {N W:Nat}(hN:18446744073709551616<N) (hW:W≤64) {w:List Int}(o:PX W w) {t:Int}(C:0≤t∧t≤w.sum):∃q,Ki N t w=some (q,true)∧Wr q w∧q.sum=t:=by
 have ar:=o.len;have ag:=o.mv;unfold Ki;rw[Abs (show ¬64<(w.length:Int) by omega),Abk];obtain⟨s,⟨i1,i2⟩,e⟩:=Fs w.length (λn i s=>GO N w (GQ N t w) n s i) (GQ N t w) (λk s=>s=(w.take k).sum∧0≤s) (λn k s g=>by
  simp only[GO];rw[Fj g];rfl) (λn k s p g=>by
  obtain⟨i1,i2⟩:=p;have h1:=Ju o.nn (k+1);have B:=Ju o.nn k;have G:=o.nn _ (Ab2 g);rw[Ke g] at h1;simp only[GO];rw[FD g,Abj,BF g,Abi,ER (n:=1125899906842624-s) (by omega) (by omega),Abs (show ¬w[k]<0 by omega),Abs (show ¬1125899906842624-s<w[k] by omega),Bool.or_self,Abk,A9 (by omega),ER (n:=s+w[k]) (by omega) (by omega)];exact⟨_,⟨by rw[Ke g,i1],by omega⟩,rfl⟩) N 0 0 ⟨rfl,Acj _⟩ (by omega) (Abn _)
 rw[show GO N w (GQ N t w) N 0 0=GQ N t w s from e];rw[Ack] at i1;subst i1;unfold GQ;rw[Abs (show ¬t<0 by omega),Abs (show ¬w.sum<t by omega),Bool.or_self,Abk,Kz (by omega) _ (by decide)];by_cases U:w.sum=0
 ·rw[Ab3 U,Abj];refine⟨_,rfl,⟨N5 _ _,λi x y a D=>?_⟩,by simp;omega⟩;rw[Adv] at a;split at a
  ·cases a;exact⟨Acj _,o.nn y (Acy D)⟩
  ·cases a
 rw[Abs U,Abk,Kz (by omega) _ (by decide),Kz (by omega) _ (by decide)];have u:0<w.sum:=by have:=o.sum0;omega
 have h1:1≤w.length:=by
  cases w with
  |nil=>exact absurd rfl U
  |cons _ _=>simp
 obtain⟨⟨v,A,b,q⟩,⟨K,M,V,F,X,Y,Q⟩,e3⟩:=Fs w.length (λn i (s:Int×List Int×List Int×List Int)=>GN N t w w.sum (GP N) n s.1 i s.2.1 s.2.2.1 s.2.2.2) (λs=>GP N s.1 s.2.1 s.2.2.1 s.2.2.2) (λk s=>ShX t w.sum w k s) (λn k s g=>by
  simp only[GN];rw[Fj g];rfl) (λn k s p g=>by
  obtain⟨v,A,b,q⟩:=s;obtain⟨K,M,V,F,X,Y,Q⟩:=p;simp only at K M V F X Y Q;have w0:=o.nn _ (Ab2 g);have wS:=Jb o.nn _ (Ab2 g);have hq:=dQ (t:=t) (n:=w[k]) (d:=w.sum) (by omega) wS C.1;have au:=WN (t:=t) (n:=w[k]) (d:=w.sum) (by omega) w0 C.1;have ah:v≤t∧ -(k:Int)*1125899906842624≤v:=by
   have h1:0≤((w.take k).map λx=>t*x/w.sum).sum:=SK λx a=>WN (by omega) (o.nn x (Afc a)) C.1;have B:((w.take k).map λx=>t*x/w.sum).sum≤(((w.take k).map λx=>t*x/w.sum).length:Int)*1125899906842624:=Kx λz U=>by
    obtain⟨x,a,rfl⟩:=Ach.1 U;have:=dQ (t:=t) (n:=x) (d:=w.sum) (by omega) (Jb o.nn x (Afc a)) C.1;omega
   have G:((w.take k).map λx=>t*x/w.sum).length=k:=by simp;omega
   rw[G] at B;rw[Int.neg_mul];omega
  have aq:(k:Int)*1125899906842624≤64*1125899906842624:=Aec (by omega) (by decide);rw[Int.neg_mul] at ah;simp only[GN];rw[FD g,Abj,BF g,Abi,Oq hN,pU ⟨C.1,by omega⟩ ⟨w0,by omega⟩ ⟨by omega,ag⟩ (by omega)];simp only[Abi,BF (show k<A.length by omega),BF (show k<b.length by omega),BF (show k<q.length by omega)];rw[A9 (by omega),ER (n:=v-t*w[k]/w.sum) (by omega) (by omega)];refine⟨⟨_,_,_,_⟩,⟨by show(upd A _ _).length=_;rw[Mu];exact K,by show(upd b _ _).length=_;rw[Mu];exact M,by show(upd q _ _).length=_;rw[Mu];exact V,λi p=>?_,λi x p a=>?_,λi x p a=>?_,?_⟩,rfl⟩
  ·show(upd A (k:Int) (k:Int))[i]? =_
   by_cases m:k=i
   ·subst m;exact Hk (by omega) _
   ·rw[Jf m];exact F i (by omega)
  ·show(upd b (k:Int) _)[i]? =_
   by_cases m:k=i
   ·subst m;rw[Abw g] at a;cases a;exact Hk (by omega) _
   ·rw[Jf m];exact X i x (by omega) a
  ·show(upd q (k:Int) _)[i]? =_
   by_cases m:k=i
   ·subst m;rw[Abw g] at a;cases a;exact Hk (by omega) _
   ·rw[Jf m];exact Y i x (by omega) a
  ·show v-t*w[k]/w.sum=_
   rw[RL g,Q];omega) N 0 (t,List.replicate ((w.length:Int)).toNat 0,List.replicate ((w.length:Int)).toNat 0,List.replicate ((w.length:Int)).toNat 0) ⟨N5 _ _,N5 _ _,N5 _ _,λi p=>by omega,λi x p=>by omega,λi x p=>by omega,by simp⟩ (by omega) (Abn _)
 simp only at K M V F X Y Q;rw[show GN N t w w.sum (GP N) N t 0 _ _ _=GP N v A b q from e3];have H:b=w.map λx=>t*x%w.sum:=Acr λi=>by
  rcases Ab4 i w.length with h|h
  ·rw[X i _ h (Abw h),Adc,Abw h];rfl
  ·rw[Acc (by omega),Acc (by simp;omega)]
 have I:q=w.map λx=>t*x/w.sum:=Acr λi=>by
  rcases Ab4 i w.length with h|h
  ·rw[Y i _ h (Abw h),Adc,Abw h];rfl
  ·rw[Acc (by omega),Acc (by simp;omega)]
 rw[Ack] at Q;have av:=X1 (t:=t) u w;have J:∀x∈b,0≤x∧x≤w.sum-1:=λx a=>by
  rw[H] at a;obtain⟨y,_,rfl⟩:=Ach.1 a;have B:=Int.emod_nonneg (t*y) (show w.sum≠0 by omega);have G:=Int.emod_lt_of_pos (t*y) u;omega
 have Z:b.sum=v*w.sum:=by
  have hc:=Int.mul_comm w.sum (w.map λx=>t*x/w.sum).sum;rw[H,Q,Int.sub_mul,←hc];omega
 have aw:0≤b.sum:=Ka λx a=>(J x a).1;have ai:b.sum≤(w.length:Int)*w.sum:=by
  have B:=Kx (l:=b) (c:=w.sum-1) λx a=>(J x a).2;rw[M,Int.mul_sub,Int.mul_one] at B;omega
 have x0:0≤v:=by
  by_cases aa:v<0
  ·have:v*w.sum<0:=Int.mul_neg_of_neg_of_pos aa u;omega
  ·omega
 have x1:v≤w.length:=Int.le_of_mul_le_mul_right (by rw[←Z];exact ai) u;obtain⟨en,rfl⟩:∃en:Nat,v=en:=⟨v.toNat,by omega⟩
 have hp:=M3 (Rh b) A;have ab:∀x∈A,0≤x∧x<(w.length:Int):=λx a=>by
  obtain⟨i,p⟩:=Adr.1 a;have ax:=(Aby.1 p).1;have B:=F i (by omega);rw[p] at B;cases B;omega
 have aj:A.Nodup:=Ae8.2 λi j p hj ay h=>by
  have B:=F i (by omega);have G:=F j (by omega);rw[Abw p] at B;rw[Abw hj] at G;have B:=Abo B;have G:=Abo G;omega
 have ac:=bC u K F M J Z;have hs:Sn A b=some (Nq (Rh b) A):=by
  unfold Sn;rw[Abm ⟨by omega,by omega,by omega,Abt.2 λx a=>by
   have:=ab x a;simp only[Abq,Ab6];omega⟩]
 have ad:(Nq (Rh b) A).length=w.length:=by rw[hp.length_eq];exact K
 have ae:((Nq (Rh b) A).take en).Nodup:=List.Nodup.sublist (List.take_sublist _ _) (hp.nodup_iff.2 aj);have ak:∀x∈q,0≤x∧x≤t:=λx a=>by
  rw[I] at a;obtain⟨y,D,rfl⟩:=Ach.1 a;exact⟨WN (by omega) (o.nn y D) C.1,dQ (by omega) (Jb o.nn y D) C.1⟩
 unfold GP yZ;rw[hs,Abi,Abm ⟨x0,by omega,by omega⟩,Abi,Acs];obtain⟨r,er,r1,r2,r3⟩:=ZH (N:=N) (by omega) ((Nq (Rh b) A).take en) (by rw[Ac3];omega) ae (n:=w.length) (λx a=>ab x (hp.mem_iff.1 (Afc a))) q V (λx a=>by have:=ak x a;omega);refine⟨r,er,⟨r1,λi x y a D=>?_⟩,?_⟩
 ·have al:q[i]? =some (t*y/w.sum):=by rw[I,Adc,D];rfl
  have am:b[i]? =some (t*y%w.sum):=by rw[H,Adc,D];rfl
  rw[r3 i _ al] at a;have a:=Abo a;have af:=o.nn y (Acy D);have az:=Jb o.nn y (Acy D);have g0:=WN (t:=t) (n:=y) (d:=w.sum) (by omega) af C.1;have a0:=Int.mul_ediv_add_emod (t*y) w.sum;have a1:t*y≤w.sum*y:=Aec C.2 af;split at a
  ·rename_i hm;have an:=ac _ hm;rw[Acs,Acv,am,Ac7] at an;have ao:w.sum*(t*y/w.sum)<w.sum*y:=by omega
   have:=Int.lt_of_mul_lt_mul_left ao (by omega);omega
  ·have ap:w.sum*(t*y/w.sum)≤w.sum*y:=by
    have:=Int.emod_nonneg (t*y) (show w.sum≠0 by omega);omega
   have:=Int.le_of_mul_le_mul_left ap u;omega
 ·rw[r2,Ac3,ad,I,Aea (by omega)];omega
def iJ {N W:Nat}(v:18446744073709551616<N) (w:W≤64) {p:List Int}(a:PX W p) (n:Int):∃t,MJ N p n=some (t,Jt p t)∧Wr t p∧t.sum=max 0 (min n p.sum):=by
 have z:=a.len;have m:Wr (List.replicate W 0) p:=⟨by simp [a.len],λi x y g A=>by
  rw[Adv] at g;split at g
  ·cases g;exact⟨Acj _,a.nn y (Acy A)⟩
  ·cases g⟩
 have o:∀t,Wr t p→H2 N p t=some (t,Jt p t):=λt B=>by
  unfold H2;rw[a.wo (by omega) (by omega) (B.sub a).2.2,Abi]
 have C:List.replicate ((p.length:Int)).toNat (0:Int)=List.replicate W 0:=by rw[a.len];rfl
 have D:=a.sum0;unfold MJ;rw[Kz (by omega) _ (by decide),C];by_cases q:0<n
 ·rw[Ab3 q,Ab3 (show(p.length:Int)≤64 by omega)];have b:JQ N p=some true:=by
   unfold JQ;obtain⟨s,⟨u,F⟩,e⟩:=Fs p.length (λn i s=>FT N p (Hf N) n s i) (λ_=>Hf N) (λk s=>s=(p.take k).sum∧0≤s) (λn k s c=>by
    simp only[FT];rw[Fj c];rfl) (λn k s G c=>by
    obtain⟨u,F⟩:=G;have H:=Ju a.nn (k+1);have J:=Ju a.nn k;have K:=a.nn _ (Ab2 c);have M:=a.mv;rw[Ke c] at H;simp only[FT];rw[FD c,Abj,BF c,Abi,ER (n:=1125899906842624-s) (by omega) (by omega),Abs (show ¬p[k]<0 by omega),Abs (show ¬1125899906842624-s<p[k] by omega),Bool.or_self,Abk,A9 (by omega),ER (n:=s+p[k]) (by omega) (by omega)];exact⟨_,⟨by rw[Ke c,u],by omega⟩,rfl⟩) N 0 0 ⟨rfl,Acj _⟩ (by omega) (Abn _)
   exact e
  obtain⟨j,e,l,d⟩:=bY v w a (t:=min n p.sum) ⟨by omega,by omega⟩;rw[Bool.and_self,Abj,b,Abi,Abi,Abj,a.total (by omega) (by omega),Abi,e,Abi,Abj];unfold KH;have I:Pb (List.replicate W (0:Int)) j=j:=eR (by rw[l.len,z];simp);rw[I];exact⟨j,o j l,l,by rw[d];omega⟩
 ·rw[Abs q,Bool.false_and,Abk,Abi,Abk];exact⟨_,o _ m,m,by rw[Xy];omega⟩
structure Js (P W:Nat) (o:List (List Int)):Prop where
 len:o.length=P
 all:∀x∈o,PX W x
def GH (o:List (List Int)):Int:=(o.map List.sum).sum
def Hb (q:List AT):Int:=(q.map λl=>l.V.sum).sum
def Js.ix {P W:Nat}{o:List (List Int)}(c:Js P W o) {k:Nat}(a:k<P):∃x,Go.Proofs.YtabonambpbofgaaGreat.ix o (k:Int)=some x∧o[k]? =some x∧PX W x:=by
 obtain⟨x,e,b⟩:=Aa6 (l:=o) (i:=k) (by rw[c.len];exact a);exact⟨x,e,by rw[BF (by rw[c.len];exact a)] at e;rw[Abw (by rw[c.len];exact a)];exact e,c.all x b⟩
def Js.upd {P W:Nat}{o:List (List Int)}(c:Js P W o) (i:Int) {x:List Int}(b:PX W x):Js P W (upd o i x):=
 ⟨by rw[Mu];exact c.len,λy a=>by
  rcases Aez a with a|rfl
  ·exact c.all y a
  ·exact b⟩
def Js.nn {P W:Nat}{o:List (List Int)}(c:Js P W o):∀x∈o.map List.sum,0≤x:=λx a=>by
 obtain⟨y,b,rfl⟩:=Ach.1 a;exact(c.all y b).sum0
def Qk {o:List (List Int)}{k:Nat}{x y:List Int}(a:o[k]? =some x):GH (upd o (k:Int) y)=GH o-x.sum+y.sum:=by
 have b:=(Aby.1 a).1;have c:=(Aby.1 a).2;unfold GH upd;rw[Acs,List.map_set,N1 (by simpa using b),List.getElem_map,c]
def Js.le {P W:Nat}{o:List (List Int)}(b:Js P W o) {k:Nat}{x:List Int}(a:o[k]? =some x):x.sum≤GH o:=Jb b.nn _ (Ach.2 ⟨x,Acy a,rfl⟩)
def Js.sum0 {P W:Nat}{o:List (List Int)}(a:Js P W o):0≤GH o:=Ka a.nn
def Np {o:List (List Int)}{k:Nat}(a:k<o.length):GH (o.take (k+1))=GH (o.take k)+(o[k]).sum:=RL a
def Mp {q:List AT}{k:Nat}(a:k<q.length):Hb (q.take (k+1))=Hb (q.take k)+(q[k]).V.sum:=RL (f:=λl:AT=>l.V.sum) a
def N7 {P W:Nat}{o:List (List Int)}(a:Js P W o) (k:Nat):0≤GH (o.take k)∧GH (o.take k)≤GH o:=by
 have:=Ju a.nn k;rw[←List.map_take] at this;exact this
def QX (P W:Nat) (q:List AT):Prop:=∀l∈q,PX W l.V∧0≤l.D∧l.D<P
def QX.nn {P W:Nat}{q:List AT}(c:QX P W q):∀x∈q.map (λl=>l.V.sum),0≤x:=λx a=>by
 obtain⟨y,b,rfl⟩:=Ach.1 a;exact(c y b).1.sum0
def IR {P W:Nat}{q:List AT}(a:QX P W q) (k:Nat):0≤Hb (q.take k)∧Hb (q.take k)≤Hb q:=by
 have:=Ju a.nn k;rw[←List.map_take] at this;exact this
def v1 (W:Nat) (n:Int):List Int:=upd (List.replicate W 0) 0 n
def SZ (W:Nat) (n:Int):(v1 W n).length=W:=by unfold v1;rw[Mu];simp
def Ub {W:Nat}(a:1≤W) (n:Int):(v1 W n).sum=n:=by
 unfold v1 upd;rw[show (0:Int).toNat=0 from rfl,N1 (by simp;omega)];simp
def mA {W:Nat}(c:1≤W) {n:Int}(h0:0≤n) (b:n≤1125899906842624):PX W (v1 W n):=
 ⟨SZ W n,λx a=>by
  rcases Aez a with a|rfl
  ·rw[(List.mem_replicate.1 a).2];exact Acj 0
  ·exact h0,by rw[Ub c];exact b⟩
def Xm (W:Nat):v1 W 0=List.replicate W 0:=by
 unfold v1 upd;apply Acr;intro i;by_cases a:0=i
 ·subst a;rcases Afa W with a|a
  ·subst a;rfl
  ·rw[show (0:Int).toNat=0 from rfl,Adw (by simp;omega),Adv,Abm a]
 ·rw[show (0:Int).toNat=0 from rfl,Ads a]
def Tv {W:Nat}{p:List Int}(b:p.length=W):Hw p (List.replicate W 0)=p:=by
 apply Acr;intro i;rw[Hw,Adu,Adv];rcases Ab4 i W with a|a
 ·rw[Abm a,Abw (by omega)];simp
 ·rw[Abl (by omega),Acc (show p.length≤i by omega)]
def SY:∀(p q r:List Int),Hw (Hw p q) r=Hw p (Hw q r)
 |[],_,_=>by simp [Hw]
 |_::_,[],_=>by simp [Hw]
 |_::_,_::_,[]=>by simp [Hw]
 |a::p,b::q,c::r=>by
  have:=SY p q r;simp only[Hw,List.zipWith_cons_cons] at this ⊢;rw[this,Int.add_assoc]
def Xl {W:Nat}{p:List Int}(g:p.length=W) (d:1≤W) (n x:Int) (c:ix p 0=some x):upd p 0 (x+n)=Hw p (v1 W n):=by
 have b:p[0]? =some x:=(F6 c).2;apply Acr;intro i;unfold v1 upd;rw[Hw,Adu,show(0:Int).toNat=0 from rfl];by_cases a:0=i
 ·subst a;rw[Adw (by omega),Adw (by simp;omega),b]
 ·rw[Ads a,Ads a,Adv];rcases Ab4 i W with a|a
  ·rw[Abm a,Abw (show i<p.length by omega)];simp
  ·rw[Abl (by omega),Acc (show p.length≤i by omega)]
def oP {W:Nat}(g:1≤W) (a b:Int):Hw (v1 W a) (v1 W b)=v1 W (a+b):=by
 apply Acr;intro i;rw[Hw,Adu];unfold v1 upd;rw[show (0:Int).toNat=0 from rfl];by_cases c:0=i
 ·subst c;rw[Adw (by simp;omega),Adw (by simp;omega),Adw (by simp;omega)]
 ·rw[Ads c,Ads c,Ads c,Adv];by_cases d:i<W<;>simp [d]
def Zu (H:Int) (W:Nat):Nat→List Int→List AX
 |_,[]=>[]
 |i,n::l=>(if 0<n then [⟨H, -1,(i:Int), -4,v1 W n⟩] else [])++Zu H W (i+1) l
def Ss (H:Int) (W:Nat) (n:Int):∀(l:List Int) (i:Nat),Zu H W i (l++[n])=Zu H W i l++(if 0<n then [⟨H, -1,((i+l.length:Nat):Int), -4,v1 W n⟩] else [])
 |[],i=>by simp [Zu]
 |a::l,i=>by
  have e:i+(a::l).length=i+1+l.length:=by simp;omega
  rw[Abx,Zu,Ss H W n l (i+1),Zu,e,Acu]
def Uj (H:Int) (W:Nat):∀(l:List Int) (i:Nat),(Zu H W i l).length≤l.length
 |[],_=>by simp [Zu]
 |a::l,i=>by
  have:=Uj H W l (i+1);rw[Zu,Acg];split<;>simp<;>omega
structure Aap (w:AM) (W k:Nat) (l:List Int) (s:Int×Int×List AX×List (List Int)×List Int):Prop where
 ll:l.length=k
 l0:∀n∈l,0≤n
 ms:s.2.2.1=Zu w.s.B W 0 l
 own:Js w.b.A.length W s.2.2.2.1
 lo:∀(i:Nat) x n,w.s.G[i]? =some x→l[i]? =some n→s.2.2.2.1[i]? =some (Hw x (v1 W n))
 hi:∀i,k≤i→s.2.2.2.1[i]? =w.s.G[i]?
 th:s.1=GH s.2.2.2.1+Hb w.s.I∧s.1≤1125899906842624
 inn:s.2.2.2.2=Hw w.s.L (v1 W l.sum)
 en:s.2.1=w.s.L.sum+l.sum∧s.2.1≤1152921504606846976
 os:GH s.2.2.2.1=GH w.s.G+l.sum
structure Zm (P W:Nat) (o:List (List Int)):Prop where
 len:o.length=P
 all:∀x∈o,x.length=W
def Zm.ix {P W:Nat}{o:List (List Int)}(c:Zm P W o) {k:Nat}(a:k<P):∃x,Go.Proofs.YtabonambpbofgaaGreat.ix o (k:Int)=some x∧x.length=W:=by
 obtain⟨x,e,b⟩:=Aa6 (l:=o) (i:=k) (by rw[c.len];exact a);exact⟨x,e,c.all x b⟩
def Zm.upd {P W:Nat}{o:List (List Int)}(c:Zm P W o) (i:Int) {x:List Int}(b:x.length=W):Zm P W (upd o i x):=
 ⟨by rw[Mu];exact c.len,λy a=>by
  rcases Aez a with a|rfl
  ·exact c.all y a
  ·exact b⟩
def UO {N:Nat}(q:8000000000000<N) {s:AI}(t:s.G.length≤64) (g:∀x∈s.G,x.length≤1000) (u:s.N.length≤1000) (v:s.P.length≤1000) (w:s.L.length≤1000) (y:s.O.length≤1000):Kh N s=some s:=by
 unfold Kh;rw[Kz (by omega) _ (by decide)];obtain⟨o,⟨z,j⟩,e⟩:=Fs s.G.length (λn i l=>GK N s (GL N s) n i l) (GL N s) (λk (l:List (List Int))=>l.length=s.G.length∧∀i,i<k→l[i]? =s.G[i]?) (λn k l a=>by
  simp only[GK];rw[Fj a];rfl) (λn k l d a=>by
  simp only[GK];have b:k<l.length:=by rw[d.1];exact a
  rw[FD a,Abj,BF a,Abi,Mr N (by have:=g _ (Ab2 a);omega)];simp only[BF b,Abi];rw[A9 (by omega)];refine⟨_,⟨by rw[Mu];exact d.1,λi m=>?_⟩,rfl⟩;by_cases c:k=i
  ·subst c;rw[Hk b];simp [a]
  ·rw[Jf c];exact d.2 i (by omega)) N 0 (List.replicate ((s.G.length:Int)).toNat ([]:List Int)) ⟨Qh _ _,λi d=>by omega⟩ (by omega) (Abn _)
 rw[show GK N s (GL N s) N 0 _=GL N s o from e];have p:o=s.G:=Acr λi=>by
  rcases Ab4 i s.G.length with A|A
  ·exact j i A
  ·rw[Acc A,Acc (by omega)]
 subst p;unfold GL;rw[Mr N (by omega),Abi,XK N (by omega),Abi,Mr N (by omega),Abi,Mr N (by omega),Abi]
def Aa5 (a:List Int) (i:Int):Int:=a.getD i.toNat 0
def qF {a:List Int}{i:Int}(h0:0≤i) (c:i<a.length):ix a i=some (Aa5 a i):=by
 obtain⟨n,rfl,b⟩:=mY h0 c;rw[BF b];simp [Aa5,Acv,b]
def VC (W:Nat) (t:Int) (q:List AT) (p:Nat):List Int:=(q.filter λl=>decide (l.At≤t)&&decide (l.D=(p:Int))).foldl (λa l=>Hw a l.V) (List.replicate W 0)
def ME (t:Int) (q:List AT):List AT:=q.filter λl=>decide (t<l.At)
def US {W:Nat}{t:Int}{q:List AT}{p k:Nat}(d:k<q.length):VC W t (q.take (k+1)) p=if (q[k]).At≤t∧(q[k]).D=(p:Int) then Hw (VC W t (q.take k) p) (q[k]).V else VC W t (q.take k) p:=by
 unfold VC;rw[Ac1 d,Ad2,Aek];by_cases a:(q[k]).At≤t∧(q[k]).D=(p:Int)
 ·rw[Abm a];simp [a.1,a.2]
 ·rw[Abl a];have:(decide ((q[k]).At≤t)&&decide ((q[k]).D=(p:Int)))=false:=by
   rw[Bool.and_eq_false_iff];simp only[Ab7];by_cases b:(q[k]).At≤t
   ·exact .inr λc=>a ⟨b,c⟩
   ·exact .inl b
  simp [this]
def Su {t:Int}{q:List AT}{k:Nat}(b:k<q.length):ME t (q.take (k+1))=if (q[k]).At≤t then ME t (q.take k) else ME t (q.take k)++[q[k]]:=by
 unfold ME;rw[Ac1 b,Ad2];by_cases a:(q[k]).At≤t
 ·rw[Abm a];simp;omega
 ·rw[Abl a];have:t<(q[k]).At:=by omega
  simp [this]
def V9 (a b:List AT):Hb (a++b)=Hb a+Hb b:=by unfold Hb;rw[Adb,Adh]
structure Abg (P W:Nat) (t:Int) (q:List AT) (k:Nat) (s:List AT×List (List Int)):Prop where
 rest:s.1=ME t (q.take k)
 own:Js P W s.2
 at_:∀p,p<P→s.2[p]? =some (VC W t (q.take k) p)
 tot:GH s.2+Hb s.1=Hb (q.take k)
def WC (W:Nat):∀P:Nat,GH (List.replicate P (List.replicate W 0))=0
 |0=>rfl
 |P+1=>by
  have:=WC W P;unfold GH at this ⊢;rw[List.replicate_succ,Ab9,Acz,this,Xy];rfl
def rC {N:Nat}(Y:8000000000000<N) {P W:Nat}(hP:P≤64) (hW:W≤16) {q:List AT}(hq:q.length≤4000000000000) (c:QX P W q) (Z:Hb q≤1125899906842624) (t:Int):
  ∃s,MH N q t (P:Int) (W:Int)=some (s.2,s.1)∧Abg P W t q q.length s:=by
 unfold MH;rw[O2,Abi,O2,Abi,Abl (show ¬(P:Int)<0 by omega),Abl (show ¬64<(P:Int) by omega),Abl (show ¬(W:Int)<0 by omega),Abl (show ¬16<(W:Int) by omega),Kz (by omega) _ (by decide)];obtain⟨o,⟨i1,K⟩,e⟩:=Fs P (λn i l=>HS N (P:Int) (W:Int) (HT N q t (P:Int)) n i l) (HT N q t (P:Int)) (λk (l:List (List Int))=>l.length=P∧∀i,i<k→l[i]? =some (List.replicate W 0)) (λn k l a=>by
  simp only[HS];rw[Qh,Fj a];rfl) (λn k l m a=>by
  simp only[HS];have w:k<l.length:=by rw[m.1];exact a
  rw[Qh,FD a,Abj,Kz (by omega) _ (by decide),BF w,Abi,Abi,A9 (by omega)];refine⟨_,⟨by rw[Mu];exact m.1,λi aa=>?_⟩,rfl⟩;by_cases z:k=i
  ·subst z;rw[Hk w];rfl
  ·rw[Jf z];exact m.2 i (by omega)) N 0 (List.replicate ((P:Int)).toNat ([]:List Int)) ⟨Qh _ _,λi m=>by omega⟩ (by omega) (Abn _)
 rw[show HS N (P:Int) (W:Int) (HT N q t (P:Int)) N 0 _=HT N q t (P:Int) o from e];have M:o=List.replicate P (List.replicate W 0):=Acr λi=>by
  rcases Ab4 i P with h|h
  ·rw[K i h,Adv,Abm h]
  ·rw[Acc (by omega),Acc (by simp;omega)]
 have I:Js P W o:=⟨i1,λx Q=>by rw[M] at Q;rw[(List.mem_replicate.1 Q).2];exact PX.zero W⟩
 unfold HT;obtain⟨s,i3,e2⟩:=Fs q.length (λn i (s:List AT×List (List Int))=>Gt N q t (P:Int) (In N) n s.1 i s.2) (λs=>In N s.1 s.2) (λk s=>Abg P W t q k s) (λn k s a=>by
  simp only[Gt];rw[Fj a];rfl) (λn k s m a=>by
  obtain⟨F,o⟩:=s;obtain⟨A,d,G,U⟩:=m;simp only at A d G U;obtain⟨H,V,X⟩:=c _ (Ab2 a);have h2:=IR c (k+1);rw[Mp a] at h2;have ab:F.length≤k:=by rw[A];exact Acw (Afd _ _) (by rw[Ac3];omega)
  have ac:0≤Hb F:=by
   rw[A];exact SK λl hl=>(c l (Afc ((Ac2.1 hl).1))).1.sum0
  simp only[Gt,KG];rw[FD a,Abj,BF a,Abi,A9 (by omega),Ab3 V,Ab3 X,Bool.and_true,Bool.and_true];by_cases u:(q[k]).At≤t
  ·obtain⟨j,J,B⟩:=mY (l:=o) V (by rw[d.len];exact X);obtain⟨y,hy,b,g⟩:=d.ix (k:=j) (by rw[←d.len];exact B);have ad:=d.le b;have C:=g.add H (by omega);rw[Ab3 u,Abj,J,hy,Abi,Abi,g.padd Y (by omega) H,Abi,Abi,Abi];refine⟨(_,_),⟨by rw[Su a,Abm u];exact A,d.upd _ C,λp v=>?_,?_⟩,rfl⟩
   ·show(upd o (j:Int) _)[p]? =_
    rw[US a];by_cases D:j=p
    ·subst D;rw[Hk B,Abm ⟨u,J⟩];rw[G j v] at b;rw[Abo b]
    ·rw[Jf D,Abl (by rw[J];omega)];exact G p v
   ·show GH (upd o (j:Int) _)+Hb F=_
    rw[Qk b,L9 (g.len.trans H.len.symm),Mp a];omega
  ·rw[Abs u,Abk,Mr N (by rw[H.len];omega),Abi,GZ (by simp;omega)];refine⟨(_,_),⟨by rw[Su a,Abl u,←A],d,λp v=>?_,?_⟩,rfl⟩
   ·rw[US a,Abl λh=>u h.1];exact G p v
   ·show GH o+Hb (F++[_])=_
    rw[V9,Mp a];simp only[Hb,Ab9,List.map_nil,Acz,List.sum_nil] at U ⊢;omega) N 0 ([],o) ⟨rfl,I,λp v=>by
   show o[p]? =_
   rw[K p v];rfl,by
   show GH o+Hb []=Hb (q.take 0)
   rw[M,WC];rfl⟩ (by omega) (Abn _)
 exact⟨s,e2,i3⟩
structure ArX (w:AM) (W:Nat) (r:List (List Int)×List AT×List A4×List Int):Prop where
 own:Js w.b.A.length W r.1
 at_:∀(p:Nat) x,w.s.G[p]? =some x→r.1[p]? =some (Hw x (VC W w.s.B w.s.I p))
 rest:r.2.1=ME w.s.B w.s.I
 pk:r.2.2.2=r.1.map List.sum
 tot:GH r.1+Hb r.2.1=GH w.s.G+Hb w.s.I
def tE {N:Nat}(hN:8000000000000<N) {w:AM}{W:Nat}(hW:w.b.H.length=W) (ab:W≤16) (hP:w.b.A.length≤64) (hL:w.b.C.length≤96) (ac:∀l∈w.b.C,KN w.b l) (ho:Js w.b.A.length W w.s.G) (hq:w.s.I.length≤4000000000000) (z:QX w.b.A.length W w.s.I) (ht:GH w.s.G+Hb w.s.I≤1125899906842624) (g:w.peaks.length=w.b.A.length) (hg:w.s.P.length=w.b.C.length):
  ∃r,F9 N w=some r∧ArX w W r∧r.2.2.1.length=w.b.C.length:=by
 have ai:=ho.sum0;have ad:=(IR z 0).2;rw[Adg,show Hb ([]:List AT)=0 from rfl] at ad;unfold F9;rw[hW];obtain⟨⟨t,q⟩,hy,⟨y1,M,y3,y4⟩⟩:=rC hN hP ab hq z (by omega) w.s.B;simp only at y1 M y3 y4 hy;rw[Ack] at y1 y3 y4;rw[hy,Abi];have ag:0≤Hb t:=by
  rw[y1];exact SK λl hl=>(z l ((Ac2.1 hl).1)).1.sum0
 have ah:=M.sum0;obtain⟨⟨o,y⟩,⟨m,Q,U,V,X,Y⟩,e⟩:=Fs w.b.A.length (λn i (s:List (List Int)×List Int)=>DG N w (q,t) (DX N w (q,t)) n i s.1 s.2) (λs=>DX N w (q,t) s.1 s.2) (λk s=>Js w.b.A.length W s.1∧s.2.length=w.b.A.length∧(∀(p:Nat) x,p<k→w.s.G[p]? =some x→s.1[p]? =some (Hw x (VC W w.s.B w.s.I p)))∧(∀p,k≤p→s.1[p]? =w.s.G[p]?)∧(∀(p:Nat) x,p<k→s.1[p]? =some x→s.2[p]? =some x.sum)∧GH s.1=GH w.s.G+GH (q.take k)) (λn k s d=>by
  simp only[DG];rw[Fj d];rfl) (λn k s hi d=>by
  obtain⟨o,y⟩:=s;obtain⟨m,Q,U,V,X,Y⟩:=hi;simp only at m Q U V X Y;obtain⟨a,ha,u,D⟩:=m.ix d;obtain⟨c,hc,v,J⟩:=M.ix d;have K:k<q.length:=by rw[M.len];exact d
  have Z:q[k]=c:=by rw[Abw K] at v;exact Abo v
  have t1:=N7 M (k+1);rw[Np K,Z] at t1;have t2:=m.le u;have hd:=D.add J (by omega);have aa:k<(upd o (k:Int) (Hw a c)).length:=by rw[Mu,m.len];exact d
  simp only[DG];rw[FD d,Abj,A9 (by omega),ha,Abi,Abi,hc,Abi,Abi,D.padd hN (by omega) J,Abi,Abi,Abi];have ae:ix (upd o (k:Int) (Hw a c)) (k:Int)=some (Hw a c):=by
   rw[BF aa];have:=Hk (l:=o) (k:=k) (by rw[m.len];exact d) (Hw a c);rw[Abw aa] at this;exact this
  rw[ae,Abi,Abi,hd.total hN (by omega),Abi,BF (show k<y.length by omega),Abi,Abi];refine⟨(_,_),⟨m.upd _ hd,by show(upd y _ _).length=_;rw[Mu];exact Q,λp x hp j=>?_,λp hp=>?_,λp x hp j=>?_,?_⟩,rfl⟩
  ·show(upd o (k:Int) _)[p]? =_
   by_cases g:k=p
   ·subst g;rw[Hk (by rw[m.len];exact d)];rw[V k (Ab1 _),j] at u;cases u;rw[y3 k d] at v;rw[Abo v]
   ·rw[Jf g];exact U p x (by omega) j
  ·show(upd o (k:Int) _)[p]? =_
   rw[Jf (by omega)];exact V p (by omega)
  ·change (upd o (k:Int) (Hw a c))[p]? =some x at j;show(upd y (k:Int) _)[p]? =_
   by_cases g:k=p
   ·subst g;rw[Hk (by rw[m.len];exact d)] at j;rw[Hk (by omega),Abo j]
   ·rw[Jf g] at j ⊢;exact X p x (by omega) j
  ·show GH (upd o (k:Int) _)=_
   rw[Qk u,L9 (D.len.trans J.len.symm),Np K,Z,Y];omega) N 0 (w.s.G,w.peaks) ⟨ho,g,λp x hp=>by omega,λp _=>rfl,λp x hp=>by omega,by simp [GH]⟩ (by omega) (Abn _)
 rw[show DG N w (q,t) (DX N w (q,t)) N 0 w.s.G w.peaks=DX N w (q,t) o y from e];simp only at m Q U V X Y;have af:q.take w.b.A.length=q:=by rw[←M.len,Ack]
 rw[af] at Y;unfold DX;obtain⟨gs,j1,e2⟩:=Fs w.b.C.length (λn i s=>Cu N w (q,t) o y n i s) (λs=>some (o,t,s,y)) (λi s=>s.length=w.b.C.length) (λn k s d=>by
  simp only[Cu];rw[Fj d];rfl) (λn i s hi d=>by
  simp only[Cu,Fy];have ok:=ac _ (Ab2 d);rw[FD d,Abj,BF d,Abi,A9 (by omega)];cases decide ((w.b.C[i]).F=3)
  ·exact⟨s,hi,rfl⟩
  ·rw[Abj,BF (show i<s.length by omega),Abi,Abi,qF ok.fr.1 (by rw[Q];exact ok.fr.2),Abi,Abi,(wN N _ _ _).1,Abi,Abi,Abi];exact⟨_,by rw[Mu];exact hi,rfl⟩) N 0 w.s.P hg (by omega) (Abn _)
 refine⟨_,e2,⟨m,λp x j=>U p x ?_ j,y1,?_,?_⟩,j1⟩
 ·rw[←ho.len];exact(Aby.1 j).1
 ·show y=o.map List.sum
  apply Acr;intro p;rcases Ab4 p w.b.A.length with h|h
  ·obtain⟨x,_,j,_⟩:=m.ix h;rw[X p x h j,Adc,j];rfl
  ·rw[Acc (by omega),Acc (by rw[Aep,m.len];omega)]
 ·show GH o+Hb t=_
  omega
def Qj {N:Nat}(a:18446744073709551616<N) (v n d:Int):Df (IZ N v n d):=by
 unfold IZ;rw[Oq a,Abi];exact Df.cond (λ_=>Df.mk _) λ_=>Df.mk _
def V0 {N:Nat}(a:18446744073709551616<N) (v n d:Int):Df (LG N v n d):=by
 unfold LG;rw[Oq a,Abi];exact Df.cond (λ_=>Df.mk _) λ_=>Df.mk _
def yJ {N:Nat}(a:18446744073709551616<N) (c:List By) (x:Int):Df (M6 N c x):=by
 unfold M6;obtain⟨v,b,k⟩:=KJ (N:=N) (by omega) c;rw[b,Abi];cases v
 ·exact Df.mk _
 ·have g:=k rfl;obtain⟨y,d⟩:=SW a g.1 g.2.1 x;exact⟨y.1,by rw[d];rfl⟩
def YI {N:Nat}(i:18446744073709551616<N) (l:BB) (g:A4) (fr to:Int):Df (M5 N l g fr to):=by
 have head:Df (MM N l fr to):=by
  unfold MM;refine Df.cond (λ_=>Df.mk _) λ_=>?_;refine(Qj i _ _ _).bind λv _=>(Sf N _ _).bind λu _=>Df.mk _
 have j:Df (MN N l g.Z g.Am l.As fr to):=by
  unfold MN LR LS LT LU Jo Jp;have n:Df ((Hi N fr l.Bc).bind λm=>(IZ N (max 0 m) l.Y l.S).bind λk=>some k):=(Sf N _ _).bind λu _=>(Qj i _ _ _).bind λv _=>Df.mk _;refine Df.cond (λ_=>?_) λ_=>Df.cond (λ_=>(Qj i _ _ _).bind λv _=>Df.mk _) λ_=>Df.cond (λ_=>Df.cond (λ_=>(Qj i _ _ _).bind λv _=>Df.mk _) λ_=>Df.mk _) λ_=>Df.cond (λ_=>Df.cond (λ_=>Df.mk _) λ_=>n) λ_=>Df.cond (λ_=>n) λ_=>Df.mk _;exact head.bind λa _=>(yJ i _ _).bind λb _=>(Qj i _ _ _).bind λc _=>(XS N _ _).bind λd _=>Df.mk _
 unfold M5;exact j.bind λv _=>Df.mk _
def Xx {N:Nat}(c:18446744073709551616<N) (l:BB) (fr to:Int):Df (Lt N l fr to):=by
 unfold Lt;exact Df.cond (λ_=>Df.mk _) λ_=>(V0 c _ _ _).bind λa _=>(V0 c _ _ _).bind λb _=>Df.mk _
def yK (W:Nat) (f:List Int→Option (List Int×List Int)):Prop:=∀x,x.length=W→∃r,f x=some r∧r.1.length=W∧r.2.length=W
def Aa1 (W:Nat) (l:List AD):Prop:=∀e∈l,yK W e.take
def Aa1.snoc {W:Nat}{l:List AD}(c:Aa1 W l) {e:AD}(b:yK W e.take):Aa1 W (l++[e]):=λx a=>by
 rcases Acb.1 a with a|a
 ·exact c x a
 ·rw[Acf.1 a];exact b
def Zj {N:Nat}(i:8000000000000<N) (a b:List AD) (j:a.length≤100000) (k:b.length≤100000):Ck N [a,b]=some (a++b):=by
 obtain⟨n,rfl⟩:∃n,N=n+3:=⟨N-3,by omega⟩
 have d:BQ ((a.length:Int)+(b.length:Int))=((a.length+b.length:Nat):Int):=by rw[ER (by omega) (by omega)];rfl
 have g:BQ (0+(a.length:Int))=((a.length:Nat):Int):=by rw[ER (by omega) (by omega)];omega
 have c:Cx (n+3) ((a.length+b.length:Nat):Int)=some []:=by
  unfold Cx CZ;rw[Abs (show ¬((a.length+b.length:Nat):Int)<0 by omega),Abk,ER (n:=(0:Int)-0) (by decide) (by decide),ER (n:=((a.length+b.length:Nat):Int)-(0-0)) (by omega) (by omega)];cases l:decide (0<((a.length+b.length:Nat):Int)-(0-0))
  ·rfl
  ·rw[Abj,GZ (by omega)];rfl
 unfold Ck;simp only[CB];rw[show decide ((0:Int)<(([a,b]:List (List AD)).length:Int))=true by simp,Abj,show Go.Proofs.YtabonambpbofgaaGreat.ix [a,b] 0=some a from rfl,Abi,g,Abs (show ¬((a.length:Nat):Int)<0 by omega),Abk,show BQ (0+1)=1 from rfl,show decide ((1:Int)<(([a,b]:List (List AD)).length:Int))=true by simp,Abj,show Go.Proofs.YtabonambpbofgaaGreat.ix [a,b] 1=some b from rfl,Abi,d,Abs (show ¬((a.length+b.length:Nat):Int)<0 by omega),Abk,show BQ (1+1)=2 from rfl,show decide ((2:Int)<(([a,b]:List (List AD)).length:Int))=false by simp,Abk];unfold CR;rw[c,Abi];simp only[CA];rw[show decide ((0:Int)<(([a,b]:List (List AD)).length:Int))=true by simp,Abj,show Go.Proofs.YtabonambpbofgaaGreat.ix [a,b] 0=some a from rfl,Abi,GZ (by simp;omega),show BQ (0+1)=1 from rfl,show decide ((1:Int)<(([a,b]:List (List AD)).length:Int))=true by simp,Abj,show Go.Proofs.YtabonambpbofgaaGreat.ix [a,b] 1=some b from rfl,Abi,GZ (by simp;omega),show BQ (1+1)=2 from rfl,show decide ((2:Int)<(([a,b]:List (List AD)).length:Int))=false by simp,Abk];rfl
def cD {N:Nat}(a:18446744073709551616<N) (b:Cp) (v m:Int):Df (Jc N b v m):=by
 unfold Jc Hp;rw[Oq a,Abi];exact Df.cond (λ_=>Df.mk _) λ_=>Df.cond (λ_=>Df.cond (λ_=>Df.mk _) λ_=>Df.mk _) λ_=>Df.cond (λ_=>Df.mk _) λ_=>Df.mk _
structure Aa0 (P W:Nat) (o:List (List Int)) (out:List Int) (ms:List AX) (sn:List AT) (M:Nat):Prop where
 own:Zm P W o
 out:out.length=W
 mv:ms.length≤M
 sn:sn.length≤M
def Aa0.le {P W:Nat}{o:List (List Int)}{out:List Int}{a:List AX}{b:List AT}{M c:Nat}(g:Aa0 P W o out a b M) (d:M≤c):Aa0 P W o out a b c:=⟨g.own,g.out,Acw g.mv d,Acw g.sn d⟩
def QG (b:AF) (p:Nat) (a:Int):Int:=if 0≤a∧a<b.C.length then (X9 b a.toNat).R else if a= -3 then 0 else (b.A.getD p default).R
structure uI (b:AF) (W p:Nat) (e:AD):Prop where
 tk:∀x,PX W x→∃t,e.take x=some (t,Jt x t)∧Wr t x
 way:e.way≠ -4
 to:e.to_= -1∨(0≤e.to_∧e.to_<b.A.length)
 dl:e.delay=QG b p e.way
structure zG (b:AF) (H:Int) (W p:Nat) (m:AX):Prop where
 hour:m.B=H
 fr:m.M=(p:Int)
 way:m.Be≠ -4
 to:m.D= -1∨(0≤m.D∧m.D<b.A.length)
 px:PX W m.V
 pos:0<m.V.sum
def Md (b:AF) (H:Int) (m:AX):Option AT:=if m.D<0 then none else some ⟨BQ (BQ (H+1)+QG b m.M.toNat m.Be),m.D,m.V⟩
def Tm (N:Nat) (out:List Int) (a:List AX):List Int:=a.foldl (λo m=>if m.D<0 then (Hq N o m.V).getD [] else o) out
def R7 (o:List (List Int)) (a:List AX):List (List Int):=a.foldl (λo m=>upd o m.M (Jt (o.getD m.M.toNat []) m.V)) o
def RX:List AX→List (List Int)→Prop
 |[],_=>True
 |m::a,o=>(∃x,o[m.M.toNat]? =some x∧Wr m.V x)∧RX a (upd o m.M (Jt (o.getD m.M.toNat []) m.V))
def Ls (a:List AX):Int:=(a.map λm=>m.V.sum).sum
def RX.app:∀{l1 a:List AX}{o:List (List Int)},RX l1 o→RX a (R7 o l1)→RX (l1++a) o
 |[],_,_,_,d=>d
 |m::l1,a,o,b,c=>⟨b.1,RX.app (l1:=l1) b.2 c⟩
structure VQ (b:AF) (H:Int) (N W p:Nat) (o:List (List Int)) (out:List Int) (ms:List AX) (sn:List AT) (o':List (List Int)) (out':List Int) (ms':List AX) (sn':List AT) (l:List AX):Prop where
 mv:∀m∈l,zG b H W p m
 ms_:ms'=ms++l
 own:o'=R7 o l
 out_:out'=Tm N out l
 sn_:sn'=sn++l.filterMap (Md b H)
 val:RX l o
 ox:Js b.A.length W o'
 ol:out'.length=W
 tot:GH o'+Ls l=GH o
def VQ.nil {b:AF}{H:Int}{N W p:Nat}{o:List (List Int)}{out:List Int}{a:List AX}{c:List AT}(d:Js b.A.length W o) (g:out.length=W):VQ b H N W p o out a c o out a c []:=
 ⟨λm i=>(by cases i),by simp,rfl,rfl,by simp,trivial,d,g,by simp [Ls]⟩
def WG (a b:List AX):Ls (a++b)=Ls a+Ls b:=by unfold Ls;rw[Adb,Adh]
def VQ.trans {b:AF}{H:Int}{N W p:Nat}{o q i:List (List Int)}{out c a:List Int}{s j d:List AX}{t n g:List AT}{l u:List AX}(w:VQ b H N W p o out s t q c j n l) (k:VQ b H N W p q c j n i a d g u):VQ b H N W p o out s t i a d g (l++u):=
 ⟨λm v=>(Acb.1 v).elim (w.mv m) (k.mv m),by rw[k.ms_,w.ms_,Acu],by rw[k.own,w.own];unfold R7;rw[Aek],by rw[k.out_,w.out_];unfold Tm;rw[Aek],by rw[k.sn_,w.sn_,List.filterMap_append,Acu],w.val.app (by rw[←w.own];exact k.val),k.ox,k.ol,by rw[WG];have:=w.tot;have:=k.tot;omega⟩
def iW {N:Nat}(w:8000000000000<N) (t:Int) {to:Int}(h0:0≤to) {p:List Int}(y:p.length≤1000) (l:∀x∈p,0≤x) (z:0<p.sum):LP N t to p=some [⟨t,to,p⟩]:=by
 obtain⟨i,c,a⟩:∃(i:Nat) (A:i<p.length),0<p[i]:=by
  apply Aei;intro d;have:p.sum≤p.length*0:=Kx λx m=>by
   obtain⟨i,c,rfl⟩:=Afb.1 m;have:=d;apply Aei;intro A;exact d ⟨i,c,by omega⟩
  omega
 have o:∃j:Int,0≤j∧GA N p (λx=>Im N x)=some j:=by
  unfold GA;have:∀(n k:Nat),p.length<n+k→k≤i→∃j:Int,0≤j∧Do N p (λx=>Im N x) (E6 N) n (k:Int)=some j:=by
   intro n
   induction n with
   |zero=>intro k q s;omega
   |succ n u=>
    intro k q s;have g:k<p.length:=by omega
    simp only[Do,Im];rw[FD g,Abj,BF g,A9 (by omega),Abi,Abi];by_cases A:0<p[k]
    ·rw[Ab3 A];exact⟨(k:Int),by omega,rfl⟩
    ·rw[Abs A,Abk];have:k≠i:=λe=>by subst e;exact A a
     exact u (k+1) (by omega) (by omega)
  exact this N 0 (by omega) (Abn _)
 obtain⟨j,b,v⟩:=o;unfold LP Gg;rw[v,Abs (show ¬to<0 by omega),Abk,Abi,Abi,Ab3 b,Acq,Abi,Abk,Mr N (by omega),Abi,GZ (by simp)];rfl
def Vz {α}{l:List α}{k:Nat}{x:α}(a:l[k]? =some x):upd l (k:Int) x=l:=by
 apply Acr;intro i;by_cases e:k=i
 ·subst e;rw[Hk (Aby.1 a).1,a]
 ·rw[Jf e]
def Ut {N:Nat}(I:8000000000000<N) {w:AM}{b:AF}{H:Int}{W:Nat}(V:w.s.B=H) (X:W≤1000) (C:Js b.A.length W w.s.G) {p:Nat}(Y:p<b.A.length) {e:AD}(o:uI b W p e) (d:w.s.O.length=W) (D:w.moves.length≤1000000) (hs:w.sent.length≤1000000):
  ∃r l x t,Ho N w (p:Int) e=some r∧w.s.G[p]? =some x∧e.take x=some (t,Jt x t)∧Wr t x∧r.1=upd w.s.G (p:Int) (Jt x t)∧VQ b H N W p w.s.G w.s.O w.moves w.sent r.1 r.2.1 r.2.2.1 r.2.2.2 l∧l=if t.sum≤0 then [] else [⟨H,(p:Int),e.to_,e.way,t⟩]:=by
 obtain⟨x,Z,c,n⟩:=C.ix Y;obtain⟨t,F,u⟩:=o.tk x n;obtain⟨Q,s2,i⟩:=u.sub n;have J:w.s.G.getD p []=x:=by simp [Acv,c]
 have v:GH (upd w.s.G (p:Int) (Jt x t))=GH w.s.G-t.sum:=by rw[Qk c,s2];omega
 unfold Ho;rw[Z,Abi,Abi,F,Abi,Abi,Abi,i.total I X,Abi];by_cases h0:t.sum≤0
 ·rw[Ab3 h0,Abj];have hz:Jt x t=x:=Y5 n.len i.len (Ve i.nn h0);refine⟨_,[],x,t,rfl,c,F,u,rfl,?_,by rw[Abm h0]⟩;show VQ b H N W p w.s.G w.s.O w.moves w.sent (upd w.s.G (p:Int) (Jt x t)) w.s.O w.moves w.sent []
  rw[hz,Vz c];exact VQ.nil C d
 ·have y:zG b H W p ⟨H,(p:Int),e.to_,e.way,t⟩:=⟨rfl,rfl,o.way,o.to,i,by show 0<t.sum;omega⟩
  have j:RX [(⟨H,(p:Int),e.to_,e.way,t⟩:AX)] w.s.G:=⟨⟨x,by show w.s.G[((p:Int)).toNat]? =_;rw[Acs];exact c,u⟩,trivial⟩
  have k:upd w.s.G (p:Int) (Jt x t)=R7 w.s.G [(⟨H,(p:Int),e.to_,e.way,t⟩:AX)]:=by
   show _=upd w.s.G (p:Int) (Jt (w.s.G.getD ((p:Int)).toNat []) t)
   rw[Acs,J]
  rw[Abs h0,Abk,GZ (by simp;omega),V];by_cases g:e.to_= -1
  ·obtain⟨a,U,K⟩:=cN I (p:=w.s.O) (q:=t) (by omega) (by rw[i.len];omega);rw[Ab3 g,Abj,U,Abi];refine⟨_,[⟨H,(p:Int),e.to_,e.way,t⟩],x,t,rfl,c,F,u,rfl,⟨λm D=>by rw[Acf.1 D];exact y,rfl,k,?_,?_,j,C.upd _ Q,?_,?_⟩,by rw[Abl h0]⟩
   ·show a=if e.to_<0 then (Hq N w.s.O t).getD [] else _
    rw[Abm (by omega),U];rfl
   ·show w.sent=w.sent++_
    rw[show ([(⟨H,(p:Int),e.to_,e.way,t⟩:AX)].filterMap (Md b H))=[] by simp [Md,g],Acx]
   ·show a.length=W
    rw[K,d,i.len,Nat.max_self]
   ·show GH (upd _ _ _)+Ls _=_
    rw[v];simp [Ls]
  ·have z:=o.to.resolve_left g;rw[Abs g,Abk,iW I _ z.1 (by rw[i.len];omega) i.nn (by omega),Abi,GZ (by simp;omega)];refine⟨_,[⟨H,(p:Int),e.to_,e.way,t⟩],x,t,rfl,c,F,u,rfl,⟨λm D=>by rw[Acf.1 D];exact y,rfl,k,?_,?_,j,C.upd _ Q,d,?_⟩,by rw[Abl h0]⟩
   ·show w.s.O=if e.to_<0 then _ else w.s.O
    rw[Abl (by omega)]
   ·show w.sent++_=w.sent++_
    congr 1;have M:¬e.to_<0:=by omega
    simp only[Ae5,List.filterMap_nil,Md,Abl M,Acs];rw[o.dl]
   ·show GH (upd _ _ _)+Ls _=_
    rw[v];simp [Ls]
def Qc {N W:Nat}(a:18446744073709551616<N) (b:W≤64) (n:Int):∀x,PX W x→∃t,AL N n x=some (t,Jt x t)∧Wr t x∧t.sum=max 0 (min n x.sum):=λx c=>by
 obtain⟨t,e,d,g⟩:=iJ a b c n;unfold AL;rw[e,Abi];exact⟨t,rfl,d,g⟩
def jI {N W:Nat}(a:8000000000000<N) (d:W≤64) (t:FM):∀x,PX W x→∃y,EQ N t x=some (y,Jt x y)∧Wr y x:=λx b=>by
 obtain⟨y,e,c,_⟩:=jJ a (by omega) b t.Bh t.Bd;unfold EQ;rw[e,Abi];exact⟨y,rfl,c⟩
def XL (b:AF) (W p:Nat) (l:List AD):Prop:=∀e∈l,uI b W p e
def XL.snoc {b:AF}{W p:Nat}{l:List AD}(d:XL b W p l) {e:AD}(c:uI b W p e):XL b W p (l++[e]):=λx a=>by
 rcases Acb.1 a with a|a
 ·exact d x a
 ·rw[Acf.1 a];exact c
end Go.Proofs.YtabonambpbofgaaGreat
