import Derived.Test.YtblcgjadhemlbaaGreatVForms
import Derived.Lib.Mul64
namespace Go.Proofs.YtblcgjadhemlbaaGreat
set_option linter.all false
open Go.RowKit
abbrev Df {α}(x:Option α):Prop:=∃v,x=some v
def Lo (n:Int):IntKind.u64.wrap n=n%18446744073709551616:=by simp [IntKind.wrap,IntKind.bits,IntKind.signed]
def Er (a:Nat) (b:a<18446744073709551616):IntKind.u64.wrap (a:Int)=a:=by rw[Lo];omega
def Oi {n:Int}(a:IntKind.u64.has n):IntKind.u64.wrap n=n:=by
 simp [IntKind.has,IntKind.min,IntKind.max,IntKind.bits,IntKind.signed] at a;rw[Lo];omega
def Mb {n:Int}:IntKind.u64.has n↔0≤n∧n≤18446744073709551615:=by simp [IntKind.has,IntKind.min,IntKind.max,IntKind.bits,IntKind.signed]
def Xb {n:Int}(b:IntKind.u64.has n):∃a:Nat,n=a∧a<18446744073709551616:=by
 rw[Mb] at b
 exact⟨n.toNat,by omega,by omega⟩
def UH (a j:Nat) (b:j≤64):Eg .u64 (a:Int) j=((a/2^j:Nat):Int):=by
 unfold Eg
 have e:min j IntKind.u64.bits=j:=by simp [IntKind.bits];omega
 rw[e,Int.fdiv_eq_ediv_of_nonneg _ (Int.le_of_lt (Int.pow_pos (by decide)))]
 simp
def lS (a b:Nat) (g:a<18446744073709551616) (i:b<18446744073709551616):Hr .and .u64 (a:Int) (b:Int)=((a&&&b:Nat):Int):=by
 have c:(BitVec.ofInt 64 (a:Int)).toNat=a:=by rw[BitVec.ofInt_natCast,BitVec.toNat_ofNat];exact qP (by omega)
 have d:(BitVec.ofInt 64 (b:Int)).toNat=b:=by rw[BitVec.ofInt_natCast,BitVec.toNat_ofNat];exact qP (by omega)
 have j:a&&&b<2^64:=Nat.and_lt_two_pow _ (by omega)
 show IntKind.u64.wrap (((BitVec.ofInt 64 (a:Int))&&&(BitVec.ofInt 64 (b:Int))).toNat:Int)=_
 rw[BitVec.toNat_and,c,d,Er _ (by omega)]
def QD (a:Nat) (b:a<18446744073709551616):Hr .and .u64 (a:Int) 4294967295=((a%4294967296:Nat):Int):=by
 have c:=lS a 4294967295 b (by omega)
 have e:a&&&4294967295=a%4294967296:=Nat.and_two_pow_sub_one_eq_mod a 32
 rw[e] at c
 exact c
def Mo (a:Nat):Eg .u64 (a:Int) 32=((a/4294967296:Nat):Int):=UH a 32 (by omega)
def OF (a b:Nat):(a:Int)*(b:Int)=((a*b:Nat):Int):=(Int.natCast_mul a b).symm
def Re (a b:Nat):(a:Int)+(b:Int)=((a+b:Nat):Int):=(Int.natCast_add a b).symm
def Zv (a:Nat):IntKind.u64.wrap (a:Int)=((a%18446744073709551616:Nat):Int):=by rw[Lo];omega
def QC (N x y:Nat) (k:x<18446744073709551616) (l:y<18446744073709551616):G7 N (x:Int) (y:Int)=some (((x*y/18446744073709551616:Nat):Int),((x*y%18446744073709551616:Nat):Int)):=by
 obtain⟨bd,m,n,c⟩:=Lib.mul64_hi x y k l
 have p:=Lib.half_mul_le (a:=x/4294967296) (b:=y/4294967296) (by omega) (by omega)
 have q:=Lib.half_mul_le (a:=x/4294967296) (b:=y%4294967296) (by omega) (by omega)
 have s:=Lib.half_mul_le (a:=x%4294967296) (b:=y/4294967296) (by omega) (by omega)
 have d:x/4294967296*(y/4294967296)<18446744073709551616:=by omega
 have g:x/4294967296*(y%4294967296)<18446744073709551616:=by omega
 have i:x%4294967296*(y/4294967296)<18446744073709551616:=by omega
 have j:x/4294967296*(y/4294967296)+(x/4294967296*(y%4294967296)+x%4294967296*(y%4294967296)/4294967296)/4294967296<18446744073709551616:=by omega
 have o:x/4294967296*(y/4294967296)+(x/4294967296*(y%4294967296)+x%4294967296*(y%4294967296)/4294967296)/4294967296+((x/4294967296*(y%4294967296)+x%4294967296*(y%4294967296)/4294967296)%4294967296+x%4294967296*(y/4294967296))/4294967296<18446744073709551616:=by omega
 simp only[G7,Mo,QD x k,QD y l,OF,Re,Er _ bd,Er _ g,Er _ m,QD _ m,Er _ i,Er _ n,Er _ d,Er _ j,Er _ o,Zv (x*y)]
 rw[c]
def Ln (x n:Nat):Prop:=1≤n∧2^(n-1)≤x∧x<2^n
def Ln.shift {x m s:Nat}(g:Ln (x/2^s) m):Ln x (m+s):=by
 obtain⟨d,b,c⟩:=g
 have a:0<2^s:=rB s
 refine⟨by omega,?_,?_⟩
 ·have:2^(m-1)*2^s≤x:=(Nat.le_div_iff_mul_le a).1 b
  rw[show m+s-1=(m-1)+s by omega,Nat.pow_add];exact this
 ·have:=(rL a).1 c
  rw[Nat.pow_add];exact this
set_option maxRecDepth 20000 in
def lC:∀k:Nat,k<256→VZ Lh (k:Int)=some (((if k=0 then 0 else k.log2+1:Nat)):Int):=by decide +kernel
def Yq {k:Nat}(h0:0<k) (a:k<256):∃n:Nat,VZ Lh (k:Int)=some (n:Int)∧Ln k n∧n≤8:=by
 have e:=lC k a
 rw[nB (by omega)] at e
 refine⟨_,e,⟨by omega,?_,Nat.lt_log2_self⟩,?_⟩
 ·rw[Nat.add_sub_cancel];exact Nat.log2_self_le (by omega)
 ·have:k.log2<8:=(Nat.log2_lt (by omega)).2 a
  omega
def XQ (N:Nat) {x:Nat}(h0:0<x) (u:x<18446744073709551616):∃n:Nat,H6 N (x:Int)=some (n:Int)∧Ln x n∧n≤64:=by
 have c:∀a:Nat,a<9223372036854775808→B0 (a:Int)=a:=λa v=>Pr (by unfold AH;omega)
 have l:∀a:Nat,a<256→IntKind.u8.wrap (a:Int)=a:=λa v=>by simp [IntKind.wrap,IntKind.bits,IntKind.signed];omega
 have o:∀a b:Nat,0<a→a<256→b≤56→∃n:Nat,GB N (a:Int) (b:Int)=some ((n+b:Nat):Int)∧Ln a n∧n≤8:=λa b j k p=>by
  obtain⟨n,d,g,i⟩:=Yq j k
  refine⟨n,?_,g,i⟩
  simp only[GB,l a k,d,mV,c n (by omega),Re,Nat.add_comm b n,c (n+b) (by omega)]
 have q:∀a b:Nat,0<a→a<65536→b≤48→∃n:Nat,GC N (a:Int) (b:Int)=some ((n+b:Nat):Int)∧Ln a n∧n≤16:=λa b j k p=>by
  unfold GC
  by_cases s:256≤a
  ·rw[show decide ((256:Int)≤(a:Int))=true by simp;omega,mW,UH a 8 (by omega)]
   have m:B0 ((b:Int)+8)=((b+8:Nat):Int):=by rw[show ((b:Int)+8)=((b+8:Nat):Int) by omega];exact c _ (by omega)
   rw[m]
   obtain⟨n,d,g,i⟩:=o (a/2^8) (b+8) (by omega) (by omega) (by omega)
   exact⟨n+8,by rw[d,show n+(b+8)=n+8+b by omega],g.shift,by omega⟩
  ·rw[show decide ((256:Int)≤(a:Int))=false by simp;omega,mX]
   obtain⟨n,d,g,i⟩:=o a b j (by omega) (by omega)
   exact⟨n,d,g,by omega⟩
 have t:∀a b:Nat,0<a→a<4294967296→b≤32→∃n:Nat,GD N (a:Int) (b:Int)=some ((n+b:Nat):Int)∧Ln a n∧n≤32:=λa b j k p=>by
  unfold GD
  by_cases s:65536≤a
  ·rw[show decide ((65536:Int)≤(a:Int))=true by simp;omega,mW,UH a 16 (by omega)]
   have m:B0 ((b:Int)+16)=((b+16:Nat):Int):=by rw[show ((b:Int)+16)=((b+16:Nat):Int) by omega];exact c _ (by omega)
   rw[m]
   obtain⟨n,d,g,i⟩:=q (a/2^16) (b+16) (by omega) (by omega) (by omega)
   exact⟨n+16,by rw[d,show n+(b+16)=n+16+b by omega],g.shift,by omega⟩
  ·rw[show decide ((65536:Int)≤(a:Int))=false by simp;omega,mX]
   obtain⟨n,d,g,i⟩:=q a b j (by omega) (by omega)
   exact⟨n,d,g,by omega⟩
 unfold H6
 by_cases s:4294967296≤x
 ·rw[show decide ((4294967296:Int)≤(x:Int))=true by simp;omega,mW,UH x 32 (by omega)]
  obtain⟨n,d,g,i⟩:=t (x/2^32) 32 (by omega) (by omega) (by omega)
  exact⟨n+32,by rw[show ((32:Int))=((32:Nat):Int) from rfl,d],g.shift,by omega⟩
 ·rw[show decide ((4294967296:Int)≤(x:Int))=false by simp;omega,mX]
  obtain⟨n,d,g,i⟩:=t x 0 h0 (by omega) (by omega)
  exact⟨n,d,g,by omega⟩
def aC (N:Nat) {y:Nat}(h0:0<y) (a:y<18446744073709551616):∃s:Nat,Ez N (y:Int)=some (s:Int)∧s≤63∧9223372036854775808≤y*2^s∧y*2^s<18446744073709551616:=by
 obtain⟨n,b,⟨g,c,d⟩,i⟩:=XQ N h0 a
 refine⟨64-n,?_,by omega,?_,?_⟩
 ·simp only[Ez,b,mV]
  rw[Pr (by unfold AH;omega)]
  congr 1;omega
 ·have:=pG (2^(64-n)) c
  rw[←Nat.pow_add,show n-1+(64-n)=63 by omega] at this
  exact this
 ·have:=Nat.mul_lt_mul_of_pos_right d (rB (64-n))
  rw[←Nat.pow_add,show n+(64-n)=64 by omega] at this
  exact this
end Go.Proofs.YtblcgjadhemlbaaGreat
namespace Go.Proofs.YtblcgjadhemlbaaGreat
set_option linter.all false
open Go.RowKit
def Df.mk {α}(v:α):Df (some v):=⟨v,rfl⟩
def Df.bind {α β}{a:Option α}{f:α→Option β}(d:Df a) (k:∀v,a=some v→Df (f v)):Df (a.bind f):=by
 obtain⟨v,b⟩:=d
 obtain⟨u,c⟩:=k v b
 exact⟨u,by rw[b];exact c⟩
def Df.cond {α}{b:Bool}{x y:Option α}(a:b=true→Df x) (c:b=false→Df y):Df (cond b x y):=by
 cases b
 ·exact c rfl
 ·exact a rfl
def Fl {α}(b:Bool) (x y:α):cond b (some x) (some y)=some (cond b x y):=by cases b<;>rfl
def BS {α}{l:List α}{i:Nat}(a:i<l.length):ix l (i:Int)=some l[i]:=by simp [ix,a]
def Df.ix {α}{l:List α}{i:Int}(h0:0≤i) (a:i<l.length):Df (ix l i):=by
 obtain⟨j,rfl⟩:∃j:Nat,i=j:=⟨i.toNat,by omega⟩
 exact⟨_,BS (by omega)⟩
def DG {n:Int}(h0: -9223372036854775808≤n) (a:n≤9223372036854775807):B0 n=n:=Pr ⟨h0,a⟩
def cS {n:Int}:∃j,Nu (IntKind.u64.wrap n)=some j∧(j:Int)=IntKind.u64.wrap n:=by
 have:=(Mb.1 (En .u64 n)).1
 exact⟨(IntKind.u64.wrap n).toNat,by unfold Nu;rw[nB (by omega)],by omega⟩
def UN {k:IntKind}{x y:Int}(a:y≠0):Df (PQ k x y):=⟨_,by unfold PQ;rw[nB a]⟩
def bS {x y:Int}(a:y≠0):Df (Rw x y):=⟨_,by unfold Rw;rw[nB a]⟩
def YD (N:Nat) (c y:Int) (b a:Nat) (d:Int→Option (Int×Int)) (g:∀v,Df (d v)):∀(n:Nat) (q r:Int),IntKind.u64.has q→q.toNat<n→Df (DO N c y b a d n q r)
 |0,q,r,l,i=>by omega
 |n+1,q,r,l,i=>by
  have k:=Mb.1 l
  unfold DO
  refine Df.cond (λj=>?_) λ_=>g _
  have h0:q≠0:=by
   rintro rfl
   have:=(Mb.1 (En .u64 (IntKind.u64.wrap (4294967296*r)+Eg .u64 (Dl .u64 c a) 32))).1
   simp [Lo] at j this
   omega
  have e:IntKind.u64.wrap (q-1)=q-1:=Oi (Mb.2 (by omega))
  refine Df.cond (λ_=>g _) λ_=>?_
  exact YD N c y b a d g n _ _ (En _ _) (by rw[e];omega)
def YB (N:Nat) (c y:Int) (b a:Nat) (d:Int→Option (Int×Int)) (g:∀v,Df (d v)):∀(n:Nat) (r q:Int),IntKind.u64.has q→q.toNat<n→Df (Dt N c y b a d n r q)
 |0,r,q,l,i=>by omega
 |n+1,r,q,l,i=>by
  have k:=Mb.1 l
  unfold Dt
  refine Df.cond (λj=>?_) λ_=>g _
  have h0:q≠0:=by
   rintro rfl
   have:=(Mb.1 (En .u64 (IntKind.u64.wrap (4294967296*r)+Hr .and .u64 (Dl .u64 c a) 4294967295))).1
   simp [Lo] at j this
   omega
  have e:IntKind.u64.wrap (q-1)=q-1:=Oi (Mb.2 (by omega))
  refine Df.cond (λ_=>g _) λ_=>?_
  exact YB N c y b a d g n _ _ (En _ _) (by rw[e];omega)
def BN:Nat:=36893488147419103232
def kL:18446744073709551616<BN:=by decide
def Y4 {a s:Nat}(j:s≤63) (c:9223372036854775808≤a*2^s) (b:a*2^s<18446744073709551616):Eg .u64 (Dl .u64 (a:Int) s) 32≠0:=by
 have d:Dl .u64 (a:Int) s=((a*2^s:Nat):Int):=by
  unfold Dl
  have g:min s IntKind.u64.bits=s:=by simp [IntKind.bits];omega
  have i:((a:Int)*2^s)=((a*2^s:Nat):Int):=by simp
  rw[g,i]
  exact Er _ b
 rw[d,Mo]
 generalize a*2^s=t at c b
 omega
def cQ (N:Nat) (i k y g:Int) (a b c d:Nat) (q v:Int):Df (E0 N i k y g a b c d q v):=by
 unfold E0
 obtain⟨j,l,_⟩:=cS (n:=g)
 rw[l]
 exact Df.mk _
def cR {N:Nat}(o:18446744073709551616<N) (l k y m:Int) (b g i c:Nat) (q:Int) (hd:Eg .u64 (Dl .u64 y b) 32≠0):Df (Du N l k y m b g i c q):=by
 unfold Du
 refine Df.bind (UN hd) λj d=>?_
 have a:=Mu d
 have n:=(Mb.1 a)
 exact YB N k y b c _ (λv=>cQ _ _ _ _ _ _ _ _ _ _ _) N _ j a (by omega)
def Tq {N:Nat}(A:18446744073709551616<N) {o q y:Int}(B:IntKind.u64.has o) (h2:IntKind.u64.has q) (C:IntKind.u64.has y) (h:o<y):Df (Fb N o q y):=by
 have g1:=Mb.1 B
 have g:y≠0:=by omega
 have t:¬y≤o:=by omega
 unfold Fb
 refine Df.cond (λp=>absurd (pR p) g) λ_=>Df.cond (λp=>absurd (pR p) t) λ_=>Df.cond (λ_=>?_) λ_=>?_
 ·exact Df.bind (UN g) λ_ _=>Df.bind (bS g) λ_ _=>Df.mk _
 ·obtain⟨D,u,F⟩:=Xb C
  obtain⟨s,G,H,I,J⟩:=aC N (show 0<D by omega) F
  have hd:∀j:Nat,(j:Int)=IntKind.u64.wrap (s:Int)→Eg .u64 (Dl .u64 y j) 32≠0:=λj K=>by
   rw[Er s (by omega)] at K
   have:j=s:=by omega
   rw[this,u]
   exact Y4 H I J
  rw[u,G]
  rw[←u]
  refine Df.bind (Df.mk _) λw x=>?_
  have i:w=(s:Int):=(mZ x).symm
  obtain⟨k,M,Q⟩:=cS (n:=w)
  obtain⟨U,V,_⟩:=cS (n:=(64-IntKind.u64.wrap w))
  have l:=hd k (by rw[Q,i])
  rw[M,V]
  refine Df.bind (Df.mk _) λa W=>Df.bind (Df.mk _) λb hb=>Df.bind (Df.mk _) λc p=>Df.bind (Df.mk _) λd X=>?_
  have Y:=mZ W
  rw[←Y]
  refine Df.bind (UN l) λz Z=>?_
  have m:=Mu Z
  have aa:=Mb.1 m
  exact YD N q y k d _ (λv=>cR A _ _ _ _ _ _ _ _ _ l) N z _ m (by omega)
def W7 {N:Nat}(g:18446744073709551616<N) (a num den:Int):Df (Fj N a num den):=by
 unfold Fj
 refine Df.cond (λ_=>Df.mk _) λb=>?_
 simp only[nZ,nV] at b
 obtain⟨⟨⟨⟨⟨l,m⟩,o⟩,p⟩,q⟩,s⟩:=b
 obtain⟨c,i⟩:∃n:Nat,a=n:=⟨a.toNat,by omega⟩
 obtain⟨d,j⟩:∃n:Nat,num=n:=⟨num.toNat,by omega⟩
 subst i;subst j
 rw[Er c (by omega),Er d (by omega),QC N c d (by omega) (by omega)]
 simp only[mV]
 have hd:IntKind.u64.wrap den=den:=Oi (Mb.2 (by omega))
 rw[hd]
 refine Df.cond (λ_=>Df.mk _) λb=>?_
 simp only[nV] at b
 have k:c*d<18446744073709551616*18446744073709551616:=Nat.mul_lt_mul'' (by omega) (by omega)
 refine Df.bind (Tq g (Mb.2 ⟨by omega,by omega⟩) (Mb.2 ⟨by omega,by omega⟩) (Mb.2 (by omega)) (by omega)) λv _=>?_
 exact Df.cond (λ_=>Df.mk _) λ_=>Df.mk _
def Ls {N:Nat}(c:18446744073709551616<N) {num den:Int}(h0:0≤num) (k:0≤den) (l:den≤9223372036854775807):Df (Fk N num den):=by
 unfold Fk
 refine Df.cond (λ_=>Df.mk _) λd=>?_
 simp only[nV] at d
 refine Df.cond (λ_=>Df.mk _) λa=>?_
 simp only[nV] at a
 obtain⟨b,g⟩:∃n:Nat,num=n:=⟨num.toNat,by omega⟩
 obtain⟨i,j⟩:∃n:Nat,den=n:=⟨den.toNat,by omega⟩
 subst g;subst j
 rw[Er b (by omega),Er i (by omega),show(1099511627776:Int)=((1099511627776:Nat):Int) from rfl,QC N b 1099511627776 (by omega) (by omega)]
 simp only[mV]
 refine Df.bind (Tq c (Mb.2 ⟨by omega,by omega⟩) (Mb.2 ⟨by omega,by omega⟩) (Mb.2 (by omega)) (by omega)) λv _=>?_
 exact Df.cond (λ_=>Df.mk _) λ_=>Df.mk _
def cC {i j:Nat}(b:i+j<9223372036854775808):B0 (Eg .u64 (IntKind.u64.wrap (B0 ((i:Int)+(j:Int)))) 1)=(((i+j)/2:Nat):Int):=by
 have a:B0 ((i:Int)+(j:Int))=((i+j:Nat):Int):=by rw[DG (by omega) (by omega)];rfl
 rw[a,Er _ (by omega),UH _ 1 (by omega),DG (by omega) (by omega)]
def Om {N:Nat}(f:Int→Option Bool) (L:Nat) (d:L<4611686018427387904) (b:∀i:Nat,i<L→Df (f i)) (a:Int→Option Int):∀(n i j:Nat),i≤j→j≤L→j-i<n→(0<i→f ((i-1:Nat):Int)=some false)→(j<L→f (j:Int)=some true)→
  ∃r:Nat,GA N f a n (i:Int) (j:Int)=a (r:Int)∧r≤L∧(0<r→f ((r-1:Nat):Int)=some false)∧(r<L→f (r:Int)=some true)
 |0,i,j,_,_,q,_,_=>by omega
 |n+1,i,j,o,g,p,k,l=>by
  unfold GA
  by_cases m:i<j
  ·rw[show decide ((i:Int)<(j:Int))=true by simp;omega,mW,cC (by omega)]
   obtain⟨v,c⟩:=b ((i+j)/2) (by omega)
   rw[c]
   simp only[mV]
   cases v
   ·simp only[Bool.not_false,mW]
    have e:B0 ((((i+j)/2:Nat):Int)+1)=(((i+j)/2+1:Nat):Int):=by rw[DG (by omega) (by omega)];rfl
    rw[e]
    exact Om f L d b a n _ j (by omega) g (by omega) (λ_=>by rw[Nat.add_sub_cancel];exact c) l
   ·simp only[oF,mX]
    exact Om f L d b a n i _ (by omega) (by omega) (by omega) k (λ_=>c)
  ·have e:i=j:=by omega
   subst e
   rw[show decide ((i:Int)<(i:Int))=false by simp,mX]
   exact⟨i,rfl,g,k,l⟩
def V4 {N:Nat}(f:Int→Option Bool) (L:Nat) (a:L<4611686018427387904) (g:L<N) (b:∀i:Nat,i<L→Df (f i)):∃r:Nat,KQ N (L:Int) f=some (r:Int)∧r≤L∧(0<r→f ((r-1:Nat):Int)=some false)∧(r<L→f (r:Int)=some true):=by
 obtain⟨r,c,d⟩:=Om (N:=N) f L a b (IR N) N 0 L (nE _) (nJ _) (by omega) (λj=>absurd j (by omega)) (λj=>absurd j (by omega))
 exact⟨r,c,d⟩
def Ia (n:Int):Prop:=0≤n∧n≤1125899906842624
def Hp (c:List B4):Prop:=1≤c.length∧c.length≤32∧∀(k:Nat) p,c[k]? =some p→Ia p.N∧Ia p.Y∧∀q,0<k→c[k-1]? =some q→q.N<p.N∧q.Y≤p.Y
def Tr {N:Nat}(c:List B4) (o:c.length≤32):∀(n k:Nat),c.length<n+k→k≤c.length→∃v,Ec N c (Gm N) n (k:Int)=some v∧(v=true→∀(i:Nat) p,k≤i→c[i]? =some p→Ia p.N∧Ia p.Y∧∀q,0<i→c[i-1]? =some q→q.N<p.N∧q.Y≤p.Y)
 |0,k,A,s=>by omega
 |n+1,k,A,s=>by
  unfold Ec
  by_cases g:k<c.length
  ·rw[show decide ((k:Int)<(c.length:Int))=true by simp;omega,mW,BS g]
   simp only[mV]
   cases t:(decide ((c[k]).N<0)||decide (1125899906842624<(c[k]).N)||decide ((c[k]).Y<0)||decide (1125899906842624<(c[k]).Y))
   ·simp only[mX]
    simp only[nZ,nV] at t
    obtain⟨v,u,l⟩:=Tr (N:=N) c o n (k+1) (by omega) (by omega)
    have w:B0 ((k:Int)+1)=((k+1:Nat):Int):=by rw[DG (by omega) (by omega)];rfl
    rw[w,u]
    by_cases h0:0<k
    ·have x:B0 ((k:Int)-1)=((k-1:Nat):Int):=by rw[DG (by omega) (by omega)];omega
     rw[show decide ((0:Int)<(k:Int))=true by simp;omega,x,BS (show k-1<c.length by omega)]
     simp only[mW,mV,Fl]
     cases b:cond (decide ((c[k]).N≤(c[k-1]).N)) true (decide ((c[k]).Y<(c[k-1]).Y))
     ·simp only[mX]
      refine⟨v,rfl,λd i p m a=>?_⟩
      by_cases e:i=k
      ·subst e
       have:p=c[i]:=by simpa [g] using a.symm
       subst this
       refine⟨⟨by omega,by omega⟩,⟨by omega,by omega⟩,λq _ y=>?_⟩
       have:q=c[i-1]:=by simpa [show i-1<c.length by omega] using y.symm
       subst this
       cases j:decide ((c[i]).N≤(c[i-1]).N) with
       |true=>rw[j] at b;simp at b
       |false=>
        rw[j] at b
        simp only[mX,nV] at b j
        omega
      ·exact l d i p (by omega) a
     ·exact⟨false,rfl,λA=>by cases A⟩
    ·have z:k=0:=by omega
     subst z
     rw[show decide ((0:Int)<((0:Nat):Int))=false by simp]
     simp only[mX,mV]
     refine⟨v,rfl,λd i p m a=>?_⟩
     by_cases e:i=0
     ·subst e
      have:p=c[0]:=by simpa [g] using a.symm
      subst this
      exact⟨⟨by omega,by omega⟩,⟨by omega,by omega⟩,λq A _=>absurd A (by omega)⟩
     ·exact l d i p (by omega) a
   ·exact⟨false,rfl,λA=>by cases A⟩
  ·rw[show decide ((k:Int)<(c.length:Int))=false by simp;omega,mX]
   refine⟨true,rfl,λ_ i p m a=>?_⟩
   have:=(nK.1 a).1
   omega
def JD {N:Nat}(j:33<N) (c:List B4):∃v,Ed N c=some v∧(v=true→Hp c):=by
 unfold Ed
 cases a:(decide ((c.length:Int)<1)||decide (32<(c.length:Int)))
 ·simp only[nZ,nV] at a
  obtain⟨v,b,d⟩:=Tr (N:=N) c (by omega) N 0 (by omega) (by omega)
  exact⟨v,b,λg=>⟨by omega,by omega,λk p i=>d g k p (by omega) i⟩⟩
 ·exact⟨false,rfl,λl=>by cases l⟩
def Ps {N:Nat}(b:18446744073709551616<N) {c:List B4}(l:1≤c.length) (m:c.length≤32) (x:Int):Df (IF N c x):=by
 unfold IF
 obtain⟨r,d,n,_⟩:=V4 (N:=N) (λy=>Hw N c x y) c.length (by omega) (by omega) λi g=>by
  unfold Hw
  rw[BS g];exact Df.mk _
 rw[d]
 simp only[mV]
 refine Df.cond (λ_=>Df.bind (Df.ix (by omega) (by omega)) λ_ _=>Df.mk _) λj=>?_
 simp only[nV] at j
 have k:B0 ((r:Int)-1)=((r-1:Nat):Int):=by rw[DG (by omega) (by omega)];omega
 rw[k]
 refine Df.bind (Df.ix (by omega) (by omega)) λ_ _=>Df.cond (λ_=>Df.mk _) λa=>?_
 simp only[nV] at a
 exact Df.bind (Df.ix (by omega) (by omega)) λ_ _=>Df.bind (Df.ix (by omega) (by omega)) λ_ _=>Df.bind (W7 b _ _ _) λ_ _=>Df.mk _
end Go.Proofs.YtblcgjadhemlbaaGreat
