import Derived.Test.YtedgiljmffngoaaGreatGForms
import Derived.Lib.Mul64
namespace Go.Proofs.YtedgiljmffngoaaGreat
set_option linter.all false
open Go.RowKit
abbrev Df {α}(x:Option α):Prop:=∃v,x=some v
def M5 (n:Int):IntKind.u64.wrap n=n%18446744073709551616:=by simp [IntKind.wrap,IntKind.bits,IntKind.signed]
def Ep (a:Nat) (b:a<18446744073709551616):IntKind.u64.wrap (a:Int)=a:=by rw[M5];omega
def QQ {n:Int}(a:IntKind.u64.has n):IntKind.u64.wrap n=n:=by
 simp [IntKind.has,IntKind.min,IntKind.max,IntKind.bits,IntKind.signed] at a;rw[M5];omega
def N2 {n:Int}:IntKind.u64.has n↔0≤n∧n≤18446744073709551615:=by simp [IntKind.has,IntKind.min,IntKind.max,IntKind.bits,IntKind.signed]
def Zf {n:Int}(b:IntKind.u64.has n):∃a:Nat,n=a∧a<18446744073709551616:=by
 rw[N2] at b;exact⟨n.toNat,by omega,by omega⟩
def Vk (a j:Nat) (b:j≤64):EY .u64 (a:Int) j=((a/2^j:Nat):Int):=by
 unfold EY;have e:min j IntKind.u64.bits=j:=by simp [IntKind.bits];omega
 rw[e,Int.fdiv_eq_ediv_of_nonneg _ (Int.le_of_lt (Int.pow_pos (by decide)))];simp
def sB (a b:Nat) (g:a<18446744073709551616) (i:b<18446744073709551616):FL .and .u64 (a:Int) (b:Int)=((a&&&b:Nat):Int):=by
 have c:(BitVec.ofInt 64 (a:Int)).toNat=a:=by rw[BitVec.ofInt_natCast,BitVec.toNat_ofNat];exact xR (by omega)
 have d:(BitVec.ofInt 64 (b:Int)).toNat=b:=by rw[BitVec.ofInt_natCast,BitVec.toNat_ofNat];exact xR (by omega)
 have j:a&&&b<2^64:=Nat.and_lt_two_pow _ (by omega);show IntKind.u64.wrap (((BitVec.ofInt 64 (a:Int))&&&(BitVec.ofInt 64 (b:Int))).toNat:Int)=_
 rw[BitVec.toNat_and,c,d,Ep _ (by omega)]
def R6 (a:Nat) (b:a<18446744073709551616):FL .and .u64 (a:Int) 4294967295=((a%4294967296:Nat):Int):=by
 have c:=sB a 4294967295 b (by omega);have e:a&&&4294967295=a%4294967296:=Nat.and_two_pow_sub_one_eq_mod a 32;rw[e] at c;exact c
def OJ (a:Nat):EY .u64 (a:Int) 32=((a/4294967296:Nat):Int):=Vk a 32 (by omega)
def P9 (a b:Nat):(a:Int)*(b:Int)=((a*b:Nat):Int):=(Int.natCast_mul a b).symm
def TZ (a b:Nat):(a:Int)+(b:Int)=((a+b:Nat):Int):=(Int.natCast_add a b).symm
def fC (a:Nat):IntKind.u64.wrap (a:Int)=((a%18446744073709551616:Nat):Int):=by rw[M5];omega
def R5 (N x y:Nat) (k:x<18446744073709551616) (l:y<18446744073709551616):HN N (x:Int) (y:Int)=some (((x*y/18446744073709551616:Nat):Int),((x*y%18446744073709551616:Nat):Int)):=by
 obtain⟨bd,m,n,c⟩:=Lib.mul64_hi x y k l;have p:=Lib.half_mul_le (a:=x/4294967296) (b:=y/4294967296) (by omega) (by omega);have q:=Lib.half_mul_le (a:=x/4294967296) (b:=y%4294967296) (by omega) (by omega);have s:=Lib.half_mul_le (a:=x%4294967296) (b:=y/4294967296) (by omega) (by omega);have d:x/4294967296*(y/4294967296)<18446744073709551616:=by omega
 have g:x/4294967296*(y%4294967296)<18446744073709551616:=by omega
 have i:x%4294967296*(y/4294967296)<18446744073709551616:=by omega
 have j:x/4294967296*(y/4294967296)+(x/4294967296*(y%4294967296)+x%4294967296*(y%4294967296)/4294967296)/4294967296<18446744073709551616:=by omega
 have o:x/4294967296*(y/4294967296)+(x/4294967296*(y%4294967296)+x%4294967296*(y%4294967296)/4294967296)/4294967296+((x/4294967296*(y%4294967296)+x%4294967296*(y%4294967296)/4294967296)%4294967296+x%4294967296*(y/4294967296))/4294967296<18446744073709551616:=by omega
 simp only[HN,OJ,R6 x k,R6 y l,P9,TZ,Ep _ bd,Ep _ g,Ep _ m,R6 _ m,Ep _ i,Ep _ n,Ep _ d,Ep _ j,Ep _ o,fC (x*y)];rw[c]
def Ln (x n:Nat):Prop:=1≤n∧2^(n-1)≤x∧x<2^n
def Ln.shift {x m s:Nat}(g:Ln (x/2^s) m):Ln x (m+s):=by
 obtain⟨d,b,c⟩:=g;have a:0<2^s:=yE s;refine⟨by omega,?_,?_⟩
 ·have:2^(m-1)*2^s≤x:=(Nat.le_div_iff_mul_le a).1 b;rw[show m+s-1=(m-1)+s by omega,Nat.pow_add];exact this
 ·have:=(yR a).1 c;rw[Nat.pow_add];exact this
set_option maxRecDepth 20000 in
def rH:∀k:Nat,k<256→T9 Mx (k:Int)=some (((if k=0 then 0 else k.log2+1:Nat)):Int):=by decide +kernel
def cD {k:Nat}(h0:0<k) (a:k<256):∃n:Nat,T9 Mx (k:Int)=some (n:Int)∧Ln k n∧n≤8:=by
 have e:=rH k a;rw[tQ (by omega)] at e;refine⟨_,e,⟨by omega,?_,Nat.lt_log2_self⟩,?_⟩
 ·rw[Nat.add_sub_cancel];exact Nat.log2_self_le (by omega)
 ·have:k.log2<8:=(Nat.log2_lt (by omega)).2 a;omega
def ZV (N:Nat) {x:Nat}(h0:0<x) (u:x<18446744073709551616):∃n:Nat,IS N (x:Int)=some (n:Int)∧Ln x n∧n≤64:=by
 have c:∀a:Nat,a<9223372036854775808→BD (a:Int)=a:=λa v=>QS (by unfold AA;omega);have l:∀a:Nat,a<256→IntKind.u8.wrap (a:Int)=a:=λa v=>by simp [IntKind.wrap,IntKind.bits,IntKind.signed];omega
 have o:∀a b:Nat,0<a→a<256→b≤56→∃n:Nat,GH N (a:Int) (b:Int)=some ((n+b:Nat):Int)∧Ln a n∧n≤8:=λa b j k p=>by
  obtain⟨n,d,g,i⟩:=cD j k;refine⟨n,?_,g,i⟩;simp only[GH,l a k,d,tJ,c n (by omega),TZ,Nat.add_comm b n,c (n+b) (by omega)]
 have q:∀a b:Nat,0<a→a<65536→b≤48→∃n:Nat,GI N (a:Int) (b:Int)=some ((n+b:Nat):Int)∧Ln a n∧n≤16:=λa b j k p=>by
  unfold GI;by_cases s:256≤a
  ·rw[show decide ((256:Int)≤(a:Int))=true by simp;omega,tL,Vk a 8 (by omega)];have m:BD ((b:Int)+8)=((b+8:Nat):Int):=by rw[show ((b:Int)+8)=((b+8:Nat):Int) by omega];exact c _ (by omega)
   rw[m];obtain⟨n,d,g,i⟩:=o (a/2^8) (b+8) (by omega) (by omega) (by omega);exact⟨n+8,by rw[d,show n+(b+8)=n+8+b by omega],g.shift,by omega⟩
  ·rw[show decide ((256:Int)≤(a:Int))=false by simp;omega,tM];obtain⟨n,d,g,i⟩:=o a b j (by omega) (by omega);exact⟨n,d,g,by omega⟩
 have t:∀a b:Nat,0<a→a<4294967296→b≤32→∃n:Nat,GJ N (a:Int) (b:Int)=some ((n+b:Nat):Int)∧Ln a n∧n≤32:=λa b j k p=>by
  unfold GJ;by_cases s:65536≤a
  ·rw[show decide ((65536:Int)≤(a:Int))=true by simp;omega,tL,Vk a 16 (by omega)];have m:BD ((b:Int)+16)=((b+16:Nat):Int):=by rw[show ((b:Int)+16)=((b+16:Nat):Int) by omega];exact c _ (by omega)
   rw[m];obtain⟨n,d,g,i⟩:=q (a/2^16) (b+16) (by omega) (by omega) (by omega);exact⟨n+16,by rw[d,show n+(b+16)=n+16+b by omega],g.shift,by omega⟩
  ·rw[show decide ((65536:Int)≤(a:Int))=false by simp;omega,tM];obtain⟨n,d,g,i⟩:=q a b j (by omega) (by omega);exact⟨n,d,g,by omega⟩
 unfold IS;by_cases s:4294967296≤x
 ·rw[show decide ((4294967296:Int)≤(x:Int))=true by simp;omega,tL,Vk x 32 (by omega)];obtain⟨n,d,g,i⟩:=t (x/2^32) 32 (by omega) (by omega) (by omega);exact⟨n+32,by rw[show ((32:Int))=((32:Nat):Int) from rfl,d],g.shift,by omega⟩
 ·rw[show decide ((4294967296:Int)≤(x:Int))=false by simp;omega,tM];obtain⟨n,d,g,i⟩:=t x 0 h0 (by omega) (by omega);exact⟨n,d,g,by omega⟩
def fN (N:Nat) {y:Nat}(h0:0<y) (a:y<18446744073709551616):∃s:Nat,Ez N (y:Int)=some (s:Int)∧s≤63∧9223372036854775808≤y*2^s∧y*2^s<18446744073709551616:=by
 obtain⟨n,b,⟨g,c,d⟩,i⟩:=ZV N h0 a;refine⟨64-n,?_,by omega,?_,?_⟩
 ·simp only[Ez,b,tJ];rw[QS (by unfold AA;omega)];congr 1;omega
 ·have:=wB (2^(64-n)) c;rw[←Nat.pow_add,show n-1+(64-n)=63 by omega] at this;exact this
 ·have:=Nat.mul_lt_mul_of_pos_right d (yE (64-n));rw[←Nat.pow_add,show n+(64-n)=64 by omega] at this;exact this
def Df.mk {α}(v:α):Df (some v):=⟨v,rfl⟩
def Df.bind {α β}{a:Option α}{f:α→Option β}(d:Df a) (k:∀v,a=some v→Df (f v)):Df (a.bind f):=by
 obtain⟨v,b⟩:=d;obtain⟨u,c⟩:=k v b;exact⟨u,by rw[b];exact c⟩
def Df.cond {α}{b:Bool}{x y:Option α}(a:b=true→Df x) (c:b=false→Df y):Df (cond b x y):=by
 cases b
 ·exact c rfl
 ·exact a rfl
def Fq {α}(b:Bool) (x y:α):cond b (some x) (some y)=some (cond b x y):=by cases b<;>rfl
def BG {α}{l:List α}{i:Nat}(a:i<l.length):ix l (i:Int)=some l[i]:=by simp [ix,a]
def Df.ix {α}{l:List α}{i:Int}(h0:0≤i) (a:i<l.length):Df (ix l i):=by
 obtain⟨j,rfl⟩:∃j:Nat,i=j:=⟨i.toNat,by omega⟩
 exact⟨_,BG (by omega)⟩
def Cv {n:Int}(h0: -9223372036854775808≤n) (a:n≤9223372036854775807):BD n=n:=QS ⟨h0,a⟩
def jR {n:Int}:∃j,Pg (IntKind.u64.wrap n)=some j∧(j:Int)=IntKind.u64.wrap n:=by
 have:=(N2.1 (Cf .u64 n)).1;exact⟨(IntKind.u64.wrap n).toNat,by unfold Pg;rw[tQ (by omega)],by omega⟩
def Vs {k:IntKind}{x y:Int}(a:y≠0):Df (RP k x y):=⟨_,by unfold RP;rw[tQ a]⟩
def iL {x y:Int}(a:y≠0):Df (Tp x y):=⟨_,by unfold Tp;rw[tQ a]⟩
def Zr (N:Nat) (c y:Int) (b a:Nat) (kj:Int→Option (Int×Int)) (d:∀v,Df (kj v)):∀(n:Nat) (q r:Int),IntKind.u64.has q→q.toNat<n→Df (C9 N c y b a kj n q r)
 |0,q,r,k,g=>by omega
 |n+1,q,r,k,g=>by
  have j:=N2.1 k;unfold C9;refine Df.cond (λi=>?_) λ_=>d _;have h0:q≠0:=by
   rintro rfl;have:=(N2.1 (Cf .u64 (IntKind.u64.wrap (4294967296*r)+EY .u64 (Di .u64 c a) 32))).1;simp [M5] at i this;omega
  have e:IntKind.u64.wrap (q-1)=q-1:=QQ (N2.2 (by omega));refine Df.cond (λ_=>d _) λ_=>?_;exact Zr N c y b a kj d n _ _ (Cf _ _) (by rw[e];omega)
def Zq (N:Nat) (c y:Int) (b a:Nat) (kj:Int→Option (Int×Int)) (d:∀v,Df (kj v)):∀(n:Nat) (r q:Int),IntKind.u64.has q→q.toNat<n→Df (DY N c y b a kj n r q)
 |0,r,q,k,g=>by omega
 |n+1,r,q,k,g=>by
  have j:=N2.1 k;unfold DY;refine Df.cond (λi=>?_) λ_=>d _;have h0:q≠0:=by
   rintro rfl;have:=(N2.1 (Cf .u64 (IntKind.u64.wrap (4294967296*r)+FL .and .u64 (Di .u64 c a) 4294967295))).1;simp [M5] at i this;omega
  have e:IntKind.u64.wrap (q-1)=q-1:=QQ (N2.2 (by omega));refine Df.cond (λ_=>d _) λ_=>?_;exact Zq N c y b a kj d n _ _ (Cf _ _) (by rw[e];omega)
def BN:Nat:=36893488147419103232
def qK:18446744073709551616<BN:=by decide
def cU {a s:Nat}(j:s≤63) (c:9223372036854775808≤a*2^s) (b:a*2^s<18446744073709551616):EY .u64 (Di .u64 (a:Int) s) 32≠0:=by
 have d:Di .u64 (a:Int) s=((a*2^s:Nat):Int):=by
  unfold Di;have g:min s IntKind.u64.bits=s:=by simp [IntKind.bits];omega
  have i:((a:Int)*2^s)=((a*2^s:Nat):Int):=by simp
  rw[g,i];exact Ep _ b
 rw[d,OJ];generalize a*2^s=t at c b
 omega
def jP (N:Nat) (i k y g:Int) (a b c d:Nat) (q v:Int):Df (E0 N i k y g a b c d q v):=by
 unfold E0;obtain⟨j,l,_⟩:=jR (n:=g);rw[l];exact Df.mk _
def jQ {N:Nat}(o:18446744073709551616<N) (l k y m:Int) (b g i c:Nat) (q:Int) (hd:EY .u64 (Di .u64 y b) 32≠0):Df (DZ N l k y m b g i c q):=by
 unfold DZ;refine Df.bind (Vs hd) λj d=>?_;have a:=OP d;have n:=(N2.1 a)
 exact Zq N k y b c _ (λv=>jP _ _ _ _ _ _ _ _ _ _ _) N _ j a (by omega)
def VL {N:Nat}(A:18446744073709551616<N) {o q y:Int}(B:IntKind.u64.has o) (h2:IntKind.u64.has q) (C:IntKind.u64.has y) (h:o<y):Df (Fa N o q y):=by
 have g1:=N2.1 B;have g:y≠0:=by omega
 have t:¬y≤o:=by omega
 unfold Fa;refine Df.cond (λp=>absurd (xG p) g) λ_=>Df.cond (λp=>absurd (xG p) t) λ_=>Df.cond (λ_=>?_) λ_=>?_
 ·exact Df.bind (Vs g) λ_ _=>Df.bind (iL g) λ_ _=>Df.mk _
 ·obtain⟨D,u,F⟩:=Zf C;obtain⟨s,G,H,I,J⟩:=fN N (show 0<D by omega) F;have hd:∀j:Nat,(j:Int)=IntKind.u64.wrap (s:Int)→EY .u64 (Di .u64 y j) 32≠0:=λj K=>by
   rw[Ep s (by omega)] at K;have:j=s:=by omega
   rw[this,u];exact cU H I J
  rw[u,G];rw[←u];refine Df.bind (Df.mk _) λw x=>?_;have i:w=(s:Int):=(tN x).symm;obtain⟨k,M,Q⟩:=jR (n:=w);obtain⟨U,V,_⟩:=jR (n:=(64-IntKind.u64.wrap w));have l:=hd k (by rw[Q,i]);rw[M,V];refine Df.bind (Df.mk _) λa W=>Df.bind (Df.mk _) λb hb=>Df.bind (Df.mk _) λc p=>Df.bind (Df.mk _) λd X=>?_;have Y:=tN W;rw[←Y];refine Df.bind (Vs l) λz Z=>?_;have m:=OP Z;have aa:=N2.1 m;exact Zr N q y k d _ (λv=>jQ A _ _ _ _ _ _ _ _ _ l) N z _ m (by omega)
def Y8 {N:Nat}(g:18446744073709551616<N) (a num den:Int):Df (Fo N a num den):=by
 unfold Fo;refine Df.cond (λ_=>Df.mk _) λb=>?_;simp only[uS,uO] at b;obtain⟨⟨⟨⟨⟨l,m⟩,o⟩,p⟩,q⟩,s⟩:=b;obtain⟨c,i⟩:∃n:Nat,a=n:=⟨a.toNat,by omega⟩
 obtain⟨d,j⟩:∃n:Nat,num=n:=⟨num.toNat,by omega⟩
 subst i;subst j;rw[Ep c (by omega),Ep d (by omega),R5 N c d (by omega) (by omega)];simp only[tJ];have hd:IntKind.u64.wrap den=den:=QQ (N2.2 (by omega));rw[hd];refine Df.cond (λ_=>Df.mk _) λb=>?_;simp only[uO] at b;have k:c*d<18446744073709551616*18446744073709551616:=Nat.mul_lt_mul'' (by omega) (by omega);refine Df.bind (VL g (N2.2 ⟨by omega,by omega⟩) (N2.2 ⟨by omega,by omega⟩) (N2.2 (by omega)) (by omega)) λv _=>?_;exact Df.cond (λ_=>Df.mk _) λ_=>Df.mk _
def M9 {N:Nat}(c:18446744073709551616<N) {num den:Int}(h0:0≤num) (k:0≤den) (l:den≤9223372036854775807):Df (Fp N num den):=by
 unfold Fp;refine Df.cond (λ_=>Df.mk _) λd=>?_;simp only[uO] at d;refine Df.cond (λ_=>Df.mk _) λa=>?_;simp only[uO] at a;obtain⟨b,g⟩:∃n:Nat,num=n:=⟨num.toNat,by omega⟩
 obtain⟨i,j⟩:∃n:Nat,den=n:=⟨den.toNat,by omega⟩
 subst g;subst j;rw[Ep b (by omega),Ep i (by omega),show(1099511627776:Int)=((1099511627776:Nat):Int) from rfl,R5 N b 1099511627776 (by omega) (by omega)];simp only[tJ];refine Df.bind (VL c (N2.2 ⟨by omega,by omega⟩) (N2.2 ⟨by omega,by omega⟩) (N2.2 (by omega)) (by omega)) λv _=>?_;exact Df.cond (λ_=>Df.mk _) λ_=>Df.mk _
def iY {i j:Nat}(b:i+j<9223372036854775808):BD (EY .u64 (IntKind.u64.wrap (BD ((i:Int)+(j:Int)))) 1)=(((i+j)/2:Nat):Int):=by
 have a:BD ((i:Int)+(j:Int))=((i+j:Nat):Int):=by rw[Cv (by omega) (by omega)];rfl
 rw[a,Ep _ (by omega),Vk _ 1 (by omega),Cv (by omega) (by omega)]
def QZ {N:Nat}(f:Int→Option Bool) (L:Nat) (c:L<4611686018427387904) (a:∀i:Nat,i<L→Df (f i)) (kj:Int→Option Int):∀(n i j:Nat),i≤j→j≤L→j-i<n→(0<i→f ((i-1:Nat):Int)=some false)→(j<L→f (j:Int)=some true)→
  ∃r:Nat,GG N f kj n (i:Int) (j:Int)=kj (r:Int)∧r≤L∧(0<r→f ((r-1:Nat):Int)=some false)∧(r<L→f (r:Int)=some true)
 |0,i,j,_,_,p,_,_=>by omega
 |n+1,i,j,m,d,o,g,k=>by
  unfold GG;by_cases l:i<j
  ·rw[show decide ((i:Int)<(j:Int))=true by simp;omega,tL,iY (by omega)];obtain⟨v,b⟩:=a ((i+j)/2) (by omega);rw[b];simp only[tJ];cases v
   ·simp only[Bool.not_false,tL];have e:BD ((((i+j)/2:Nat):Int)+1)=(((i+j)/2+1:Nat):Int):=by rw[Cv (by omega) (by omega)];rfl
    rw[e];exact QZ f L c a kj n _ j (by omega) d (by omega) (λ_=>by rw[Nat.add_sub_cancel];exact b) k
   ·simp only[uP,tM];exact QZ f L c a kj n i _ (by omega) (by omega) (by omega) g (λ_=>b)
  ·have e:i=j:=by omega
   subst e;rw[show decide ((i:Int)<(i:Int))=false by simp,tM];exact⟨i,rfl,d,g,k⟩
def Xz {N:Nat}(f:Int→Option Bool) (L:Nat) (a:L<4611686018427387904) (g:L<N) (b:∀i:Nat,i<L→Df (f i)):∃r:Nat,LK N (L:Int) f=some (r:Int)∧r≤L∧(0<r→f ((r-1:Nat):Int)=some false)∧(r<L→f (r:Int)=some true):=by
 obtain⟨r,c,d⟩:=QZ (N:=N) f L a b (Io N) N 0 L (tU _) (tX _) (by omega) (λj=>absurd j (by omega)) (λj=>absurd j (by omega));exact⟨r,c,d⟩
def I3 (n:Int):Prop:=0≤n∧n≤1125899906842624
def H5 (c:List BS):Prop:=1≤c.length∧c.length≤32∧∀(k:Nat) p,c[k]? =some p→I3 p.P∧I3 p.X∧∀q,0<k→c[k-1]? =some q→q.P<p.P∧q.X≤p.X
def VM {N:Nat}(c:List BS) (o:c.length≤32):∀(n k:Nat),c.length<n+k→k≤c.length→∃v,Ea N c (G1 N) n (k:Int)=some v∧(v=true→∀(i:Nat) p,k≤i→c[i]? =some p→I3 p.P∧I3 p.X∧∀q,0<i→c[i-1]? =some q→q.P<p.P∧q.X≤p.X)
 |0,k,A,s=>by omega
 |n+1,k,A,s=>by
  unfold Ea;by_cases g:k<c.length
  ·rw[show decide ((k:Int)<(c.length:Int))=true by simp;omega,tL,BG g];simp only[tJ];cases t:(decide ((c[k]).P<0)||decide (1125899906842624<(c[k]).P)||decide ((c[k]).X<0)||decide (1125899906842624<(c[k]).X))
   ·simp only[tM];simp only[uS,uO] at t;obtain⟨v,u,l⟩:=VM (N:=N) c o n (k+1) (by omega) (by omega);have w:BD ((k:Int)+1)=((k+1:Nat):Int):=by rw[Cv (by omega) (by omega)];rfl
    rw[w,u];by_cases h0:0<k
    ·have x:BD ((k:Int)-1)=((k-1:Nat):Int):=by rw[Cv (by omega) (by omega)];omega
     rw[show decide ((0:Int)<(k:Int))=true by simp;omega,x,BG (show k-1<c.length by omega)];simp only[tL,tJ,Fq];cases b:cond (decide ((c[k]).P≤(c[k-1]).P)) true (decide ((c[k]).X<(c[k-1]).X))
     ·simp only[tM];refine⟨v,rfl,λd i p m a=>?_⟩;by_cases e:i=k
      ·subst e;have:p=c[i]:=by simpa [g] using a.symm
       subst this;refine⟨⟨by omega,by omega⟩,⟨by omega,by omega⟩,λq _ y=>?_⟩;have:q=c[i-1]:=by simpa [show i-1<c.length by omega] using y.symm
       subst this;cases j:decide ((c[i]).P≤(c[i-1]).P) with
       |true=>rw[j] at b;simp at b
       |false=>
        rw[j] at b;simp only[tM,uO] at b j;omega
      ·exact l d i p (by omega) a
     ·exact⟨false,rfl,λA=>by cases A⟩
    ·have z:k=0:=by omega
     subst z;rw[show decide ((0:Int)<((0:Nat):Int))=false by simp];simp only[tM,tJ];refine⟨v,rfl,λd i p m a=>?_⟩;by_cases e:i=0
     ·subst e;have:p=c[0]:=by simpa [g] using a.symm
      subst this;exact⟨⟨by omega,by omega⟩,⟨by omega,by omega⟩,λq A _=>absurd A (by omega)⟩
     ·exact l d i p (by omega) a
   ·exact⟨false,rfl,λA=>by cases A⟩
  ·rw[show decide ((k:Int)<(c.length:Int))=false by simp;omega,tM];refine⟨true,rfl,λ_ i p m a=>?_⟩;have:=(uB.1 a).1;omega
def Ja {N:Nat}(j:33<N) (c:List BS):∃v,Eb N c=some v∧(v=true→H5 c):=by
 unfold Eb;cases a:(decide ((c.length:Int)<1)||decide (32<(c.length:Int)))
 ·simp only[uS,uO] at a;obtain⟨v,b,d⟩:=VM (N:=N) c (by omega) N 0 (by omega) (by omega);exact⟨v,b,λg=>⟨by omega,by omega,λk p i=>d g k p (by omega) i⟩⟩
 ·exact⟨false,rfl,λl=>by cases l⟩
def Rj {N:Nat}(b:18446744073709551616<N) {c:List BS}(l:1≤c.length) (m:c.length≤32) (x:Int):Df (Ie N c x):=by
 unfold Ie;obtain⟨r,d,n,_⟩:=Xz (N:=N) (λy=>IG N c x y) c.length (by omega) (by omega) λi g=>by
  unfold IG;rw[BG g];exact Df.mk _
 rw[d];simp only[tJ];refine Df.cond (λ_=>Df.bind (Df.ix (by omega) (by omega)) λ_ _=>Df.mk _) λj=>?_;simp only[uO] at j;have k:BD ((r:Int)-1)=((r-1:Nat):Int):=by rw[Cv (by omega) (by omega)];omega
 rw[k];refine Df.bind (Df.ix (by omega) (by omega)) λ_ _=>Df.cond (λ_=>Df.mk _) λa=>?_;simp only[uO] at a;exact Df.bind (Df.ix (by omega) (by omega)) λ_ _=>Df.bind (Df.ix (by omega) (by omega)) λ_ _=>Df.bind (Y8 b _ _ _) λ_ _=>Df.mk _
def R9 {Y b d q r:Nat}(g:q*(Y/4294967296)+r=b):q*(Y%4294967296)≤4294967296*r+d↔q*Y≤b*4294967296+d:=by
 have e:q*Y=4294967296*(q*(Y/4294967296))+q*(Y%4294967296):=by
  conv=>lhs;rw[←yF Y 4294967296,Nat.mul_add,Nat.mul_left_comm]
 rw[e,←g];generalize q*(Y/4294967296)=a
 generalize q*(Y%4294967296)=c
 omega
def Za {Y a b q:Nat}(d:a<Y) (g:b<4294967296) (c:4294967296≤q):a*4294967296+b<q*Y:=by
 have i:4294967296*Y≤q*Y:=wB _ c;omega
def Zb {Y a b q r:Nat}(c:q*(Y/4294967296)+r=a) (d:1≤q) (g:q≤4294967297) (i:4294967296≤r+Y/4294967296):(q-1)*Y≤a*4294967296+b:=by
 have e:(q-1)*(Y/4294967296)+(r+Y/4294967296)=a:=by
  obtain⟨p,rfl⟩:∃p,q=p+1:=⟨q-1,by omega⟩
  rw[vW] at c;simp only[Nat.add_sub_cancel];omega
 refine(R9 e).1 ?_;have j:(q-1)*(Y%4294967296)≤4294967296*(Y%4294967296):=wB _ (by omega);have k:Y%4294967296<4294967296:=wO _ (by omega);omega
def cX {Y U q:Nat}(c:0<Y) (a:q*Y≤U) (b:U<(q+1)*Y):U/Y=q:=Nat.div_eq_of_lt_le a b
def VB {Y a:Nat}(g:9223372036854775808≤Y) (l:Y<18446744073709551616) (m:a<Y) (d:Nat) (n:d<4294967296):a/(Y/4294967296)≤4294967297∧a/(Y/4294967296)*(Y/4294967296)+a%(Y/4294967296)=a∧a*4294967296+d<(a/(Y/4294967296)+1)*Y∧a%(Y/4294967296)<4294967296:=by
 have i:2147483648≤Y/4294967296:=by omega
 have j:Y/4294967296<4294967296:=by omega
 have b:0<Y/4294967296:=by omega
 have o:a%(Y/4294967296)<Y/4294967296:=wO _ b;have c:a/(Y/4294967296)*(Y/4294967296)+a%(Y/4294967296)=a:=by rw[xM];exact yF _ _
 refine⟨?_,c,?_,by omega⟩
 ·refine xH ((yR b).2 ?_);omega
 ·have k:(a/(Y/4294967296)+1)*(4294967296*(Y/4294967296))≤(a/(Y/4294967296)+1)*Y:=Nat.mul_le_mul_left _ (by omega);rw[Nat.mul_left_comm,vW,Nat.one_mul] at k;omega
def TU (N:Nat) (p y:Int) (g i:Nat) (Y a b:Nat) (B:Di .u64 y g=(Y:Int)) (C:Di .u64 p i=(a:Int)) (s:9223372036854775808≤Y) (d:Y<18446744073709551616) (k:a<18446744073709551616) (D:b<Y) (kj:Int→Option (Int×Int)):
  ∀(n q r:Nat),q<n→q≤4294967297→r<4294967296→q*(Y/4294967296)+r=b→b*4294967296+a/4294967296<(q+1)*Y→
  C9 N p y g i kj n (q:Int) (r:Int)=kj (((b*4294967296+a/4294967296)/Y:Nat):Int)
 |0,q,r,U,_,_,_,_=>by omega
 |n+1,q,r,K,F,M,t,G=>by
  have H:Y/4294967296<4294967296:=by omega
  have l:Y%4294967296<4294967296:=wO _ (by omega);have u:a/4294967296<4294967296:=by omega
  simp only[C9];rw[B,C,OJ,OJ,R6 Y d,P9,show(4294967296:Int)=((4294967296:Nat):Int) from rfl,P9,Ep _ (show 4294967296*r<18446744073709551616 by omega),TZ,Ep _ (show 4294967296*r+a/4294967296<18446744073709551616 by omega),TZ,Ep (r+Y/4294967296) (by omega)];cases o:(decide (((4294967296:Nat):Int)≤(q:Int))||decide (((4294967296*r+a/4294967296:Nat):Int)<IntKind.u64.wrap ((q*(Y%4294967296):Nat):Int)))
  ·simp only[uS,uO] at o;obtain⟨Q,I⟩:=o;have c:q<4294967296:=by omega
   have v:q*(Y%4294967296)<18446744073709551616:=yG (xX (xH c) (xH l)) (by decide);rw[Ep _ v] at I;rw[tM,cX (by omega) ((R9 t).1 (by omega)) G]
  ·rw[tL];have j:b*4294967296+a/4294967296<q*Y:=by
    rcases uM q 4294967296 with c|c
    ·have v:q*(Y%4294967296)<18446744073709551616:=yG (xX (xH c) (xH l)) (by decide);rw[Ep _ v] at o;simp only[uD,uF] at o;refine Nat.lt_of_not_le λw=>?_;have:=(R9 t).2 w;omega
    ·exact Za D u c
   have x:1≤q:=by
    rcases yS q with e|e
    ·rw[e,Nat.zero_mul] at j;omega
    ·exact e
   have z:IntKind.u64.wrap ((q:Int)-1)=((q-1:Nat):Int):=by rw[show (q:Int)-1=((q-1:Nat):Int) by omega];exact Ep _ (by omega)
   rw[z];have A:q-1+1=q:=by omega
   cases m:decide (((4294967296:Nat):Int)≤((r+Y/4294967296:Nat):Int))
   ·rw[tM];have J:(q-1)*(Y/4294967296)+(r+Y/4294967296)=b:=by
     have:q*(Y/4294967296)=(q-1)*(Y/4294967296)+Y/4294967296:=by
      conv=>lhs;rw[←A,vW,Nat.one_mul]
     omega
    simp only[uO] at m;exact TU N p y g i Y a b B C s d k D kj n (q-1) (r+Y/4294967296) (by omega) (by omega) (by omega) J (by rw[A];exact j)
   ·rw[tL];simp only[uF] at m;rw[cX (by omega) (Zb t x F (by omega)) (by rw[A];exact j)]
def TT (N:Nat) (p y:Int) (i j:Nat) (Y a b:Nat) (B:Di .u64 y i=(Y:Int)) (C:Di .u64 p j=(a:Int)) (s:9223372036854775808≤Y) (d:Y<18446744073709551616) (g:a<18446744073709551616) (D:b<Y) (kj:Int→Option (Int×Int)):
  ∀(n q r:Nat),q<n→q≤4294967297→r<4294967296→q*(Y/4294967296)+r=b→b*4294967296+a%4294967296<(q+1)*Y→
  DY N p y i j kj n (r:Int) (q:Int)=kj (((b*4294967296+a%4294967296)/Y:Nat):Int)
 |0,q,r,U,_,_,_,_=>by omega
 |n+1,q,r,K,F,M,t,G=>by
  have H:Y/4294967296<4294967296:=by omega
  have l:Y%4294967296<4294967296:=wO _ (by omega);have u:a%4294967296<4294967296:=wO _ (by omega);simp only[DY];rw[B,C,OJ,R6 a g,R6 Y d,P9,show(4294967296:Int)=((4294967296:Nat):Int) from rfl,P9,Ep _ (show 4294967296*r<18446744073709551616 by omega),TZ,Ep _ (show 4294967296*r+a%4294967296<18446744073709551616 by omega),TZ,Ep (r+Y/4294967296) (by omega)];cases o:(decide (((4294967296:Nat):Int)≤(q:Int))||decide (((4294967296*r+a%4294967296:Nat):Int)<IntKind.u64.wrap ((q*(Y%4294967296):Nat):Int)))
  ·simp only[uS,uO] at o;obtain⟨Q,I⟩:=o;have c:q<4294967296:=by omega
   have v:q*(Y%4294967296)<18446744073709551616:=yG (xX (xH c) (xH l)) (by decide);rw[Ep _ v] at I;rw[tM,cX (by omega) ((R9 t).1 (by omega)) G]
  ·rw[tL];have k:b*4294967296+a%4294967296<q*Y:=by
    rcases uM q 4294967296 with c|c
    ·have v:q*(Y%4294967296)<18446744073709551616:=yG (xX (xH c) (xH l)) (by decide);rw[Ep _ v] at o;simp only[uD,uF] at o;refine Nat.lt_of_not_le λw=>?_;have:=(R9 t).2 w;omega
    ·exact Za D u c
   have x:1≤q:=by
    rcases yS q with e|e
    ·rw[e,Nat.zero_mul] at k;omega
    ·exact e
   have z:IntKind.u64.wrap ((q:Int)-1)=((q-1:Nat):Int):=by rw[show (q:Int)-1=((q-1:Nat):Int) by omega];exact Ep _ (by omega)
   rw[z];have A:q-1+1=q:=by omega
   cases m:decide (((4294967296:Nat):Int)≤((r+Y/4294967296:Nat):Int))
   ·rw[tM];have J:(q-1)*(Y/4294967296)+(r+Y/4294967296)=b:=by
     have:q*(Y/4294967296)=(q-1)*(Y/4294967296)+Y/4294967296:=by
      conv=>lhs;rw[←A,vW,Nat.one_mul]
     omega
    simp only[uO] at m;exact TT N p y i j Y a b B C s d g D kj n (q-1) (r+Y/4294967296) (by omega) (by omega) (by omega) J (by rw[A];exact k)
   ·rw[tL];simp only[uF] at m;rw[cX (by omega) (Zb t x F (by omega)) (by rw[A];exact k)]
def iM (a b:Nat) (d:b≠0) (c:a<18446744073709551616):RP .u64 (a:Int) (b:Int)=some ((a/b:Nat):Int):=by
 unfold RP;rw[tQ (by omega)];have e:(a:Int).tdiv (b:Int)=((a/b:Nat):Int):=rfl;have:a/b≤a:=Nat.div_le_self _ _;rw[e,Ep _ (by omega)]
def rL (a b:Nat) (c:b≠0):Tp (a:Int) (b:Int)=some ((a%b:Nat):Int):=by
 unfold Tp;rw[tQ (by omega)];rfl
def iG (a s:Nat) (d:s≤64):Di .u64 (a:Int) s=((a*2^s%18446744073709551616:Nat):Int):=by
 unfold Di;have b:min s IntKind.u64.bits=s:=by simp [IntKind.bits];omega
 have c:((a:Int)*2^s)=((a*2^s:Nat):Int):=by simp
 rw[b,c];exact fC _
def orN (a b:Nat) (g:a<18446744073709551616) (i:b<18446744073709551616):FL .or .u64 (a:Int) (b:Int)=((a|||b:Nat):Int):=by
 have c:(BitVec.ofInt 64 (a:Int)).toNat=a:=by rw[BitVec.ofInt_natCast,BitVec.toNat_ofNat];exact xR (by omega)
 have d:(BitVec.ofInt 64 (b:Int)).toNat=b:=by rw[BitVec.ofInt_natCast,BitVec.toNat_ofNat];exact xR (by omega)
 have j:a|||b<2^64:=Nat.or_lt_two_pow (by omega) (by omega)
 show IntKind.u64.wrap (((BitVec.ofInt 64 (a:Int))|||(BitVec.ofInt 64 (b:Int))).toNat:Int)=_
 rw[BitVec.toNat_or,c,d,Ep _ (by omega)]
def W3 (a b:Nat):a=a/b*b+a%b:=by rw[xM];exact(yF a b).symm
def Yq {Y A B u:Nat}(a:0<Y):(A*B+u)/Y=A/Y*B+(A%Y*B+u)/Y∧(A*B+u)%Y=(A%Y*B+u)%Y:=by
 have b:=yF A Y;have e:A*B+u=Y*(A/Y*B)+(A%Y*B+u):=by
  conv=>lhs;rw[←b,vW,Nat.mul_assoc,xJ]
 rw[e];exact⟨by rw[Nat.mul_add_div a],by rw[Nat.mul_add_mod]⟩
def NV {a b q Y R:Nat}(g:a=q*Y+R) (c:R<18446744073709551616) (d:b=a%18446744073709551616):IntKind.u64.wrap ((b:Int)-IntKind.u64.wrap ((q*Y:Nat):Int))=(R:Int):=by
 rw[M5,M5];generalize q*Y=t at g
 omega
def YH {N:Nat}(X:18446744073709551616<N) (w l y:Int) (s:Nat) (Z:s≤63) (m n:Nat) (Y c g k d:Nat) (p:Di .u64 y s=(Y:Int)) (q:Di .u64 l s=(c:Int)) (x:FL .or .u64 (Di .u64 w m) (EY .u64 l n)=(g:Int))
  (o:9223372036854775808≤Y) (i:Y<18446744073709551616) (j:c<18446744073709551616) (hu:g<Y) (D:(g*4294967296+c/4294967296)=k*Y+d) (A:d<Y) (F:k<4294967296):
  DZ N w l y (s:Int) s m n s (k:Int)=some (((k*4294967296+(d*4294967296+c%4294967296)/Y:Nat):Int),(((d*4294967296+c%4294967296)%Y/2^s:Nat):Int)):=by
 have G:0<Y/4294967296:=by omega
 have H:Y/4294967296<4294967296:=by omega
 have u:c%4294967296<4294967296:=wO _ (by omega);have B:IntKind.u64.wrap (IntKind.u64.wrap (IntKind.u64.wrap ((g:Int)*4294967296)+EY .u64 (Di .u64 l s) 32)-IntKind.u64.wrap ((k:Int)*(Y:Int)))=(d:Int):=by
  rw[q,OJ,P9];refine(tK (λz=>IntKind.u64.wrap (z-_)) ?_).trans (NV (b:=(g*4294967296+c/4294967296)%18446744073709551616) D (by omega) rfl);rw[M5,M5];omega
 obtain⟨I,C,J,K⟩:=VB o i A (c%4294967296) u;unfold DZ;rw[x,p,B,OJ,iM _ _ (by omega) (by omega)];simp only[tJ];have M:IntKind.u64.wrap ((d:Int)-IntKind.u64.wrap (((d/(Y/4294967296):Nat):Int)*((Y/4294967296:Nat):Int)))=((d%(Y/4294967296):Nat):Int):=by
  rw[P9];exact NV (a:=d) C.symm (by omega) (by omega)
 rw[M,TT N l y s s Y c d p q o i j A _ N _ _ (by omega) I K C J];unfold E0;have Q:Pg (IntKind.u64.wrap (s:Int))=some s:=by
  rw[Ep s (by omega)];unfold Pg;rw[tQ (by omega)];simp
 rw[x,p,Q,B,q,R6 c j];simp only[tJ];have hd:=yF (d*4294967296+c%4294967296) Y;have v:(d*4294967296+c%4294967296)/Y<4294967296:=(yR (by omega)).2 (by omega);have U:(d*4294967296+c%4294967296)%Y<Y:=wO _ (by omega);have V:IntKind.u64.wrap (IntKind.u64.wrap (IntKind.u64.wrap ((d:Int)*4294967296)+((c%4294967296:Nat):Int))-IntKind.u64.wrap (((((d*4294967296+c%4294967296)/Y:Nat)):Int)*(Y:Int)))=(((d*4294967296+c%4294967296)%Y:Nat):Int):=by
  rw[P9];refine(tK (λz=>IntKind.u64.wrap (z-_)) ?_).trans (NV (a:=d*4294967296+c%4294967296) (b:=(d*4294967296+c%4294967296)%18446744073709551616) (W3 _ _) (by omega) rfl);rw[M5,M5];omega
 have W:IntKind.u64.wrap (IntKind.u64.wrap ((k:Int)*4294967296)+((((d*4294967296+c%4294967296)/Y:Nat)):Int))=((k*4294967296+(d*4294967296+c%4294967296)/Y:Nat):Int):=by
  rw[M5,M5];generalize (d*4294967296+c%4294967296)/Y=t at v
  omega
 rw[V,W,Vk _ s (by omega)]
def dA (a u:Nat):(a*4294967296+u/4294967296)*4294967296+u%4294967296=a*18446744073709551616+u:=by omega
def Zp {N:Nat}(D:18446744073709551616<N) (o m y:Int) (s:Nat) (F:s≤63) (g i:Nat) (Y c b:Nat) (p:Di .u64 y s=(Y:Int)) (w:Di .u64 m s=(c:Int)) (x:FL .or .u64 (Di .u64 o g) (EY .u64 m i)=(b:Int))
  (l:9223372036854775808≤Y) (j:Y<18446744073709551616) (k:c<18446744073709551616) (q:b<Y):
  ((RP .u64 (FL .or .u64 (Di .u64 o g) (EY .u64 m i)) (EY .u64 (Di .u64 y s) 32)).bind λn=>
   C9 N m y s s (DZ N o m y (s:Int) s g i s) N n (IntKind.wrap .u64 ((FL .or .u64 (Di .u64 o g) (EY .u64 m i))-(IntKind.wrap .u64 (n*(EY .u64 (Di .u64 y s) 32))))))=
  some ((((b*18446744073709551616+c)/Y:Nat):Int),(((b*18446744073709551616+c)%Y/2^s:Nat):Int)):=by
 have d:0<Y:=by omega
 have t:c/4294967296<4294967296:=by omega
 obtain⟨G,z,H,I⟩:=VB l j q (c/4294967296) t;obtain⟨C,t2⟩:=Yq (Y:=Y) (A:=b*4294967296+c/4294967296) (B:=4294967296) (u:=c%4294967296) d;rw[dA] at C t2;rw[C,t2,x,p,OJ,iM _ _ (by omega) (by omega)];simp only[tJ];have J:IntKind.u64.wrap ((b:Int)-IntKind.u64.wrap (((b/(Y/4294967296):Nat):Int)*((Y/4294967296:Nat):Int)))=((b%(Y/4294967296):Nat):Int):=by
  rw[P9];exact NV (a:=b) z.symm (by omega) (by omega)
 have v:(b*4294967296+c/4294967296)/Y<4294967296:=(yR d).2 (by omega);rw[J,TU N _ _ s s Y c b p w l j k q _ N _ _ (by omega) G I z H];exact YH D _ _ _ s F g i Y c b _ _ p w x l j k q (W3 _ _) (wO _ d) v
def Y4 {g l s M:Nat}(b:M=2^64) (d:s≤63):(g*2^s+l/2^(64-s))*M+l*2^s%M=(g*M+l)*2^s:=by
 have e:(2:Nat)^64=2^(64-s)*2^s:=by rw[←Nat.pow_add];congr 1;omega
 have c:l*2^s/M=l/2^(64-s):=by
  rw[b,e,Nat.mul_div_mul_right _ _ (yE s)]
 have a:=yF (l*2^s) M;rw[c] at a;rw[vW,vW,Nat.mul_right_comm g,xJ,xM (l/2^(64-s)) M];exact tK _ a
def Zs {N:Nat}(o:18446744073709551616<N) (B l y:Nat) (c:l<18446744073709551616) (p:y<18446744073709551616) (k:B<y):
  Fa N (B:Int) (l:Int) (y:Int)=some ((((B*18446744073709551616+l)/y:Nat):Int),(((B*18446744073709551616+l)%y:Nat):Int)):=by
 unfold Fa;rw[show decide ((y:Int)=0)=false by simp;omega,show decide ((y:Int)≤(B:Int))=false by simp;omega,tM,tM];rcases yS B with e|hp
 ·subst e;rw[show decide (((0:Nat):Int)=0)=true by simp,tL,iM _ _ (by omega) c,rL _ _ (by omega),Nat.zero_mul,uT];rfl
 ·rw[show decide ((B:Int)=0)=false by simp;omega,tM];obtain⟨s,q,m,u,d⟩:=fN N (show 0<y by omega) p;have n:∀t:Nat,t≤64→Pg (IntKind.u64.wrap (t:Int))=some t:=λt A=>by
   rw[Ep t (by omega)];unfold Pg;rw[tQ (by omega)];simp
  have g:(64:Int)-IntKind.u64.wrap (s:Int)=((64-s:Nat):Int):=by rw[Ep s (by omega)];omega
  rw[q,tJ,g,n s (by omega),n (64-s) (by omega),tJ,tJ,tJ,tJ];have a:B*2^s<18446744073709551616:=yG (wB _ (Nat.le_of_lt k)) d;have b:l/2^(64-s)<2^s:=by
   refine(yR (yE _)).2 ?_;rw[←Nat.pow_add,show s+(64-s)=64 by omega];exact c
  have i:l/2^(64-s)<18446744073709551616:=yG (Nat.div_le_self _ _) c;have j:B*2^s|||l/2^(64-s)=B*2^s+l/2^(64-s):=by
   rw[xM B];exact(Nat.two_pow_add_eq_or_of_lt b B).symm
  have v:Di .u64 (y:Int) s=((y*2^s:Nat):Int):=by rw[iG _ _ (by omega),xR d]
  have w:Di .u64 (l:Int) s=((l*2^s%18446744073709551616:Nat):Int):=iG _ _ (by omega);have x:FL .or .u64 (Di .u64 (B:Int) s) (EY .u64 (l:Int) (64-s))=((B*2^s+l/2^(64-s):Nat):Int):=by
   rw[iG _ _ (by omega),Vk _ _ (by omega),xR a,orN _ _ a i,j]
  have z:B*2^s+l/2^(64-s)<y*2^s:=by
   have:(B+1)*2^s≤y*2^s:=wB _ k;rw[vW,Nat.one_mul] at this;exact tZ (Nat.add_lt_add_left b _) this
  have hd:=Zp o (B:Int) (l:Int) (y:Int) s m s (64-s) _ _ _ v w x u d (wO _ (by omega)) z;rw[Y4 (M:=18446744073709551616) rfl m,Nat.mul_div_mul_right _ _ (yE s),Nat.mul_mod_mul_right,Nat.mul_div_cancel _ (yE s)] at hd;exact hd
def nU (a n d:Int):Int×Int×Bool:=if (0≤a∧a≤1125899906842624)∧(0≤n∧n≤1125899906842624)∧(1≤d∧d≤1125899906842624)∧a*n/d≤1125899906842624 then (a*n/d,a*n%d,true) else (0,0,false)
def iH {t d:Nat}(hd:0<d) (a:d≤t/18446744073709551616):18446744073709551616≤t/d:=by
 refine(Nat.le_div_iff_mul_le hd).2 ?_;omega
def OK {N:Nat}(t:18446744073709551616<N) (a n d:Int):Fo N a n d=some (nU a n d):=by
 unfold Fo nU;cases m:(((((decide (a<0)||decide (1125899906842624<a))||decide (n<0))||decide (1125899906842624<n))||decide (d<1))||decide (1125899906842624<d))
 ·simp only[uS,uO] at m;obtain⟨⟨⟨⟨⟨y,z⟩,A⟩,B⟩,C⟩,D⟩:=m;obtain⟨b,rfl⟩:∃k:Nat,a=k:=⟨a.toNat,by omega⟩
  obtain⟨c,rfl⟩:∃k:Nat,n=k:=⟨n.toNat,by omega⟩
  obtain⟨g,rfl⟩:∃k:Nat,d=k:=⟨d.toNat,by omega⟩
  rw[tM,Ep b (by omega),Ep c (by omega),Ep g (by omega),R5 N b c (by omega) (by omega)];simp only[tJ];have u:(b:Int)*(c:Int)/(g:Int)=((b*c/g:Nat):Int):=by rw[Int.natCast_ediv,Int.natCast_mul]
  have v:(b:Int)*(c:Int)%(g:Int)=((b*c%g:Nat):Int):=by rw[Int.natCast_emod,Int.natCast_mul]
  rw[u,v];have o:b*c/18446744073709551616*18446744073709551616+b*c%18446744073709551616=b*c:=(W3 _ _).symm;have j:0<g:=by omega
  by_cases l:g≤b*c/18446744073709551616
  ·rw[show decide ((g:Int)≤((b*c/18446744073709551616:Nat):Int))=true from uQ (Int.ofNat_le.2 l),tL,tQ];intro F;have p:=F.2.2.2;have w:=iH j l;generalize b*c/g=q at p w
   omega
  ·have s:¬(g:Int)≤((b*c/18446744073709551616:Nat):Int):=λF=>l (Int.ofNat_le.1 F);rw[tY s,tM,Zs t _ _ _ (wO _ (by omega)) (by omega) (Nat.lt_of_not_le l),o];simp only[tJ];have x:b*c%g<g:=wO _ j;generalize b*c/g=q
   generalize b*c%g=r at x
   by_cases p:q≤1125899906842624
   ·have i:¬(1125899906842624:Int)<(q:Int):=by omega
    rw[tY i,tM,tT ⟨by omega,by omega,by omega,by omega⟩,Cv (by omega) (by omega),Cv (by omega) (by omega)]
   ·have i:(1125899906842624:Int)<(q:Int):=by omega
    rw[uQ i,tL,tQ (λF=>p (by have:=F.2.2.2;omega))]
 ·rw[tL,tQ];intro F;simp only[uD,uF] at m;omega
def K8 (b x:Bool):cond b true x=(b||x):=by cases b<;>rfl
def Pf (b x:Bool):cond b x false=(b&&x):=by cases b<;>rfl
def BH {k:Nat}(a:k<4611686018427387904):BD ((k:Int)+1)=((k+1:Nat):Int):=by rw[Cv (by omega) (by omega)];rfl
def EZ {k L:Nat}(a:k<L):decide ((k:Int)<(L:Int))=true:=by simp;omega
def Eg {k L:Nat}(a:L≤k):decide ((k:Int)<(L:Int))=false:=by simp;omega
def I4 (L:Nat) (f:Nat→Int→Option Bool) (kj:Option Bool) (P:Nat→Prop) (a:∀n (k:Nat),L≤k→f (n+1) (k:Int)=kj) (b:∀n (k:Nat),k<L→f (n+1) (k:Int)=some false∨(P k∧f (n+1) (k:Int)=f n ((k+1:Nat):Int))):
  ∀n (k:Nat),L<n+k→k≤L→f n (k:Int)=some false∨((∀i,k≤i→i<L→P i)∧f n (k:Int)=kj)
 |0,k,o,l=>by omega
 |n+1,k,o,l=>by
  rcases uM k L with d|d
  ·rcases b n k d with g|⟨g,h2⟩
   ·exact .inl g
   ·rcases I4 L f kj P a b n (k+1) (by omega) (by omega) with j|⟨j,h4⟩
    ·exact .inl (h2.trans j)
    ·refine .inr ⟨λi m c=>?_,h2.trans h4⟩;by_cases e:i=k
     ·subst e;exact g
     ·exact j i (by omega) c
  ·exact .inr ⟨λi m c=>by omega,a n k d⟩
def Wq {σ q:Type}(L:Nat) (f:Nat→Int→σ→Option q) (kj:σ→Option q) (I:σ→Prop) (a:∀n (k:Nat) s,L≤k→f (n+1) (k:Int) s=kj s) (b:∀n (k:Nat) s,I s→k<L→∃s',I s'∧f (n+1) (k:Int) s=f n ((k+1:Nat):Int) s'):
  ∀n (k:Nat) s,I s→L<n+k→k≤L→∃s',I s'∧f n (k:Int) s=kj s'
 |0,k,s,_,t,g=>by omega
 |n+1,k,s,d,t,g=>by
  rcases uM k L with c|c
  ·obtain⟨i,j,l⟩:=b n k s d c;obtain⟨m,o,p⟩:=Wq L f kj I a b n (k+1) i j (by omega) (by omega);exact⟨m,o,l.trans p⟩
  ·exact⟨s,d,a n k s c⟩
def Tf (n:Int):Bool:=decide (0≤n)&&decide (n≤1125899906842624)
def K2 {n:Int}(a:Tf n=true):I3 n:=by simpa [Tf,I3] using a
def MA (N:Nat) (n:Int):CJ N n=some (Tf n):=rfl
def Zd (n a b:Int):Bool:=decide (a≤n)&&decide (n≤b)
def NE (N:Nat) (n a b:Int):CV N n a b=some (Zd n a b):=rfl
def KR {n a b:Int}(c:Zd n a b=true):a≤n∧n≤b:=by simpa [Zd] using c
def TP (a b:Int):Bool:=(Tf a&&Tf b)&&(decide (b≠0)||decide (a=0))
def QE (N:Nat) (a b:Int):G2 N a b=some (TP a b):=by
 simp only[G2,MA,tJ,Fq,Pf,TP]
def O1 {a b:Int}(c:TP a b=true):I3 a∧I3 b:=by
 simp only[TP,tO] at c;exact⟨K2 c.1.1,K2 c.1.2⟩
def QB (N:Nat) (n:Int) {L:Nat}(a:L<4611686018427387904):E8 N n (L:Int)=some (Zd n 0 ((L:Int)-1)):=by
 simp only[E8,NE,tJ];rw[Cv (by omega) (by omega)]
def Uf (L:Nat) (fr to:Int):Bool:=decide (to= -1)||(Zd to 0 ((L:Int)-1)&&decide (to≠fr))
def QU (N:Nat) (b:AF) (fr to:Int) (a:b.A.length<4611686018427387904):Iw N b fr to=some (Uf b.A.length fr to):=by
 simp only[Iw,QB N _ a,tJ,Fq,K8,Uf]
def WW {L:Nat}{fr to:Int}(a:Uf L fr to=true):to= -1∨(0≤to∧to<L):=by
 simp only[Uf,uD,tO,uF] at a;rcases a with a|a
 ·exact .inl a
 ·have:=KR a.1;exact .inr ⟨this.1,by omega⟩
structure H1 (b:AF):Prop where
 own:b.H.length≤16
 cells:0≤b.O∧b.O≤64
 pl:b.A.length≤64
 li:b.E.length≤96
 to:b.Ab.length≤40
 ga:b.Ad.length≤128
 ro:b.Ae.length≤128
 sh:b.Ag.length≤40
 own1:1≤b.H.length
def T8 {s:ByteArray}{k:Nat}(a:k<s.size):∃z,T9 s (k:Int)=some z:=by
 unfold T9;rw[tQ (by omega)];simp only[vR];exact⟨_,by rw[getElem?_pos s k a];rfl⟩
def cY {N:Nat}(q:1000<N) (b:AF):∃v,IT N b=some v∧(v=true→H1 b):=by
 unfold IT;simp only[NE,tJ,Fq,K8];generalize d:(_|| !Zd b.R 0 1099511627776)=B
 cases B
 ·simp only[uS,uO,xE] at d;obtain⟨⟨⟨⟨⟨⟨⟨⟨⟨⟨s,g⟩,i⟩,j⟩,t⟩,u⟩,w⟩,x⟩,y⟩,l⟩,m⟩:=d;have A:=KR g;have C:=KR i;have D:=KR j;have c:H1 b:=⟨by omega,by omega,by omega,by omega,by omega,by omega,by omega,by omega,by omega⟩
  simp only[tM];have a:∃v,EF N b=some v:=by
   unfold EF;rcases I4 b.Ak.length (ED N b (GT N)) (GT N) (λ_=>True) (λn k F=>by
    simp only[ED];rw[Eg F];rfl) (λn k F=>by
    simp only[ED];rw[EZ F,tL,BG F];simp only[tJ,MA,BH (show k<4611686018427387904 by omega)];cases Tf b.Ak[k]
    ·exact .inl rfl
    ·exact .inr ⟨trivial,rfl⟩) N 0 (by omega) (tU _) with F|⟨_,F⟩
   ·exact⟨_,F⟩
   ·exact⟨true,F⟩
  rcases I4 b.I.size (EE N b (EF N b)) (EF N b) (λ_=>True) (λn k F=>by
    simp only[EE];rw[Eg F];rfl) (λn k F=>by
    simp only[EE];obtain⟨z,o⟩:=T8 F;rw[EZ F,tL,o];simp only[tJ,BH (show k<4611686018427387904 by omega)];cases (decide (z<32)||decide (126<z)||decide (z=34)||decide (z=92))
    ·exact .inr ⟨trivial,rfl⟩
    ·exact .inl rfl) N 0 (by omega) (tU _) with F|⟨_,F⟩
  ·exact⟨false,F,λF=>by cases F⟩
  ·obtain⟨v,p⟩:=a;exact⟨v,F.trans p,λ_=>c⟩
 ·exact⟨false,rfl,λF=>by cases F⟩
def YD {N:Nat}(d:1000<N) (s:ByteArray):Df (JZ N s):=by
 unfold JZ;cases c:(decide ((s.size:Int)<1)||decide (24<(s.size:Int))||s==ByteArray.mk #[111,117,116])
 ·simp only[uS,uO] at c;obtain⟨z,a⟩:=T8 (s:=s) (k:=0) (by omega);have b:T9 s 0=some z:=a;simp only[tM,b,tJ,Fq,K8];refine Df.cond (λ_=>Df.mk _) λ_=>?_;rcases I4 s.size (Fd N s (HO N)) (HO N) (λ_=>True) (λn k g=>by
    simp only[Fd];rw[Eg g];rfl) (λn k g=>by
    simp only[Fd];obtain⟨z,a⟩:=T8 g;rw[EZ g,tL,a];simp only[tJ,BH (show k<4611686018427387904 by omega)];cases (((decide (z<97)||decide (122<z))&&(decide (z<48)||decide (57<z)))&&decide (z≠95))
    ·exact .inr ⟨trivial,rfl⟩
    ·exact .inl rfl) N 1 (by omega) (by omega) with g|⟨_,g⟩
  ·exact⟨_,g⟩
  ·exact⟨_,g⟩
 ·simp only[tL,tJ];exact Df.mk _
def Zi {N:Nat}(d:1000<N) (m:List (AG×Bool)) (a b:ByteArray):Df (J5 N m a b):=by
 have c:∀s,Df (Hr N m b s):=λs=>by
  unfold Hr;exact Df.bind (YD d b) λ_ _=>Df.cond (λ_=>Df.mk _) λ_=>Df.mk _
 unfold J5;exact Df.cond (λ_=>c _) λ_=>c _
def MU {N:Nat}(d:1000<N) (m:List (AG×Bool)) (c:Bool) (a b:ByteArray):∃v,Cs N m c a b=some v:=by
 unfold Cs;exact Df.bind (Zi d m a b) λ_ _=>Df.mk _
def ZO {N:Nat}(c:1000<N) {b:AF}(m:H1 b):Df (I8 N b):=by
 obtain⟨u,w,x,y,z,B,C,D⟩:=m;have d:∀{σ} (L:Nat) (f:Nat→Int→σ→Option Bool) (kj:σ→Option Bool),L≤128→(∀n (k:Nat) s,L≤k→f (n+1) (k:Int) s=kj s)→(∀n (k:Nat) s,k<L→∃s',f (n+1) (k:Int) s=f n ((k+1:Nat):Int) s')→(∀s,Df (kj s))→∀s,Df (f N 0 s):=λL f kj F g o i s=>by
  obtain⟨s',_,e⟩:=Wq L f kj (λ_=>True) g (λn k s _ G=>by obtain⟨s',h'⟩:=o n k s G;exact⟨s',trivial,h'⟩) N 0 s trivial (by omega) (tU _);obtain⟨v,a⟩:=i s';exact⟨v,e.trans a⟩
 have j:∀s:Bool×List (AG×Bool),Df (C3 N b (EL N) N 0 s.1 s.2):=d (σ:=Bool×List (AG×Bool)) b.Ae.length (λn k s=>C3 N b (EL N) n k s.1 s.2) (λs=>EL N s.1) (by omega) (λn k s G=>by simp only[C3];rw[Eg G];rfl)
  (λn k s G=>by
   simp only[C3];rw[EZ G,tL,BG G];simp only[tJ];obtain⟨v,a⟩:=MU c s.2 s.1 (ByteArray.mk #[114,111,97,100]) (b.Ae[k]).I;rw[a];simp only[tJ,BH (show k<4611686018427387904 by omega)];exact⟨(v.2,v.1),rfl⟩) (λs=>Df.mk _)
 have l:∀s:Bool×List (AG×Bool),Df (C4 N b (EM N b) N 0 s.1 s.2):=d (σ:=Bool×List (AG×Bool)) b.Ad.length (λn k s=>C4 N b (EM N b) n k s.1 s.2) (λs=>EM N b s.1 s.2) (by omega) (λn k s G=>by simp only[C4];rw[Eg G];rfl)
  (λn k s G=>by
   simp only[C4];rw[EZ G,tL,BG G];simp only[tJ];obtain⟨v,a⟩:=MU c s.2 s.1 (ByteArray.mk #[103,97,117,103,101]) (b.Ad[k]).I;rw[a];simp only[tJ,BH (show k<4611686018427387904 by omega)];exact⟨(v.2,v.1),rfl⟩) (λs=>j s)
 have p:∀s:Bool×List (AG×Bool),Df (DG N b (Eh N b) N 0 s.1 s.2):=d (σ:=Bool×List (AG×Bool)) b.Ag.length (λn k s=>DG N b (Eh N b) n k s.1 s.2) (λs=>Eh N b s.1 s.2) (by omega) (λn k s G=>by simp only[DG];rw[Eg G];rfl)
  (λn k s G=>by
   simp only[DG];rw[EZ G,tL,BG G];simp only[tJ];obtain⟨v,a⟩:=MU c s.2 s.1 (ByteArray.mk #[115,104,101,108,116,101,114]) (b.Ag[k]).I;rw[a];simp only[tJ,BH (show k<4611686018427387904 by omega)];exact⟨(v.2,v.1),rfl⟩) (λs=>l s)
 have q:∀s:Bool×List (AG×Bool),Df (DH N b (Ei N b) N 0 s.1 s.2):=d (σ:=Bool×List (AG×Bool)) b.Ab.length (λn k s=>DH N b (Ei N b) n k s.1 s.2) (λs=>Ei N b s.1 s.2) (by omega) (λn k s G=>by simp only[DH];rw[Eg G];rfl)
  (λn k s G=>by
   simp only[DH];rw[EZ G,tL,BG G];simp only[tJ];obtain⟨v,a⟩:=MU c s.2 s.1 (ByteArray.mk #[116,111,119,110]) (b.Ab[k]).I;rw[a];simp only[tJ,BH (show k<4611686018427387904 by omega)];exact⟨(v.2,v.1),rfl⟩) (λs=>p s)
 have t:∀s:Bool×List (AG×Bool),Df (DI N b (Ej N b) N 0 s.1 s.2):=d (σ:=Bool×List (AG×Bool)) b.E.length (λn k s=>DI N b (Ej N b) n k s.1 s.2) (λs=>Ej N b s.1 s.2) (by omega) (λn k s G=>by simp only[DI];rw[Eg G];rfl)
  (λn k s G=>by
   simp only[DI];rw[EZ G,tL,BG G];simp only[tJ];obtain⟨v,a⟩:=MU c s.2 s.1 (ByteArray.mk #[108,105,110,107]) (b.E[k]).I;rw[a];simp only[tJ,BH (show k<4611686018427387904 by omega)];exact⟨(v.2,v.1),rfl⟩) (λs=>q s)
 have i:∀s:Bool×List (AG×Bool),Df (DJ N b (Ek N b) N 0 s.1 s.2):=d (σ:=Bool×List (AG×Bool)) b.A.length (λn k s=>DJ N b (Ek N b) n k s.1 s.2) (λs=>Ek N b s.1 s.2) (by omega) (λn k s G=>by simp only[DJ];rw[Eg G];rfl)
  (λn k s G=>by
   simp only[DJ];rw[EZ G,tL,BG G];simp only[tJ];obtain⟨v,a⟩:=MU c s.2 s.1 (ByteArray.mk #[112,108,97,99,101]) (b.A[k]).I;rw[a];simp only[tJ,BH (show k<4611686018427387904 by omega)];exact⟨(v.2,v.1),rfl⟩) (λs=>t s)
 have g:∀s:Bool×List (AG×Bool),Df (DK N b (El N b) N 0 s.1 s.2):=d (σ:=Bool×List (AG×Bool)) b.H.length (λn k s=>DK N b (El N b) n k s.1 s.2) (λs=>El N b s.1 s.2) (by omega) (λn k s G=>by simp only[DK];rw[Eg G];rfl)
  (λn k s G=>by
   simp only[DK];rw[EZ G,tL,BG G];simp only[tJ];obtain⟨v,a⟩:=MU c s.2 s.1 (ByteArray.mk #[111,119,110,101,114]) (b.H[k]);rw[a];simp only[tJ,BH (show k<4611686018427387904 by omega)];exact⟨(v.2,v.1),rfl⟩) (λs=>i s)
 exact g (true,[])
structure Hg (b:AF) (p:EW):Prop where
 lev:H5 p.Bn
 num:I3 p.Y
 den:I3 p.S
 down:p.Ao= -1∨(0≤p.Ao∧p.Ao<b.A.length)
 cap:I3 p.Au
 delay:0≤p.Q∧p.Q≤240
def Ul {N:Nat}(p:EW) (kj:Int→Option Bool) (b:p.Be.length≤16):∀(n:Nat) (s:Int) (k:Nat),p.Be.length<n+k→k≤p.Be.length→C2 N p kj n s (k:Int)=some false∨∃s',C2 N p kj n s (k:Int)=kj s'
 |0,s,k,d,c=>by omega
 |n+1,s,k,d,c=>by
  simp only[C2];rcases uM k p.Be.length with a|a
  ·rw[EZ a,tL,BG a];simp only[tJ,MA,BH (show k<4611686018427387904 by omega)];cases Tf p.Be[k]
   ·exact .inl rfl
   ·exact Ul (N:=N) p kj b n _ (k+1) (by omega) (by omega)
  ·rw[Eg a];exact .inr ⟨s,rfl⟩
def Wj {N:Nat}(b:AF) (p:EW) (a:Int) (kj:Int→Option Bool) (g:0≤b.O∧b.O≤64):∀(n:Nat) (s:Int) (k:Nat), -1≤s→s≤64→65<n+s→k<100→(k:Int)≤s+1→C1 N b p a kj n s (k:Int)=some false∨C1 N b p a kj n s (k:Int)=kj a
 |0,s,k,i,j,l,m,o=>by omega
 |n+1,s,k,i,j,l,m,o=>by
  simp only[C1];rcases uM k p.Z.length with c|c
  ·rw[EZ c,tL,BG c];simp only[tJ,MA,Fq,K8,BH (show k<4611686018427387904 by omega)];cases d:(decide ((p.Z[k]).Bh≤s)||decide (b.O≤(p.Z[k]).Bh)|| !Tf (p.Z[k]).Bm)
   ·simp only[uS,uO] at d;obtain⟨⟨q,t⟩,u⟩:=d;exact Wj (N:=N) b p a kj g n _ (k+1) (by omega) (by omega) (by omega) (by omega) (by omega)
   ·exact .inl rfl
  ·rw[Eg c];exact .inr rfl
def TH {N:Nat}(o:1000<N) (b:AF) (a:H1 b):∀(n:Nat) (s:Int) (k:Nat),b.A.length<n+k→k≤b.A.length→∃v,Bv N b (B7 N) n s (k:Int)=some v∧(v=true→∀(i:Nat) p,k≤i→b.A[i]? =some p→Hg b p)
 |0,s,k,Y,q=>by omega
 |n+1,s,k,Y,q=>by
  have Q:=a.pl;simp only[Bv];rcases uM k b.A.length with c|c
  ·rw[EZ c,tL,BG c];obtain⟨U,g,j⟩:=Ja (N:=N) (by omega) (b.A[k]).Bn;simp only[tJ,NE,MA,QE,g,QU N b _ _ (show b.A.length<4611686018427387904 by omega),Fq,K8];generalize l:(_|| !Uf b.A.length (k:Int) (b.A[k]).Ao)=B
   cases B
   ·simp only[uS,uO,xE] at l;obtain⟨⟨⟨⟨⟨⟨⟨⟨V,W⟩,t⟩,u⟩,X⟩,w⟩,x⟩,m⟩,y⟩:=l;have z:(b.A[k]).Be.length=b.H.length:=by
     have:((b.A[k]).Be.length:Int)=(b.H.length:Int):=by simpa using x
     omega
    have C:Hg b b.A[k]:=⟨j w,(O1 m).1,(O1 m).2,WW y,K2 u,KR t⟩
    simp only[tM];rcases Ul (N:=N) b.A[k] (EK N b b.A[k] (Ca N (k:Int) (Bv N b (B7 N) n))) (by have:=a.own;omega) N s 0 (by have:=a.own;omega) (tU _) with e|⟨s',e⟩
    ·exact⟨false,e,λY=>by cases Y⟩
    ·have D:C2 N b.A[k] (EK N b b.A[k] (Ca N (k:Int) (Bv N b (B7 N) n))) N s 0=_:=e;rw[D];unfold EK;rcases Wj (N:=N) b b.A[k] s' (Ca N (k:Int) (Bv N b (B7 N) n)) a.cells N (-1) 0 (by omega) (by omega) (by omega) (by omega) (by omega) with e|e
     ·exact⟨false,e,λY=>by cases Y⟩
     ·have F:C1 N b b.A[k] s' (Ca N (k:Int) (Bv N b (B7 N) n)) N (-1) 0=_:=e;rw[F];unfold Ca;rw[BH (show k<4611686018427387904 by omega)];obtain⟨v,G,I⟩:=TH o b a n s' (k+1) (by omega) (by omega);refine⟨v,G,λJ i p K d=>?_⟩;by_cases M:i=k
      ·subst M;have:p=b.A[i]:=by simpa [c] using d.symm
       rw[this];exact C
      ·exact I J i p (by omega) d
   ·exact⟨false,rfl,λY=>by cases Y⟩
  ·rw[Eg c];refine⟨_,rfl,λ_ i p K d=>?_⟩;have:=(uB.1 d).1;omega
def X3 {N:Nat}(c:1000<N) (b:AF) (a:H1 b):∃v,HZ N b=some v∧(v=true→∀p∈b.A,Hg b p):=by
 obtain⟨v,d,g⟩:=TH c b a N 0 0 (by have:=a.pl;omega) (tU _);refine⟨v,d,λj p k=>?_⟩;obtain⟨i,l,rfl⟩:=xF.1 k;exact g j i _ (tU _) (by simp [l])
structure Js (b:AF) (l:BM):Prop where
 kind:0≤l.F∧l.F≤5
 fr:0≤l.J∧l.J<b.A.length
 to:l.C= -1∨(0≤l.C∧l.C<b.A.length)
 delay:0≤l.Q∧l.Q≤240
 gate:l.F=0→H5 l.Av∧H5 l.Af.Ay∧H5 l.Af.Az∧I3 l.Ar∧I3 l.Al
 part:l.F=1∨l.F=5∨l.F=3→I3 l.Y∧1≤l.S∧l.S≤1125899906842624
 seep:l.F=4→I3 l.Y∧1≤l.S∧l.S≤1125899906842624∧I3 l.Ar∧I3 l.Al∧l.C≠ -1
def Yn {N:Nat}(d:18446744073709551616<N) (a b:List BS) (g:1≤a.length) (c:a.length≤32) (i:b.length≤32):Df (GN N a b):=by
 unfold GN;rcases I4 b.length (GL N a b (Hq N)) (Hq N) (λ_=>True) (λn k l=>by
  simp only[GL];rw[Eg l];rfl) (λn k l=>by
  simp only[GL];obtain⟨v,j⟩:=Rj d g c (b[k]).P;rw[EZ l,tL,BG l];simp only[tJ,j,BH (show k<4611686018427387904 by omega)];cases (decide ((b[k]).X<v.1)||decide (v.1=(b[k]).X)&&v.2)
  ·exact .inr ⟨trivial,rfl⟩
  ·exact .inl rfl) N 0 (by omega) (tU _) with l|⟨_,l⟩
 ·exact⟨_,l⟩
 ·exact⟨true,l⟩
def Px {N:Nat}(d:18446744073709551616<N) (a b:List BS):Df (Hm N a b):=by
 unfold Hm;obtain⟨s,i,j⟩:=Ja (N:=N) (by omega) a;obtain⟨t,l,m⟩:=Ja (N:=N) (by omega) b;simp only[i,l,tJ,Fq,K8];refine Df.cond (λ_=>Df.mk _) λu=>?_;simp only[uS,xE] at u;obtain⟨o,p,_⟩:=j u.1;obtain⟨q,g,_⟩:=m u.2;rcases I4 a.length (GM N a b (GN N a b)) (GN N a b) (λ_=>True) (λn k u=>by
  simp only[GM];rw[Eg u];rfl) (λn k u=>by
  simp only[GM];obtain⟨v,c⟩:=Rj d q g (a[k]).P;rw[EZ u,tL,BG u];simp only[tJ,c,BH (show k<4611686018427387904 by omega)];cases decide (v.1<(a[k]).X)
  ·exact .inr ⟨trivial,rfl⟩
  ·exact .inl rfl) N 0 (by omega) (tU _) with u|⟨_,u⟩
 ·exact⟨_,u⟩
 ·obtain⟨v,c⟩:=Yn d a b o p g;exact⟨v,u.trans c⟩
def TS {N:Nat}(m:18446744073709551616<N) (l:BM):∃v,FU N l=some v∧(v=true→
  (l.F=0→H5 l.Av∧H5 l.Af.Ay∧H5 l.Af.Az∧I3 l.Ar∧I3 l.Al)∧(l.F=1∨l.F=5∨l.F=3→I3 l.Y∧1≤l.S∧l.S≤1125899906842624)∧
  (¬(l.F=0∨l.F=1∨l.F=5∨l.F=2∨l.F=3)→I3 l.Y∧1≤l.S∧l.S≤1125899906842624∧I3 l.Ar∧I3 l.Al∧l.C≠ -1)):=by
 obtain⟨v1,q,s⟩:=Ja (N:=N) (by omega) l.Av;obtain⟨D,t,u⟩:=Ja (N:=N) (by omega) l.Af.Ay;obtain⟨G,w,x⟩:=Ja (N:=N) (by omega) l.Af.Az;obtain⟨H,y⟩:=Px m l.Af.Ay l.Av;obtain⟨I,z⟩:=Px m l.Av l.Af.Az;unfold FU;by_cases k0:l.F=0
 ·rw[show decide (l.F=0)=true by simp [k0],tL];simp only[q,t,w,y,z,NE,MA,QE,tJ,Fq,Pf];refine⟨_,rfl,λV=>?_⟩;simp only[tO] at V;obtain⟨⟨⟨⟨⟨⟨⟨⟨⟨d,a⟩,b⟩,i⟩,A⟩,J⟩,K⟩,M⟩,n⟩,B⟩:=V;exact⟨λ_=>⟨s d,u a,x b,(O1 n).1,(O1 n).2⟩,λV=>by omega,λV=>absurd (.inl k0) V⟩
 ·rw[show decide (l.F=0)=false by simp [k0],tM];have o:∀c:Bool,(c=true↔l.F=1∨l.F=5)→∃v,Dg N l c=some v∧(v=true→
    (l.F=0→H5 l.Av∧H5 l.Af.Ay∧H5 l.Af.Az∧I3 l.Ar∧I3 l.Al)∧(l.F=1∨l.F=5∨l.F=3→I3 l.Y∧1≤l.S∧l.S≤1125899906842624)∧
    (¬(l.F=0∨l.F=1∨l.F=5∨l.F=2∨l.F=3)→I3 l.Y∧1≤l.S∧l.S≤1125899906842624∧I3 l.Ar∧I3 l.Al∧l.C≠ -1)):=λc p=>by
   unfold Dg;simp only[NE,MA,QE,tJ,Fq,Pf];cases c
   ·have Q:¬(l.F=1∨l.F=5):=λV=>by have:=p.2 V;cases this
    rw[tM];by_cases j:l.F=2
    ·rw[show decide (l.F=2)=true by simp [j],tL];exact⟨_,rfl,λ_=>⟨λV=>absurd V k0,λV=>by omega,λV=>absurd (.inr (.inr (.inr (.inl j)))) V⟩⟩
    ·rw[show decide (l.F=2)=false by simp [j],tM];by_cases k:l.F=3
     ·rw[show decide (l.F=3)=true by simp [k],tL];refine⟨_,rfl,λV=>?_⟩;simp only[tO] at V;obtain⟨⟨⟨⟨d,a⟩,b⟩,i⟩,A⟩:=V;exact⟨λV=>absurd V k0,λ_=>⟨K2 d,KR a⟩,λV=>absurd (.inr (.inr (.inr (.inr k)))) V⟩
     ·rw[show decide (l.F=3)=false by simp [k],tM];refine⟨_,rfl,λV=>?_⟩;simp only[tO,uF] at V;obtain⟨⟨⟨d,a⟩,b⟩,i⟩:=V;exact⟨λV=>absurd V k0,λV=>by omega,λ_=>⟨K2 d,(KR a).1,(KR a).2,(O1 b).1,(O1 b).2,i⟩⟩
   ·have U:=p.1 rfl;rw[tL];refine⟨_,rfl,λV=>?_⟩;simp only[tO] at V;obtain⟨⟨d,a⟩,b⟩:=V;exact⟨λV=>absurd V k0,λ_=>⟨K2 a,KR b⟩,λV=>by omega⟩
  by_cases g:l.F=1
  ·rw[show decide (l.F=1)=true by simp [g],tL];exact o true (by simp [g])
  ·rw[show decide (l.F=1)=false by simp [g],tM];exact o _ (by simp [g])
def Sy (N:Nat) (l:BM):Df (FT N l):=by
 unfold FT;exact Df.cond (λ_=>Df.mk _) λ_=>Df.cond (λ_=>Df.mk _) λ_=>Df.cond (λ_=>Df.mk _) λ_=>Df.cond (λ_=>Df.mk _) λ_=>Df.cond (λ_=>Df.mk _) λ_=>Df.mk _
def ZT {N:Nat}(m:18446744073709551616<N) (b:AF) (c:H1 b):∃v,E2 N b=some v∧(v=true→∀l∈b.E,Js b l):=by
 have G:=c.pl;have H:=c.li;unfold E2;rcases I4 b.E.length (CW N b (DL N)) (DL N) (λi=>∀l,b.E[i]? =some l→Js b l) (λn k K=>by
  simp only[CW];rw[Eg K];rfl) (λn k K=>by
  simp only[CW];obtain⟨I,o,p⟩:=TS m b.E[k];obtain⟨q,s⟩:=Sy N b.E[k];rw[EZ K,tL,BG K];simp only[tJ,NE,QB N _ (show b.A.length<4611686018427387904 by omega),QU N b _ _ (show b.A.length<4611686018427387904 by omega),o,s,Fq,K8,BH (show k<4611686018427387904 by omega)];generalize d:(_|| !q)=B
  cases B
  ·simp only[uS,xE] at d;obtain⟨⟨⟨⟨⟨t,u⟩,w⟩,g⟩,x⟩,J⟩:=d;have y:=KR t;have z:=KR u;obtain⟨C,D,F⟩:=p x;refine .inr ⟨λl a=>?_,rfl⟩;have:l=b.E[k]:=by simpa [K] using a.symm
   rw[this];exact⟨y,⟨z.1,by omega⟩,WW w,KR g,C,D,λg=>F (by omega)⟩
  ·exact .inl rfl) N 0 (by omega) (tU _) with K|⟨hp,K⟩
 ·exact⟨false,K,λK=>by cases K⟩
 ·refine⟨true,K,λ_ l a=>?_⟩;obtain⟨i,j,rfl⟩:=xF.1 a;exact hp i (tU _) j _ (by simp [j])
def Wo (N:Nat) (b:AF) (o to:Int) (c:to= -1∨(0≤to∧to<b.A.length)):Df (Jl N b o to):=by
 unfold Jl;refine Df.cond (λ_=>Df.mk _) λa=>?_;simp only[uO] at a;exact Df.bind (Df.ix (by omega) (by omega)) λ_ _=>Df.mk _
def Vw {N:Nat}(w:1000<N) (b:AF) (m:H1 b) (o:∀p∈b.A,Hg b p) (q:∀l∈b.E,Js b l):Df (HK N b):=by
 have y:=m.pl;have B:=m.li;have s:Df (DO N b):=by
  unfold DO;rcases I4 b.E.length (DM N b (Es N)) (Es N) (λ_=>True) (λn k D=>by
   simp only[DM];rw[Eg D];rfl) (λn k D=>by
   simp only[DM];have a:=q b.E[k] (uE D);obtain⟨x,t⟩:=Df.ix (l:=b.A) a.fr.1 a.fr.2;obtain⟨v,c⟩:=Wo N b x.An (b.E[k]).C a.to;rw[EZ D,tL,BG D];simp only[tJ,t,c,BH (show k<4611686018427387904 by omega)];have i:∃z,(cond (!v) (some true) ((cond (decide ((b.E[k]).F=4)) ((ix b.A (b.E[k]).C).bind λd=>some (decide (d.An≠x.An))) (some false)).bind λg=>some g))=some z:=by
    refine Df.cond (λ_=>Df.mk _) λ_=>Df.bind (Df.cond (λu=>?_) λ_=>Df.mk _) λ_ _=>Df.mk _;have j:(b.E[k]).F=4:=by simpa using u
    have:=(a.seep j).2.2.2.2.2;have:=a.to;exact Df.bind (Df.ix (by omega) (by omega)) λ_ _=>Df.mk _
   obtain⟨z,i⟩:=i;rw[i];simp only[tJ];cases z
   ·exact .inr ⟨trivial,rfl⟩
   ·exact .inl rfl) N 0 (by omega) (tU _) with D|⟨_,D⟩
  ·exact⟨_,D⟩
  ·exact⟨true,D⟩
 unfold HK;rcases I4 b.A.length (DN N b (DO N b)) (DO N b) (λ_=>True) (λn k D=>by
   simp only[DN];rw[Eg D];rfl) (λn k D=>by
   simp only[DN];have a:=o b.A[k] (uE D);obtain⟨v,c⟩:=Wo N b (b.A[k]).An (b.A[k]).Ao a.down;rw[EZ D,tL,BG D];simp only[tJ,c,BH (show k<4611686018427387904 by omega)];cases v
   ·exact .inl rfl
   ·exact .inr ⟨trivial,rfl⟩) N 0 (by omega) (tU _) with D|⟨_,D⟩
 ·exact⟨_,D⟩
 ·obtain⟨v,c⟩:=s;exact⟨v,D.trans c⟩
def Uk {N:Nat}(d:18446744073709551616<N) (c:List BS) (g:H5 c) (kj:Int→Option Int):∀(n:Nat) (s:Int) (k:Nat),c.length<n+k→1≤k→k≤c.length→∃s',Ef N c kj n s (k:Int)=kj s'
 |0,s,k,A,i,j=>by omega
 |n+1,s,k,A,i,j=>by
  obtain⟨l,m,b⟩:=g;simp only[Ef];rcases uM k c.length with a|a
  ·have o:BD ((k:Int)-1)=((k-1:Nat):Int):=by rw[Cv (by omega) (by omega)];omega
   rw[EZ a,tL,o,BG a,BG (show k-1<c.length by omega)];simp only[tJ,BH (show k<4611686018427387904 by omega)];obtain⟨p,q,t⟩:=b k c[k] (by simp [a]);obtain⟨u,w,_⟩:=b (k-1) c[k-1] (by simp [show k-1<c.length by omega]);obtain⟨y,z⟩:=t c[k-1] (by omega) (by simp [show k-1<c.length by omega]);unfold I3 at p q u w;obtain⟨v,x⟩:=M9 d (num:=BD ((c[k]).X-(c[k-1]).X)) (den:=BD ((c[k]).P-(c[k-1]).P)) (by rw[Cv (by omega) (by omega)];omega) (by rw[Cv (by omega) (by omega)];omega) (by rw[Cv (by omega) (by omega)];omega);rw[x];exact Uk d c ⟨l,m,b⟩ kj n _ (k+1) (by omega) (by omega) (by omega)
  ·rw[Eg a];exact⟨s,rfl⟩
def Yz {N:Nat}(d:18446744073709551616<N) (cs:List (List BS)) (m:cs.length≤3) (g:∀c∈cs,H5 c):Df (Ix N cs):=by
 unfold Ix;have:∀(n:Nat) (s:Int) (k:Nat),cs.length<n+k→k≤cs.length→Df (Cx N cs (Dz N) n s (k:Int)):=by
  intro n
  induction n with
  |zero=>intro s k o i;omega
  |succ n j=>
   intro s k o i;simp only[Cx];rcases uM k cs.length with a|a
   ·rw[EZ a,tL,BG a];simp only[tJ];have b:=g cs[k] (uE a);obtain⟨s',e⟩:=Uk d cs[k] b (FQ N (k:Int) (Cx N cs (Dz N) n)) N s 1 (by have:=b.2.1;omega) (by omega) b.1;have l:Ef N cs[k] (FQ N (k:Int) (Cx N cs (Dz N) n)) N s 1=_:=e;rw[l];unfold FQ;rw[BH (show k<4611686018427387904 by omega)];exact j s' (k+1) (by omega) (by omega)
   ·rw[Eg a];exact Df.mk _
 exact this N 0 0 (by omega) (tU _)
def LG {α}(l:List α) (i:Int) (x:α):(upd l i x).length=l.length:=by simp [upd]
def nT {N:Nat}(a:1000<N) (l:List Int) (b:l.length≤64):Df (CZ N l):=by
 unfold CZ;rcases I4 l.length (Da N l (FJ N)) (FJ N) (λ_=>True) (λn k c=>by
  simp only[Da];rw[Eg c];rfl) (λn k c=>by
  simp only[Da];rw[EZ c,tL,BG c];simp only[tJ,BH (show k<4611686018427387904 by omega)];cases decide (1099511627776<l[k])
  ·exact .inr ⟨trivial,rfl⟩
  ·exact .inl rfl) N 0 (by omega) (tU _) with c|⟨_,c⟩
 ·exact⟨_,c⟩
 ·exact⟨true,c⟩
def fH {N:Nat}(o:18446744073709551616<N) (b:AF) (t:H1 b) (H:∀l∈b.E,Js b l) (kj:List Int→Option Bool):∀(n:Nat) (k:Nat) (s:List Int),s.length=b.A.length→b.E.length<n+k→k≤b.E.length→∃s',s'.length=b.A.length∧BU N b kj n (k:Int) s=kj s'
 |0,k,s,a,h,Q=>by omega
 |n+1,k,s,a,h,Q=>by
  have q3:=t.pl;have q4:=t.li;simp only[BU];rcases uM k b.E.length with g|g
  ·rw[EZ g,tL,BG g];simp only[tJ];have d:=H b.E[k] (uE g);generalize b.E[k]=l at d
   have p:∀s:List Int,s.length=b.A.length→∃s',s'.length=b.A.length∧CL N (k:Int) (BU N b kj n) s=kj s':=λs a=>by
    unfold CL;rw[BH (show k<4611686018427387904 by omega)];exact fH o b t H kj n (k+1) s a (by omega) (by omega)
   obtain⟨x,u⟩:=Df.ix (l:=s) d.fr.1 (by rw[a];exact d.fr.2);have w:∀c:Bool,(c=true→l.F=1∨l.F=5∨l.F=3)→∃s',s'.length=b.A.length∧Dc N s l (CL N (k:Int) (BU N b kj n)) c=kj s':=λc g=>by
    unfold Dc;cases c
    ·rw[tM];by_cases y:l.F=4
     ·rw[show decide (l.F=4)=true by simp [y],tL];obtain⟨z,U,V,W,I,h6⟩:=d.seep y;obtain⟨v,q⟩:=M9 o z.1 (show 0≤l.S by omega) (by omega);obtain⟨X,j⟩:=M9 o W.1 I.1 (show l.Al≤_ by have:=I.2;omega);have B:=d.to;obtain⟨Y,m⟩:=Df.ix (l:=upd s l.J (BD (x+BD (2*v)))) (i:=l.C) (by omega) (by rw[LG,a];omega);simp only[u,q,m,j,tJ];exact p _ (by rw[LG,LG,a])
     ·rw[show decide (l.F=4)=false by simp [y],tM];exact p s a
    ·rw[tL];obtain⟨z,U,V⟩:=d.part (g rfl);obtain⟨v,q⟩:=M9 o z.1 (show 0≤l.S by omega) (by omega);simp only[u,q,tJ];exact p _ (by rw[LG,a])
   by_cases k0:l.F=0
   ·rw[show decide (l.F=0)=true by simp [k0],tL];obtain⟨Z,c2,c3,c4,K⟩:=d.gate k0;obtain⟨v,q⟩:=Yz o [l.Av,l.Af.Ay,l.Af.Az] (by simp) (by simp [Z,c2,c3]);simp only[u,q,tJ];by_cases M:l.C= -1
    ·rw[show decide (l.C≠ -1)=false by simp [M],tM];exact p _ (by rw[LG,a])
    ·rw[show decide (l.C≠ -1)=true by simp [M],tL];have B:=d.to;obtain⟨Y,m⟩:=Df.ix (l:=upd s l.J (BD (x+v))) (i:=l.C) (by omega) (by rw[LG,a];omega);obtain⟨X,j⟩:=M9 o c4.1 K.1 (show l.Al≤_ by have:=K.2;omega);simp only[m,j,tJ];exact p _ (by rw[LG,LG,a])
   ·rw[show decide (l.F=0)=false by simp [k0],tM];by_cases D:l.F=1
    ·rw[show decide (l.F=1)=true by simp [D],tL];exact w true λ_=> .inl D
    ·rw[show decide (l.F=1)=false by simp [D],tM];by_cases G:l.F=5
     ·rw[show decide (l.F=5)=true by simp [G],tL];exact w true λ_=> .inr (.inl G)
     ·rw[show decide (l.F=5)=false by simp [G],tM];exact w _ λh=> .inr (.inr (by simpa using h))
  ·rw[Eg g];exact⟨s,a,rfl⟩
def Xt {N:Nat}(m:18446744073709551616<N) (b:AF) (c:H1 b) (q:∀p∈b.A,Hg b p) (t:∀l∈b.E,Js b l):Df (HY N b):=by
 have F:=c.pl;have G:=c.li;unfold HY;rw[show KH (b.A.length:Int) (b.A.length:Int) 8=true by simp [KH];omega];simp only[chk,tL];have u:∀(n:Nat) (k:Nat) (s:List Int),s.length=b.A.length→b.A.length<n+k→k≤b.A.length→∃s',s'.length=b.A.length∧Db N b (Dd N b) n (k:Int) s=Dd N b s':=by
  intro n
  induction n with
  |zero=>intro k s d I w;omega
  |succ n x=>
   intro k s d I w;simp only[Db];rcases uM k b.A.length with a|a
   ·have g:=q b.A[k] (uE a);obtain⟨v,y⟩:=M9 m g.num.1 g.den.1 (by have:=g.den.2;omega);rw[EZ a,tL,BG a,BG (show k<s.length by omega)];simp only[tJ,y,BH (show k<4611686018427387904 by omega)];exact x (k+1) _ (by rw[LG,d]) (by omega) (by omega)
   ·rw[Eg a];exact⟨s,d,rfl⟩
 obtain⟨o,z,B⟩:=u N 0 (List.replicate ((b.A.length:Int):Int).toNat 0) (by simp) (by omega) (tU _);have i:Db N b (Dd N b) N 0 (List.replicate ((b.A.length:Int):Int).toNat 0)=_:=B;rw[i];unfold Dd;obtain⟨C,H,D⟩:=fH m b c t (CZ N) N 0 o z (by omega) (tU _);have j:BU N b (CZ N) N 0 o=_:=D;rw[j];exact nT (by omega) C (by omega)
end Go.Proofs.YtedgiljmffngoaaGreat
