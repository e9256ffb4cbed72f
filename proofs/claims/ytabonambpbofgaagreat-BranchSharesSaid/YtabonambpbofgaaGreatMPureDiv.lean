import Derived.Test.YtabonambpbofgaaGreatMForms
import Derived.Lib.Mul64
namespace Go.Proofs.YtabonambpbofgaaGreat
set_option linter.all false
open Go.RowKit
abbrev Df {α}(x:Option α):Prop:=∃v,x=some v
def NJ (n:Int):IntKind.u64.wrap n=n%18446744073709551616:=by simp [IntKind.wrap,IntKind.bits,IntKind.signed]
def Fa (a:Nat) (b:a<18446744073709551616):IntKind.u64.wrap (a:Int)=a:=by rw[NJ];omega
def Qq {n:Int}(a:IntKind.u64.has n):IntKind.u64.wrap n=n:=by
 simp [IntKind.has,IntKind.min,IntKind.max,IntKind.bits,IntKind.signed] at a;rw[NJ];omega
def N8 {n:Int}:IntKind.u64.has n↔0≤n∧n≤18446744073709551615:=by simp [IntKind.has,IntKind.min,IntKind.max,IntKind.bits,IntKind.signed]
def cQ {n:Int}(b:IntKind.u64.has n):∃a:Nat,n=a∧a<18446744073709551616:=by
 rw[N8] at b;exact⟨n.toNat,by omega,by omega⟩
def Wi (a j:Nat) (b:j≤64):FV .u64 (a:Int) j=((a/2^j:Nat):Int):=by
 unfold FV;have e:min j IntKind.u64.bits=j:=by simp [IntKind.bits];omega
 rw[e,Int.fdiv_eq_ediv_of_nonneg _ (Int.le_of_lt (Int.pow_pos (by decide)))];simp
def zG (a b:Nat) (g:a<18446744073709551616) (i:b<18446744073709551616):JA .and .u64 (a:Int) (b:Int)=((a&&&b:Nat):Int):=by
 have c:(BitVec.ofInt 64 (a:Int)).toNat=a:=by rw[BitVec.ofInt_natCast,BitVec.toNat_ofNat];exact Adk (by omega)
 have d:(BitVec.ofInt 64 (b:Int)).toNat=b:=by rw[BitVec.ofInt_natCast,BitVec.toNat_ofNat];exact Adk (by omega)
 have j:a&&&b<2^64:=Nat.and_lt_two_pow _ (by omega);show IntKind.u64.wrap (((BitVec.ofInt 64 (a:Int))&&&(BitVec.ofInt 64 (b:Int))).toNat:Int)=_
 rw[BitVec.toNat_and,c,d,Fa _ (by omega)]
def Sn (a:Nat) (b:a<18446744073709551616):JA .and .u64 (a:Int) 4294967295=((a%4294967296:Nat):Int):=by
 have c:=zG a 4294967295 b (by omega);have e:a&&&4294967295=a%4294967296:=Nat.and_two_pow_sub_one_eq_mod a 32;rw[e] at c;exact c
def OU (a:Nat):FV .u64 (a:Int) 32=((a/4294967296:Nat):Int):=Wi a 32 (by omega)
def QU (a b:Nat):(a:Int)*(b:Int)=((a*b:Nat):Int):=(Int.natCast_mul a b).symm
def UG (a b:Nat):(a:Int)+(b:Int)=((a+b:Nat):Int):=(Int.natCast_add a b).symm
def kX (a:Nat):IntKind.u64.wrap (a:Int)=((a%18446744073709551616:Nat):Int):=by rw[NJ];omega
def Sm (N x y:Nat) (k:x<18446744073709551616) (l:y<18446744073709551616):Ht N (x:Int) (y:Int)=some (((x*y/18446744073709551616:Nat):Int),((x*y%18446744073709551616:Nat):Int)):=by
 obtain⟨bd,m,n,c⟩:=Lib.mul64_hi x y k l;have p:=Lib.half_mul_le (a:=x/4294967296) (b:=y/4294967296) (by omega) (by omega);have q:=Lib.half_mul_le (a:=x/4294967296) (b:=y%4294967296) (by omega) (by omega);have s:=Lib.half_mul_le (a:=x%4294967296) (b:=y/4294967296) (by omega) (by omega);have d:x/4294967296*(y/4294967296)<18446744073709551616:=by omega
 have g:x/4294967296*(y%4294967296)<18446744073709551616:=by omega
 have i:x%4294967296*(y/4294967296)<18446744073709551616:=by omega
 have j:x/4294967296*(y/4294967296)+(x/4294967296*(y%4294967296)+x%4294967296*(y%4294967296)/4294967296)/4294967296<18446744073709551616:=by omega
 have o:x/4294967296*(y/4294967296)+(x/4294967296*(y%4294967296)+x%4294967296*(y%4294967296)/4294967296)/4294967296+((x/4294967296*(y%4294967296)+x%4294967296*(y%4294967296)/4294967296)%4294967296+x%4294967296*(y/4294967296))/4294967296<18446744073709551616:=by omega
 simp only[Ht,OU,Sn x k,Sn y l,QU,UG,Fa _ bd,Fa _ g,Fa _ m,Sn _ m,Fa _ i,Fa _ n,Fa _ d,Fa _ j,Fa _ o,kX (x*y)];rw[c]
def Ln (x n:Nat):Prop:=1≤n∧2^(n-1)≤x∧x<2^n
def Ln.shift {x m s:Nat}(g:Ln (x/2^s) m):Ln x (m+s):=by
 obtain⟨d,b,c⟩:=g;have a:0<2^s:=Ad2 s;refine⟨by omega,?_,?_⟩
 ·have:2^(m-1)*2^s≤x:=(Nat.le_div_iff_mul_le a).1 b;rw[show m+s-1=(m-1)+s by omega,Nat.pow_add];exact this
 ·have:=(Aed a).1 c;rw[Nat.pow_add];exact this
set_option maxRecDepth 20000 in
def yL:∀k:Nat,k<256→YG M6 (k:Int)=some (((if k=0 then 0 else k.log2+1:Nat)):Int):=by decide +kernel
def gJ {k:Nat}(h0:0<k) (a:k<256):∃n:Nat,YG M6 (k:Int)=some (n:Int)∧Ln k n∧n≤8:=by
 have e:=yL k a;rw[Aas (by omega)] at e;refine⟨_,e,⟨by omega,?_,Nat.lt_log2_self⟩,?_⟩
 ·rw[Nat.add_sub_cancel];exact Nat.log2_self_le (by omega)
 ·have:k.log2<8:=(Nat.log2_lt (by omega)).2 a;omega
def cC (N:Nat) {x:Nat}(h0:0<x) (u:x<18446744073709551616):∃n:Nat,I6 N (x:Int)=some (n:Int)∧Ln x n∧n≤64:=by
 have c:∀a:Nat,a<9223372036854775808→BO (a:Int)=a:=λa v=>Pn (by unfold AA;omega);have l:∀a:Nat,a<256→IntKind.u8.wrap (a:Int)=a:=λa v=>by simp [IntKind.wrap,IntKind.bits,IntKind.signed];omega
 have o:∀a b:Nat,0<a→a<256→b≤56→∃n:Nat,Gz N (a:Int) (b:Int)=some ((n+b:Nat):Int)∧Ln a n∧n≤8:=λa b j k p=>by
  obtain⟨n,d,g,i⟩:=gJ j k;refine⟨n,?_,g,i⟩;simp only[Gz,l a k,d,Aap,c n (by omega),UG,Nat.add_comm b n,c (n+b) (by omega)]
 have q:∀a b:Nat,0<a→a<65536→b≤48→∃n:Nat,G0 N (a:Int) (b:Int)=some ((n+b:Nat):Int)∧Ln a n∧n≤16:=λa b j k p=>by
  unfold G0;by_cases s:256≤a
  ·rw[show decide ((256:Int)≤(a:Int))=true by simp;omega,Aaq,Wi a 8 (by omega)];have m:BO ((b:Int)+8)=((b+8:Nat):Int):=by rw[show ((b:Int)+8)=((b+8:Nat):Int) by omega];exact c _ (by omega)
   rw[m];obtain⟨n,d,g,i⟩:=o (a/2^8) (b+8) (by omega) (by omega) (by omega);exact⟨n+8,by rw[d,show n+(b+8)=n+8+b by omega],g.shift,by omega⟩
  ·rw[show decide ((256:Int)≤(a:Int))=false by simp;omega,Aar];obtain⟨n,d,g,i⟩:=o a b j (by omega) (by omega);exact⟨n,d,g,by omega⟩
 have t:∀a b:Nat,0<a→a<4294967296→b≤32→∃n:Nat,G1 N (a:Int) (b:Int)=some ((n+b:Nat):Int)∧Ln a n∧n≤32:=λa b j k p=>by
  unfold G1;by_cases s:65536≤a
  ·rw[show decide ((65536:Int)≤(a:Int))=true by simp;omega,Aaq,Wi a 16 (by omega)];have m:BO ((b:Int)+16)=((b+16:Nat):Int):=by rw[show ((b:Int)+16)=((b+16:Nat):Int) by omega];exact c _ (by omega)
   rw[m];obtain⟨n,d,g,i⟩:=q (a/2^16) (b+16) (by omega) (by omega) (by omega);exact⟨n+16,by rw[d,show n+(b+16)=n+16+b by omega],g.shift,by omega⟩
  ·rw[show decide ((65536:Int)≤(a:Int))=false by simp;omega,Aar];obtain⟨n,d,g,i⟩:=q a b j (by omega) (by omega);exact⟨n,d,g,by omega⟩
 unfold I6;by_cases s:4294967296≤x
 ·rw[show decide ((4294967296:Int)≤(x:Int))=true by simp;omega,Aaq,Wi x 32 (by omega)];obtain⟨n,d,g,i⟩:=t (x/2^32) 32 (by omega) (by omega) (by omega);exact⟨n+32,by rw[show ((32:Int))=((32:Nat):Int) from rfl,d],g.shift,by omega⟩
 ·rw[show decide ((4294967296:Int)≤(x:Int))=false by simp;omega,Aar];obtain⟨n,d,g,i⟩:=t x 0 h0 (by omega) (by omega);exact⟨n,d,g,by omega⟩
def lU (N:Nat) {y:Nat}(h0:0<y) (a:y<18446744073709551616):∃s:Nat,Fk N (y:Int)=some (s:Int)∧s≤63∧9223372036854775808≤y*2^s∧y*2^s<18446744073709551616:=by
 obtain⟨n,b,⟨g,c,d⟩,i⟩:=cC N h0 a;refine⟨64-n,?_,by omega,?_,?_⟩
 ·simp only[Fk,b,Aap];rw[Pn (by unfold AA;omega)];congr 1;omega
 ·have:=Aca (2^(64-n)) c;rw[←Nat.pow_add,show n-1+(64-n)=63 by omega] at this;exact this
 ·have:=Nat.mul_lt_mul_of_pos_right d (Ad2 (64-n));rw[←Nat.pow_add,show n+(64-n)=64 by omega] at this;exact this
def Df.mk {α}(v:α):Df (some v):=⟨v,rfl⟩
def Df.bind {α β}{a:Option α}{f:α→Option β}(d:Df a) (k:∀v,a=some v→Df (f v)):Df (a.bind f):=by
 obtain⟨v,b⟩:=d;obtain⟨u,c⟩:=k v b;exact⟨u,by rw[b];exact c⟩
def Df.cond {α}{b:Bool}{x y:Option α}(a:b=true→Df x) (c:b=false→Df y):Df (cond b x y):=by
 cases b
 ·exact c rfl
 ·exact a rfl
def Gh {α}(b:Bool) (x y:α):cond b (some x) (some y)=some (cond b x y):=by cases b<;>rfl
def BB {α}{l:List α}{i:Nat}(a:i<l.length):ix l (i:Int)=some l[i]:=by simp [ix,a]
def Df.ix {α}{l:List α}{i:Int}(h0:0≤i) (a:i<l.length):Df (ix l i):=by
 obtain⟨j,rfl⟩:∃j:Nat,i=j:=⟨i.toNat,by omega⟩
 exact⟨_,BB (by omega)⟩
def D5 {n:Int}(h0: -9223372036854775808≤n) (a:n≤9223372036854775807):BO n=n:=Pn ⟨h0,a⟩
def qA {n:Int}:∃j,P0 (IntKind.u64.wrap n)=some j∧(j:Int)=IntKind.u64.wrap n:=by
 have:=(N8.1 (FX .u64 n)).1;exact⟨(IntKind.u64.wrap n).toNat,by unfold P0;rw[Aas (by omega)],by omega⟩
def Wo {k:IntKind}{x y:Int}(a:y≠0):Df (Rr k x y):=⟨_,by unfold Rr;rw[Aas a]⟩
def oQ {x y:Int}(a:y≠0):Df (UT x y):=⟨_,by unfold UT;rw[Aas a]⟩
def dL (N:Nat) (c y:Int) (b a:Nat) (kj:Int→Option (Int×Int)) (d:∀v,Df (kj v)):∀(n:Nat) (q r:Int),IntKind.u64.has q→q.toNat<n→Df (Do N c y b a kj n q r)
 |0,q,r,k,g=>by omega
 |n+1,q,r,k,g=>by
  have j:=N8.1 k;unfold Do;refine Df.cond (λi=>?_) λ_=>d _;have h0:q≠0:=by
   rintro rfl;have:=(N8.1 (FX .u64 (IntKind.u64.wrap (4294967296*r)+FV .u64 (EL .u64 c a) 32))).1;simp [NJ] at i this;omega
  have e:IntKind.u64.wrap (q-1)=q-1:=Qq (N8.2 (by omega));refine Df.cond (λ_=>d _) λ_=>?_;exact dL N c y b a kj d n _ _ (FX _ _) (by rw[e];omega)
def dK (N:Nat) (c y:Int) (b a:Nat) (kj:Int→Option (Int×Int)) (d:∀v,Df (kj v)):∀(n:Nat) (r q:Int),IntKind.u64.has q→q.toNat<n→Df (EB N c y b a kj n r q)
 |0,r,q,k,g=>by omega
 |n+1,r,q,k,g=>by
  have j:=N8.1 k;unfold EB;refine Df.cond (λi=>?_) λ_=>d _;have h0:q≠0:=by
   rintro rfl;have:=(N8.1 (FX .u64 (IntKind.u64.wrap (4294967296*r)+JA .and .u64 (EL .u64 c a) 4294967295))).1;simp [NJ] at i this;omega
  have e:IntKind.u64.wrap (q-1)=q-1:=Qq (N8.2 (by omega));refine Df.cond (λ_=>d _) λ_=>?_;exact dK N c y b a kj d n _ _ (FX _ _) (by rw[e];omega)
def BN:Nat:=36893488147419103232
def xP:18446744073709551616<BN:=by decide
def hE {a s:Nat}(j:s≤63) (c:9223372036854775808≤a*2^s) (b:a*2^s<18446744073709551616):FV .u64 (EL .u64 (a:Int) s) 32≠0:=by
 have d:EL .u64 (a:Int) s=((a*2^s:Nat):Int):=by
  unfold EL;have g:min s IntKind.u64.bits=s:=by simp [IntKind.bits];omega
  have i:((a:Int)*2^s)=((a*2^s:Nat):Int):=by simp
  rw[g,i];exact Fa _ b
 rw[d,OU];generalize a*2^s=t at c b
 omega
def pX (N:Nat) (i k y g:Int) (a b c d:Nat) (q v:Int):Df (Fl N i k y g a b c d q v):=by
 unfold Fl;obtain⟨j,l,_⟩:=qA (n:=g);rw[l];exact Df.mk _
def pY {N:Nat}(o:18446744073709551616<N) (l k y m:Int) (b g i c:Nat) (q:Int) (hd:FV .u64 (EL .u64 y b) 32≠0):Df (EC N l k y m b g i c q):=by
 unfold EC;refine Df.bind (Wo hd) λj d=>?_;have a:=OZ d;have n:=(N8.1 a)
 exact dK N k y b c _ (λv=>pX _ _ _ _ _ _ _ _ _ _ _) N _ j a (by omega)
def WB {N:Nat}(A:18446744073709551616<N) {o q y:Int}(B:IntKind.u64.has o) (h2:IntKind.u64.has q) (C:IntKind.u64.has y) (h:o<y):Df (GS N o q y):=by
 have g1:=N8.1 B;have g:y≠0:=by omega
 have t:¬y≤o:=by omega
 unfold GS;refine Df.cond (λp=>absurd (Acf p) g) λ_=>Df.cond (λp=>absurd (Acf p) t) λ_=>Df.cond (λ_=>?_) λ_=>?_
 ·exact Df.bind (Wo g) λ_ _=>Df.bind (oQ g) λ_ _=>Df.mk _
 ·obtain⟨D,u,F⟩:=cQ C;obtain⟨s,G,H,I,J⟩:=lU N (show 0<D by omega) F;have hd:∀j:Nat,(j:Int)=IntKind.u64.wrap (s:Int)→FV .u64 (EL .u64 y j) 32≠0:=λj K=>by
   rw[Fa s (by omega)] at K;have:j=s:=by omega
   rw[this,u];exact hE H I J
  rw[u,G];rw[←u];refine Df.bind (Df.mk _) λw x=>?_;have i:w=(s:Int):=(Aat x).symm;obtain⟨k,M,Q⟩:=qA (n:=w);obtain⟨U,V,_⟩:=qA (n:=(64-IntKind.u64.wrap w));have l:=hd k (by rw[Q,i]);rw[M,V];refine Df.bind (Df.mk _) λa W=>Df.bind (Df.mk _) λb hb=>Df.bind (Df.mk _) λc p=>Df.bind (Df.mk _) λd X=>?_;have Y:=Aat W;rw[←Y];refine Df.bind (Wo l) λz Z=>?_;have m:=OZ Z;have aa:=N8.1 m;exact dL N q y k d _ (λv=>pY A _ _ _ _ _ _ _ _ _ l) N z _ m (by omega)
def bG {N:Nat}(g:18446744073709551616<N) (a num den:Int):Df (Gd N a num den):=by
 unfold Gd;refine Df.cond (λ_=>Df.mk _) λb=>?_;simp only[Abk,Abe] at b;obtain⟨⟨⟨⟨⟨l,m⟩,o⟩,p⟩,q⟩,s⟩:=b;obtain⟨c,i⟩:∃n:Nat,a=n:=⟨a.toNat,by omega⟩
 obtain⟨d,j⟩:∃n:Nat,num=n:=⟨num.toNat,by omega⟩
 subst i;subst j;rw[Fa c (by omega),Fa d (by omega),Sm N c d (by omega) (by omega)];simp only[Aap];have hd:IntKind.u64.wrap den=den:=Qq (N8.2 (by omega));rw[hd];refine Df.cond (λ_=>Df.mk _) λb=>?_;simp only[Abe] at b;have k:c*d<18446744073709551616*18446744073709551616:=Nat.mul_lt_mul'' (by omega) (by omega);refine Df.bind (WB g (N8.2 ⟨by omega,by omega⟩) (N8.2 ⟨by omega,by omega⟩) (N8.2 (by omega)) (by omega)) λv _=>?_;exact Df.cond (λ_=>Df.mk _) λ_=>Df.mk _
def NO {N:Nat}(c:18446744073709551616<N) {num den:Int}(h0:0≤num) (k:0≤den) (l:den≤9223372036854775807):Df (Gf N num den):=by
 unfold Gf;refine Df.cond (λ_=>Df.mk _) λd=>?_;simp only[Abe] at d;refine Df.cond (λ_=>Df.mk _) λa=>?_;simp only[Abe] at a;obtain⟨b,g⟩:∃n:Nat,num=n:=⟨num.toNat,by omega⟩
 obtain⟨i,j⟩:∃n:Nat,den=n:=⟨den.toNat,by omega⟩
 subst g;subst j;rw[Fa b (by omega),Fa i (by omega),show(1099511627776:Int)=((1099511627776:Nat):Int) from rfl,Sm N b 1099511627776 (by omega) (by omega)];simp only[Aap];refine Df.bind (WB c (N8.2 ⟨by omega,by omega⟩) (N8.2 ⟨by omega,by omega⟩) (N8.2 (by omega)) (by omega)) λv _=>?_;exact Df.cond (λ_=>Df.mk _) λ_=>Df.mk _
def pD {i j:Nat}(b:i+j<9223372036854775808):BO (FV .u64 (IntKind.u64.wrap (BO ((i:Int)+(j:Int)))) 1)=(((i+j)/2:Nat):Int):=by
 have a:BO ((i:Int)+(j:Int))=((i+j:Nat):Int):=by rw[D5 (by omega) (by omega)];rfl
 rw[a,Fa _ (by omega),Wi _ 1 (by omega),D5 (by omega) (by omega)]
def Qw {N:Nat}(f:Int→Option Bool) (L:Nat) (c:L<4611686018427387904) (a:∀i:Nat,i<L→Df (f i)) (kj:Int→Option Int):∀(n i j:Nat),i≤j→j≤L→j-i<n→(0<i→f ((i-1:Nat):Int)=some false)→(j<L→f (j:Int)=some true)→
  ∃r:Nat,Gy N f kj n (i:Int) (j:Int)=kj (r:Int)∧r≤L∧(0<r→f ((r-1:Nat):Int)=some false)∧(r<L→f (r:Int)=some true)
 |0,i,j,_,_,p,_,_=>by omega
 |n+1,i,j,m,d,o,g,k=>by
  unfold Gy;by_cases l:i<j
  ·rw[show decide ((i:Int)<(j:Int))=true by simp;omega,Aaq,pD (by omega)];obtain⟨v,b⟩:=a ((i+j)/2) (by omega);rw[b];simp only[Aap];cases v
   ·simp only[Bool.not_false,Aaq];have e:BO ((((i+j)/2:Nat):Int)+1)=(((i+j)/2+1:Nat):Int):=by rw[D5 (by omega) (by omega)];rfl
    rw[e];exact Qw f L c a kj n _ j (by omega) d (by omega) (λ_=>by rw[Nat.add_sub_cancel];exact b) k
   ·simp only[Aby,Aar];exact Qw f L c a kj n i _ (by omega) (by omega) (by omega) g (λ_=>b)
  ·have e:i=j:=by omega
   subst e;rw[show decide ((i:Int)<(i:Int))=false by simp,Aar];exact⟨i,rfl,d,g,k⟩
def Y4 {N:Nat}(f:Int→Option Bool) (L:Nat) (a:L<4611686018427387904) (g:L<N) (b:∀i:Nat,i<L→Df (f i)):∃r:Nat,Ld N (L:Int) f=some (r:Int)∧r≤L∧(0<r→f ((r-1:Nat):Int)=some false)∧(r<L→f (r:Int)=some true):=by
 obtain⟨r,c,d⟩:=Qw (N:=N) f L a b (JQ N) N 0 L (Aaw _) (Aa7 _) (by omega) (λj=>absurd j (by omega)) (λj=>absurd j (by omega));exact⟨r,c,d⟩
def Jc (n:Int):Prop:=0≤n∧n≤1125899906842624
def Im (c:List BU):Prop:=1≤c.length∧c.length≤32∧∀(k:Nat) p,c[k]? =some p→Jc p.P∧Jc p.X∧∀q,0<k→c[k-1]? =some q→q.P<p.P∧q.X≤p.X
def WD {N:Nat}(c:List BU) (o:c.length≤32):∀(n k:Nat),c.length<n+k→k≤c.length→∃v,FG N c (Ha N) n (k:Int)=some v∧(v=true→∀(i:Nat) p,k≤i→c[i]? =some p→Jc p.P∧Jc p.X∧∀q,0<i→c[i-1]? =some q→q.P<p.P∧q.X≤p.X)
 |0,k,A,s=>by omega
 |n+1,k,A,s=>by
  unfold FG;by_cases g:k<c.length
  ·rw[show decide ((k:Int)<(c.length:Int))=true by simp;omega,Aaq,BB g];simp only[Aap];cases t:(decide ((c[k]).P<0)||decide (1125899906842624<(c[k]).P)||decide ((c[k]).X<0)||decide (1125899906842624<(c[k]).X))
   ·simp only[Aar];simp only[Abk,Abe] at t;obtain⟨v,u,l⟩:=WD (N:=N) c o n (k+1) (by omega) (by omega);have w:BO ((k:Int)+1)=((k+1:Nat):Int):=by rw[D5 (by omega) (by omega)];rfl
    rw[w,u];by_cases h0:0<k
    ·have x:BO ((k:Int)-1)=((k-1:Nat):Int):=by rw[D5 (by omega) (by omega)];omega
     rw[show decide ((0:Int)<(k:Int))=true by simp;omega,x,BB (show k-1<c.length by omega)];simp only[Aaq,Aap,Gh];cases b:cond (decide ((c[k]).P≤(c[k-1]).P)) true (decide ((c[k]).X<(c[k-1]).X))
     ·simp only[Aar];refine⟨v,rfl,λd i p m a=>?_⟩;by_cases e:i=k
      ·subst e;have:p=c[i]:=by simpa [g] using a.symm
       subst this;refine⟨⟨by omega,by omega⟩,⟨by omega,by omega⟩,λq _ y=>?_⟩;have:q=c[i-1]:=by simpa [show i-1<c.length by omega] using y.symm
       subst this;cases j:decide ((c[i]).P≤(c[i-1]).P) with
       |true=>rw[j] at b;simp at b
       |false=>
        rw[j] at b;simp only[Aar,Abe] at b j;omega
      ·exact l d i p (by omega) a
     ·exact⟨false,rfl,λA=>by cases A⟩
    ·have z:k=0:=by omega
     subst z;rw[show decide ((0:Int)<((0:Nat):Int))=false by simp];simp only[Aar,Aap];refine⟨v,rfl,λd i p m a=>?_⟩;by_cases e:i=0
     ·subst e;have:p=c[0]:=by simpa [g] using a.symm
      subst this;exact⟨⟨by omega,by omega⟩,⟨by omega,by omega⟩,λq A _=>absurd A (by omega)⟩
     ·exact l d i p (by omega) a
   ·exact⟨false,rfl,λA=>by cases A⟩
  ·rw[show decide ((k:Int)<(c.length:Int))=false by simp;omega,Aar];refine⟨true,rfl,λ_ i p m a=>?_⟩;have:=(Aa4.1 a).1;omega
def J5 {N:Nat}(j:33<N) (c:List BU):∃v,FH N c=some v∧(v=true→Im c):=by
 unfold FH;cases a:(decide ((c.length:Int)<1)||decide (32<(c.length:Int)))
 ·simp only[Abk,Abe] at a;obtain⟨v,b,d⟩:=WD (N:=N) c (by omega) N 0 (by omega) (by omega);exact⟨v,b,λg=>⟨by omega,by omega,λk p i=>d g k p (by omega) i⟩⟩
 ·exact⟨false,rfl,λl=>by cases l⟩
def SF {N:Nat}(b:18446744073709551616<N) {c:List BU}(l:1≤c.length) (m:c.length≤32) (x:Int):Df (JJ N c x):=by
 unfold JJ;obtain⟨r,d,n,_⟩:=Y4 (N:=N) (λy=>I1 N c x y) c.length (by omega) (by omega) λi g=>by
  unfold I1;rw[BB g];exact Df.mk _
 rw[d];simp only[Aap];refine Df.cond (λ_=>Df.bind (Df.ix (by omega) (by omega)) λ_ _=>Df.mk _) λj=>?_;simp only[Abe] at j;have k:BO ((r:Int)-1)=((r-1:Nat):Int):=by rw[D5 (by omega) (by omega)];omega
 rw[k];refine Df.bind (Df.ix (by omega) (by omega)) λ_ _=>Df.cond (λ_=>Df.mk _) λa=>?_;simp only[Abe] at a;exact Df.bind (Df.ix (by omega) (by omega)) λ_ _=>Df.bind (Df.ix (by omega) (by omega)) λ_ _=>Df.bind (bG b _ _ _) λ_ _=>Df.mk _
end Go.Proofs.YtabonambpbofgaaGreat
