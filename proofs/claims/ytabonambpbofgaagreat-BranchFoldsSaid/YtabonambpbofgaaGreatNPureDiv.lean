import Derived.Test.YtabonambpbofgaaGreatNForms
import Derived.Lib.Mul64
namespace Go.Proofs.YtabonambpbofgaaGreat
set_option linter.all false
open Go.RowKit
abbrev Df {α}(x:Option α):Prop:=∃v,x=some v
def Ns (n:Int):IntKind.u64.wrap n=n%18446744073709551616:=by simp [IntKind.wrap,IntKind.bits,IntKind.signed]
def Fx (a:Nat) (b:a<18446744073709551616):IntKind.u64.wrap (a:Int)=a:=by rw[Ns];omega
def RU {n:Int}(a:IntKind.u64.has n):IntKind.u64.wrap n=n:=by
 simp [IntKind.has,IntKind.min,IntKind.max,IntKind.bits,IntKind.signed] at a;rw[Ns];omega
def Oh {n:Int}:IntKind.u64.has n↔0≤n∧n≤18446744073709551615:=by simp [IntKind.has,IntKind.min,IntKind.max,IntKind.bits,IntKind.signed]
def dZ {n:Int}(b:IntKind.u64.has n):∃a:Nat,n=a∧a<18446744073709551616:=by
 rw[Oh] at b;exact⟨n.toNat,by omega,by omega⟩
def XJ (a j:Nat) (b:j≤64):Fu .u64 (a:Int) j=((a/2^j:Nat):Int):=by
 unfold Fu;have e:min j IntKind.u64.bits=j:=by simp [IntKind.bits];omega
 rw[e,Int.fdiv_eq_ediv_of_nonneg _ (Int.le_of_lt (Int.pow_pos (by decide)))];simp
def Abe (a b:Nat) (g:a<18446744073709551616) (i:b<18446744073709551616):IU .and .u64 (a:Int) (b:Int)=((a&&&b:Nat):Int):=by
 have c:(BitVec.ofInt 64 (a:Int)).toNat=a:=by rw[BitVec.ofInt_natCast,BitVec.toNat_ofNat];exact Ae8 (by omega)
 have d:(BitVec.ofInt 64 (b:Int)).toNat=b:=by rw[BitVec.ofInt_natCast,BitVec.toNat_ofNat];exact Ae8 (by omega)
 have j:a&&&b<2^64:=Nat.and_lt_two_pow _ (by omega);show IntKind.u64.wrap (((BitVec.ofInt 64 (a:Int))&&&(BitVec.ofInt 64 (b:Int))).toNat:Int)=_
 rw[BitVec.toNat_and,c,d,Fx _ (by omega)]
def TR (a:Nat) (b:a<18446744073709551616):IU .and .u64 (a:Int) 4294967295=((a%4294967296:Nat):Int):=by
 have c:=Abe a 4294967295 b (by omega);have e:a&&&4294967295=a%4294967296:=Nat.and_two_pow_sub_one_eq_mod a 32;rw[e] at c;exact c
def O4 (a:Nat):Fu .u64 (a:Int) 32=((a/4294967296:Nat):Int):=XJ a 32 (by omega)
def Q4 (a b:Nat):(a:Int)*(b:Int)=((a*b:Nat):Int):=(Int.natCast_mul a b).symm
def Um (a b:Nat):(a:Int)+(b:Int)=((a+b:Nat):Int):=(Int.natCast_add a b).symm
def mV (a:Nat):IntKind.u64.wrap (a:Int)=((a%18446744073709551616:Nat):Int):=by rw[Ns];omega
def TQ (N x y:Nat) (k:x<18446744073709551616) (l:y<18446744073709551616):IA N (x:Int) (y:Int)=some (((x*y/18446744073709551616:Nat):Int),((x*y%18446744073709551616:Nat):Int)):=by
 obtain⟨bd,m,n,c⟩:=Lib.mul64_hi x y k l;have p:=Lib.half_mul_le (a:=x/4294967296) (b:=y/4294967296) (by omega) (by omega);have q:=Lib.half_mul_le (a:=x/4294967296) (b:=y%4294967296) (by omega) (by omega);have s:=Lib.half_mul_le (a:=x%4294967296) (b:=y/4294967296) (by omega) (by omega);have d:x/4294967296*(y/4294967296)<18446744073709551616:=by omega
 have g:x/4294967296*(y%4294967296)<18446744073709551616:=by omega
 have i:x%4294967296*(y/4294967296)<18446744073709551616:=by omega
 have j:x/4294967296*(y/4294967296)+(x/4294967296*(y%4294967296)+x%4294967296*(y%4294967296)/4294967296)/4294967296<18446744073709551616:=by omega
 have o:x/4294967296*(y/4294967296)+(x/4294967296*(y%4294967296)+x%4294967296*(y%4294967296)/4294967296)/4294967296+((x/4294967296*(y%4294967296)+x%4294967296*(y%4294967296)/4294967296)%4294967296+x%4294967296*(y/4294967296))/4294967296<18446744073709551616:=by omega
 simp only[IA,O4,TR x k,TR y l,Q4,Um,Fx _ bd,Fx _ g,Fx _ m,TR _ m,Fx _ i,Fx _ n,Fx _ d,Fx _ j,Fx _ o,mV (x*y)];rw[c]
def Ln (x n:Nat):Prop:=1≤n∧2^(n-1)≤x∧x<2^n
def Ln.shift {x m s:Nat}(g:Ln (x/2^s) m):Ln x (m+s):=by
 obtain⟨d,b,c⟩:=g;have a:0<2^s:=Afo s;refine⟨by omega,?_,?_⟩
 ·have:2^(m-1)*2^s≤x:=(Nat.le_div_iff_mul_le a).1 b;rw[show m+s-1=(m-1)+s by omega,Nat.pow_add];exact this
 ·have:=(Af2 a).1 c;rw[Nat.pow_add];exact this
set_option maxRecDepth 20000 in
def Aau:∀k:Nat,k<256→Ys Nj (k:Int)=some (((if k=0 then 0 else k.log2+1:Nat)):Int):=by decide +kernel
def jB {k:Nat}(h0:0<k) (a:k<256):∃n:Nat,Ys Nj (k:Int)=some (n:Int)∧Ln k n∧n≤8:=by
 have e:=Aau k a;rw[Ace (by omega)] at e;refine⟨_,e,⟨by omega,?_,Nat.lt_log2_self⟩,?_⟩
 ·rw[Nat.add_sub_cancel];exact Nat.log2_self_le (by omega)
 ·have:k.log2<8:=(Nat.log2_lt (by omega)).2 a;omega
def dL (N:Nat) {x:Nat}(h0:0<x) (u:x<18446744073709551616):∃n:Nat,JQ N (x:Int)=some (n:Int)∧Ln x n∧n≤64:=by
 have c:∀a:Nat,a<9223372036854775808→BT (a:Int)=a:=λa v=>QN (by unfold AA;omega);have l:∀a:Nat,a<256→IntKind.u8.wrap (a:Int)=a:=λa v=>by simp [IntKind.wrap,IntKind.bits,IntKind.signed];omega
 have o:∀a b:Nat,0<a→a<256→b≤56→∃n:Nat,HD N (a:Int) (b:Int)=some ((n+b:Nat):Int)∧Ln a n∧n≤8:=λa b j k p=>by
  obtain⟨n,d,g,i⟩:=jB j k;refine⟨n,?_,g,i⟩;simp only[HD,l a k,d,Acb,c n (by omega),Um,Nat.add_comm b n,c (n+b) (by omega)]
 have q:∀a b:Nat,0<a→a<65536→b≤48→∃n:Nat,HE N (a:Int) (b:Int)=some ((n+b:Nat):Int)∧Ln a n∧n≤16:=λa b j k p=>by
  unfold HE;by_cases s:256≤a
  ·rw[show decide ((256:Int)≤(a:Int))=true by simp;omega,Acc,XJ a 8 (by omega)];have m:BT ((b:Int)+8)=((b+8:Nat):Int):=by rw[show ((b:Int)+8)=((b+8:Nat):Int) by omega];exact c _ (by omega)
   rw[m];obtain⟨n,d,g,i⟩:=o (a/2^8) (b+8) (by omega) (by omega) (by omega);exact⟨n+8,by rw[d,show n+(b+8)=n+8+b by omega],g.shift,by omega⟩
  ·rw[show decide ((256:Int)≤(a:Int))=false by simp;omega,Acd];obtain⟨n,d,g,i⟩:=o a b j (by omega) (by omega);exact⟨n,d,g,by omega⟩
 have t:∀a b:Nat,0<a→a<4294967296→b≤32→∃n:Nat,HG N (a:Int) (b:Int)=some ((n+b:Nat):Int)∧Ln a n∧n≤32:=λa b j k p=>by
  unfold HG;by_cases s:65536≤a
  ·rw[show decide ((65536:Int)≤(a:Int))=true by simp;omega,Acc,XJ a 16 (by omega)];have m:BT ((b:Int)+16)=((b+16:Nat):Int):=by rw[show ((b:Int)+16)=((b+16:Nat):Int) by omega];exact c _ (by omega)
   rw[m];obtain⟨n,d,g,i⟩:=q (a/2^16) (b+16) (by omega) (by omega) (by omega);exact⟨n+16,by rw[d,show n+(b+16)=n+16+b by omega],g.shift,by omega⟩
  ·rw[show decide ((65536:Int)≤(a:Int))=false by simp;omega,Acd];obtain⟨n,d,g,i⟩:=q a b j (by omega) (by omega);exact⟨n,d,g,by omega⟩
 unfold JQ;by_cases s:4294967296≤x
 ·rw[show decide ((4294967296:Int)≤(x:Int))=true by simp;omega,Acc,XJ x 32 (by omega)];obtain⟨n,d,g,i⟩:=t (x/2^32) 32 (by omega) (by omega) (by omega);exact⟨n+32,by rw[show ((32:Int))=((32:Nat):Int) from rfl,d],g.shift,by omega⟩
 ·rw[show decide ((4294967296:Int)≤(x:Int))=false by simp;omega,Acd];obtain⟨n,d,g,i⟩:=t x 0 h0 (by omega) (by omega);exact⟨n,d,g,by omega⟩
def nT (N:Nat) {y:Nat}(h0:0<y) (a:y<18446744073709551616):∃s:Nat,GB N (y:Int)=some (s:Int)∧s≤63∧9223372036854775808≤y*2^s∧y*2^s<18446744073709551616:=by
 obtain⟨n,b,⟨g,c,d⟩,i⟩:=dL N h0 a;refine⟨64-n,?_,by omega,?_,?_⟩
 ·simp only[GB,b,Acb];rw[QN (by unfold AA;omega)];congr 1;omega
 ·have:=Ady (2^(64-n)) c;rw[←Nat.pow_add,show n-1+(64-n)=63 by omega] at this;exact this
 ·have:=Nat.mul_lt_mul_of_pos_right d (Afo (64-n));rw[←Nat.pow_add,show n+(64-n)=64 by omega] at this;exact this
def Df.mk {α}(v:α):Df (some v):=⟨v,rfl⟩
def Df.bind {α β}{a:Option α}{f:α→Option β}(d:Df a) (k:∀v,a=some v→Df (f v)):Df (a.bind f):=by
 obtain⟨v,b⟩:=d;obtain⟨u,c⟩:=k v b;exact⟨u,by rw[b];exact c⟩
def Df.cond {α}{b:Bool}{x y:Option α}(a:b=true→Df x) (c:b=false→Df y):Df (cond b x y):=by
 cases b
 ·exact c rfl
 ·exact a rfl
def Gw {α}(b:Bool) (x y:α):cond b (some x) (some y)=some (cond b x y):=by cases b<;>rfl
def BG {α}{l:List α}{i:Nat}(a:i<l.length):ix l (i:Int)=some l[i]:=by simp [ix,a]
def Df.ix {α}{l:List α}{i:Int}(h0:0≤i) (a:i<l.length):Df (ix l i):=by
 obtain⟨j,rfl⟩:∃j:Nat,i=j:=⟨i.toNat,by omega⟩
 exact⟨_,BG (by omega)⟩
def EM {n:Int}(h0: -9223372036854775808≤n) (a:n≤9223372036854775807):BT n=n:=QN ⟨h0,a⟩
def sF {n:Int}:∃j,Qa (IntKind.u64.wrap n)=some j∧(j:Int)=IntKind.u64.wrap n:=by
 have:=(Oh.1 (Fv .u64 n)).1;exact⟨(IntKind.u64.wrap n).toNat,by unfold Qa;rw[Ace (by omega)],by omega⟩
def XP {k:IntKind}{x y:Int}(a:y≠0):Df (ST k x y):=⟨_,by unfold ST;rw[Ace a]⟩
def qW {x y:Int}(a:y≠0):Df (Uz x y):=⟨_,by unfold Uz;rw[Ace a]⟩
def fK (N:Nat) (c y:Int) (b a:Nat) (kj:Int→Option (Int×Int)) (d:∀v,Df (kj v)):∀(n:Nat) (q r:Int),IntKind.u64.has q→q.toNat<n→Df (D3 N c y b a kj n q r)
 |0,q,r,k,g=>by omega
 |n+1,q,r,k,g=>by
  have j:=Oh.1 k;unfold D3;refine Df.cond (λi=>?_) λ_=>d _;have h0:q≠0:=by
   rintro rfl;have:=(Oh.1 (Fv .u64 (IntKind.u64.wrap (4294967296*r)+Fu .u64 (Ec .u64 c a) 32))).1;simp [Ns] at i this;omega
  have e:IntKind.u64.wrap (q-1)=q-1:=RU (Oh.2 (by omega));refine Df.cond (λ_=>d _) λ_=>?_;exact fK N c y b a kj d n _ _ (Fv _ _) (by rw[e];omega)
def fJ (N:Nat) (c y:Int) (b a:Nat) (kj:Int→Option (Int×Int)) (d:∀v,Df (kj v)):∀(n:Nat) (r q:Int),IntKind.u64.has q→q.toNat<n→Df (EO N c y b a kj n r q)
 |0,r,q,k,g=>by omega
 |n+1,r,q,k,g=>by
  have j:=Oh.1 k;unfold EO;refine Df.cond (λi=>?_) λ_=>d _;have h0:q≠0:=by
   rintro rfl;have:=(Oh.1 (Fv .u64 (IntKind.u64.wrap (4294967296*r)+IU .and .u64 (Ec .u64 c a) 4294967295))).1;simp [Ns] at i this;omega
  have e:IntKind.u64.wrap (q-1)=q-1:=RU (Oh.2 (by omega));refine Df.cond (λ_=>d _) λ_=>?_;exact fJ N c y b a kj d n _ _ (Fv _ _) (by rw[e];omega)
def BN:Nat:=36893488147419103232
def zY:18446744073709551616<BN:=by decide
def jR {a s:Nat}(j:s≤63) (c:9223372036854775808≤a*2^s) (b:a*2^s<18446744073709551616):Fu .u64 (Ec .u64 (a:Int) s) 32≠0:=by
 have d:Ec .u64 (a:Int) s=((a*2^s:Nat):Int):=by
  unfold Ec;have g:min s IntKind.u64.bits=s:=by simp [IntKind.bits];omega
  have i:((a:Int)*2^s)=((a*2^s:Nat):Int):=by simp
  rw[g,i];exact Fx _ b
 rw[d,O4];generalize a*2^s=t at c b
 omega
def sC (N:Nat) (i k y g:Int) (a b c d:Nat) (q v:Int):Df (GC N i k y g a b c d q v):=by
 unfold GC;obtain⟨j,l,_⟩:=sF (n:=g);rw[l];exact Df.mk _
def sD {N:Nat}(o:18446744073709551616<N) (l k y m:Int) (b g i c:Nat) (q:Int) (hd:Fu .u64 (Ec .u64 y b) 32≠0):Df (EQ N l k y m b g i c q):=by
 unfold EQ;refine Df.bind (XP hd) λj d=>?_;have a:=O8 d;have n:=(Oh.1 a)
 exact fJ N k y b c _ (λv=>sC _ _ _ _ _ _ _ _ _ _ _) N _ j a (by omega)
def Wm {N:Nat}(A:18446744073709551616<N) {o q y:Int}(B:IntKind.u64.has o) (h2:IntKind.u64.has q) (C:IntKind.u64.has y) (h:o<y):Df (Gi N o q y):=by
 have g1:=Oh.1 B;have g:y≠0:=by omega
 have t:¬y≤o:=by omega
 unfold Gi;refine Df.cond (λp=>absurd (Ad2 p) g) λ_=>Df.cond (λp=>absurd (Ad2 p) t) λ_=>Df.cond (λ_=>?_) λ_=>?_
 ·exact Df.bind (XP g) λ_ _=>Df.bind (qW g) λ_ _=>Df.mk _
 ·obtain⟨D,u,F⟩:=dZ C;obtain⟨s,G,H,I,J⟩:=nT N (show 0<D by omega) F;have hd:∀j:Nat,(j:Int)=IntKind.u64.wrap (s:Int)→Fu .u64 (Ec .u64 y j) 32≠0:=λj K=>by
   rw[Fx s (by omega)] at K;have:j=s:=by omega
   rw[this,u];exact jR H I J
  rw[u,G];rw[←u];refine Df.bind (Df.mk _) λw x=>?_;have i:w=(s:Int):=(Acg x).symm;obtain⟨k,M,Q⟩:=sF (n:=w);obtain⟨U,V,_⟩:=sF (n:=(64-IntKind.u64.wrap w));have l:=hd k (by rw[Q,i]);rw[M,V];refine Df.bind (Df.mk _) λa W=>Df.bind (Df.mk _) λb hb=>Df.bind (Df.mk _) λc p=>Df.bind (Df.mk _) λd X=>?_;have Y:=Acg W;rw[←Y];refine Df.bind (XP l) λz Z=>?_;have m:=O8 Z;have aa:=Oh.1 m;exact fK N q y k d _ (λv=>sD A _ _ _ _ _ _ _ _ _ l) N z _ m (by omega)
def cP {N:Nat}(g:18446744073709551616<N) (a num den:Int):Df (Gt N a num den):=by
 unfold Gt;refine Df.cond (λ_=>Df.mk _) λb=>?_;simp only[Ac9,Ac2] at b;obtain⟨⟨⟨⟨⟨l,m⟩,o⟩,p⟩,q⟩,s⟩:=b;obtain⟨c,i⟩:∃n:Nat,a=n:=⟨a.toNat,by omega⟩
 obtain⟨d,j⟩:∃n:Nat,num=n:=⟨num.toNat,by omega⟩
 subst i;subst j;rw[Fx c (by omega),Fx d (by omega),TQ N c d (by omega) (by omega)];simp only[Acb];have hd:IntKind.u64.wrap den=den:=RU (Oh.2 (by omega));rw[hd];refine Df.cond (λ_=>Df.mk _) λb=>?_;simp only[Ac2] at b;have k:c*d<18446744073709551616*18446744073709551616:=Nat.mul_lt_mul'' (by omega) (by omega);refine Df.bind (Wm g (Oh.2 ⟨by omega,by omega⟩) (Oh.2 ⟨by omega,by omega⟩) (Oh.2 (by omega)) (by omega)) λv _=>?_;exact Df.cond (λ_=>Df.mk _) λ_=>Df.mk _
def Nu {N:Nat}(c:18446744073709551616<N) {num den:Int}(h0:0≤num) (k:0≤den) (l:den≤9223372036854775807):Df (Gu N num den):=by
 unfold Gu;refine Df.cond (λ_=>Df.mk _) λd=>?_;simp only[Ac2] at d;refine Df.cond (λ_=>Df.mk _) λa=>?_;simp only[Ac2] at a;obtain⟨b,g⟩:∃n:Nat,num=n:=⟨num.toNat,by omega⟩
 obtain⟨i,j⟩:∃n:Nat,den=n:=⟨den.toNat,by omega⟩
 subst g;subst j;rw[Fx b (by omega),Fx i (by omega),show(1099511627776:Int)=((1099511627776:Nat):Int) from rfl,TQ N b 1099511627776 (by omega) (by omega)];simp only[Acb];refine Df.bind (Wm c (Oh.2 ⟨by omega,by omega⟩) (Oh.2 ⟨by omega,by omega⟩) (Oh.2 (by omega)) (by omega)) λv _=>?_;exact Df.cond (λ_=>Df.mk _) λ_=>Df.mk _
def rG {i j:Nat}(b:i+j<9223372036854775808):BT (Fu .u64 (IntKind.u64.wrap (BT ((i:Int)+(j:Int)))) 1)=(((i+j)/2:Nat):Int):=by
 have a:BT ((i:Int)+(j:Int))=((i+j:Nat):Int):=by rw[EM (by omega) (by omega)];rfl
 rw[a,Fx _ (by omega),XJ _ 1 (by omega),EM (by omega) (by omega)]
def Re {N:Nat}(f:Int→Option Bool) (L:Nat) (c:L<4611686018427387904) (a:∀i:Nat,i<L→Df (f i)) (kj:Int→Option Int):∀(n i j:Nat),i≤j→j≤L→j-i<n→(0<i→f ((i-1:Nat):Int)=some false)→(j<L→f (j:Int)=some true)→
  ∃r:Nat,HC N f kj n (i:Int) (j:Int)=kj (r:Int)∧r≤L∧(0<r→f ((r-1:Nat):Int)=some false)∧(r<L→f (r:Int)=some true)
 |0,i,j,_,_,p,_,_=>by omega
 |n+1,i,j,m,d,o,g,k=>by
  unfold HC;by_cases l:i<j
  ·rw[show decide ((i:Int)<(j:Int))=true by simp;omega,Acc,rG (by omega)];obtain⟨v,b⟩:=a ((i+j)/2) (by omega);rw[b];simp only[Acb];cases v
   ·simp only[Bool.not_false,Acc];have e:BT ((((i+j)/2:Nat):Int)+1)=(((i+j)/2+1:Nat):Int):=by rw[EM (by omega) (by omega)];rfl
    rw[e];exact Re f L c a kj n _ j (by omega) d (by omega) (λ_=>by rw[Nat.add_sub_cancel];exact b) k
   ·simp only[Adg,Acd];exact Re f L c a kj n i _ (by omega) (by omega) (by omega) g (λ_=>b)
  ·have e:i=j:=by omega
   subst e;rw[show decide ((i:Int)<(i:Int))=false by simp,Acd];exact⟨i,rfl,d,g,k⟩
def Zd {N:Nat}(f:Int→Option Bool) (L:Nat) (a:L<4611686018427387904) (g:L<N) (b:∀i:Nat,i<L→Df (f i)):∃r:Nat,L8 N (L:Int) f=some (r:Int)∧r≤L∧(0<r→f ((r-1:Nat):Int)=some false)∧(r<L→f (r:Int)=some true):=by
 obtain⟨r,c,d⟩:=Re (N:=N) f L a b (Jp N) N 0 L (Aci _) (Acr _) (by omega) (λj=>absurd j (by omega)) (λj=>absurd j (by omega));exact⟨r,c,d⟩
def J0 (n:Int):Prop:=0≤n∧n≤1125899906842624
def I4 (c:List Bz):Prop:=1≤c.length∧c.length≤32∧∀(k:Nat) p,c[k]? =some p→J0 p.Q∧J0 p.Z∧∀q,0<k→c[k-1]? =some q→q.Q<p.Q∧q.Z≤p.Z
def Wo {N:Nat}(c:List Bz) (o:c.length≤32):∀(n k:Nat),c.length<n+k→k≤c.length→∃v,Fd N c (Ht N) n (k:Int)=some v∧(v=true→∀(i:Nat) p,k≤i→c[i]? =some p→J0 p.Q∧J0 p.Z∧∀q,0<i→c[i-1]? =some q→q.Q<p.Q∧q.Z≤p.Z)
 |0,k,A,s=>by omega
 |n+1,k,A,s=>by
  unfold Fd;by_cases g:k<c.length
  ·rw[show decide ((k:Int)<(c.length:Int))=true by simp;omega,Acc,BG g];simp only[Acb];cases t:(decide ((c[k]).Q<0)||decide (1125899906842624<(c[k]).Q)||decide ((c[k]).Z<0)||decide (1125899906842624<(c[k]).Z))
   ·simp only[Acd];simp only[Ac9,Ac2] at t;obtain⟨v,u,l⟩:=Wo (N:=N) c o n (k+1) (by omega) (by omega);have w:BT ((k:Int)+1)=((k+1:Nat):Int):=by rw[EM (by omega) (by omega)];rfl
    rw[w,u];by_cases h0:0<k
    ·have x:BT ((k:Int)-1)=((k-1:Nat):Int):=by rw[EM (by omega) (by omega)];omega
     rw[show decide ((0:Int)<(k:Int))=true by simp;omega,x,BG (show k-1<c.length by omega)];simp only[Acc,Acb,Gw];cases b:cond (decide ((c[k]).Q≤(c[k-1]).Q)) true (decide ((c[k]).Z<(c[k-1]).Z))
     ·simp only[Acd];refine⟨v,rfl,λd i p m a=>?_⟩;by_cases e:i=k
      ·subst e;have:p=c[i]:=by simpa [g] using a.symm
       subst this;refine⟨⟨by omega,by omega⟩,⟨by omega,by omega⟩,λq _ y=>?_⟩;have:q=c[i-1]:=by simpa [show i-1<c.length by omega] using y.symm
       subst this;cases j:decide ((c[i]).Q≤(c[i-1]).Q) with
       |true=>rw[j] at b;simp at b
       |false=>
        rw[j] at b;simp only[Acd,Ac2] at b j;omega
      ·exact l d i p (by omega) a
     ·exact⟨false,rfl,λA=>by cases A⟩
    ·have z:k=0:=by omega
     subst z;rw[show decide ((0:Int)<((0:Nat):Int))=false by simp];simp only[Acd,Acb];refine⟨v,rfl,λd i p m a=>?_⟩;by_cases e:i=0
     ·subst e;have:p=c[0]:=by simpa [g] using a.symm
      subst this;exact⟨⟨by omega,by omega⟩,⟨by omega,by omega⟩,λq A _=>absurd A (by omega)⟩
     ·exact l d i p (by omega) a
   ·exact⟨false,rfl,λA=>by cases A⟩
  ·rw[show decide ((k:Int)<(c.length:Int))=false by simp;omega,Acd];refine⟨true,rfl,λ_ i p m a=>?_⟩;have:=(Acq.1 a).1;omega
def KU {N:Nat}(j:33<N) (c:List Bz):∃v,Fe N c=some v∧(v=true→I4 c):=by
 unfold Fe;cases a:(decide ((c.length:Int)<1)||decide (32<(c.length:Int)))
 ·simp only[Ac9,Ac2] at a;obtain⟨v,b,d⟩:=Wo (N:=N) c (by omega) N 0 (by omega) (by omega);exact⟨v,b,λg=>⟨by omega,by omega,λk p i=>d g k p (by omega) i⟩⟩
 ·exact⟨false,rfl,λl=>by cases l⟩
def Sq {N:Nat}(b:18446744073709551616<N) {c:List Bz}(l:1≤c.length) (m:c.length≤32) (x:Int):Df (Jf N c x):=by
 unfold Jf;obtain⟨r,d,n,_⟩:=Zd (N:=N) (λy=>JL N c x y) c.length (by omega) (by omega) λi g=>by
  unfold JL;rw[BG g];exact Df.mk _
 rw[d];simp only[Acb];refine Df.cond (λ_=>Df.bind (Df.ix (by omega) (by omega)) λ_ _=>Df.mk _) λj=>?_;simp only[Ac2] at j;have k:BT ((r:Int)-1)=((r-1:Nat):Int):=by rw[EM (by omega) (by omega)];omega
 rw[k];refine Df.bind (Df.ix (by omega) (by omega)) λ_ _=>Df.cond (λ_=>Df.mk _) λa=>?_;simp only[Ac2] at a;exact Df.bind (Df.ix (by omega) (by omega)) λ_ _=>Df.bind (Df.ix (by omega) (by omega)) λ_ _=>Df.bind (cP b _ _ _) λ_ _=>Df.mk _
end Go.Proofs.YtabonambpbofgaaGreat
