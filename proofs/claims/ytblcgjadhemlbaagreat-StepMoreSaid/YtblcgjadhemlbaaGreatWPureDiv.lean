import Derived.Test.YtblcgjadhemlbaaGreatWForms
import Derived.Lib.Mul64
namespace Go.Proofs.YtblcgjadhemlbaaGreat
set_option linter.all false
open Go.RowKit
abbrev Df {α}(x:Option α):Prop:=∃v,x=some v
def MC (n:Int):IntKind.u64.wrap n=n%18446744073709551616:=by simp [IntKind.wrap,IntKind.bits,IntKind.signed]
def Ed (a:Nat) (b:a<18446744073709551616):IntKind.u64.wrap (a:Int)=a:=by rw[MC];omega
def PG {n:Int}(a:IntKind.u64.has n):IntKind.u64.wrap n=n:=by
 simp [IntKind.has,IntKind.min,IntKind.max,IntKind.bits,IntKind.signed] at a;rw[MC];omega
def Mw {n:Int}:IntKind.u64.has n↔0≤n∧n≤18446744073709551615:=by simp [IntKind.has,IntKind.min,IntKind.max,IntKind.bits,IntKind.signed]
def Ys {n:Int}(b:IntKind.u64.has n):∃a:Nat,n=a∧a<18446744073709551616:=by
 rw[Mw] at b
 exact⟨n.toNat,by omega,by omega⟩
def U7 (a j:Nat) (b:j≤64):Ew .u64 (a:Int) j=((a/2^j:Nat):Int):=by
 unfold Ew
 have e:min j IntKind.u64.bits=j:=by simp [IntKind.bits];omega
 rw[e,Int.fdiv_eq_ediv_of_nonneg _ (Int.le_of_lt (Int.pow_pos (by decide)))]
 simp
def pM (a b:Nat) (g:a<18446744073709551616) (i:b<18446744073709551616):IF .and .u64 (a:Int) (b:Int)=((a&&&b:Nat):Int):=by
 have c:(BitVec.ofInt 64 (a:Int)).toNat=a:=by rw[BitVec.ofInt_natCast,BitVec.toNat_ofNat];exact uI (by omega)
 have d:(BitVec.ofInt 64 (b:Int)).toNat=b:=by rw[BitVec.ofInt_natCast,BitVec.toNat_ofNat];exact uI (by omega)
 have j:a&&&b<2^64:=Nat.and_lt_two_pow _ (by omega)
 show IntKind.u64.wrap (((BitVec.ofInt 64 (a:Int))&&&(BitVec.ofInt 64 (b:Int))).toNat:Int)=_
 rw[BitVec.toNat_and,c,d,Ed _ (by omega)]
def Qr (a:Nat) (b:a<18446744073709551616):IF .and .u64 (a:Int) 4294967295=((a%4294967296:Nat):Int):=by
 have c:=pM a 4294967295 b (by omega)
 have e:a&&&4294967295=a%4294967296:=Nat.and_two_pow_sub_one_eq_mod a 32
 rw[e] at c
 exact c
def M7 (a:Nat):Ew .u64 (a:Int) 32=((a/4294967296:Nat):Int):=U7 a 32 (by omega)
def Oj (a b:Nat):(a:Int)*(b:Int)=((a*b:Nat):Int):=(uK a b).symm
def SL (a b:Nat):(a:Int)+(b:Int)=((a+b:Nat):Int):=(Int.natCast_add a b).symm
def cL (a:Nat):IntKind.u64.wrap (a:Int)=((a%18446744073709551616:Nat):Int):=by rw[MC];omega
def Ok (N x y:Nat) (k:x<18446744073709551616) (l:y<18446744073709551616):HV N (x:Int) (y:Int)=some (((x*y/18446744073709551616:Nat):Int),((x*y%18446744073709551616:Nat):Int)):=by
 obtain⟨bd,m,n,c⟩:=Lib.mul64_hi x y k l
 have p:=Lib.half_mul_le (a:=x/4294967296) (b:=y/4294967296) (by omega) (by omega)
 have q:=Lib.half_mul_le (a:=x/4294967296) (b:=y%4294967296) (by omega) (by omega)
 have s:=Lib.half_mul_le (a:=x%4294967296) (b:=y/4294967296) (by omega) (by omega)
 have d:x/4294967296*(y/4294967296)<18446744073709551616:=by omega
 have g:x/4294967296*(y%4294967296)<18446744073709551616:=by omega
 have i:x%4294967296*(y/4294967296)<18446744073709551616:=by omega
 have j:x/4294967296*(y/4294967296)+(x/4294967296*(y%4294967296)+x%4294967296*(y%4294967296)/4294967296)/4294967296<18446744073709551616:=by omega
 have o:x/4294967296*(y/4294967296)+(x/4294967296*(y%4294967296)+x%4294967296*(y%4294967296)/4294967296)/4294967296+((x/4294967296*(y%4294967296)+x%4294967296*(y%4294967296)/4294967296)%4294967296+x%4294967296*(y/4294967296))/4294967296<18446744073709551616:=by omega
 simp only[HV,M7,Qr x k,Qr y l,Oj,SL,Ed _ bd,Ed _ g,Ed _ m,Qr _ m,Ed _ i,Ed _ n,Ed _ d,Ed _ j,Ed _ o,cL (x*y)]
 rw[c]
def Ln (x n:Nat):Prop:=1≤n∧2^(n-1)≤x∧x<2^n
def Ln.shift {x m s:Nat}(g:Ln (x/2^s) m):Ln x (m+s):=by
 obtain⟨d,b,c⟩:=g
 have a:0<2^s:=uS s
 refine⟨by omega,?_,?_⟩
 ·have:2^(m-1)*2^s≤x:=(Nat.le_div_iff_mul_le a).1 b
  rw[show m+s-1=(m-1)+s by omega,Nat.pow_add];exact this
 ·have:=(vD a).1 c
  rw[Nat.pow_add];exact this
set_option maxRecDepth 20000 in
def oV:∀k:Nat,k<256→Wl L5 (k:Int)=some (((if k=0 then 0 else k.log2+1:Nat)):Int):=by decide +kernel
def Z6 {k:Nat}(h0:0<k) (a:k<256):∃n:Nat,Wl L5 (k:Int)=some (n:Int)∧Ln k n∧n≤8:=by
 have e:=oV k a
 rw[qP (by omega)] at e
 refine⟨_,e,⟨by omega,?_,Nat.lt_log2_self⟩,?_⟩
 ·rw[vE];exact Nat.log2_self_le (by omega)
 ·have:k.log2<8:=(Nat.log2_lt (by omega)).2 a
  omega
def Yh (N:Nat) {x:Nat}(h0:0<x) (u:x<18446744073709551616):∃n:Nat,IS N (x:Int)=some (n:Int)∧Ln x n∧n≤64:=by
 have c:∀a:Nat,a<9223372036854775808→Bw (a:Int)=a:=λa v=>QV (by unfold AH;omega)
 have l:∀a:Nat,a<256→IntKind.u8.wrap (a:Int)=a:=λa v=>by simp [IntKind.wrap,IntKind.bits,IntKind.signed];omega
 have o:∀a b:Nat,0<a→a<256→b≤56→∃n:Nat,GU N (a:Int) (b:Int)=some ((n+b:Nat):Int)∧Ln a n∧n≤8:=λa b j k p=>by
  obtain⟨n,d,g,i⟩:=Z6 j k
  refine⟨n,?_,g,i⟩
  simp only[GU,l a k,d,qN,c n (by omega),SL,Nat.add_comm b n,c (n+b) (by omega)]
 have q:∀a b:Nat,0<a→a<65536→b≤48→∃n:Nat,GV N (a:Int) (b:Int)=some ((n+b:Nat):Int)∧Ln a n∧n≤16:=λa b j k p=>by
  unfold GV
  by_cases s:256≤a
  ·rw[show decide ((256:Int)≤(a:Int))=true by simp;omega,qO,U7 a 8 (by omega)]
   have m:Bw ((b:Int)+8)=((b+8:Nat):Int):=by rw[show ((b:Int)+8)=((b+8:Nat):Int) by omega];exact c _ (by omega)
   rw[m]
   obtain⟨n,d,g,i⟩:=o (a/2^8) (b+8) (by omega) (by omega) (by omega)
   exact⟨n+8,by rw[d,show n+(b+8)=n+8+b by omega],g.shift,by omega⟩
  ·rw[show decide ((256:Int)≤(a:Int))=false by simp;omega,qQ]
   obtain⟨n,d,g,i⟩:=o a b j (by omega) (by omega)
   exact⟨n,d,g,by omega⟩
 have t:∀a b:Nat,0<a→a<4294967296→b≤32→∃n:Nat,GW N (a:Int) (b:Int)=some ((n+b:Nat):Int)∧Ln a n∧n≤32:=λa b j k p=>by
  unfold GW
  by_cases s:65536≤a
  ·rw[show decide ((65536:Int)≤(a:Int))=true by simp;omega,qO,U7 a 16 (by omega)]
   have m:Bw ((b:Int)+16)=((b+16:Nat):Int):=by rw[show ((b:Int)+16)=((b+16:Nat):Int) by omega];exact c _ (by omega)
   rw[m]
   obtain⟨n,d,g,i⟩:=q (a/2^16) (b+16) (by omega) (by omega) (by omega)
   exact⟨n+16,by rw[d,show n+(b+16)=n+16+b by omega],g.shift,by omega⟩
  ·rw[show decide ((65536:Int)≤(a:Int))=false by simp;omega,qQ]
   obtain⟨n,d,g,i⟩:=q a b j (by omega) (by omega)
   exact⟨n,d,g,by omega⟩
 unfold IS
 by_cases s:4294967296≤x
 ·rw[show decide ((4294967296:Int)≤(x:Int))=true by simp;omega,qO,U7 x 32 (by omega)]
  obtain⟨n,d,g,i⟩:=t (x/2^32) 32 (by omega) (by omega) (by omega)
  exact⟨n+32,by rw[show ((32:Int))=((32:Nat):Int) from rfl,d],g.shift,by omega⟩
 ·rw[show decide ((4294967296:Int)≤(x:Int))=false by simp;omega,qQ]
  obtain⟨n,d,g,i⟩:=t x 0 h0 (by omega) (by omega)
  exact⟨n,d,g,by omega⟩
def dD (N:Nat) {y:Nat}(h0:0<y) (a:y<18446744073709551616):∃s:Nat,FD N (y:Int)=some (s:Int)∧s≤63∧9223372036854775808≤y*2^s∧y*2^s<18446744073709551616:=by
 obtain⟨n,b,⟨g,c,d⟩,i⟩:=Yh N h0 a
 refine⟨64-n,?_,by omega,?_,?_⟩
 ·simp only[FD,b,qN]
  rw[QV (by unfold AH;omega)]
  congr 1;omega
 ·have:=sY (2^(64-n)) c
  rw[←Nat.pow_add,show n-1+(64-n)=63 by omega] at this
  exact this
 ·have:=Nat.mul_lt_mul_of_pos_right d (uS (64-n))
  rw[←Nat.pow_add,show n+(64-n)=64 by omega] at this
  exact this
end Go.Proofs.YtblcgjadhemlbaaGreat
namespace Go.Proofs.YtblcgjadhemlbaaGreat
set_option linter.all false
open Go.RowKit
def Df.mk {α}(v:α):Df (some v):=⟨v,rfl⟩
def Df.bind {α β}{a:Option α}{f:α→Option β}(d:Df a) (k:∀v,a=some v→Df (f v)):Df (a.bind f):=by
 obtain⟨v,b⟩:=d
 obtain⟨u,c⟩:=k v b
 exact⟨u,by rw[b];exact c⟩
def Df.cond {α}{b:Bool}{x y:Option α}(a:b=true→Df x) (c:b=false→Df y):Df (cond b x y):=by
 cases b
 ·exact c rfl
 ·exact a rfl
def GC {α}(b:Bool) (x y:α):cond b (some x) (some y)=some (cond b x y):=by cases b<;>rfl
def BR {α}{l:List α}{i:Nat}(a:i<l.length):ix l (i:Int)=some l[i]:=by simp [ix,a]
def Df.ix {α}{l:List α}{i:Int}(h0:0≤i) (a:i<l.length):Df (ix l i):=by
 obtain⟨j,rfl⟩:∃j:Nat,i=j:=⟨i.toNat,by omega⟩
 exact⟨_,BR (by omega)⟩
def Cx {n:Int}(h0: -9223372036854775808≤n) (a:n≤9223372036854775807):Bw n=n:=QV ⟨h0,a⟩
def gE {n:Int}:∃j,OK (IntKind.u64.wrap n)=some j∧(j:Int)=IntKind.u64.wrap n:=by
 have:=(Mw.1 (E5 .u64 n)).1
 exact⟨(IntKind.u64.wrap n).toNat,by unfold OK;rw[qP (by omega)],by omega⟩
def VE {k:IntKind}{x y:Int}(a:y≠0):Df (P0 k x y):=⟨_,by unfold P0;rw[qP a]⟩
def eZ {x y:Int}(a:y≠0):Df (Sg x y):=⟨_,by unfold Sg;rw[qP a]⟩
def ZT (N:Nat) (c y:Int) (b a:Nat) (d:Int→Option (Int×Int)) (g:∀v,Df (d v)):∀(n:Nat) (q r:Int),IntKind.u64.has q→q.toNat<n→Df (Dh N c y b a d n q r)
 |0,q,r,l,i=>by omega
 |n+1,q,r,l,i=>by
  have k:=Mw.1 l
  unfold Dh
  refine Df.cond (λj=>?_) λ_=>g _
  have h0:q≠0:=by
   rintro rfl
   have:=(Mw.1 (E5 .u64 (IntKind.u64.wrap (4294967296*r)+Ew .u64 (D4 .u64 c a) 32))).1
   simp [MC] at j this
   omega
  have e:IntKind.u64.wrap (q-1)=q-1:=PG (Mw.2 (by omega))
  refine Df.cond (λ_=>g _) λ_=>?_
  exact ZT N c y b a d g n _ _ (E5 _ _) (by rw[e];omega)
def ZS (N:Nat) (c y:Int) (b a:Nat) (d:Int→Option (Int×Int)) (g:∀v,Df (d v)):∀(n:Nat) (r q:Int),IntKind.u64.has q→q.toNat<n→Df (D8 N c y b a d n r q)
 |0,r,q,l,i=>by omega
 |n+1,r,q,l,i=>by
  have k:=Mw.1 l
  unfold D8
  refine Df.cond (λj=>?_) λ_=>g _
  have h0:q≠0:=by
   rintro rfl
   have:=(Mw.1 (E5 .u64 (IntKind.u64.wrap (4294967296*r)+IF .and .u64 (D4 .u64 c a) 4294967295))).1
   simp [MC] at j this
   omega
  have e:IntKind.u64.wrap (q-1)=q-1:=PG (Mw.2 (by omega))
  refine Df.cond (λ_=>g _) λ_=>?_
  exact ZS N c y b a d g n _ _ (E5 _ _) (by rw[e];omega)
def BN:Nat:=36893488147419103232
def oE:18446744073709551616<BN:=by decide
def aM {a s:Nat}(j:s≤63) (c:9223372036854775808≤a*2^s) (b:a*2^s<18446744073709551616):Ew .u64 (D4 .u64 (a:Int) s) 32≠0:=by
 have d:D4 .u64 (a:Int) s=((a*2^s:Nat):Int):=by
  unfold D4
  have g:min s IntKind.u64.bits=s:=by simp [IntKind.bits];omega
  have i:((a:Int)*2^s)=((a*2^s:Nat):Int):=by simp
  rw[g,i]
  exact Ed _ b
 rw[d,M7]
 generalize a*2^s=t at c b
 omega
def gB (N:Nat) (i k y g:Int) (a b c d:Nat) (q v:Int):Df (FE N i k y g a b c d q v):=by
 unfold FE
 obtain⟨j,l,_⟩:=gE (n:=g)
 rw[l]
 exact Df.mk _
def gC {N:Nat}(o:18446744073709551616<N) (l k y m:Int) (b g i c:Nat) (q:Int) (hd:Ew .u64 (D4 .u64 y b) 32≠0):Df (D9 N l k y m b g i c q):=by
 unfold D9
 refine Df.bind (VE hd) λj d=>?_
 have a:=NE d
 have n:=(Mw.1 a)
 exact ZS N k y b c _ (λv=>gB _ _ _ _ _ _ _ _ _ _ _) N _ j a (by omega)
def Ug {N:Nat}(A:18446744073709551616<N) {o q y:Int}(B:IntKind.u64.has o) (h2:IntKind.u64.has q) (C:IntKind.u64.has y) (h:o<y):Df (Ft N o q y):=by
 have g1:=Mw.1 B
 have g:y≠0:=by omega
 have t:¬y≤o:=by omega
 unfold Ft
 refine Df.cond (λp=>absurd (tK p) g) λ_=>Df.cond (λp=>absurd (tK p) t) λ_=>Df.cond (λ_=>?_) λ_=>?_
 ·exact Df.bind (VE g) λ_ _=>Df.bind (eZ g) λ_ _=>Df.mk _
 ·obtain⟨D,u,F⟩:=Ys C
  obtain⟨s,G,H,I,J⟩:=dD N (show 0<D by omega) F
  have hd:∀j:Nat,(j:Int)=IntKind.u64.wrap (s:Int)→Ew .u64 (D4 .u64 y j) 32≠0:=λj K=>by
   rw[Ed s (by omega)] at K
   have:j=s:=by omega
   rw[this,u]
   exact aM H I J
  rw[u,G]
  rw[←u]
  refine Df.bind (Df.mk _) λw x=>?_
  have i:w=(s:Int):=(qS x).symm
  obtain⟨k,M,Q⟩:=gE (n:=w)
  obtain⟨U,V,_⟩:=gE (n:=(64-IntKind.u64.wrap w))
  have l:=hd k (by rw[Q,i])
  rw[M,V]
  refine Df.bind (Df.mk _) λa W=>Df.bind (Df.mk _) λb hb=>Df.bind (Df.mk _) λc p=>Df.bind (Df.mk _) λd X=>?_
  have Y:=qS W
  rw[←Y]
  refine Df.bind (VE l) λz Z=>?_
  have m:=NE Z
  have aa:=Mw.1 m
  exact ZT N q y k d _ (λv=>gC A _ _ _ _ _ _ _ _ _ l) N z _ m (by omega)
def YP {N:Nat}(g:18446744073709551616<N) (a num den:Int):Df (GA N a num den):=by
 unfold GA
 refine Df.cond (λ_=>Df.mk _) λb=>?_
 simp only[rS,rO] at b
 obtain⟨⟨⟨⟨⟨l,m⟩,o⟩,p⟩,q⟩,s⟩:=b
 obtain⟨c,i⟩:∃n:Nat,a=n:=⟨a.toNat,by omega⟩
 obtain⟨d,j⟩:∃n:Nat,num=n:=⟨num.toNat,by omega⟩
 subst i;subst j
 rw[Ed c (by omega),Ed d (by omega),Ok N c d (by omega) (by omega)]
 simp only[qN]
 have hd:IntKind.u64.wrap den=den:=PG (Mw.2 (by omega))
 rw[hd]
 refine Df.cond (λ_=>Df.mk _) λb=>?_
 simp only[rO] at b
 have k:c*d<18446744073709551616*18446744073709551616:=Nat.mul_lt_mul'' (by omega) (by omega)
 refine Df.bind (Ug g (Mw.2 ⟨by omega,by omega⟩) (Mw.2 ⟨by omega,by omega⟩) (Mw.2 (by omega)) (by omega)) λv _=>?_
 exact Df.cond (λ_=>Df.mk _) λ_=>Df.mk _
def MG {N:Nat}(c:18446744073709551616<N) {num den:Int}(h0:0≤num) (k:0≤den) (l:den≤9223372036854775807):Df (ET N num den):=by
 unfold ET
 refine Df.cond (λ_=>Df.mk _) λd=>?_
 simp only[rO] at d
 refine Df.cond (λ_=>Df.mk _) λa=>?_
 simp only[rO] at a
 obtain⟨b,g⟩:∃n:Nat,num=n:=⟨num.toNat,by omega⟩
 obtain⟨i,j⟩:∃n:Nat,den=n:=⟨den.toNat,by omega⟩
 subst g;subst j
 rw[Ed b (by omega),Ed i (by omega),show(1099511627776:Int)=((1099511627776:Nat):Int) from rfl,Ok N b 1099511627776 (by omega) (by omega)]
 simp only[qN]
 refine Df.bind (Ug c (Mw.2 ⟨by omega,by omega⟩) (Mw.2 ⟨by omega,by omega⟩) (Mw.2 (by omega)) (by omega)) λv _=>?_
 exact Df.cond (λ_=>Df.mk _) λ_=>Df.mk _
def fJ {i j:Nat}(b:i+j<9223372036854775808):Bw (Ew .u64 (IntKind.u64.wrap (Bw ((i:Int)+(j:Int)))) 1)=(((i+j)/2:Nat):Int):=by
 have a:Bw ((i:Int)+(j:Int))=((i+j:Nat):Int):=by rw[Cx (by omega) (by omega)];rfl
 rw[a,Ed _ (by omega),U7 _ 1 (by omega),Cx (by omega) (by omega)]
def PK {N:Nat}(f:Int→Option Bool) (L:Nat) (d:L<4611686018427387904) (b:∀i:Nat,i<L→Df (f i)) (a:Int→Option Int):∀(n i j:Nat),i≤j→j≤L→j-i<n→(0<i→f ((i-1:Nat):Int)=some false)→(j<L→f (j:Int)=some true)→
  ∃r:Nat,GT N f a n (i:Int) (j:Int)=a (r:Int)∧r≤L∧(0<r→f ((r-1:Nat):Int)=some false)∧(r<L→f (r:Int)=some true)
 |0,i,j,_,_,q,_,_=>by omega
 |n+1,i,j,o,g,p,k,l=>by
  unfold GT
  by_cases m:i<j
  ·rw[show decide ((i:Int)<(j:Int))=true by simp;omega,qO,fJ (by omega)]
   obtain⟨v,c⟩:=b ((i+j)/2) (by omega)
   rw[c]
   simp only[qN]
   cases v
   ·simp only[Bool.not_false,qO]
    have e:Bw ((((i+j)/2:Nat):Int)+1)=(((i+j)/2+1:Nat):Int):=by rw[Cx (by omega) (by omega)];rfl
    rw[e]
    exact PK f L d b a n _ j (by omega) g (by omega) (λ_=>by rw[vE];exact c) l
   ·simp only[sH,qQ]
    exact PK f L d b a n i _ (by omega) (by omega) (by omega) k (λ_=>c)
  ·have e:i=j:=by omega
   subst e
   rw[show decide ((i:Int)<(i:Int))=false by simp,qQ]
   exact⟨i,rfl,g,k,l⟩
def Rs {N:Nat}(f:Int→Option Bool) (L:Nat) (a:L<4611686018427387904) (g:L<N) (b:∀i:Nat,i<L→Df (f i)):∃r:Nat,Ko N (L:Int) f=some (r:Int)∧r≤L∧(0<r→f ((r-1:Nat):Int)=some false)∧(r<L→f (r:Int)=some true):=by
 obtain⟨r,c,d⟩:=PK (N:=N) f L a b (Ik N) N 0 L (qW _) (qX _) (by omega) (λj=>absurd j (by omega)) (λj=>absurd j (by omega))
 exact⟨r,c,d⟩
def Hu (n:Int):Prop:=0≤n∧n≤1125899906842624
def EU (c:List BS):Prop:=1≤c.length∧c.length≤32∧∀(k:Nat) p,c[k]? =some p→Hu p.K∧Hu p.Q∧∀q,0<k→c[k-1]? =some q→q.K<p.K∧q.Q≤p.Q
def Uh {N:Nat}(c:List BS) (o:c.length≤32):∀(n k:Nat),c.length<n+k→k≤c.length→∃v,Et N c (G4 N) n (k:Int)=some v∧(v=true→∀(i:Nat) p,k≤i→c[i]? =some p→Hu p.K∧Hu p.Q∧∀q,0<i→c[i-1]? =some q→q.K<p.K∧q.Q≤p.Q)
 |0,k,A,s=>by omega
 |n+1,k,A,s=>by
  unfold Et
  by_cases g:k<c.length
  ·rw[show decide ((k:Int)<(c.length:Int))=true by simp;omega,qO,BR g]
   simp only[qN]
   cases t:(decide ((c[k]).K<0)||decide (1125899906842624<(c[k]).K)||decide ((c[k]).Q<0)||decide (1125899906842624<(c[k]).Q))
   ·simp only[qQ]
    simp only[rS,rO] at t
    obtain⟨v,u,l⟩:=Uh (N:=N) c o n (k+1) (by omega) (by omega)
    have w:Bw ((k:Int)+1)=((k+1:Nat):Int):=by rw[Cx (by omega) (by omega)];rfl
    rw[w,u]
    by_cases h0:0<k
    ·have x:Bw ((k:Int)-1)=((k-1:Nat):Int):=by rw[Cx (by omega) (by omega)];omega
     rw[show decide ((0:Int)<(k:Int))=true by simp;omega,x,BR (show k-1<c.length by omega)]
     simp only[qO,qN,GC]
     cases b:cond (decide ((c[k]).K≤(c[k-1]).K)) true (decide ((c[k]).Q<(c[k-1]).Q))
     ·simp only[qQ]
      refine⟨v,rfl,λd i p m a=>?_⟩
      by_cases e:i=k
      ·subst e
       have:p=c[i]:=by simpa [g] using a.symm
       subst this
       refine⟨⟨by omega,by omega⟩,⟨by omega,by omega⟩,λq _ y=>?_⟩
       have:q=c[i-1]:=by simpa [show i-1<c.length by omega] using y.symm
       subst this
       cases j:decide ((c[i]).K≤(c[i-1]).K) with
       |true=>rw[j] at b;simp at b
       |false=>
        rw[j] at b
        simp only[qQ,rO] at b j
        omega
      ·exact l d i p (by omega) a
     ·exact⟨false,rfl,λA=>by cases A⟩
    ·have z:k=0:=by omega
     subst z
     rw[show decide ((0:Int)<((0:Nat):Int))=false by simp]
     simp only[qQ,qN]
     refine⟨v,rfl,λd i p m a=>?_⟩
     by_cases e:i=0
     ·subst e
      have:p=c[0]:=by simpa [g] using a.symm
      subst this
      exact⟨⟨by omega,by omega⟩,⟨by omega,by omega⟩,λq A _=>absurd A (by omega)⟩
     ·exact l d i p (by omega) a
   ·exact⟨false,rfl,λA=>by cases A⟩
  ·rw[show decide ((k:Int)<(c.length:Int))=false by simp;omega,qQ]
   refine⟨true,rfl,λ_ i p m a=>?_⟩
   have:=(rB.1 a).1
   omega
def JW {N:Nat}(j:33<N) (c:List BS):∃v,Eu N c=some v∧(v=true→EU c):=by
 unfold Eu
 cases a:(decide ((c.length:Int)<1)||decide (32<(c.length:Int)))
 ·simp only[rS,rO] at a
  obtain⟨v,b,d⟩:=Uh (N:=N) c (by omega) N 0 (by omega) (by omega)
  exact⟨v,b,λg=>⟨by omega,by omega,λk p i=>d g k p (by omega) i⟩⟩
 ·exact⟨false,rfl,λl=>by cases l⟩
def QY {N:Nat}(b:18446744073709551616<N) {c:List BS}(l:1≤c.length) (m:c.length≤32) (x:Int):Df (HC N c x):=by
 unfold HC
 obtain⟨r,d,n,_⟩:=Rs (N:=N) (λy=>FH N c x y) c.length (by omega) (by omega) λi g=>by
  unfold FH
  rw[BR g];exact Df.mk _
 rw[d]
 simp only[qN]
 refine Df.cond (λ_=>Df.bind (Df.ix (by omega) (by omega)) λ_ _=>Df.mk _) λj=>?_
 simp only[rO] at j
 have k:Bw ((r:Int)-1)=((r-1:Nat):Int):=by rw[Cx (by omega) (by omega)];omega
 rw[k]
 refine Df.bind (Df.ix (by omega) (by omega)) λ_ _=>Df.cond (λ_=>Df.mk _) λa=>?_
 simp only[rO] at a
 exact Df.bind (Df.ix (by omega) (by omega)) λ_ _=>Df.bind (Df.ix (by omega) (by omega)) λ_ _=>Df.bind (YP b _ _ _) λ_ _=>Df.mk _
end Go.Proofs.YtblcgjadhemlbaaGreat
