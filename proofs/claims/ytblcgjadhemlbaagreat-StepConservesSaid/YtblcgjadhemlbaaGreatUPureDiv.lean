import Derived.Test.YtblcgjadhemlbaaGreatUForms
import Derived.Lib.Mul64
namespace Go.Proofs.YtblcgjadhemlbaaGreat
open Go.RowKit
set_option linter.unusedVariables false
set_option linter.unusedSimpArgs false
abbrev Df {α}(x:Option α):Prop:=∃v,x=some v
theorem LE (n:Int):IntKind.u64.wrap n=n%18446744073709551616:=by simp [IntKind.wrap,IntKind.bits,IntKind.signed]
theorem D2 (a:Nat) (h:a<18446744073709551616):IntKind.u64.wrap (a:Int)=a:=by rw[LE];omega
theorem N9 {n:Int}(h:IntKind.u64.has n):IntKind.u64.wrap n=n:=by
 simp [IntKind.has,IntKind.min,IntKind.max,IntKind.bits,IntKind.signed] at h;rw[LE];omega
theorem L4 {n:Int}:IntKind.u64.has n↔0≤n∧n≤18446744073709551615:=by simp [IntKind.has,IntKind.min,IntKind.max,IntKind.bits,IntKind.signed]
theorem Wk {n:Int}(h:IntKind.u64.has n):∃a:Nat,n=a∧a<18446744073709551616:=by
 rw[L4] at h
 exact⟨n.toNat,by omega,by omega⟩
theorem TX (a j:Nat) (hj:j≤64):Dp .u64 (a:Int) j=((a/2^j:Nat):Int):=by
 unfold Dp
 have e:min j IntKind.u64.bits=j:=by simp [IntKind.bits];omega
 rw[e,Int.fdiv_eq_ediv_of_nonneg _ (Int.le_of_lt (Int.pow_pos (by decide)))]
 simp
theorem jZ (a b:Nat) (ha:a<18446744073709551616) (hb:b<18446744073709551616):Gx .and .u64 (a:Int) (b:Int)=((a&&&b:Nat):Int):=by
 have h1:(BitVec.ofInt 64 (a:Int)).toNat=a:=by rw[BitVec.ofInt_natCast,BitVec.toNat_ofNat];exact Nat.mod_eq_of_lt (by omega)
 have h2:(BitVec.ofInt 64 (b:Int)).toNat=b:=by rw[BitVec.ofInt_natCast,BitVec.toNat_ofNat];exact Nat.mod_eq_of_lt (by omega)
 have h3:a&&&b<2^64:=Nat.and_lt_two_pow _ (by omega)
 show IntKind.u64.wrap (((BitVec.ofInt 64 (a:Int))&&&(BitVec.ofInt 64 (b:Int))).toNat:Int)=_
 rw[BitVec.toNat_and,h1,h2,D2 _ (by omega)]
theorem Ph (a:Nat) (ha:a<18446744073709551616):Gx .and .u64 (a:Int) 4294967295=((a%4294967296:Nat):Int):=by
 have h:=jZ a 4294967295 ha (by omega)
 have e:a&&&4294967295=a%4294967296:=Nat.and_two_pow_sub_one_eq_mod a 32
 rw[e] at h
 exact h
theorem MG (a:Nat):Dp .u64 (a:Int) 32=((a/4294967296:Nat):Int):=TX a 32 (by omega)
theorem Nh (a b:Nat):(a:Int)*(b:Int)=((a*b:Nat):Int):=(Int.natCast_mul a b).symm
theorem Qu (a b:Nat):(a:Int)+(b:Int)=((a+b:Nat):Int):=(Int.natCast_add a b).symm
theorem Y8 (a:Nat):IntKind.u64.wrap (a:Int)=((a%18446744073709551616:Nat):Int):=by rw[LE];omega
theorem Pg (N x y:Nat) (hx:x<18446744073709551616) (hy:y<18446744073709551616):GH N (x:Int) (y:Int)=some (((x*y/18446744073709551616:Nat):Int),((x*y%18446744073709551616:Nat):Int)):=by
 obtain⟨bd,bt,bw,hhi⟩:=Lib.mul64_hi x y hx hy
 have ba:=Lib.half_mul_le (a:=x/4294967296) (b:=y/4294967296) (by omega) (by omega)
 have bb:=Lib.half_mul_le (a:=x/4294967296) (b:=y%4294967296) (by omega) (by omega)
 have bc:=Lib.half_mul_le (a:=x%4294967296) (b:=y/4294967296) (by omega) (by omega)
 have ba':x/4294967296*(y/4294967296)<18446744073709551616:=by omega
 have bb':x/4294967296*(y%4294967296)<18446744073709551616:=by omega
 have bc':x%4294967296*(y/4294967296)<18446744073709551616:=by omega
 have bh1:x/4294967296*(y/4294967296)+(x/4294967296*(y%4294967296)+x%4294967296*(y%4294967296)/4294967296)/4294967296<18446744073709551616:=by omega
 have bh:x/4294967296*(y/4294967296)+(x/4294967296*(y%4294967296)+x%4294967296*(y%4294967296)/4294967296)/4294967296+((x/4294967296*(y%4294967296)+x%4294967296*(y%4294967296)/4294967296)%4294967296+x%4294967296*(y/4294967296))/4294967296<18446744073709551616:=by omega
 simp only[GH,MG,Ph x hx,Ph y hy,Nh,Qu,D2 _ bd,D2 _ bb',D2 _ bt,Ph _ bt,D2 _ bc',D2 _ bw,D2 _ ba',D2 _ bh1,D2 _ bh,Y8 (x*y)]
 rw[hhi]
def Ln (x n:Nat):Prop:=1≤n∧2^(n-1)≤x∧x<2^n
theorem Ln.shift {x m s:Nat}(h:Ln (x/2^s) m):Ln x (m+s):=by
 obtain⟨h1,h2,h3⟩:=h
 have hp:0<2^s:=Nat.two_pow_pos s
 refine⟨by omega,?_,?_⟩
 ·have:2^(m-1)*2^s≤x:=(Nat.le_div_iff_mul_le hp).1 h2
  rw[show m+s-1=(m-1)+s by omega,Nat.pow_add];exact this
 ·have:=(Nat.div_lt_iff_lt_mul hp).1 h3
  rw[Nat.pow_add];exact this
set_option maxRecDepth 20000 in
theorem jJ:∀k:Nat,k<256→Uq K7 (k:Int)=some (((if k=0 then 0 else k.log2+1:Nat)):Int):=by decide +kernel
theorem X2 {k:Nat}(h0:0<k) (h:k<256):∃n:Nat,Uq K7 (k:Int)=some (n:Int)∧Ln k n∧n≤8:=by
 have e:=jJ k h
 rw[if_neg (by omega)] at e
 refine⟨_,e,⟨by omega,?_,Nat.lt_log2_self⟩,?_⟩
 ·rw[Nat.add_sub_cancel];exact Nat.log2_self_le (by omega)
 ·have:k.log2<8:=(Nat.log2_lt (by omega)).2 h
  omega
theorem WZ (N:Nat) {x:Nat}(h0:0<x) (hx:x<18446744073709551616):∃n:Nat,HG N (x:Int)=some (n:Int)∧Ln x n∧n≤64:=by
 have w64N:∀a:Nat,a<9223372036854775808→BC (a:Int)=a:=λa h=>PO (by unfold AG;omega)
 have u8N:∀a:Nat,a<256→IntKind.u8.wrap (a:Int)=a:=λa h=>by simp [IntKind.wrap,IntKind.bits,IntKind.signed];omega
 have j2:∀a b:Nat,0<a→a<256→b≤56→∃n:Nat,FA N (a:Int) (b:Int)=some ((n+b:Nat):Int)∧Ln a n∧n≤8:=λa b h1 h2 hb=>by
  obtain⟨n,e1,e2,e3⟩:=X2 h1 h2
  refine⟨n,?_,e2,e3⟩
  simp only[FA,u8N a h2,e1,Option.bind_some,w64N n (by omega),Qu,Nat.add_comm b n,w64N (n+b) (by omega)]
 have j1:∀a b:Nat,0<a→a<65536→b≤48→∃n:Nat,FB N (a:Int) (b:Int)=some ((n+b:Nat):Int)∧Ln a n∧n≤16:=λa b h1 h2 hb=>by
  unfold FB
  by_cases hc:256≤a
  ·rw[show decide ((256:Int)≤(a:Int))=true by simp;omega,cond_true,TX a 8 (by omega)]
   have e8:BC ((b:Int)+8)=((b+8:Nat):Int):=by rw[show ((b:Int)+8)=((b+8:Nat):Int) by omega];exact w64N _ (by omega)
   rw[e8]
   obtain⟨n,e1,e2,e3⟩:=j2 (a/2^8) (b+8) (by omega) (by omega) (by omega)
   exact⟨n+8,by rw[e1,show n+(b+8)=n+8+b by omega],e2.shift,by omega⟩
  ·rw[show decide ((256:Int)≤(a:Int))=false by simp;omega,cond_false]
   obtain⟨n,e1,e2,e3⟩:=j2 a b h1 (by omega) (by omega)
   exact⟨n,e1,e2,by omega⟩
 have j0:∀a b:Nat,0<a→a<4294967296→b≤32→∃n:Nat,FC N (a:Int) (b:Int)=some ((n+b:Nat):Int)∧Ln a n∧n≤32:=λa b h1 h2 hb=>by
  unfold FC
  by_cases hc:65536≤a
  ·rw[show decide ((65536:Int)≤(a:Int))=true by simp;omega,cond_true,TX a 16 (by omega)]
   have e8:BC ((b:Int)+16)=((b+16:Nat):Int):=by rw[show ((b:Int)+16)=((b+16:Nat):Int) by omega];exact w64N _ (by omega)
   rw[e8]
   obtain⟨n,e1,e2,e3⟩:=j1 (a/2^16) (b+16) (by omega) (by omega) (by omega)
   exact⟨n+16,by rw[e1,show n+(b+16)=n+16+b by omega],e2.shift,by omega⟩
  ·rw[show decide ((65536:Int)≤(a:Int))=false by simp;omega,cond_false]
   obtain⟨n,e1,e2,e3⟩:=j1 a b h1 (by omega) (by omega)
   exact⟨n,e1,e2,by omega⟩
 unfold HG
 by_cases hc:4294967296≤x
 ·rw[show decide ((4294967296:Int)≤(x:Int))=true by simp;omega,cond_true,TX x 32 (by omega)]
  obtain⟨n,e1,e2,e3⟩:=j0 (x/2^32) 32 (by omega) (by omega) (by omega)
  exact⟨n+32,by rw[show ((32:Int))=((32:Nat):Int) from rfl,e1],e2.shift,by omega⟩
 ·rw[show decide ((4294967296:Int)≤(x:Int))=false by simp;omega,cond_false]
  obtain⟨n,e1,e2,e3⟩:=j0 x 0 h0 (by omega) (by omega)
  exact⟨n,e1,e2,by omega⟩
theorem ZP (N:Nat) {y:Nat}(h0:0<y) (hy:y<18446744073709551616):∃s:Nat,D6 N (y:Int)=some (s:Int)∧s≤63∧9223372036854775808≤y*2^s∧y*2^s<18446744073709551616:=by
 obtain⟨n,e1,⟨e2,e3,e4⟩,e5⟩:=WZ N h0 hy
 refine⟨64-n,?_,by omega,?_,?_⟩
 ·simp only[D6,e1,Option.bind_some]
  rw[PO (by unfold AG;omega)]
  congr 1;omega
 ·have:=Nat.mul_le_mul_right (2^(64-n)) e3
  rw[←Nat.pow_add,show n-1+(64-n)=63 by omega] at this
  exact this
 ·have:=Nat.mul_lt_mul_of_pos_right e4 (Nat.two_pow_pos (64-n))
  rw[←Nat.pow_add,show n+(64-n)=64 by omega] at this
  exact this
end Go.Proofs.YtblcgjadhemlbaaGreat
namespace Go.Proofs.YtblcgjadhemlbaaGreat
open Go.RowKit
set_option linter.unusedVariables false
set_option linter.unusedSimpArgs false
theorem Df.mk {α}(v:α):Df (some v):=⟨v,rfl⟩
theorem Df.bind {α β}{a:Option α}{f:α→Option β}(h:Df a) (k:∀v,a=some v→Df (f v)):Df (Option.bind a f):=by
 obtain⟨v,hv⟩:=h
 obtain⟨u,hu⟩:=k v hv
 exact⟨u,by rw[hv];exact hu⟩
theorem Df.cond {α}{b:Bool}{x y:Option α}(h1:b=true→Df x) (h2:b=false→Df y):Df (cond b x y):=by
 cases b
 ·exact h2 rfl
 ·exact h1 rfl
theorem Fi {α}(b:Bool) (x y:α):cond b (some x) (some y)=some (cond b x y):=by cases b<;>rfl
theorem BA {α}{l:List α}{i:Nat}(h:i<l.length):ix l (i:Int)=some l[i]:=by simp [ix,h]
theorem Df.ix {α}{l:List α}{i:Int}(h0:0≤i) (h:i<l.length):Df (ix l i):=by
 obtain⟨j,rfl⟩:∃j:Nat,i=j:=⟨i.toNat,by omega⟩
 exact⟨_,BA (by omega)⟩
theorem DB {n:Int}(h0: -9223372036854775808≤n) (h1:n≤9223372036854775807):BC n=n:=PO ⟨h0,h1⟩
theorem aV {n:Int}:∃j,NL (IntKind.u64.wrap n)=some j∧(j:Int)=IntKind.u64.wrap n:=by
 have:=(L4.1 (Dz .u64 n)).1
 exact⟨(IntKind.u64.wrap n).toNat,by unfold NL;rw[if_neg (by omega)],by omega⟩
theorem Td {k:IntKind}{x y:Int}(h:y≠0):Df (Ow k x y):=⟨_,by unfold Ow;rw[if_neg h]⟩
theorem Z4 {x y:Int}(h:y≠0):Df (RI x y):=⟨_,by unfold RI;rw[if_neg h]⟩
theorem XN (N:Nat) (lo y:Int) (j14 j17:Nat) (kj:Int→Option (Int×Int)) (hk:∀v,Df (kj v)):∀(n:Nat) (q r:Int),IntKind.u64.has q→q.toNat<n→Df (Cd N lo y j14 j17 kj n q r)
 |0,q,r,h,hn=>by omega
 |n+1,q,r,h,hn=>by
  have hh:=L4.1 h
  unfold Cd
  refine Df.cond (λhc=>?_) λ_=>hk _
  have h0:q≠0:=by
   rintro rfl
   have:=(L4.1 (Dz .u64 (IntKind.u64.wrap (4294967296*r)+Dp .u64 (Cw .u64 lo j17) 32))).1
   simp [LE] at hc this
   omega
  have e:IntKind.u64.wrap (q-1)=q-1:=N9 (L4.2 (by omega))
  refine Df.cond (λ_=>hk _) λ_=>?_
  exact XN N lo y j14 j17 kj hk n _ _ (Dz _ _) (by rw[e];omega)
theorem XM (N:Nat) (lo y:Int) (j14 j17:Nat) (kj:Int→Option (Int×Int)) (hk:∀v,Df (kj v)):∀(n:Nat) (r q:Int),IntKind.u64.has q→q.toNat<n→Df (C1 N lo y j14 j17 kj n r q)
 |0,r,q,h,hn=>by omega
 |n+1,r,q,h,hn=>by
  have hh:=L4.1 h
  unfold C1
  refine Df.cond (λhc=>?_) λ_=>hk _
  have h0:q≠0:=by
   rintro rfl
   have:=(L4.1 (Dz .u64 (IntKind.u64.wrap (4294967296*r)+Gx .and .u64 (Cw .u64 lo j17) 4294967295))).1
   simp [LE] at hc this
   omega
  have e:IntKind.u64.wrap (q-1)=q-1:=N9 (L4.2 (by omega))
  refine Df.cond (λ_=>hk _) λ_=>?_
  exact XM N lo y j14 j17 kj hk n _ _ (Dz _ _) (by rw[e];omega)
def BN:Nat:=36893488147419103232
theorem iP:18446744073709551616<BN:=by decide
theorem YH {yn s:Nat}(hs:s≤63) (e3:9223372036854775808≤yn*2^s) (e4:yn*2^s<18446744073709551616):Dp .u64 (Cw .u64 (yn:Int) s) 32≠0:=by
 have e9:Cw .u64 (yn:Int) s=((yn*2^s:Nat):Int):=by
  unfold Cw
  have hm:min s IntKind.u64.bits=s:=by simp [IntKind.bits];omega
  have hp:((yn:Int)*2^s)=((yn*2^s:Nat):Int):=by simp
  rw[hm,hp]
  exact D2 _ e4
 rw[e9,MG]
 generalize yn*2^s=t at e3 e4
 omega
theorem aT (N:Nat) (hi lo y y8:Int) (j14 j15 j16 j17:Nat) (q v:Int):Df (D7 N hi lo y y8 j14 j15 j16 j17 q v):=by
 unfold D7
 obtain⟨j,hj,_⟩:=aV (n:=y8)
 rw[hj]
 exact Df.mk _
theorem aU {N:Nat}(hN:18446744073709551616<N) (hi lo y y8:Int) (j14 j15 j16 j17:Nat) (q:Int) (hd:Dp .u64 (Cw .u64 y j14) 32≠0):Df (C2 N hi lo y y8 j14 j15 j16 j17 q):=by
 unfold C2
 refine Df.bind (Td hd) λz41 hz41=>?_
 have hz41h:=MK hz41
 have hlt:=(L4.1 hz41h)
 exact XM N lo y j14 j17 _ (λv=>aT _ _ _ _ _ _ _ _ _ _ _) N _ z41 hz41h (by omega)
theorem S7 {N:Nat}(hN:18446744073709551616<N) {hi lo y:Int}(h1:IntKind.u64.has hi) (h2:IntKind.u64.has lo) (h3:IntKind.u64.has y) (h:hi<y):Df (EY N hi lo y):=by
 have g1:=L4.1 h1
 have hy0:y≠0:=by omega
 have hyh:¬y≤hi:=by omega
 unfold EY
 refine Df.cond (λhc=>absurd (of_decide_eq_true hc) hy0) λ_=>Df.cond (λhc=>absurd (of_decide_eq_true hc) hyh) λ_=>Df.cond (λ_=>?_) λ_=>?_
 ·exact Df.bind (Td hy0) λ_ _=>Df.bind (Z4 hy0) λ_ _=>Df.mk _
 ·obtain⟨yn,ey,hy⟩:=Wk h3
  obtain⟨s,e1,e2,e3,e4⟩:=ZP N (show 0<yn by omega) hy
  have hd:∀j:Nat,(j:Int)=IntKind.u64.wrap (s:Int)→Dp .u64 (Cw .u64 y j) 32≠0:=λj hj=>by
   rw[D2 s (by omega)] at hj
   have:j=s:=by omega
   rw[this,ey]
   exact YH e2 e3 e4
  rw[ey,e1]
  rw[←ey]
  refine Df.bind (Df.mk _) λy8 hy8=>?_
  have hy8':y8=(s:Int):=(Option.some.inj hy8).symm
  obtain⟨j14,e5,e6⟩:=aV (n:=y8)
  obtain⟨j16,e8,_⟩:=aV (n:=(64-IntKind.u64.wrap y8))
  have hd':=hd j14 (by rw[e6,hy8'])
  rw[e5,e8]
  refine Df.bind (Df.mk _) λa ha=>Df.bind (Df.mk _) λb hb=>Df.bind (Df.mk _) λc hc=>Df.bind (Df.mk _) λd hd2=>?_
  have ea:=Option.some.inj ha
  rw[←ea]
  refine Df.bind (Td hd') λz18 hz=>?_
  have hzh:=MK hz
  have hlt:=L4.1 hzh
  exact XN N lo y j14 d _ (λv=>aU hN _ _ _ _ _ _ _ _ _ hd') N z18 _ hzh (by omega)
theorem WL {N:Nat}(hN:18446744073709551616<N) (a num den:Int):Df (Ek N a num den):=by
 unfold Ek
 refine Df.cond (λ_=>Df.mk _) λhc=>?_
 simp only[Bool.or_eq_false_iff,decide_eq_false_iff_not] at hc
 obtain⟨⟨⟨⟨⟨c1,c2⟩,c3⟩,c4⟩,c5⟩,c6⟩:=hc
 obtain⟨an,ea⟩:∃n:Nat,a=n:=⟨a.toNat,by omega⟩
 obtain⟨bn,eb⟩:∃n:Nat,num=n:=⟨num.toNat,by omega⟩
 subst ea;subst eb
 rw[D2 an (by omega),D2 bn (by omega),Pg N an bn (by omega) (by omega)]
 simp only[Option.bind_some]
 have hd:IntKind.u64.wrap den=den:=N9 (L4.2 (by omega))
 rw[hd]
 refine Df.cond (λ_=>Df.mk _) λhc=>?_
 simp only[decide_eq_false_iff_not] at hc
 have hlt:an*bn<18446744073709551616*18446744073709551616:=Nat.mul_lt_mul'' (by omega) (by omega)
 refine Df.bind (S7 hN (L4.2 ⟨by omega,by omega⟩) (L4.2 ⟨by omega,by omega⟩) (L4.2 (by omega)) (by omega)) λv _=>?_
 exact Df.cond (λ_=>Df.mk _) λ_=>Df.mk _
theorem LJ {N:Nat}(hN:18446744073709551616<N) {num den:Int}(h0:0≤num) (h1:0≤den) (h2:den≤9223372036854775807):Df (Em N num den):=by
 unfold Em
 refine Df.cond (λ_=>Df.mk _) λhc=>?_
 simp only[decide_eq_false_iff_not] at hc
 refine Df.cond (λ_=>Df.mk _) λhc2=>?_
 simp only[decide_eq_false_iff_not] at hc2
 obtain⟨an,ea⟩:∃n:Nat,num=n:=⟨num.toNat,by omega⟩
 obtain⟨dn,ed⟩:∃n:Nat,den=n:=⟨den.toNat,by omega⟩
 subst ea;subst ed
 rw[D2 an (by omega),D2 dn (by omega),show(1099511627776:Int)=((1099511627776:Nat):Int) from rfl,Pg N an 1099511627776 (by omega) (by omega)]
 simp only[Option.bind_some]
 refine Df.bind (S7 hN (L4.2 ⟨by omega,by omega⟩) (L4.2 ⟨by omega,by omega⟩) (L4.2 (by omega)) (by omega)) λv _=>?_
 exact Df.cond (λ_=>Df.mk _) λ_=>Df.mk _
theorem aG {i j:Nat}(h:i+j<9223372036854775808):BC (Dp .u64 (IntKind.u64.wrap (BC ((i:Int)+(j:Int)))) 1)=(((i+j)/2:Nat):Int):=by
 have e1:BC ((i:Int)+(j:Int))=((i+j:Nat):Int):=by rw[DB (by omega) (by omega)];rfl
 rw[e1,D2 _ (by omega),TX _ 1 (by omega),DB (by omega) (by omega)]
theorem OD {N:Nat}(f:Int→Option Bool) (L:Nat) (hL:L<4611686018427387904) (hf:∀i:Nat,i<L→Df (f i)) (kj:Int→Option Int):∀(n i j:Nat),i≤j→j≤L→j-i<n→(0<i→f ((i-1:Nat):Int)=some false)→(j<L→f (j:Int)=some true)→
  ∃r:Nat,E9 N f kj n (i:Int) (j:Int)=kj (r:Int)∧r≤L∧(0<r→f ((r-1:Nat):Int)=some false)∧(r<L→f (r:Int)=some true)
 |0,i,j,_,_,h,_,_=>by omega
 |n+1,i,j,h1,h2,h3,h4,h5=>by
  unfold E9
  by_cases hij:i<j
  ·rw[show decide ((i:Int)<(j:Int))=true by simp;omega,cond_true,aG (by omega)]
   obtain⟨v,hv⟩:=hf ((i+j)/2) (by omega)
   rw[hv]
   simp only[Option.bind_some]
   cases v
   ·simp only[Bool.not_false,cond_true]
    have e:BC ((((i+j)/2:Nat):Int)+1)=(((i+j)/2+1:Nat):Int):=by rw[DB (by omega) (by omega)];rfl
    rw[e]
    exact OD f L hL hf kj n _ j (by omega) h2 (by omega) (λ_=>by rw[Nat.add_sub_cancel];exact hv) h5
   ·simp only[Bool.not_true,cond_false]
    exact OD f L hL hf kj n i _ (by omega) (by omega) (by omega) h4 (λ_=>hv)
  ·have e:i=j:=by omega
   subst e
   rw[show decide ((i:Int)<(i:Int))=false by simp,cond_false]
   exact⟨i,rfl,h2,h4,h5⟩
theorem VI {N:Nat}(f:Int→Option Bool) (L:Nat) (hL:L<4611686018427387904) (hN:L<N) (hf:∀i:Nat,i<L→Df (f i)):∃r:Nat,Jn N (L:Int) f=some (r:Int)∧r≤L∧(0<r→f ((r-1:Nat):Int)=some false)∧(r<L→f (r:Int)=some true):=by
 obtain⟨r,h1,h2⟩:=OD (N:=N) f L hL hf (Hd N) N 0 L (Nat.zero_le _) (Nat.le_refl _) (by omega) (λh=>absurd h (by omega)) (λh=>absurd h (by omega))
 exact⟨r,h1,h2⟩
def Ik (n:Int):Prop:=0≤n∧n≤1125899906842624
def H0 (c:List BO):Prop:=1≤c.length∧c.length≤32∧∀(k:Nat) p,c[k]? =some p→Ik p.X∧Ik p.Y∧∀q,0<k→c[k-1]? =some q→q.X<p.X∧q.Y≤p.Y
theorem TA {N:Nat}(c:List BO) (hl:c.length≤32):∀(n k:Nat),c.length<n+k→k≤c.length→∃v,Fo N c (Hk N) n (k:Int)=some v∧(v=true→∀(i:Nat) p,k≤i→c[i]? =some p→Ik p.X∧Ik p.Y∧∀q,0<i→c[i-1]? =some q→q.X<p.X∧q.Y≤p.Y)
 |0,k,h,hk=>by omega
 |n+1,k,h,hk=>by
  unfold Fo
  by_cases hc:k<c.length
  ·rw[show decide ((k:Int)<(c.length:Int))=true by simp;omega,cond_true,BA hc]
   simp only[Option.bind_some]
   cases hb:(decide ((c[k]).X<0)||decide (1125899906842624<(c[k]).X)||decide ((c[k]).Y<0)||decide (1125899906842624<(c[k]).Y))
   ·simp only[cond_false]
    simp only[Bool.or_eq_false_iff,decide_eq_false_iff_not] at hb
    obtain⟨v,hv,hp⟩:=TA (N:=N) c hl n (k+1) (by omega) (by omega)
    have ek:BC ((k:Int)+1)=((k+1:Nat):Int):=by rw[DB (by omega) (by omega)];rfl
    rw[ek,hv]
    by_cases h0:0<k
    ·have e1:BC ((k:Int)-1)=((k-1:Nat):Int):=by rw[DB (by omega) (by omega)];omega
     rw[show decide ((0:Int)<(k:Int))=true by simp;omega,e1,BA (show k-1<c.length by omega)]
     simp only[cond_true,Option.bind_some,Fi]
     cases hb2:cond (decide ((c[k]).X≤(c[k-1]).X)) true (decide ((c[k]).Y<(c[k-1]).Y))
     ·simp only[cond_false]
      refine⟨v,rfl,λhvt i p hi hip=>?_⟩
      by_cases e:i=k
      ·subst e
       have:p=c[i]:=by simpa [hc] using hip.symm
       subst this
       refine⟨⟨by omega,by omega⟩,⟨by omega,by omega⟩,λq _ hq=>?_⟩
       have:q=c[i-1]:=by simpa [show i-1<c.length by omega] using hq.symm
       subst this
       cases h7:decide ((c[i]).X≤(c[i-1]).X) with
       |true=>rw[h7] at hb2;simp at hb2
       |false=>
        rw[h7] at hb2
        simp only[cond_false,decide_eq_false_iff_not] at hb2 h7
        omega
      ·exact hp hvt i p (by omega) hip
     ·exact⟨false,rfl,λh=>by cases h⟩
    ·have e0:k=0:=by omega
     subst e0
     rw[show decide ((0:Int)<((0:Nat):Int))=false by simp]
     simp only[cond_false,Option.bind_some]
     refine⟨v,rfl,λhvt i p hi hip=>?_⟩
     by_cases e:i=0
     ·subst e
      have:p=c[0]:=by simpa [hc] using hip.symm
      subst this
      exact⟨⟨by omega,by omega⟩,⟨by omega,by omega⟩,λq h _=>absurd h (by omega)⟩
     ·exact hp hvt i p (by omega) hip
   ·exact⟨false,rfl,λh=>by cases h⟩
  ·rw[show decide ((k:Int)<(c.length:Int))=false by simp;omega,cond_false]
   refine⟨true,rfl,λ_ i p hi hip=>?_⟩
   have:=(List.getElem?_eq_some_iff.1 hip).1
   omega
theorem IW {N:Nat}(hN:33<N) (c:List BO):∃v,El N c=some v∧(v=true→H0 c):=by
 unfold El
 cases hb:(decide ((c.length:Int)<1)||decide (32<(c.length:Int)))
 ·simp only[Bool.or_eq_false_iff,decide_eq_false_iff_not] at hb
  obtain⟨v,h1,h2⟩:=TA (N:=N) c (by omega) N 0 (by omega) (by omega)
  exact⟨v,h1,λhv=>⟨by omega,by omega,λk p hk=>h2 hv k p (by omega) hk⟩⟩
 ·exact⟨false,rfl,λh=>by cases h⟩
theorem PP {N:Nat}(hN:18446744073709551616<N) {c:List BO}(h1:1≤c.length) (h2:c.length≤32) (x:Int):Df (HL N c x):=by
 unfold HL
 obtain⟨r,e1,e2,_⟩:=VI (N:=N) (λy=>G5 N c x y) c.length (by omega) (by omega) λi hi=>by
  unfold G5
  rw[BA hi];exact Df.mk _
 rw[e1]
 simp only[Option.bind_some]
 refine Df.cond (λ_=>Df.bind (Df.ix (by omega) (by omega)) λ_ _=>Df.mk _) λhc=>?_
 simp only[decide_eq_false_iff_not] at hc
 have e3:BC ((r:Int)-1)=((r-1:Nat):Int):=by rw[DB (by omega) (by omega)];omega
 rw[e3]
 refine Df.bind (Df.ix (by omega) (by omega)) λ_ _=>Df.cond (λ_=>Df.mk _) λhc2=>?_
 simp only[decide_eq_false_iff_not] at hc2
 exact Df.bind (Df.ix (by omega) (by omega)) λ_ _=>Df.bind (Df.ix (by omega) (by omega)) λ_ _=>Df.bind (WL hN _ _ _) λ_ _=>Df.mk _
end Go.Proofs.YtblcgjadhemlbaaGreat
