import Derived.Test.YtibidnaedddfdaaGreatCForms
import Derived.Lib.Mul64
namespace Go.Proofs.YtibidnaedddfdaaGreat
open Go.RowKit
set_option linter.unusedVariables false
set_option linter.unusedSimpArgs false
abbrev Df {α}(x:Option α):Prop:=∃v,x=some v
theorem I3 (n:Int):IntKind.u64.wrap n=n%18446744073709551616:=by simp [IntKind.wrap,IntKind.bits,IntKind.signed]
theorem Cm (a:Nat) (h:a<18446744073709551616):IntKind.u64.wrap (a:Int)=a:=by rw[I3];omega
theorem MC {n:Int}(h:IntKind.u64.has n):IntKind.u64.wrap n=n:=by
 simp [IntKind.has,IntKind.min,IntKind.max,IntKind.bits,IntKind.signed] at h;rw[I3];omega
theorem Jq {n:Int}:IntKind.u64.has n↔0≤n∧n≤18446744073709551615:=by simp [IntKind.has,IntKind.min,IntKind.max,IntKind.bits,IntKind.signed]
theorem Tw {n:Int}(h:IntKind.u64.has n):∃a:Nat,n=a∧a<18446744073709551616:=by
 rw[Jq] at h
 exact⟨n.toNat,by omega,by omega⟩
theorem Qj (a j:Nat) (hj:j≤64):Ce .u64 (a:Int) j=((a/2^j:Nat):Int):=by
 unfold Ce
 have e:min j IntKind.u64.bits=j:=by simp [IntKind.bits];omega
 rw[e,Int.fdiv_eq_ediv_of_nonneg _ (Int.le_of_lt (Int.pow_pos (by decide)))]
 simp
theorem aL (a b:Nat) (ha:a<18446744073709551616) (hb:b<18446744073709551616):FD .and .u64 (a:Int) (b:Int)=((a&&&b:Nat):Int):=by
 have h1:(BitVec.ofInt 64 (a:Int)).toNat=a:=by rw[BitVec.ofInt_natCast,BitVec.toNat_ofNat];exact Nat.mod_eq_of_lt (by omega)
 have h2:(BitVec.ofInt 64 (b:Int)).toNat=b:=by rw[BitVec.ofInt_natCast,BitVec.toNat_ofNat];exact Nat.mod_eq_of_lt (by omega)
 have h3:a&&&b<2^64:=Nat.and_lt_two_pow _ (by omega)
 show IntKind.u64.wrap (((BitVec.ofInt 64 (a:Int))&&&(BitVec.ofInt 64 (b:Int))).toNat:Int)=_
 rw[BitVec.toNat_and,h1,h2,Cm _ (by omega)]
theorem NR (a:Nat) (ha:a<18446744073709551616):FD .and .u64 (a:Int) 4294967295=((a%4294967296:Nat):Int):=by
 have h:=aL a 4294967295 ha (by omega)
 have e:a&&&4294967295=a%4294967296:=Nat.and_two_pow_sub_one_eq_mod a 32
 rw[e] at h
 exact h
theorem J3 (a:Nat):Ce .u64 (a:Int) 32=((a/4294967296:Nat):Int):=Qj a 32 (by omega)
theorem Lj (a b:Nat):(a:Int)*(b:Int)=((a*b:Nat):Int):=(Int.natCast_mul a b).symm
theorem OY (a b:Nat):(a:Int)+(b:Int)=((a+b:Nat):Int):=(Int.natCast_add a b).symm
theorem WP (a:Nat):IntKind.u64.wrap (a:Int)=((a%18446744073709551616:Nat):Int):=by rw[I3];omega
theorem Lk (N x y:Nat) (hx:x<18446744073709551616) (hy:y<18446744073709551616):Ef N (x:Int) (y:Int)=some (((x*y/18446744073709551616:Nat):Int),((x*y%18446744073709551616:Nat):Int)):=by
 obtain⟨bd,bt,bw,hhi⟩:=Lib.mul64_hi x y hx hy
 have ba:=Lib.half_mul_le (a:=x/4294967296) (b:=y/4294967296) (by omega) (by omega)
 have bb:=Lib.half_mul_le (a:=x/4294967296) (b:=y%4294967296) (by omega) (by omega)
 have bc:=Lib.half_mul_le (a:=x%4294967296) (b:=y/4294967296) (by omega) (by omega)
 have ba':x/4294967296*(y/4294967296)<18446744073709551616:=by omega
 have bb':x/4294967296*(y%4294967296)<18446744073709551616:=by omega
 have bc':x%4294967296*(y/4294967296)<18446744073709551616:=by omega
 have bh1:x/4294967296*(y/4294967296)+(x/4294967296*(y%4294967296)+x%4294967296*(y%4294967296)/4294967296)/4294967296<18446744073709551616:=by omega
 have bh:x/4294967296*(y/4294967296)+(x/4294967296*(y%4294967296)+x%4294967296*(y%4294967296)/4294967296)/4294967296+((x/4294967296*(y%4294967296)+x%4294967296*(y%4294967296)/4294967296)%4294967296+x%4294967296*(y/4294967296))/4294967296<18446744073709551616:=by omega
 simp only[Ef,J3,NR x hx,NR y hy,Lj,OY,Cm _ bd,Cm _ bb',Cm _ bt,NR _ bt,Cm _ bc',Cm _ bw,Cm _ ba',Cm _ bh1,Cm _ bh,WP (x*y)]
 rw[hhi]
def Ln (x n:Nat):Prop:=1≤n∧2^(n-1)≤x∧x<2^n
theorem Ln.shift {x m s:Nat}(h:Ln (x/2^s) m):Ln x (m+s):=by
 obtain⟨h1,h2,h3⟩:=h
 have hp:0<2^s:=Nat.two_pow_pos s
 refine⟨by omega,?_,?_⟩
 ·have:2^(m-1)*2^s≤x:=(Nat.le_div_iff_mul_le hp).1 h2
  rw[show m+s-1=(m-1)+s by omega,Nat.pow_add];exact this
 ·have:=(Nat.div_lt_iff_lt_mul hp).1 h3
  rw[Nat.pow_add];exact this
set_option maxRecDepth 20000 in
theorem Z5:∀k:Nat,k<256→R5 Iy (k:Int)=some (((if k=0 then 0 else k.log2+1:Nat)):Int):=by decide +kernel
theorem VL {k:Nat}(h0:0<k) (h:k<256):∃n:Nat,R5 Iy (k:Int)=some (n:Int)∧Ln k n∧n≤8:=by
 have e:=Z5 k h
 rw[if_neg (by omega)] at e
 refine⟨_,e,⟨by omega,?_,Nat.lt_log2_self⟩,?_⟩
 ·rw[Nat.add_sub_cancel];exact Nat.log2_self_le (by omega)
 ·have:k.log2<8:=(Nat.log2_lt (by omega)).2 h
  omega
theorem Tn (N:Nat) {x:Nat}(h0:0<x) (hx:x<18446744073709551616):∃n:Nat,FQ N (x:Int)=some (n:Int)∧Ln x n∧n≤64:=by
 have w64N:∀a:Nat,a<9223372036854775808→Aw (a:Int)=a:=λa h=>K9 (by unfold AB;omega)
 have u8N:∀a:Nat,a<256→IntKind.u8.wrap (a:Int)=a:=λa h=>by simp [IntKind.wrap,IntKind.bits,IntKind.signed];omega
 have j2:∀a b:Nat,0<a→a<256→b≤56→∃n:Nat,Dx N (a:Int) (b:Int)=some ((n+b:Nat):Int)∧Ln a n∧n≤8:=λa b h1 h2 hb=>by
  obtain⟨n,e1,e2,e3⟩:=VL h1 h2
  refine⟨n,?_,e2,e3⟩
  simp only[Dx,u8N a h2,e1,Option.bind_some,w64N n (by omega),OY,Nat.add_comm b n,w64N (n+b) (by omega)]
 have j1:∀a b:Nat,0<a→a<65536→b≤48→∃n:Nat,Dy N (a:Int) (b:Int)=some ((n+b:Nat):Int)∧Ln a n∧n≤16:=λa b h1 h2 hb=>by
  unfold Dy
  by_cases hc:256≤a
  ·rw[show decide ((256:Int)≤(a:Int))=true by simp;omega,cond_true,Qj a 8 (by omega)]
   have e8:Aw ((b:Int)+8)=((b+8:Nat):Int):=by rw[show ((b:Int)+8)=((b+8:Nat):Int) by omega];exact w64N _ (by omega)
   rw[e8]
   obtain⟨n,e1,e2,e3⟩:=j2 (a/2^8) (b+8) (by omega) (by omega) (by omega)
   exact⟨n+8,by rw[e1,show n+(b+8)=n+8+b by omega],e2.shift,by omega⟩
  ·rw[show decide ((256:Int)≤(a:Int))=false by simp;omega,cond_false]
   obtain⟨n,e1,e2,e3⟩:=j2 a b h1 (by omega) (by omega)
   exact⟨n,e1,e2,by omega⟩
 have j0:∀a b:Nat,0<a→a<4294967296→b≤32→∃n:Nat,Dz N (a:Int) (b:Int)=some ((n+b:Nat):Int)∧Ln a n∧n≤32:=λa b h1 h2 hb=>by
  unfold Dz
  by_cases hc:65536≤a
  ·rw[show decide ((65536:Int)≤(a:Int))=true by simp;omega,cond_true,Qj a 16 (by omega)]
   have e8:Aw ((b:Int)+16)=((b+16:Nat):Int):=by rw[show ((b:Int)+16)=((b+16:Nat):Int) by omega];exact w64N _ (by omega)
   rw[e8]
   obtain⟨n,e1,e2,e3⟩:=j1 (a/2^16) (b+16) (by omega) (by omega) (by omega)
   exact⟨n+16,by rw[e1,show n+(b+16)=n+16+b by omega],e2.shift,by omega⟩
  ·rw[show decide ((65536:Int)≤(a:Int))=false by simp;omega,cond_false]
   obtain⟨n,e1,e2,e3⟩:=j1 a b h1 (by omega) (by omega)
   exact⟨n,e1,e2,by omega⟩
 unfold FQ
 by_cases hc:4294967296≤x
 ·rw[show decide ((4294967296:Int)≤(x:Int))=true by simp;omega,cond_true,Qj x 32 (by omega)]
  obtain⟨n,e1,e2,e3⟩:=j0 (x/2^32) 32 (by omega) (by omega) (by omega)
  exact⟨n+32,by rw[show ((32:Int))=((32:Nat):Int) from rfl,e1],e2.shift,by omega⟩
 ·rw[show decide ((4294967296:Int)≤(x:Int))=false by simp;omega,cond_false]
  obtain⟨n,e1,e2,e3⟩:=j0 x 0 h0 (by omega) (by omega)
  exact⟨n,e1,e2,by omega⟩
theorem WY (N:Nat) {y:Nat}(h0:0<y) (hy:y<18446744073709551616):∃s:Nat,DF N (y:Int)=some (s:Int)∧s≤63∧9223372036854775808≤y*2^s∧y*2^s<18446744073709551616:=by
 obtain⟨n,e1,⟨e2,e3,e4⟩,e5⟩:=Tn N h0 hy
 refine⟨64-n,?_,by omega,?_,?_⟩
 ·simp only[DF,e1,Option.bind_some]
  rw[K9 (by unfold AB;omega)]
  congr 1;omega
 ·have:=Nat.mul_le_mul_right (2^(64-n)) e3
  rw[←Nat.pow_add,show n-1+(64-n)=63 by omega] at this
  exact this
 ·have:=Nat.mul_lt_mul_of_pos_right e4 (Nat.two_pow_pos (64-n))
  rw[←Nat.pow_add,show n+(64-n)=64 by omega] at this
  exact this
end Go.Proofs.YtibidnaedddfdaaGreat
namespace Go.Proofs.YtibidnaedddfdaaGreat
open Go.RowKit
set_option linter.unusedVariables false
set_option linter.unusedSimpArgs false
theorem Df.mk {α}(v:α):Df (some v):=⟨v,rfl⟩
theorem Df.bind {α β}{a:Option α}{f:α→Option β}(h:Df a) (k:∀v,a=some v→Df (f v)):Df (Option.bind a f):=by
 obtain⟨v,hv⟩:=h
 obtain⟨u,hu⟩:=k v hv
 exact⟨u,by rw[hv];exact hu⟩
theorem Df.cond {α}{b:Bool}{x y:Option α}(h1:b=true→Df x) (h2:b=false→Df y):Df (cond b x y):=by
 cases b
 ·exact h2 rfl
 ·exact h1 rfl
theorem Dp {α}(b:Bool) (x y:α):cond b (some x) (some y)=some (cond b x y):=by cases b<;>rfl
theorem Al {α}{l:List α}{i:Nat}(h:i<l.length):ix l (i:Int)=some l[i]:=by simp [ix,h]
theorem Df.ix {α}{l:List α}{i:Int}(h0:0≤i) (h:i<l.length):Df (ix l i):=by
 obtain⟨j,rfl⟩:∃j:Nat,i=j:=⟨i.toNat,by omega⟩
 exact⟨_,Al (by omega)⟩
theorem B1 {n:Int}(h0: -9223372036854775808≤n) (h1:n≤9223372036854775807):Aw n=n:=K9 ⟨h0,h1⟩
theorem XZ {n:Int}:∃j,LM (IntKind.u64.wrap n)=some j∧(j:Int)=IntKind.u64.wrap n:=by
 have:=(Jq.1 (C8 .u64 n)).1
 exact⟨(IntKind.u64.wrap n).toNat,by unfold LM;rw[if_neg (by omega)],by omega⟩
theorem Qm {k:IntKind}{x y:Int}(h:y≠0):Df (Mm k x y):=⟨_,by unfold Mm;rw[if_neg h]⟩
theorem XA {x y:Int}(h:y≠0):Df (Oq x y):=⟨_,by unfold Oq;rw[if_neg h]⟩
theorem UX (N:Nat) (lo y:Int) (j14 j17:Nat) (kj:Int→Option (Int×Int)) (hk:∀v,Df (kj v)):∀(n:Nat) (q r:Int),IntKind.u64.has q→q.toNat<n→Df (Bt N lo y j14 j17 kj n q r)
 |0,q,r,h,hn=>by omega
 |n+1,q,r,h,hn=>by
  have hh:=Jq.1 h
  unfold Bt
  refine Df.cond (λhc=>?_) λ_=>hk _
  have h0:q≠0:=by
   rintro rfl
   have:=(Jq.1 (C8 .u64 (IntKind.u64.wrap (4294967296*r)+Ce .u64 (CH .u64 lo j17) 32))).1
   simp [I3] at hc this
   omega
  have e:IntKind.u64.wrap (q-1)=q-1:=MC (Jq.2 (by omega))
  refine Df.cond (λ_=>hk _) λ_=>?_
  exact UX N lo y j14 j17 kj hk n _ _ (C8 _ _) (by rw[e];omega)
theorem UW (N:Nat) (lo y:Int) (j14 j17:Nat) (kj:Int→Option (Int×Int)) (hk:∀v,Df (kj v)):∀(n:Nat) (r q:Int),IntKind.u64.has q→q.toNat<n→Df (CL N lo y j14 j17 kj n r q)
 |0,r,q,h,hn=>by omega
 |n+1,r,q,h,hn=>by
  have hh:=Jq.1 h
  unfold CL
  refine Df.cond (λhc=>?_) λ_=>hk _
  have h0:q≠0:=by
   rintro rfl
   have:=(Jq.1 (C8 .u64 (IntKind.u64.wrap (4294967296*r)+FD .and .u64 (CH .u64 lo j17) 4294967295))).1
   simp [I3] at hc this
   omega
  have e:IntKind.u64.wrap (q-1)=q-1:=MC (Jq.2 (by omega))
  refine Df.cond (λ_=>hk _) λ_=>?_
  exact UW N lo y j14 j17 kj hk n _ _ (C8 _ _) (by rw[e];omega)
def BN:Nat:=36893488147419103232
theorem Va {yn s:Nat}(hs:s≤63) (e3:9223372036854775808≤yn*2^s) (e4:yn*2^s<18446744073709551616):Ce .u64 (CH .u64 (yn:Int) s) 32≠0:=by
 have e9:CH .u64 (yn:Int) s=((yn*2^s:Nat):Int):=by
  unfold CH
  have hm:min s IntKind.u64.bits=s:=by simp [IntKind.bits];omega
  have hp:((yn:Int)*2^s)=((yn*2^s:Nat):Int):=by simp
  rw[hm,hp]
  exact Cm _ e4
 rw[e9,J3]
 generalize yn*2^s=t at e3 e4
 omega
theorem XX (N:Nat) (hi lo y y8:Int) (j14 j15 j16 j17:Nat) (q v:Int):Df (DG N hi lo y y8 j14 j15 j16 j17 q v):=by
 unfold DG
 obtain⟨j,hj,_⟩:=XZ (n:=y8)
 rw[hj]
 exact Df.mk _
theorem XY {N:Nat}(hN:18446744073709551616<N) (hi lo y y8:Int) (j14 j15 j16 j17:Nat) (q:Int) (hd:Ce .u64 (CH .u64 y j14) 32≠0):Df (CM N hi lo y y8 j14 j15 j16 j17 q):=by
 unfold CM
 refine Df.bind (Qm hd) λz41 hz41=>?_
 have hz41h:=J5 hz41
 have hlt:=(Jq.1 hz41h)
 exact UW N lo y j14 j17 _ (λv=>XX _ _ _ _ _ _ _ _ _ _ _) N _ z41 hz41h (by omega)
theorem QG {N:Nat}(hN:18446744073709551616<N) {hi lo y:Int}(h1:IntKind.u64.has hi) (h2:IntKind.u64.has lo) (h3:IntKind.u64.has y) (h:hi<y):Df (De N hi lo y):=by
 have g1:=Jq.1 h1
 have hy0:y≠0:=by omega
 have hyh:¬y≤hi:=by omega
 unfold De
 refine Df.cond (λhc=>absurd (of_decide_eq_true hc) hy0) λ_=>Df.cond (λhc=>absurd (of_decide_eq_true hc) hyh) λ_=>Df.cond (λ_=>?_) λ_=>?_
 ·exact Df.bind (Qm hy0) λ_ _=>Df.bind (XA hy0) λ_ _=>Df.mk _
 ·obtain⟨yn,ey,hy⟩:=Tw h3
  obtain⟨s,e1,e2,e3,e4⟩:=WY N (show 0<yn by omega) hy
  have hd:∀j:Nat,(j:Int)=IntKind.u64.wrap (s:Int)→Ce .u64 (CH .u64 y j) 32≠0:=λj hj=>by
   rw[Cm s (by omega)] at hj
   have:j=s:=by omega
   rw[this,ey]
   exact Va e2 e3 e4
  rw[ey,e1]
  rw[←ey]
  refine Df.bind (Df.mk _) λy8 hy8=>?_
  have hy8':y8=(s:Int):=(Option.some.inj hy8).symm
  obtain⟨j14,e5,e6⟩:=XZ (n:=y8)
  obtain⟨j16,e8,_⟩:=XZ (n:=(64-IntKind.u64.wrap y8))
  have hd':=hd j14 (by rw[e6,hy8'])
  rw[e5,e8]
  refine Df.bind (Df.mk _) λa ha=>Df.bind (Df.mk _) λb hb=>Df.bind (Df.mk _) λc hc=>Df.bind (Df.mk _) λd hd2=>?_
  have ea:=Option.some.inj ha
  rw[←ea]
  refine Df.bind (Qm hd') λz18 hz=>?_
  have hzh:=J5 hz
  have hlt:=Jq.1 hzh
  exact UX N lo y j14 d _ (λv=>XY hN _ _ _ _ _ _ _ _ _ hd') N z18 _ hzh (by omega)
theorem TX {N:Nat}(hN:18446744073709551616<N) (a num den:Int):Df (EB N a num den):=by
 unfold EB
 refine Df.cond (λ_=>Df.mk _) λhc=>?_
 simp only[Bool.or_eq_false_iff,decide_eq_false_iff_not] at hc
 obtain⟨⟨⟨⟨⟨c1,c2⟩,c3⟩,c4⟩,c5⟩,c6⟩:=hc
 obtain⟨an,ea⟩:∃n:Nat,a=n:=⟨a.toNat,by omega⟩
 obtain⟨bn,eb⟩:∃n:Nat,num=n:=⟨num.toNat,by omega⟩
 subst ea;subst eb
 rw[Cm an (by omega),Cm bn (by omega),Lk N an bn (by omega) (by omega)]
 simp only[Option.bind_some]
 have hd:IntKind.u64.wrap den=den:=MC (Jq.2 (by omega))
 rw[hd]
 refine Df.cond (λ_=>Df.mk _) λhc=>?_
 simp only[decide_eq_false_iff_not] at hc
 have hlt:an*bn<18446744073709551616*18446744073709551616:=Nat.mul_lt_mul'' (by omega) (by omega)
 refine Df.bind (QG hN (Jq.2 ⟨by omega,by omega⟩) (Jq.2 ⟨by omega,by omega⟩) (Jq.2 (by omega)) (by omega)) λv _=>?_
 exact Df.cond (λ_=>Df.mk _) λ_=>Df.mk _
theorem I4 {N:Nat}(hN:18446744073709551616<N) {num den:Int}(h0:0≤num) (h1:0≤den) (h2:den≤9223372036854775807):Df (Cd N num den):=by
 unfold Cd
 refine Df.cond (λ_=>Df.mk _) λhc=>?_
 simp only[decide_eq_false_iff_not] at hc
 refine Df.cond (λ_=>Df.mk _) λhc2=>?_
 simp only[decide_eq_false_iff_not] at hc2
 obtain⟨an,ea⟩:∃n:Nat,num=n:=⟨num.toNat,by omega⟩
 obtain⟨dn,ed⟩:∃n:Nat,den=n:=⟨den.toNat,by omega⟩
 subst ea;subst ed
 rw[Cm an (by omega),Cm dn (by omega),show(1099511627776:Int)=((1099511627776:Nat):Int) from rfl,Lk N an 1099511627776 (by omega) (by omega)]
 simp only[Option.bind_some]
 refine Df.bind (QG hN (Jq.2 ⟨by omega,by omega⟩) (Jq.2 ⟨by omega,by omega⟩) (Jq.2 (by omega)) (by omega)) λv _=>?_
 exact Df.cond (λ_=>Df.mk _) λ_=>Df.mk _
theorem Ti {i j:Nat}(h:i+j<9223372036854775808):Aw (Ce .u64 (IntKind.u64.wrap (Aw ((i:Int)+(j:Int)))) 1)=(((i+j)/2:Nat):Int):=by
 have e1:Aw ((i:Int)+(j:Int))=((i+j:Nat):Int):=by rw[B1 (by omega) (by omega)];rfl
 rw[e1,Cm _ (by omega),Qj _ 1 (by omega),B1 (by omega) (by omega)]
theorem MH {N:Nat}(f:Int→Option Bool) (L:Nat) (hL:L<4611686018427387904) (hf:∀i:Nat,i<L→Df (f i)) (kj:Int→Option Int):∀(n i j:Nat),i≤j→j≤L→j-i<n→(0<i→f ((i-1:Nat):Int)=some false)→(j<L→f (j:Int)=some true)→
  ∃r:Nat,Dw N f kj n (i:Int) (j:Int)=kj (r:Int)∧r≤L∧(0<r→f ((r-1:Nat):Int)=some false)∧(r<L→f (r:Int)=some true)
 |0,i,j,_,_,h,_,_=>by omega
 |n+1,i,j,h1,h2,h3,h4,h5=>by
  unfold Dw
  by_cases hij:i<j
  ·rw[show decide ((i:Int)<(j:Int))=true by simp;omega,cond_true,Ti (by omega)]
   obtain⟨v,hv⟩:=hf ((i+j)/2) (by omega)
   rw[hv]
   simp only[Option.bind_some]
   cases v
   ·simp only[Bool.not_false,cond_true]
    have e:Aw ((((i+j)/2:Nat):Int)+1)=(((i+j)/2+1:Nat):Int):=by rw[B1 (by omega) (by omega)];rfl
    rw[e]
    exact MH f L hL hf kj n _ j (by omega) h2 (by omega) (λ_=>by rw[Nat.add_sub_cancel];exact hv) h5
   ·simp only[Bool.not_true,cond_false]
    exact MH f L hL hf kj n i _ (by omega) (by omega) (by omega) h4 (λ_=>hv)
  ·have e:i=j:=by omega
   subst e
   rw[show decide ((i:Int)<(i:Int))=false by simp,cond_false]
   exact⟨i,rfl,h2,h4,h5⟩
theorem OH {N:Nat}(f:Int→Option Bool) (L:Nat) (hL:L<4611686018427387904) (hN:L<N) (hf:∀i:Nat,i<L→Df (f i)):∃r:Nat,Hj N (L:Int) f=some (r:Int)∧r≤L∧(0<r→f ((r-1:Nat):Int)=some false)∧(r<L→f (r:Int)=some true):=by
 obtain⟨r,h1,h2⟩:=MH (N:=N) f L hL hf (Fo N) N 0 L (Nat.zero_le _) (Nat.le_refl _) (by omega) (λh=>absurd h (by omega)) (λh=>absurd h (by omega))
 exact⟨r,h1,h2⟩
def FB (n:Int):Prop:=0≤n∧n≤1125899906842624
def Bn (c:List AU):Prop:=1≤c.length∧c.length≤32∧∀(k:Nat) p,c[k]? =some p→FB p.X∧FB p.Y∧∀q,0<k→c[k-1]? =some q→q.X<p.X∧q.Y≤p.Y
theorem QI {N:Nat}(c:List AU) (hl:c.length≤32):∀(n k:Nat),c.length<n+k→k≤c.length→∃v,Cx N c (ET N) n (k:Int)=some v∧(v=true→∀(i:Nat) p,k≤i→c[i]? =some p→FB p.X∧FB p.Y∧∀q,0<i→c[i-1]? =some q→q.X<p.X∧q.Y≤p.Y)
 |0,k,h,hk=>by omega
 |n+1,k,h,hk=>by
  unfold Cx
  by_cases hc:k<c.length
  ·rw[show decide ((k:Int)<(c.length:Int))=true by simp;omega,cond_true,Al hc]
   simp only[Option.bind_some]
   cases hb:(decide ((c[k]).X<0)||decide (1125899906842624<(c[k]).X)||decide ((c[k]).Y<0)||decide (1125899906842624<(c[k]).Y))
   ·simp only[cond_false]
    simp only[Bool.or_eq_false_iff,decide_eq_false_iff_not] at hb
    obtain⟨v,hv,hp⟩:=QI (N:=N) c hl n (k+1) (by omega) (by omega)
    have ek:Aw ((k:Int)+1)=((k+1:Nat):Int):=by rw[B1 (by omega) (by omega)];rfl
    rw[ek,hv]
    by_cases h0:0<k
    ·have e1:Aw ((k:Int)-1)=((k-1:Nat):Int):=by rw[B1 (by omega) (by omega)];omega
     rw[show decide ((0:Int)<(k:Int))=true by simp;omega,e1,Al (show k-1<c.length by omega)]
     simp only[cond_true,Option.bind_some,Dp]
     cases hb2:cond (decide ((c[k]).X≤(c[k-1]).X)) true (decide ((c[k]).Y<(c[k-1]).Y))
     ·simp only[cond_false]
      refine⟨v,rfl,λhvt i p hi hip=>?_⟩
      by_cases e:i=k
      ·subst e
       have:p=c[i]:=by simpa [hc] using hip.symm
       subst this
       refine⟨⟨by omega,by omega⟩,⟨by omega,by omega⟩,λq _ hq=>?_⟩
       have:q=c[i-1]:=by simpa [show i-1<c.length by omega] using hq.symm
       subst this
       cases h7:decide ((c[i]).X≤(c[i-1]).X) with
       |true=>rw[h7] at hb2;simp at hb2
       |false=>
        rw[h7] at hb2
        simp only[cond_false,decide_eq_false_iff_not] at hb2 h7
        omega
      ·exact hp hvt i p (by omega) hip
     ·exact⟨false,rfl,λh=>by cases h⟩
    ·have e0:k=0:=by omega
     subst e0
     rw[show decide ((0:Int)<((0:Nat):Int))=false by simp]
     simp only[cond_false,Option.bind_some]
     refine⟨v,rfl,λhvt i p hi hip=>?_⟩
     by_cases e:i=0
     ·subst e
      have:p=c[0]:=by simpa [hc] using hip.symm
      subst this
      exact⟨⟨by omega,by omega⟩,⟨by omega,by omega⟩,λq h _=>absurd h (by omega)⟩
     ·exact hp hvt i p (by omega) hip
   ·exact⟨false,rfl,λh=>by cases h⟩
  ·rw[show decide ((k:Int)<(c.length:Int))=false by simp;omega,cond_false]
   refine⟨true,rfl,λ_ i p hi hip=>?_⟩
   have:=(List.getElem?_eq_some_iff.1 hip).1
   omega
theorem HB {N:Nat}(hN:33<N) (c:List AU):∃v,Cy N c=some v∧(v=true→Bn c):=by
 unfold Cy
 cases hb:(decide ((c.length:Int)<1)||decide (32<(c.length:Int)))
 ·simp only[Bool.or_eq_false_iff,decide_eq_false_iff_not] at hb
  obtain⟨v,h1,h2⟩:=QI (N:=N) c (by omega) N 0 (by omega) (by omega)
  exact⟨v,h1,λhv=>⟨by omega,by omega,λk p hk=>h2 hv k p (by omega) hk⟩⟩
 ·exact⟨false,rfl,λh=>by cases h⟩
theorem PT {N:Nat}(hN:18446744073709551616<N) {c:List AU}(h1:1≤c.length) (h2:c.length≤32) (x:Int):Df (Cv N c x):=by
 unfold Cv
 obtain⟨r,e1,e2,_⟩:=OH (N:=N) (λy=>DP N c x y) c.length (by omega) (by omega) λi hi=>by
  unfold DP
  rw[Al hi];exact Df.mk _
 rw[e1]
 simp only[Option.bind_some]
 refine Df.cond (λ_=>Df.bind (Df.ix (by omega) (by omega)) λ_ _=>Df.mk _) λhc=>?_
 simp only[decide_eq_false_iff_not] at hc
 have e3:Aw ((r:Int)-1)=((r-1:Nat):Int):=by rw[B1 (by omega) (by omega)];omega
 rw[e3]
 refine Df.bind (Df.ix (by omega) (by omega)) λ_ _=>Df.cond (λ_=>Df.mk _) λhc2=>?_
 simp only[decide_eq_false_iff_not] at hc2
 exact Df.bind (Df.ix (by omega) (by omega)) λ_ _=>Df.bind (Df.ix (by omega) (by omega)) λ_ _=>Df.bind (TX hN _ _ _) λ_ _=>Df.mk _
end Go.Proofs.YtibidnaedddfdaaGreat
namespace Go.Proofs.YtibidnaedddfdaaGreat
open Go.RowKit
set_option linter.unusedVariables false
set_option linter.unusedSimpArgs false
theorem NS {Y u32 un q r:Nat}(hq:q*(Y/4294967296)+r=u32):q*(Y%4294967296)≤4294967296*r+un↔q*Y≤u32*4294967296+un:=by
 have e:q*Y=4294967296*(q*(Y/4294967296))+q*(Y%4294967296):=by
  conv=>lhs;rw[←Nat.div_add_mod Y 4294967296,Nat.mul_add,Nat.mul_left_comm]
 rw[e,←hq]
 generalize q*(Y/4294967296)=a
 generalize q*(Y%4294967296)=c
 omega
theorem Ts {Y u32 un q:Nat}(hu:u32<Y) (hn:un<4294967296) (hq:4294967296≤q):u32*4294967296+un<q*Y:=by
 have h1:4294967296*Y≤q*Y:=Nat.mul_le_mul_right _ hq
 omega
theorem Tt {Y u32 un q r:Nat}(hq:q*(Y/4294967296)+r=u32) (h1:1≤q) (hb:q≤4294967297) (hr:4294967296≤r+Y/4294967296):(q-1)*Y≤u32*4294967296+un:=by
 have e:(q-1)*(Y/4294967296)+(r+Y/4294967296)=u32:=by
  obtain⟨p,rfl⟩:∃p,q=p+1:=⟨q-1,by omega⟩
  rw[Nat.add_mul] at hq
  simp only[Nat.add_sub_cancel]
  omega
 refine(NS e).1 ?_
 have h2:(q-1)*(Y%4294967296)≤4294967296*(Y%4294967296):=Nat.mul_le_mul_right _ (by omega)
 have h3:Y%4294967296<4294967296:=Nat.mod_lt _ (by omega)
 omega
theorem Vg {Y U q:Nat}(hY:0<Y) (h1:q*Y≤U) (h2:U<(q+1)*Y):U/Y=q:=Nat.div_eq_of_lt_le h1 h2
theorem Pq {Y u32:Nat}(h63:9223372036854775808≤Y) (hY:Y<18446744073709551616) (hu:u32<Y) (un:Nat) (hn:un<4294967296):u32/(Y/4294967296)≤4294967297∧u32/(Y/4294967296)*(Y/4294967296)+u32%(Y/4294967296)=u32∧u32*4294967296+un<(u32/(Y/4294967296)+1)*Y∧u32%(Y/4294967296)<4294967296:=by
 have hy1:2147483648≤Y/4294967296:=by omega
 have hy2:Y/4294967296<4294967296:=by omega
 have hpos:0<Y/4294967296:=by omega
 have hm:u32%(Y/4294967296)<Y/4294967296:=Nat.mod_lt _ hpos
 have hdm:u32/(Y/4294967296)*(Y/4294967296)+u32%(Y/4294967296)=u32:=by rw[Nat.mul_comm];exact Nat.div_add_mod _ _
 refine⟨?_,hdm,?_,by omega⟩
 ·refine Nat.le_of_lt_succ ((Nat.div_lt_iff_lt_mul hpos).2 ?_)
  omega
 ·have h1:(u32/(Y/4294967296)+1)*(4294967296*(Y/4294967296))≤(u32/(Y/4294967296)+1)*Y:=Nat.mul_le_mul_left _ (by omega)
  rw[Nat.mul_left_comm,Nat.add_mul,Nat.one_mul] at h1
  omega
theorem OV (N:Nat) (lo y:Int) (j14 j17:Nat) (Y u10 u32:Nat) (hY:CH .u64 y j14=(Y:Int)) (hL:CH .u64 lo j17=(u10:Int)) (h63:9223372036854775808≤Y) (hY64:Y<18446744073709551616) (hu10:u10<18446744073709551616) (hu:u32<Y) (kj:Int→Option (Int×Int)):
  ∀(n q r:Nat),q<n→q≤4294967297→r<4294967296→q*(Y/4294967296)+r=u32→u32*4294967296+u10/4294967296<(q+1)*Y→
  Bt N lo y j14 j17 kj n (q:Int) (r:Int)=kj (((u32*4294967296+u10/4294967296)/Y:Nat):Int)
 |0,q,r,h,_,_,_,_=>by omega
 |n+1,q,r,h1,h2,h3,h4,h5=>by
  have hy2:Y/4294967296<4294967296:=by omega
  have hy0:Y%4294967296<4294967296:=Nat.mod_lt _ (by omega)
  have hun:u10/4294967296<4294967296:=by omega
  simp only[Bt]
  rw[hY,hL,J3,J3,NR Y hY64,Lj,show(4294967296:Int)=((4294967296:Nat):Int) from rfl,Lj,Cm _ (show 4294967296*r<18446744073709551616 by omega),OY,Cm _ (show 4294967296*r+u10/4294967296<18446744073709551616 by omega),OY,Cm (r+Y/4294967296) (by omega)]
  cases hc:(decide (((4294967296:Nat):Int)≤(q:Int))||decide (((4294967296*r+u10/4294967296:Nat):Int)<IntKind.u64.wrap ((q*(Y%4294967296):Nat):Int)))
  ·simp only[Bool.or_eq_false_iff,decide_eq_false_iff_not] at hc
   obtain⟨c1,c2⟩:=hc
   have hql:q<4294967296:=by omega
   have hm:q*(Y%4294967296)<18446744073709551616:=Nat.lt_of_le_of_lt (Nat.mul_le_mul (Nat.le_of_lt_succ hql) (Nat.le_of_lt_succ hy0)) (by decide)
   rw[Cm _ hm] at c2
   rw[cond_false,Vg (by omega) ((NS h4).1 (by omega)) h5]
  ·rw[cond_true]
   have hlt:u32*4294967296+u10/4294967296<q*Y:=by
    rcases Nat.lt_or_ge q 4294967296 with hql|hql
    ·have hm:q*(Y%4294967296)<18446744073709551616:=Nat.lt_of_le_of_lt (Nat.mul_le_mul (Nat.le_of_lt_succ hql) (Nat.le_of_lt_succ hy0)) (by decide)
     rw[Cm _ hm] at hc
     simp only[Bool.or_eq_true,decide_eq_true_eq] at hc
     refine Nat.lt_of_not_le λhle=>?_
     have:=(NS h4).2 hle
     omega
    ·exact Ts hu hun hql
   have hq1:1≤q:=by
    rcases Nat.eq_zero_or_pos q with e|e
    ·rw[e,Nat.zero_mul] at hlt;omega
    ·exact e
   have hqe:IntKind.u64.wrap ((q:Int)-1)=((q-1:Nat):Int):=by rw[show (q:Int)-1=((q-1:Nat):Int) by omega];exact Cm _ (by omega)
   rw[hqe]
   have e9:q-1+1=q:=by omega
   cases hc2:decide (((4294967296:Nat):Int)≤((r+Y/4294967296:Nat):Int))
   ·rw[cond_false]
    have h9:(q-1)*(Y/4294967296)+(r+Y/4294967296)=u32:=by
     have:q*(Y/4294967296)=(q-1)*(Y/4294967296)+Y/4294967296:=by
      conv=>lhs;rw[←e9,Nat.add_mul,Nat.one_mul]
     omega
    simp only[decide_eq_false_iff_not] at hc2
    exact OV N lo y j14 j17 Y u10 u32 hY hL h63 hY64 hu10 hu kj n (q-1) (r+Y/4294967296) (by omega) (by omega) (by omega) h9 (by rw[e9];exact hlt)
   ·rw[cond_true]
    simp only[decide_eq_true_eq] at hc2
    rw[Vg (by omega) (Tt h4 hq1 h2 (by omega)) (by rw[e9];exact hlt)]
theorem OU (N:Nat) (lo y:Int) (j14 j17:Nat) (Y u10 u32:Nat) (hY:CH .u64 y j14=(Y:Int)) (hL:CH .u64 lo j17=(u10:Int)) (h63:9223372036854775808≤Y) (hY64:Y<18446744073709551616) (hu10:u10<18446744073709551616) (hu:u32<Y) (kj:Int→Option (Int×Int)):
  ∀(n q r:Nat),q<n→q≤4294967297→r<4294967296→q*(Y/4294967296)+r=u32→u32*4294967296+u10%4294967296<(q+1)*Y→
  CL N lo y j14 j17 kj n (r:Int) (q:Int)=kj (((u32*4294967296+u10%4294967296)/Y:Nat):Int)
 |0,q,r,h,_,_,_,_=>by omega
 |n+1,q,r,h1,h2,h3,h4,h5=>by
  have hy2:Y/4294967296<4294967296:=by omega
  have hy0:Y%4294967296<4294967296:=Nat.mod_lt _ (by omega)
  have hun:u10%4294967296<4294967296:=Nat.mod_lt _ (by omega)
  simp only[CL]
  rw[hY,hL,J3,NR u10 hu10,NR Y hY64,Lj,show(4294967296:Int)=((4294967296:Nat):Int) from rfl,Lj,Cm _ (show 4294967296*r<18446744073709551616 by omega),OY,Cm _ (show 4294967296*r+u10%4294967296<18446744073709551616 by omega),OY,Cm (r+Y/4294967296) (by omega)]
  cases hc:(decide (((4294967296:Nat):Int)≤(q:Int))||decide (((4294967296*r+u10%4294967296:Nat):Int)<IntKind.u64.wrap ((q*(Y%4294967296):Nat):Int)))
  ·simp only[Bool.or_eq_false_iff,decide_eq_false_iff_not] at hc
   obtain⟨c1,c2⟩:=hc
   have hql:q<4294967296:=by omega
   have hm:q*(Y%4294967296)<18446744073709551616:=Nat.lt_of_le_of_lt (Nat.mul_le_mul (Nat.le_of_lt_succ hql) (Nat.le_of_lt_succ hy0)) (by decide)
   rw[Cm _ hm] at c2
   rw[cond_false,Vg (by omega) ((NS h4).1 (by omega)) h5]
  ·rw[cond_true]
   have hlt:u32*4294967296+u10%4294967296<q*Y:=by
    rcases Nat.lt_or_ge q 4294967296 with hql|hql
    ·have hm:q*(Y%4294967296)<18446744073709551616:=Nat.lt_of_le_of_lt (Nat.mul_le_mul (Nat.le_of_lt_succ hql) (Nat.le_of_lt_succ hy0)) (by decide)
     rw[Cm _ hm] at hc
     simp only[Bool.or_eq_true,decide_eq_true_eq] at hc
     refine Nat.lt_of_not_le λhle=>?_
     have:=(NS h4).2 hle
     omega
    ·exact Ts hu hun hql
   have hq1:1≤q:=by
    rcases Nat.eq_zero_or_pos q with e|e
    ·rw[e,Nat.zero_mul] at hlt;omega
    ·exact e
   have hqe:IntKind.u64.wrap ((q:Int)-1)=((q-1:Nat):Int):=by rw[show (q:Int)-1=((q-1:Nat):Int) by omega];exact Cm _ (by omega)
   rw[hqe]
   have e9:q-1+1=q:=by omega
   cases hc2:decide (((4294967296:Nat):Int)≤((r+Y/4294967296:Nat):Int))
   ·rw[cond_false]
    have h9:(q-1)*(Y/4294967296)+(r+Y/4294967296)=u32:=by
     have:q*(Y/4294967296)=(q-1)*(Y/4294967296)+Y/4294967296:=by
      conv=>lhs;rw[←e9,Nat.add_mul,Nat.one_mul]
     omega
    simp only[decide_eq_false_iff_not] at hc2
    exact OU N lo y j14 j17 Y u10 u32 hY hL h63 hY64 hu10 hu kj n (q-1) (r+Y/4294967296) (by omega) (by omega) (by omega) h9 (by rw[e9];exact hlt)
   ·rw[cond_true]
    simp only[decide_eq_true_eq] at hc2
    rw[Vg (by omega) (Tt h4 hq1 h2 (by omega)) (by rw[e9];exact hlt)]
theorem XB (a b:Nat) (h:b≠0) (ha:a<18446744073709551616):Mm .u64 (a:Int) (b:Int)=some ((a/b:Nat):Int):=by
 unfold Mm
 rw[if_neg (by omega)]
 have e:(a:Int).tdiv (b:Int)=((a/b:Nat):Int):=rfl
 have:a/b≤a:=Nat.div_le_self _ _
 rw[e,Cm _ (by omega)]
theorem Z7 (a b:Nat) (h:b≠0):Oq (a:Int) (b:Int)=some ((a%b:Nat):Int):=by
 unfold Oq
 rw[if_neg (by omega)]
 rfl
theorem W5 (a s:Nat) (hs:s≤64):CH .u64 (a:Int) s=((a*2^s%18446744073709551616:Nat):Int):=by
 unfold CH
 have hm:min s IntKind.u64.bits=s:=by simp [IntKind.bits];omega
 have hp:((a:Int)*2^s)=((a*2^s:Nat):Int):=by simp
 rw[hm,hp]
 exact WP _
theorem orN (a b:Nat) (ha:a<18446744073709551616) (hb:b<18446744073709551616):FD .or .u64 (a:Int) (b:Int)=((a|||b:Nat):Int):=by
 have h1:(BitVec.ofInt 64 (a:Int)).toNat=a:=by rw[BitVec.ofInt_natCast,BitVec.toNat_ofNat];exact Nat.mod_eq_of_lt (by omega)
 have h2:(BitVec.ofInt 64 (b:Int)).toNat=b:=by rw[BitVec.ofInt_natCast,BitVec.toNat_ofNat];exact Nat.mod_eq_of_lt (by omega)
 have h3:a|||b<2^64:=Nat.or_lt_two_pow (by omega) (by omega)
 show IntKind.u64.wrap (((BitVec.ofInt 64 (a:Int))|||(BitVec.ofInt 64 (b:Int))).toNat:Int)=_
 rw[BitVec.toNat_or,h1,h2,Cm _ (by omega)]
theorem QD (a b:Nat):a=a/b*b+a%b:=by rw[Nat.mul_comm];exact(Nat.div_add_mod a b).symm
theorem TL {Y A B u:Nat}(hY:0<Y):(A*B+u)/Y=A/Y*B+(A%Y*B+u)/Y∧(A*B+u)%Y=(A%Y*B+u)%Y:=by
 have h1:=Nat.div_add_mod A Y
 have e:A*B+u=Y*(A/Y*B)+(A%Y*B+u):=by
  conv=>lhs;rw[←h1,Nat.add_mul,Nat.mul_assoc,Nat.add_assoc]
 rw[e]
 exact⟨by rw[Nat.mul_add_div hY],by rw[Nat.mul_add_mod]⟩
theorem JJ {a b q Y R:Nat}(h:a=q*Y+R) (hR:R<18446744073709551616) (hb:b=a%18446744073709551616):IntKind.u64.wrap ((b:Int)-IntKind.u64.wrap ((q*Y:Nat):Int))=(R:Int):=by
 rw[I3,I3]
 generalize q*Y=t at h
 omega
theorem Sf {N:Nat}(hN:18446744073709551616<N) (hi lo y:Int) (s:Nat) (hs:s≤63) (j15 j16:Nat) (Y u10 u32 Q1 R1:Nat) (hY:CH .u64 y s=(Y:Int)) (hL:CH .u64 lo s=(u10:Int)) (hU:FD .or .u64 (CH .u64 hi j15) (Ce .u64 lo j16)=(u32:Int))
  (h63:9223372036854775808≤Y) (hY64:Y<18446744073709551616) (hu10:u10<18446744073709551616) (hu:u32<Y) (hQ:(u32*4294967296+u10/4294967296)=Q1*Y+R1) (hR:R1<Y) (hQ1:Q1<4294967296):
  CM N hi lo y (s:Int) s j15 j16 s (Q1:Int)=some (((Q1*4294967296+(R1*4294967296+u10%4294967296)/Y:Nat):Int),(((R1*4294967296+u10%4294967296)%Y/2^s:Nat):Int)):=by
 have hy0:0<Y/4294967296:=by omega
 have hyb:Y/4294967296<4294967296:=by omega
 have hun:u10%4294967296<4294967296:=Nat.mod_lt _ (by omega)
 have e1:IntKind.u64.wrap (IntKind.u64.wrap (IntKind.u64.wrap ((u32:Int)*4294967296)+Ce .u64 (CH .u64 lo s) 32)-IntKind.u64.wrap ((Q1:Int)*(Y:Int)))=(R1:Int):=by
  rw[hL,J3,Lj]
  refine(congrArg (λz=>IntKind.u64.wrap (z-_)) ?_).trans (JJ (b:=(u32*4294967296+u10/4294967296)%18446744073709551616) hQ (by omega) rfl)
  rw[I3,I3]
  omega
 obtain⟨k1,k2,k3,k4⟩:=Pq h63 hY64 hR (u10%4294967296) hun
 unfold CM
 rw[hU,hY,e1,J3,XB _ _ (by omega) (by omega)]
 simp only[Option.bind_some]
 have e2:IntKind.u64.wrap ((R1:Int)-IntKind.u64.wrap (((R1/(Y/4294967296):Nat):Int)*((Y/4294967296:Nat):Int)))=((R1%(Y/4294967296):Nat):Int):=by
  rw[Lj]
  exact JJ (a:=R1) k2.symm (by omega) (by omega)
 rw[e2,OU N lo y s s Y u10 R1 hY hL h63 hY64 hu10 hR _ N _ _ (by omega) k1 k4 k2 k3]
 unfold DG
 have hc:LM (IntKind.u64.wrap (s:Int))=some s:=by
  rw[Cm s (by omega)]
  unfold LM
  rw[if_neg (by omega)]
  simp
 rw[hU,hY,hc,e1,hL,NR u10 hu10]
 simp only[Option.bind_some]
 have hd:=Nat.div_add_mod (R1*4294967296+u10%4294967296) Y
 have hq2:(R1*4294967296+u10%4294967296)/Y<4294967296:=(Nat.div_lt_iff_lt_mul (by omega)).2 (by omega)
 have hr2:(R1*4294967296+u10%4294967296)%Y<Y:=Nat.mod_lt _ (by omega)
 have e3:IntKind.u64.wrap (IntKind.u64.wrap (IntKind.u64.wrap ((R1:Int)*4294967296)+((u10%4294967296:Nat):Int))-IntKind.u64.wrap (((((R1*4294967296+u10%4294967296)/Y:Nat)):Int)*(Y:Int)))=(((R1*4294967296+u10%4294967296)%Y:Nat):Int):=by
  rw[Lj]
  refine(congrArg (λz=>IntKind.u64.wrap (z-_)) ?_).trans (JJ (a:=R1*4294967296+u10%4294967296) (b:=(R1*4294967296+u10%4294967296)%18446744073709551616) (QD _ _) (by omega) rfl)
  rw[I3,I3]
  omega
 have e4:IntKind.u64.wrap (IntKind.u64.wrap ((Q1:Int)*4294967296)+((((R1*4294967296+u10%4294967296)/Y:Nat)):Int))=((Q1*4294967296+(R1*4294967296+u10%4294967296)/Y:Nat):Int):=by
  rw[I3,I3]
  generalize (R1*4294967296+u10%4294967296)/Y=t at hq2
  omega
 rw[e3,e4,Qj _ s (by omega)]
theorem Vl (a u:Nat):(a*4294967296+u/4294967296)*4294967296+u%4294967296=a*18446744073709551616+u:=by omega
theorem UV {N:Nat}(hN:18446744073709551616<N) (hi lo y:Int) (s:Nat) (hs:s≤63) (j15 j16:Nat) (Y u10 u32:Nat) (hY:CH .u64 y s=(Y:Int)) (hL:CH .u64 lo s=(u10:Int)) (hU:FD .or .u64 (CH .u64 hi j15) (Ce .u64 lo j16)=(u32:Int))
  (h63:9223372036854775808≤Y) (hY64:Y<18446744073709551616) (hu10:u10<18446744073709551616) (hu:u32<Y):
  (Option.bind (Mm .u64 (FD .or .u64 (CH .u64 hi j15) (Ce .u64 lo j16)) (Ce .u64 (CH .u64 y s) 32)) λz18=>
   Bt N lo y s s (CM N hi lo y (s:Int) s j15 j16 s) N z18 (IntKind.wrap .u64 ((FD .or .u64 (CH .u64 hi j15) (Ce .u64 lo j16))-(IntKind.wrap .u64 (z18*(Ce .u64 (CH .u64 y s) 32))))))=
  some ((((u32*18446744073709551616+u10)/Y:Nat):Int),(((u32*18446744073709551616+u10)%Y/2^s:Nat):Int)):=by
 have hYpos:0<Y:=by omega
 have hun:u10/4294967296<4294967296:=by omega
 obtain⟨k1,k2,k3,k4⟩:=Pq h63 hY64 hu (u10/4294967296) hun
 obtain⟨t1,t2⟩:=TL (Y:=Y) (A:=u32*4294967296+u10/4294967296) (B:=4294967296) (u:=u10%4294967296) hYpos
 rw[Vl] at t1 t2
 rw[t1,t2,hU,hY,J3,XB _ _ (by omega) (by omega)]
 simp only[Option.bind_some]
 have e5:IntKind.u64.wrap ((u32:Int)-IntKind.u64.wrap (((u32/(Y/4294967296):Nat):Int)*((Y/4294967296:Nat):Int)))=((u32%(Y/4294967296):Nat):Int):=by
  rw[Lj]
  exact JJ (a:=u32) k2.symm (by omega) (by omega)
 have hq1:(u32*4294967296+u10/4294967296)/Y<4294967296:=(Nat.div_lt_iff_lt_mul hYpos).2 (by omega)
 rw[e5,OV N _ _ s s Y u10 u32 hY hL h63 hY64 hu10 hu _ N _ _ (by omega) k1 k4 k2 k3]
 exact Sf hN _ _ _ s hs j15 j16 Y u10 u32 _ _ hY hL hU h63 hY64 hu10 hu (QD _ _) (Nat.mod_lt _ hYpos) hq1
theorem TW {h l s M:Nat}(hM:M=2^64) (hs:s≤63):(h*2^s+l/2^(64-s))*M+l*2^s%M=(h*M+l)*2^s:=by
 have e:(2:Nat)^64=2^(64-s)*2^s:=by rw[←Nat.pow_add];congr 1;omega
 have h1:l*2^s/M=l/2^(64-s):=by
  rw[hM,e,Nat.mul_div_mul_right _ _ (Nat.two_pow_pos s)]
 have h2:=Nat.div_add_mod (l*2^s) M
 rw[h1] at h2
 rw[Nat.add_mul,Nat.add_mul,Nat.mul_right_comm h,Nat.add_assoc,Nat.mul_comm (l/2^(64-s)) M]
 exact congrArg _ h2
theorem QE {N:Nat}(hN:18446744073709551616<N) (h l y:Nat) (hl:l<18446744073709551616) (hy:y<18446744073709551616) (hh:h<y):
  De N (h:Int) (l:Int) (y:Int)=some ((((h*18446744073709551616+l)/y:Nat):Int),(((h*18446744073709551616+l)%y:Nat):Int)):=by
 unfold De
 rw[show decide ((y:Int)=0)=false by simp;omega,show decide ((y:Int)≤(h:Int))=false by simp;omega,cond_false,cond_false]
 rcases Nat.eq_zero_or_pos h with e|hp
 ·subst e
  rw[show decide (((0:Nat):Int)=0)=true by simp,cond_true,XB _ _ (by omega) hl,Z7 _ _ (by omega),Nat.zero_mul,Nat.zero_add]
  rfl
 ·rw[show decide ((h:Int)=0)=false by simp;omega,cond_false]
  obtain⟨s,e1,e2,e3,e4⟩:=WY N (show 0<y by omega) hy
  have c1:∀t:Nat,t≤64→LM (IntKind.u64.wrap (t:Int))=some t:=λt ht=>by
   rw[Cm t (by omega)]
   unfold LM
   rw[if_neg (by omega)]
   simp
  have e64:(64:Int)-IntKind.u64.wrap (s:Int)=((64-s:Nat):Int):=by rw[Cm s (by omega)];omega
  rw[e1,Option.bind_some,e64,c1 s (by omega),c1 (64-s) (by omega),Option.bind_some,Option.bind_some,Option.bind_some,Option.bind_some]
  have hhs:h*2^s<18446744073709551616:=Nat.lt_of_le_of_lt (Nat.mul_le_mul_right _ (Nat.le_of_lt hh)) e4
  have hlo:l/2^(64-s)<2^s:=by
   refine(Nat.div_lt_iff_lt_mul (Nat.two_pow_pos _)).2 ?_
   rw[←Nat.pow_add,show s+(64-s)=64 by omega]
   exact hl
  have hl2:l/2^(64-s)<18446744073709551616:=Nat.lt_of_le_of_lt (Nat.div_le_self _ _) hl
  have hor:h*2^s|||l/2^(64-s)=h*2^s+l/2^(64-s):=by
   rw[Nat.mul_comm h]
   exact(Nat.two_pow_add_eq_or_of_lt hlo h).symm
  have hY:CH .u64 (y:Int) s=((y*2^s:Nat):Int):=by rw[W5 _ _ (by omega),Nat.mod_eq_of_lt e4]
  have hL:CH .u64 (l:Int) s=((l*2^s%18446744073709551616:Nat):Int):=W5 _ _ (by omega)
  have hU:FD .or .u64 (CH .u64 (h:Int) s) (Ce .u64 (l:Int) (64-s))=((h*2^s+l/2^(64-s):Nat):Int):=by
   rw[W5 _ _ (by omega),Qj _ _ (by omega),Nat.mod_eq_of_lt hhs,orN _ _ hhs hl2,hor]
  have hu:h*2^s+l/2^(64-s)<y*2^s:=by
   have:(h+1)*2^s≤y*2^s:=Nat.mul_le_mul_right _ hh
   rw[Nat.add_mul,Nat.one_mul] at this
   exact Nat.lt_of_lt_of_le (Nat.add_lt_add_left hlo _) this
  have hd:=UV hN (h:Int) (l:Int) (y:Int) s e2 s (64-s) _ _ _ hY hL hU e3 e4 (Nat.mod_lt _ (by omega)) hu
  rw[TW (M:=18446744073709551616) rfl e2,Nat.mul_div_mul_right _ _ (Nat.two_pow_pos s),Nat.mul_mod_mul_right,Nat.mul_div_cancel _ (Nat.two_pow_pos s)] at hd
  exact hd
def VT (a n d:Int):Int×Int×Bool:=if (0≤a∧a≤1125899906842624)∧(0≤n∧n≤1125899906842624)∧(1≤d∧d≤1125899906842624)∧a*n/d≤1125899906842624 then (a*n/d,a*n%d,true) else (0,0,false)
theorem W6 {t d:Nat}(hd:0<d) (h:d≤t/18446744073709551616):18446744073709551616≤t/d:=by
 refine(Nat.le_div_iff_mul_le hd).2 ?_
 omega
theorem Le {N:Nat}(hN:18446744073709551616<N) (a n d:Int):EB N a n d=some (VT a n d):=by
 unfold EB VT
 cases hc:(((((decide (a<0)||decide (1125899906842624<a))||decide (n<0))||decide (1125899906842624<n))||decide (d<1))||decide (1125899906842624<d))
 ·simp only[Bool.or_eq_false_iff,decide_eq_false_iff_not] at hc
  obtain⟨⟨⟨⟨⟨c1,c2⟩,c3⟩,c4⟩,c5⟩,c6⟩:=hc
  obtain⟨an,rfl⟩:∃k:Nat,a=k:=⟨a.toNat,by omega⟩
  obtain⟨bn,rfl⟩:∃k:Nat,n=k:=⟨n.toNat,by omega⟩
  obtain⟨dn,rfl⟩:∃k:Nat,d=k:=⟨d.toNat,by omega⟩
  rw[cond_false,Cm an (by omega),Cm bn (by omega),Cm dn (by omega),Lk N an bn (by omega) (by omega)]
  simp only[Option.bind_some]
  have e1:(an:Int)*(bn:Int)/(dn:Int)=((an*bn/dn:Nat):Int):=by rw[Int.natCast_ediv,Int.natCast_mul]
  have e2:(an:Int)*(bn:Int)%(dn:Int)=((an*bn%dn:Nat):Int):=by rw[Int.natCast_emod,Int.natCast_mul]
  rw[e1,e2]
  have hdm:an*bn/18446744073709551616*18446744073709551616+an*bn%18446744073709551616=an*bn:=(QD _ _).symm
  have hdp:0<dn:=by omega
  by_cases h1:dn≤an*bn/18446744073709551616
  ·rw[show decide ((dn:Int)≤((an*bn/18446744073709551616:Nat):Int))=true from decide_eq_true (Int.ofNat_le.2 h1),cond_true,if_neg]
   intro h
   have h2:=h.2.2.2
   have h4:=W6 hdp h1
   generalize an*bn/dn=q at h2 h4
   omega
  ·have h1':¬(dn:Int)≤((an*bn/18446744073709551616:Nat):Int):=λh=>h1 (Int.ofNat_le.1 h)
   rw[decide_eq_false h1',cond_false,QE hN _ _ _ (Nat.mod_lt _ (by omega)) (by omega) (Nat.lt_of_not_le h1),hdm]
   simp only[Option.bind_some]
   have h3:an*bn%dn<dn:=Nat.mod_lt _ hdp
   generalize an*bn/dn=q
   generalize an*bn%dn=r at h3
   by_cases h2:q≤1125899906842624
   ·have h2':¬(1125899906842624:Int)<(q:Int):=by omega
    rw[decide_eq_false h2',cond_false,if_pos ⟨by omega,by omega,by omega,by omega⟩,B1 (by omega) (by omega),B1 (by omega) (by omega)]
   ·have h2':(1125899906842624:Int)<(q:Int):=by omega
    rw[decide_eq_true h2',cond_true,if_neg (λh=>h2 (by have:=h.2.2.2;omega))]
 ·rw[cond_true,if_neg]
  intro h
  simp only[Bool.or_eq_true,decide_eq_true_eq] at hc
  omega
end Go.Proofs.YtibidnaedddfdaaGreat
