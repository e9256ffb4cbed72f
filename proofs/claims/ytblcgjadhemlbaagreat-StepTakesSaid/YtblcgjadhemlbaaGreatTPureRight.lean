import Derived.Test.YtblcgjadhemlbaaGreatTPureDiv
namespace Go.Proofs.YtblcgjadhemlbaaGreat
open Go.RowKit
set_option linter.unusedVariables false
set_option linter.unusedSimpArgs false
theorem Ps {Y u32 un q r:Nat}(hq:q*(Y/4294967296)+r=u32):q*(Y%4294967296)≤4294967296*r+un↔q*Y≤u32*4294967296+un:=by
 have e:q*Y=4294967296*(q*(Y/4294967296))+q*(Y%4294967296):=by
  conv=>lhs;rw[←Nat.div_add_mod Y 4294967296,Nat.mul_add,Nat.mul_left_comm]
 rw[e,←hq]
 generalize q*(Y/4294967296)=a
 generalize q*(Y%4294967296)=c
 omega
theorem Wc {Y u32 un q:Nat}(hu:u32<Y) (hn:un<4294967296) (hq:4294967296≤q):u32*4294967296+un<q*Y:=by
 have h1:4294967296*Y≤q*Y:=Nat.mul_le_mul_right _ hq
 omega
theorem We {Y u32 un q r:Nat}(hq:q*(Y/4294967296)+r=u32) (h1:1≤q) (hb:q≤4294967297) (hr:4294967296≤r+Y/4294967296):(q-1)*Y≤u32*4294967296+un:=by
 have e:(q-1)*(Y/4294967296)+(r+Y/4294967296)=u32:=by
  obtain⟨p,rfl⟩:∃p,q=p+1:=⟨q-1,by omega⟩
  rw[Nat.add_mul] at hq
  simp only[Nat.add_sub_cancel]
  omega
 refine(Ps e).1 ?_
 have h2:(q-1)*(Y%4294967296)≤4294967296*(Y%4294967296):=Nat.mul_le_mul_right _ (by omega)
 have h3:Y%4294967296<4294967296:=Nat.mod_lt _ (by omega)
 omega
theorem YI {Y U q:Nat}(hY:0<Y) (h1:q*Y≤U) (h2:U<(q+1)*Y):U/Y=q:=Nat.div_eq_of_lt_le h1 h2
theorem Ss {Y u32:Nat}(h63:9223372036854775808≤Y) (hY:Y<18446744073709551616) (hu:u32<Y) (un:Nat) (hn:un<4294967296):u32/(Y/4294967296)≤4294967297∧u32/(Y/4294967296)*(Y/4294967296)+u32%(Y/4294967296)=u32∧u32*4294967296+un<(u32/(Y/4294967296)+1)*Y∧u32%(Y/4294967296)<4294967296:=by
 have hy1:2147483648≤Y/4294967296:=by omega
 have hy2:Y/4294967296<4294967296:=by omega
 have hpos:0<Y/4294967296:=by omega
 have hm:u32%(Y/4294967296)<Y/4294967296:=Nat.mod_lt _ hpos
 have hdm:u32/(Y/4294967296)*(Y/4294967296)+u32%(Y/4294967296)=u32:=by rw[Nat.mul_comm];exact Nat.div_add_mod _ _
 refine⟨?_,hdm,?_,by omega⟩
 ·refine Nat.le_of_lt_succ ((Nat.div_lt_iff_lt_mul hpos).2 ?_)
  omega
 ·have h1:(u32/(Y/4294967296)+1)*(4294967296*(Y/4294967296))≤(u32/(Y/4294967296)+1)*Y:=Nat.mul_le_mul_left _ (by omega)
  rw[Nat.mul_left_comm,Nat.add_mul,Nat.one_mul] at h1
  omega
theorem Qr (N:Nat) (lo y:Int) (j14 j17:Nat) (Y u10 u32:Nat) (hY:C2 .u64 y j14=(Y:Int)) (hL:C2 .u64 lo j17=(u10:Int)) (h63:9223372036854775808≤Y) (hY64:Y<18446744073709551616) (hu10:u10<18446744073709551616) (hu:u32<Y) (kj:Int→Option (Int×Int)):
  ∀(n q r:Nat),q<n→q≤4294967297→r<4294967296→q*(Y/4294967296)+r=u32→u32*4294967296+u10/4294967296<(q+1)*Y→
  Ci N lo y j14 j17 kj n (q:Int) (r:Int)=kj (((u32*4294967296+u10/4294967296)/Y:Nat):Int)
 |0,q,r,h,_,_,_,_=>by omega
 |n+1,q,r,h1,h2,h3,h4,h5=>by
  have hy2:Y/4294967296<4294967296:=by omega
  have hy0:Y%4294967296<4294967296:=Nat.mod_lt _ (by omega)
  have hun:u10/4294967296<4294967296:=by omega
  simp only[Ci]
  rw[hY,hL,MJ,MJ,Pq Y hY64,Nm,show(4294967296:Int)=((4294967296:Nat):Int) from rfl,Nm,D6 _ (show 4294967296*r<18446744073709551616 by omega),Qu,D6 _ (show 4294967296*r+u10/4294967296<18446744073709551616 by omega),Qu,D6 (r+Y/4294967296) (by omega)]
  cases hc:(decide (((4294967296:Nat):Int)≤(q:Int))||decide (((4294967296*r+u10/4294967296:Nat):Int)<IntKind.u64.wrap ((q*(Y%4294967296):Nat):Int)))
  ·simp only[Bool.or_eq_false_iff,decide_eq_false_iff_not] at hc
   obtain⟨c1,c2⟩:=hc
   have hql:q<4294967296:=by omega
   have hm:q*(Y%4294967296)<18446744073709551616:=Nat.lt_of_le_of_lt (Nat.mul_le_mul (Nat.le_of_lt_succ hql) (Nat.le_of_lt_succ hy0)) (by decide)
   rw[D6 _ hm] at c2
   rw[cond_false,YI (by omega) ((Ps h4).1 (by omega)) h5]
  ·rw[cond_true]
   have hlt:u32*4294967296+u10/4294967296<q*Y:=by
    rcases Nat.lt_or_ge q 4294967296 with hql|hql
    ·have hm:q*(Y%4294967296)<18446744073709551616:=Nat.lt_of_le_of_lt (Nat.mul_le_mul (Nat.le_of_lt_succ hql) (Nat.le_of_lt_succ hy0)) (by decide)
     rw[D6 _ hm] at hc
     simp only[Bool.or_eq_true,decide_eq_true_eq] at hc
     refine Nat.lt_of_not_le λhle=>?_
     have:=(Ps h4).2 hle
     omega
    ·exact Wc hu hun hql
   have hq1:1≤q:=by
    rcases Nat.eq_zero_or_pos q with e|e
    ·rw[e,Nat.zero_mul] at hlt;omega
    ·exact e
   have hqe:IntKind.u64.wrap ((q:Int)-1)=((q-1:Nat):Int):=by rw[show (q:Int)-1=((q-1:Nat):Int) by omega];exact D6 _ (by omega)
   rw[hqe]
   have e9:q-1+1=q:=by omega
   cases hc2:decide (((4294967296:Nat):Int)≤((r+Y/4294967296:Nat):Int))
   ·rw[cond_false]
    have h9:(q-1)*(Y/4294967296)+(r+Y/4294967296)=u32:=by
     have:q*(Y/4294967296)=(q-1)*(Y/4294967296)+Y/4294967296:=by
      conv=>lhs;rw[←e9,Nat.add_mul,Nat.one_mul]
     omega
    simp only[decide_eq_false_iff_not] at hc2
    exact Qr N lo y j14 j17 Y u10 u32 hY hL h63 hY64 hu10 hu kj n (q-1) (r+Y/4294967296) (by omega) (by omega) (by omega) h9 (by rw[e9];exact hlt)
   ·rw[cond_true]
    simp only[decide_eq_true_eq] at hc2
    rw[YI (by omega) (We h4 hq1 h2 (by omega)) (by rw[e9];exact hlt)]
theorem Qq (N:Nat) (lo y:Int) (j14 j17:Nat) (Y u10 u32:Nat) (hY:C2 .u64 y j14=(Y:Int)) (hL:C2 .u64 lo j17=(u10:Int)) (h63:9223372036854775808≤Y) (hY64:Y<18446744073709551616) (hu10:u10<18446744073709551616) (hu:u32<Y) (kj:Int→Option (Int×Int)):
  ∀(n q r:Nat),q<n→q≤4294967297→r<4294967296→q*(Y/4294967296)+r=u32→u32*4294967296+u10%4294967296<(q+1)*Y→
  C7 N lo y j14 j17 kj n (r:Int) (q:Int)=kj (((u32*4294967296+u10%4294967296)/Y:Nat):Int)
 |0,q,r,h,_,_,_,_=>by omega
 |n+1,q,r,h1,h2,h3,h4,h5=>by
  have hy2:Y/4294967296<4294967296:=by omega
  have hy0:Y%4294967296<4294967296:=Nat.mod_lt _ (by omega)
  have hun:u10%4294967296<4294967296:=Nat.mod_lt _ (by omega)
  simp only[C7]
  rw[hY,hL,MJ,Pq u10 hu10,Pq Y hY64,Nm,show(4294967296:Int)=((4294967296:Nat):Int) from rfl,Nm,D6 _ (show 4294967296*r<18446744073709551616 by omega),Qu,D6 _ (show 4294967296*r+u10%4294967296<18446744073709551616 by omega),Qu,D6 (r+Y/4294967296) (by omega)]
  cases hc:(decide (((4294967296:Nat):Int)≤(q:Int))||decide (((4294967296*r+u10%4294967296:Nat):Int)<IntKind.u64.wrap ((q*(Y%4294967296):Nat):Int)))
  ·simp only[Bool.or_eq_false_iff,decide_eq_false_iff_not] at hc
   obtain⟨c1,c2⟩:=hc
   have hql:q<4294967296:=by omega
   have hm:q*(Y%4294967296)<18446744073709551616:=Nat.lt_of_le_of_lt (Nat.mul_le_mul (Nat.le_of_lt_succ hql) (Nat.le_of_lt_succ hy0)) (by decide)
   rw[D6 _ hm] at c2
   rw[cond_false,YI (by omega) ((Ps h4).1 (by omega)) h5]
  ·rw[cond_true]
   have hlt:u32*4294967296+u10%4294967296<q*Y:=by
    rcases Nat.lt_or_ge q 4294967296 with hql|hql
    ·have hm:q*(Y%4294967296)<18446744073709551616:=Nat.lt_of_le_of_lt (Nat.mul_le_mul (Nat.le_of_lt_succ hql) (Nat.le_of_lt_succ hy0)) (by decide)
     rw[D6 _ hm] at hc
     simp only[Bool.or_eq_true,decide_eq_true_eq] at hc
     refine Nat.lt_of_not_le λhle=>?_
     have:=(Ps h4).2 hle
     omega
    ·exact Wc hu hun hql
   have hq1:1≤q:=by
    rcases Nat.eq_zero_or_pos q with e|e
    ·rw[e,Nat.zero_mul] at hlt;omega
    ·exact e
   have hqe:IntKind.u64.wrap ((q:Int)-1)=((q-1:Nat):Int):=by rw[show (q:Int)-1=((q-1:Nat):Int) by omega];exact D6 _ (by omega)
   rw[hqe]
   have e9:q-1+1=q:=by omega
   cases hc2:decide (((4294967296:Nat):Int)≤((r+Y/4294967296:Nat):Int))
   ·rw[cond_false]
    have h9:(q-1)*(Y/4294967296)+(r+Y/4294967296)=u32:=by
     have:q*(Y/4294967296)=(q-1)*(Y/4294967296)+Y/4294967296:=by
      conv=>lhs;rw[←e9,Nat.add_mul,Nat.one_mul]
     omega
    simp only[decide_eq_false_iff_not] at hc2
    exact Qq N lo y j14 j17 Y u10 u32 hY hL h63 hY64 hu10 hu kj n (q-1) (r+Y/4294967296) (by omega) (by omega) (by omega) h9 (by rw[e9];exact hlt)
   ·rw[cond_true]
    simp only[decide_eq_true_eq] at hc2
    rw[YI (by omega) (We h4 hq1 h2 (by omega)) (by rw[e9];exact hlt)]
theorem Z0 (a b:Nat) (h:b≠0) (ha:a<18446744073709551616):Ox .u64 (a:Int) (b:Int)=some ((a/b:Nat):Int):=by
 unfold Ox
 rw[if_neg (by omega)]
 have e:(a:Int).tdiv (b:Int)=((a/b:Nat):Int):=rfl
 have:a/b≤a:=Nat.div_le_self _ _
 rw[e,D6 _ (by omega)]
theorem jC (a b:Nat) (h:b≠0):RI (a:Int) (b:Int)=some ((a%b:Nat):Int):=by
 unfold RI
 rw[if_neg (by omega)]
 rfl
theorem Zv (a s:Nat) (hs:s≤64):C2 .u64 (a:Int) s=((a*2^s%18446744073709551616:Nat):Int):=by
 unfold C2
 have hm:min s IntKind.u64.bits=s:=by simp [IntKind.bits];omega
 have hp:((a:Int)*2^s)=((a*2^s:Nat):Int):=by simp
 rw[hm,hp]
 exact Y5 _
theorem orN (a b:Nat) (ha:a<18446744073709551616) (hb:b<18446744073709551616):Gz .or .u64 (a:Int) (b:Int)=((a|||b:Nat):Int):=by
 have h1:(BitVec.ofInt 64 (a:Int)).toNat=a:=by rw[BitVec.ofInt_natCast,BitVec.toNat_ofNat];exact Nat.mod_eq_of_lt (by omega)
 have h2:(BitVec.ofInt 64 (b:Int)).toNat=b:=by rw[BitVec.ofInt_natCast,BitVec.toNat_ofNat];exact Nat.mod_eq_of_lt (by omega)
 have h3:a|||b<2^64:=Nat.or_lt_two_pow (by omega) (by omega)
 show IntKind.u64.wrap (((BitVec.ofInt 64 (a:Int))|||(BitVec.ofInt 64 (b:Int))).toNat:Int)=_
 rw[BitVec.toNat_or,h1,h2,D6 _ (by omega)]
theorem Up (a b:Nat):a=a/b*b+a%b:=by rw[Nat.mul_comm];exact(Nat.div_add_mod a b).symm
theorem Vy {Y A B u:Nat}(hY:0<Y):(A*B+u)/Y=A/Y*B+(A%Y*B+u)/Y∧(A*B+u)%Y=(A%Y*B+u)%Y:=by
 have h1:=Nat.div_add_mod A Y
 have e:A*B+u=Y*(A/Y*B)+(A%Y*B+u):=by
  conv=>lhs;rw[←h1,Nat.add_mul,Nat.mul_assoc,Nat.add_assoc]
 rw[e]
 exact⟨by rw[Nat.mul_add_div hY],by rw[Nat.mul_add_mod]⟩
theorem La {a b q Y R:Nat}(h:a=q*Y+R) (hR:R<18446744073709551616) (hb:b=a%18446744073709551616):IntKind.u64.wrap ((b:Int)-IntKind.u64.wrap ((q*Y:Nat):Int))=(R:Int):=by
 rw[LH,LH]
 generalize q*Y=t at h
 omega
theorem VW {N:Nat}(hN:18446744073709551616<N) (hi lo y:Int) (s:Nat) (hs:s≤63) (j15 j16:Nat) (Y u10 u32 Q1 R1:Nat) (hY:C2 .u64 y s=(Y:Int)) (hL:C2 .u64 lo s=(u10:Int)) (hU:Gz .or .u64 (C2 .u64 hi j15) (Du .u64 lo j16)=(u32:Int))
  (h63:9223372036854775808≤Y) (hY64:Y<18446744073709551616) (hu10:u10<18446744073709551616) (hu:u32<Y) (hQ:(u32*4294967296+u10/4294967296)=Q1*Y+R1) (hR:R1<Y) (hQ1:Q1<4294967296):
  C8 N hi lo y (s:Int) s j15 j16 s (Q1:Int)=some (((Q1*4294967296+(R1*4294967296+u10%4294967296)/Y:Nat):Int),(((R1*4294967296+u10%4294967296)%Y/2^s:Nat):Int)):=by
 have hy0:0<Y/4294967296:=by omega
 have hyb:Y/4294967296<4294967296:=by omega
 have hun:u10%4294967296<4294967296:=Nat.mod_lt _ (by omega)
 have e1:IntKind.u64.wrap (IntKind.u64.wrap (IntKind.u64.wrap ((u32:Int)*4294967296)+Du .u64 (C2 .u64 lo s) 32)-IntKind.u64.wrap ((Q1:Int)*(Y:Int)))=(R1:Int):=by
  rw[hL,MJ,Nm]
  refine(congrArg (λz=>IntKind.u64.wrap (z-_)) ?_).trans (La (b:=(u32*4294967296+u10/4294967296)%18446744073709551616) hQ (by omega) rfl)
  rw[LH,LH]
  omega
 obtain⟨k1,k2,k3,k4⟩:=Ss h63 hY64 hR (u10%4294967296) hun
 unfold C8
 rw[hU,hY,e1,MJ,Z0 _ _ (by omega) (by omega)]
 simp only[Option.bind_some]
 have e2:IntKind.u64.wrap ((R1:Int)-IntKind.u64.wrap (((R1/(Y/4294967296):Nat):Int)*((Y/4294967296:Nat):Int)))=((R1%(Y/4294967296):Nat):Int):=by
  rw[Nm]
  exact La (a:=R1) k2.symm (by omega) (by omega)
 rw[e2,Qq N lo y s s Y u10 R1 hY hL h63 hY64 hu10 hR _ N _ _ (by omega) k1 k4 k2 k3]
 unfold EB
 have hc:NO (IntKind.u64.wrap (s:Int))=some s:=by
  rw[D6 s (by omega)]
  unfold NO
  rw[if_neg (by omega)]
  simp
 rw[hU,hY,hc,e1,hL,Pq u10 hu10]
 simp only[Option.bind_some]
 have hd:=Nat.div_add_mod (R1*4294967296+u10%4294967296) Y
 have hq2:(R1*4294967296+u10%4294967296)/Y<4294967296:=(Nat.div_lt_iff_lt_mul (by omega)).2 (by omega)
 have hr2:(R1*4294967296+u10%4294967296)%Y<Y:=Nat.mod_lt _ (by omega)
 have e3:IntKind.u64.wrap (IntKind.u64.wrap (IntKind.u64.wrap ((R1:Int)*4294967296)+((u10%4294967296:Nat):Int))-IntKind.u64.wrap (((((R1*4294967296+u10%4294967296)/Y:Nat)):Int)*(Y:Int)))=(((R1*4294967296+u10%4294967296)%Y:Nat):Int):=by
  rw[Nm]
  refine(congrArg (λz=>IntKind.u64.wrap (z-_)) ?_).trans (La (a:=R1*4294967296+u10%4294967296) (b:=(R1*4294967296+u10%4294967296)%18446744073709551616) (Up _ _) (by omega) rfl)
  rw[LH,LH]
  omega
 have e4:IntKind.u64.wrap (IntKind.u64.wrap ((Q1:Int)*4294967296)+((((R1*4294967296+u10%4294967296)/Y:Nat)):Int))=((Q1*4294967296+(R1*4294967296+u10%4294967296)/Y:Nat):Int):=by
  rw[LH,LH]
  generalize (R1*4294967296+u10%4294967296)/Y=t at hq2
  omega
 rw[e3,e4,Td _ s (by omega)]
theorem YM (a u:Nat):(a*4294967296+u/4294967296)*4294967296+u%4294967296=a*18446744073709551616+u:=by omega
theorem XH {N:Nat}(hN:18446744073709551616<N) (hi lo y:Int) (s:Nat) (hs:s≤63) (j15 j16:Nat) (Y u10 u32:Nat) (hY:C2 .u64 y s=(Y:Int)) (hL:C2 .u64 lo s=(u10:Int)) (hU:Gz .or .u64 (C2 .u64 hi j15) (Du .u64 lo j16)=(u32:Int))
  (h63:9223372036854775808≤Y) (hY64:Y<18446744073709551616) (hu10:u10<18446744073709551616) (hu:u32<Y):
  (Option.bind (Ox .u64 (Gz .or .u64 (C2 .u64 hi j15) (Du .u64 lo j16)) (Du .u64 (C2 .u64 y s) 32)) λz18=>
   Ci N lo y s s (C8 N hi lo y (s:Int) s j15 j16 s) N z18 (IntKind.wrap .u64 ((Gz .or .u64 (C2 .u64 hi j15) (Du .u64 lo j16))-(IntKind.wrap .u64 (z18*(Du .u64 (C2 .u64 y s) 32))))))=
  some ((((u32*18446744073709551616+u10)/Y:Nat):Int),(((u32*18446744073709551616+u10)%Y/2^s:Nat):Int)):=by
 have hYpos:0<Y:=by omega
 have hun:u10/4294967296<4294967296:=by omega
 obtain⟨k1,k2,k3,k4⟩:=Ss h63 hY64 hu (u10/4294967296) hun
 obtain⟨t1,t2⟩:=Vy (Y:=Y) (A:=u32*4294967296+u10/4294967296) (B:=4294967296) (u:=u10%4294967296) hYpos
 rw[YM] at t1 t2
 rw[t1,t2,hU,hY,MJ,Z0 _ _ (by omega) (by omega)]
 simp only[Option.bind_some]
 have e5:IntKind.u64.wrap ((u32:Int)-IntKind.u64.wrap (((u32/(Y/4294967296):Nat):Int)*((Y/4294967296:Nat):Int)))=((u32%(Y/4294967296):Nat):Int):=by
  rw[Nm]
  exact La (a:=u32) k2.symm (by omega) (by omega)
 have hq1:(u32*4294967296+u10/4294967296)/Y<4294967296:=(Nat.div_lt_iff_lt_mul hYpos).2 (by omega)
 rw[e5,Qr N _ _ s s Y u10 u32 hY hL h63 hY64 hu10 hu _ N _ _ (by omega) k1 k4 k2 k3]
 exact VW hN _ _ _ s hs j15 j16 Y u10 u32 _ _ hY hL hU h63 hY64 hu10 hu (Up _ _) (Nat.mod_lt _ hYpos) hq1
theorem WA {h l s M:Nat}(hM:M=2^64) (hs:s≤63):(h*2^s+l/2^(64-s))*M+l*2^s%M=(h*M+l)*2^s:=by
 have e:(2:Nat)^64=2^(64-s)*2^s:=by rw[←Nat.pow_add];congr 1;omega
 have h1:l*2^s/M=l/2^(64-s):=by
  rw[hM,e,Nat.mul_div_mul_right _ _ (Nat.two_pow_pos s)]
 have h2:=Nat.div_add_mod (l*2^s) M
 rw[h1] at h2
 rw[Nat.add_mul,Nat.add_mul,Nat.mul_right_comm h,Nat.add_assoc,Nat.mul_comm (l/2^(64-s)) M]
 exact congrArg _ h2
theorem XK {N:Nat}(hN:18446744073709551616<N) (h l y:Nat) (hl:l<18446744073709551616) (hy:y<18446744073709551616) (hh:h<y):
  Ee N (h:Int) (l:Int) (y:Int)=some ((((h*18446744073709551616+l)/y:Nat):Int),(((h*18446744073709551616+l)%y:Nat):Int)):=by
 unfold Ee
 rw[show decide ((y:Int)=0)=false by simp;omega,show decide ((y:Int)≤(h:Int))=false by simp;omega,cond_false,cond_false]
 rcases Nat.eq_zero_or_pos h with e|hp
 ·subst e
  rw[show decide (((0:Nat):Int)=0)=true by simp,cond_true,Z0 _ _ (by omega) hl,jC _ _ (by omega),Nat.zero_mul,Nat.zero_add]
  rfl
 ·rw[show decide ((h:Int)=0)=false by simp;omega,cond_false]
  obtain⟨s,e1,e2,e3,e4⟩:=ZK N (show 0<y by omega) hy
  have c1:∀t:Nat,t≤64→NO (IntKind.u64.wrap (t:Int))=some t:=λt ht=>by
   rw[D6 t (by omega)]
   unfold NO
   rw[if_neg (by omega)]
   simp
  have e64:(64:Int)-IntKind.u64.wrap (s:Int)=((64-s:Nat):Int):=by rw[D6 s (by omega)];omega
  rw[e1,Option.bind_some,e64,c1 s (by omega),c1 (64-s) (by omega),Option.bind_some,Option.bind_some,Option.bind_some,Option.bind_some]
  have hhs:h*2^s<18446744073709551616:=Nat.lt_of_le_of_lt (Nat.mul_le_mul_right _ (Nat.le_of_lt hh)) e4
  have hlo:l/2^(64-s)<2^s:=by
   refine(Nat.div_lt_iff_lt_mul (Nat.two_pow_pos _)).2 ?_
   rw[←Nat.pow_add,show s+(64-s)=64 by omega]
   exact hl
  have hl2:l/2^(64-s)<18446744073709551616:=Nat.lt_of_le_of_lt (Nat.div_le_self _ _) hl
  have hor:h*2^s|||l/2^(64-s)=h*2^s+l/2^(64-s):=by
   rw[Nat.mul_comm h]
   exact(Nat.two_pow_add_eq_or_of_lt hlo h).symm
  have hY:C2 .u64 (y:Int) s=((y*2^s:Nat):Int):=by rw[Zv _ _ (by omega),Nat.mod_eq_of_lt e4]
  have hL:C2 .u64 (l:Int) s=((l*2^s%18446744073709551616:Nat):Int):=Zv _ _ (by omega)
  have hU:Gz .or .u64 (C2 .u64 (h:Int) s) (Du .u64 (l:Int) (64-s))=((h*2^s+l/2^(64-s):Nat):Int):=by
   rw[Zv _ _ (by omega),Td _ _ (by omega),Nat.mod_eq_of_lt hhs,orN _ _ hhs hl2,hor]
  have hu:h*2^s+l/2^(64-s)<y*2^s:=by
   have:(h+1)*2^s≤y*2^s:=Nat.mul_le_mul_right _ hh
   rw[Nat.add_mul,Nat.one_mul] at this
   exact Nat.lt_of_lt_of_le (Nat.add_lt_add_left hlo _) this
  have hd:=XH hN (h:Int) (l:Int) (y:Int) s e2 s (64-s) _ _ _ hY hL hU e3 e4 (Nat.mod_lt _ (by omega)) hu
  rw[WA (M:=18446744073709551616) rfl e2,Nat.mul_div_mul_right _ _ (Nat.two_pow_pos s),Nat.mul_mod_mul_right,Nat.mul_div_cancel _ (Nat.two_pow_pos s)] at hd
  exact hd
def iM (a n d:Int):Int×Int×Bool:=if (0≤a∧a≤1125899906842624)∧(0≤n∧n≤1125899906842624)∧(1≤d∧d≤1125899906842624)∧a*n/d≤1125899906842624 then (a*n/d,a*n%d,true) else (0,0,false)
theorem Zw {t d:Nat}(hd:0<d) (h:d≤t/18446744073709551616):18446744073709551616≤t/d:=by
 refine(Nat.le_div_iff_mul_le hd).2 ?_
 omega
theorem Nf {N:Nat}(hN:18446744073709551616<N) (a n d:Int):En N a n d=some (iM a n d):=by
 unfold En iM
 cases hc:(((((decide (a<0)||decide (1125899906842624<a))||decide (n<0))||decide (1125899906842624<n))||decide (d<1))||decide (1125899906842624<d))
 ·simp only[Bool.or_eq_false_iff,decide_eq_false_iff_not] at hc
  obtain⟨⟨⟨⟨⟨c1,c2⟩,c3⟩,c4⟩,c5⟩,c6⟩:=hc
  obtain⟨an,rfl⟩:∃k:Nat,a=k:=⟨a.toNat,by omega⟩
  obtain⟨bn,rfl⟩:∃k:Nat,n=k:=⟨n.toNat,by omega⟩
  obtain⟨dn,rfl⟩:∃k:Nat,d=k:=⟨d.toNat,by omega⟩
  rw[cond_false,D6 an (by omega),D6 bn (by omega),D6 dn (by omega),Pp N an bn (by omega) (by omega)]
  simp only[Option.bind_some]
  have e1:(an:Int)*(bn:Int)/(dn:Int)=((an*bn/dn:Nat):Int):=by rw[Int.natCast_ediv,Int.natCast_mul]
  have e2:(an:Int)*(bn:Int)%(dn:Int)=((an*bn%dn:Nat):Int):=by rw[Int.natCast_emod,Int.natCast_mul]
  rw[e1,e2]
  have hdm:an*bn/18446744073709551616*18446744073709551616+an*bn%18446744073709551616=an*bn:=(Up _ _).symm
  have hdp:0<dn:=by omega
  by_cases h1:dn≤an*bn/18446744073709551616
  ·rw[show decide ((dn:Int)≤((an*bn/18446744073709551616:Nat):Int))=true from decide_eq_true (Int.ofNat_le.2 h1),cond_true,if_neg]
   intro h
   have h2:=h.2.2.2
   have h4:=Zw hdp h1
   generalize an*bn/dn=q at h2 h4
   omega
  ·have h1':¬(dn:Int)≤((an*bn/18446744073709551616:Nat):Int):=λh=>h1 (Int.ofNat_le.1 h)
   rw[decide_eq_false h1',cond_false,XK hN _ _ _ (Nat.mod_lt _ (by omega)) (by omega) (Nat.lt_of_not_le h1),hdm]
   simp only[Option.bind_some]
   have h3:an*bn%dn<dn:=Nat.mod_lt _ hdp
   generalize an*bn/dn=q
   generalize an*bn%dn=r at h3
   by_cases h2:q≤1125899906842624
   ·have h2':¬(1125899906842624:Int)<(q:Int):=by omega
    rw[decide_eq_false h2',cond_false,if_pos ⟨by omega,by omega,by omega,by omega⟩,Dm (by omega) (by omega),Dm (by omega) (by omega)]
   ·have h2':(1125899906842624:Int)<(q:Int):=by omega
    rw[decide_eq_true h2',cond_true,if_neg (λh=>h2 (by have:=h.2.2.2;omega))]
 ·rw[cond_true,if_neg]
  intro h
  simp only[Bool.or_eq_true,decide_eq_true_eq] at hc
  omega
end Go.Proofs.YtblcgjadhemlbaaGreat
namespace Go.Proofs.YtblcgjadhemlbaaGreat
open Go.RowKit
set_option linter.unusedVariables false
set_option linter.unusedSimpArgs false
theorem Kp (b x:Bool):cond b true x=(b||x):=by cases b<;>rfl
theorem Ry (b x:Bool):cond b x false=(b&&x):=by cases b<;>rfl
theorem BL {k:Nat}(h:k<4611686018427387904):BM ((k:Int)+1)=((k+1:Nat):Int):=by rw[Dm (by omega) (by omega)];rfl
theorem Eu {k L:Nat}(h:k<L):decide ((k:Int)<(L:Int))=true:=by simp;omega
theorem E0 {k L:Nat}(h:L≤k):decide ((k:Int)<(L:Int))=false:=by simp;omega
theorem IJ (L:Nat) (f:Nat→Int→Option Bool) (kj:Option Bool) (P:Nat→Prop) (hstop:∀n (k:Nat),L≤k→f (n+1) (k:Int)=kj) (hstep:∀n (k:Nat),k<L→f (n+1) (k:Int)=some false∨(P k∧f (n+1) (k:Int)=f n ((k+1:Nat):Int))):
  ∀n (k:Nat),L<n+k→k≤L→f n (k:Int)=some false∨((∀i,k≤i→i<L→P i)∧f n (k:Int)=kj)
 |0,k,h,hk=>by omega
 |n+1,k,h,hk=>by
  rcases Nat.lt_or_ge k L with hl|hl
  ·rcases hstep n k hl with h1|⟨h1,h2⟩
   ·exact .inl h1
   ·rcases IJ L f kj P hstop hstep n (k+1) (by omega) (by omega) with h3|⟨h3,h4⟩
    ·exact .inl (h2.trans h3)
    ·refine .inr ⟨λi hi hil=>?_,h2.trans h4⟩
     by_cases e:i=k
     ·subst e;exact h1
     ·exact h3 i (by omega) hil
  ·exact .inr ⟨λi hi hil=>by omega,hstop n k hl⟩
theorem UU {σ β:Type}(L:Nat) (f:Nat→Int→σ→Option β) (kj:σ→Option β) (I:σ→Prop) (hstop:∀n (k:Nat) s,L≤k→f (n+1) (k:Int) s=kj s) (hstep:∀n (k:Nat) s,I s→k<L→∃s',I s'∧f (n+1) (k:Int) s=f n ((k+1:Nat):Int) s'):
  ∀n (k:Nat) s,I s→L<n+k→k≤L→∃s',I s'∧f n (k:Int) s=kj s'
 |0,k,s,_,h,hk=>by omega
 |n+1,k,s,hi,h,hk=>by
  rcases Nat.lt_or_ge k L with hl|hl
  ·obtain⟨s1,i1,h1⟩:=hstep n k s hi hl
   obtain⟨s2,i2,h2⟩:=UU L f kj I hstop hstep n (k+1) s1 i1 (by omega) (by omega)
   exact⟨s2,i2,h1.trans h2⟩
  ·exact⟨s,hi,hstop n k s hl⟩
def Q0 (n:Int):Bool:=decide (0≤n)&&decide (n≤1125899906842624)
theorem ME {n:Int}(h:Q0 n=true):Io n:=by simpa [Q0,Io] using h
theorem LZ (N:Nat) (n:Int):B5 N n=some (Q0 n):=rfl
def Wg (n lo hi:Int):Bool:=decide (lo≤n)&&decide (n≤hi)
theorem NF (N:Nat) (n lo hi:Int):CD N n lo hi=some (Wg n lo hi):=rfl
theorem KM {n lo hi:Int}(h:Wg n lo hi=true):lo≤n∧n≤hi:=by simpa [Wg] using h
def Ug (a b:Int):Bool:=(Q0 a&&Q0 b)&&(decide (b≠0)||decide (a=0))
theorem Rf (N:Nat) (a b:Int):Fo N a b=some (Ug a b):=by
 simp only[Fo,LZ,Option.bind_some,FX,Ry,Ug]
theorem Mr {a b:Int}(h:Ug a b=true):Io a∧Io b:=by
 simp only[Ug,Bool.and_eq_true] at h
 exact⟨ME h.1.1,ME h.1.2⟩
theorem Pu (N:Nat) (n:Int) {L:Nat}(hL:L<4611686018427387904):EE N n (L:Int)=some (Wg n 0 ((L:Int)-1)):=by
 simp only[EE,NF,Option.bind_some]
 rw[Dm (by omega) (by omega)]
def SR (L:Nat) (fr to:Int):Bool:=decide (to= -1)||(Wg to 0 ((L:Int)-1)&&decide (to≠fr))
theorem Qd (N:Nat) (b:AW) (fr to:Int) (hL:b.Places.length<4611686018427387904):Hl N b fr to=some (SR b.Places.length fr to):=by
 simp only[Hl,Pu N _ hL,Option.bind_some,FX,Kp,SR]
theorem UF {L:Nat}{fr to:Int}(h:SR L fr to=true):to= -1∨(0≤to∧to<L):=by
 simp only[SR,Bool.or_eq_true,Bool.and_eq_true,decide_eq_true_eq] at h
 rcases h with h|h
 ·exact .inl h
 ·have:=KM h.1;exact .inr ⟨this.1,by omega⟩
structure Ho (b:AW):Prop where
 own:b.Owners.length≤16
 cells:0≤b.Cells∧b.Cells≤64
 pl:b.Places.length≤64
 li:b.Links.length≤96
 to:b.Towns.length≤40
 ga:b.Gauges.length≤128
 ro:b.Roads.length≤128
 sh:b.Shelters.length≤40
 own1:1≤b.Owners.length
theorem Rz {s:ByteArray}{k:Nat}(h:k<s.size):∃z,Us s (k:Int)=some z:=by
 unfold Us
 rw[if_neg (by omega)]
 simp only[Int.toNat_natCast]
 exact⟨_,by rw[getElem?_pos s k h];rfl⟩
theorem YJ {N:Nat}(hN:1000<N) (b:AW):∃v,HK N b=some v∧(v=true→Ho b):=by
 unfold HK
 simp only[NF,Option.bind_some,FX,Kp]
 generalize hB:(_|| !Wg b.Err 0 1099511627776)=B
 cases B
 ·simp only[Bool.or_eq_false_iff,decide_eq_false_iff_not,Bool.not_eq_false'] at hB
  obtain⟨⟨⟨⟨⟨⟨⟨⟨⟨⟨h1,h2⟩,h3⟩,h4⟩,h5⟩,h6⟩,h7⟩,h8⟩,h9⟩,h10⟩,h11⟩:=hB
  have g2:=KM h2
  have g3:=KM h3
  have g4:=KM h4
  have hok:Ho b:=⟨by omega,by omega,by omega,by omega,by omega,by omega,by omega,by omega,by omega⟩
  simp only[cond_false]
  have hroom:∃v,Dc N b=some v:=by
   unfold Dc
   rcases IJ b.Room.length (Da N b (FI N)) (FI N) (λ_=>True) (λn k h=>by
    simp only[Da];rw[E0 h];rfl) (λn k h=>by
    simp only[Da]
    rw[Eu h,cond_true,BH h]
    simp only[Option.bind_some,LZ,BL (show k<4611686018427387904 by omega)]
    cases Q0 b.Room[k]
    ·exact .inl rfl
    ·exact .inr ⟨trivial,rfl⟩) N 0 (by omega) (Nat.zero_le _) with h|⟨_,h⟩
   ·exact⟨_,h⟩
   ·exact⟨true,h⟩
  rcases IJ b.Name.size (Db N b (Dc N b)) (Dc N b) (λ_=>True) (λn k h=>by
    simp only[Db];rw[E0 h];rfl) (λn k h=>by
    simp only[Db]
    obtain⟨z,hz⟩:=Rz h
    rw[Eu h,cond_true,hz]
    simp only[Option.bind_some,BL (show k<4611686018427387904 by omega)]
    cases (decide (z<32)||decide (126<z)||decide (z=34)||decide (z=92))
    ·exact .inr ⟨trivial,rfl⟩
    ·exact .inl rfl) N 0 (by omega) (Nat.zero_le _) with h|⟨_,h⟩
  ·exact⟨false,h,λh=>by cases h⟩
  ·obtain⟨v,hv⟩:=hroom
   exact⟨v,h.trans hv,λ_=>hok⟩
 ·exact⟨false,rfl,λh=>by cases h⟩
theorem VR {N:Nat}(hN:1000<N) (s:ByteArray):Df (Ia N s):=by
 unfold Ia
 cases hB:(decide ((s.size:Int)<1)||decide (24<(s.size:Int))||s==ByteArray.mk #[111,117,116])
 ·simp only[Bool.or_eq_false_iff,decide_eq_false_iff_not] at hB
  obtain⟨z,hz⟩:=Rz (s:=s) (k:=0) (by omega)
  have hz':Us s 0=some z:=hz
  simp only[cond_false,hz',Option.bind_some,FX,Kp]
  refine Df.cond (λ_=>Df.mk _) λ_=>?_
  rcases IJ s.size (Ef N s (GK N)) (GK N) (λ_=>True) (λn k h=>by
    simp only[Ef];rw[E0 h];rfl) (λn k h=>by
    simp only[Ef]
    obtain⟨z,hz⟩:=Rz h
    rw[Eu h,cond_true,hz]
    simp only[Option.bind_some,BL (show k<4611686018427387904 by omega)]
    cases (((decide (z<97)||decide (122<z))&&(decide (z<48)||decide (57<z)))&&decide (z≠95))
    ·exact .inr ⟨trivial,rfl⟩
    ·exact .inl rfl) N 1 (by omega) (by omega) with h|⟨_,h⟩
  ·exact⟨_,h⟩
  ·exact⟨_,h⟩
 ·simp only[cond_true,Option.bind_some]
  exact Df.mk _
theorem Wk {N:Nat}(hN:1000<N) (m:List (AS×Bool)) (a b:ByteArray):Df (Iy N m a b):=by
 have hj:∀s,Df (Gl N m b s):=λs=>by
  unfold Gl
  exact Df.bind (VR hN b) λ_ _=>Df.cond (λ_=>Df.mk _) λ_=>Df.mk _
 unfold Iy
 exact Df.cond (λ_=>hj _) λ_=>hj _
theorem Kq {N:Nat}(hN:1000<N) (m:List (AS×Bool)) (c:Bool) (a b:ByteArray):∃v,CT N m c a b=some v:=by
 unfold CT
 exact Df.bind (Wk hN m a b) λ_ _=>Df.mk _
theorem WU {N:Nat}(hN:1000<N) {b:AW}(hb:Ho b):Df (H0 N b):=by
 obtain⟨q1,q2,q3,q4,q5,q6,q7,q8⟩:=hb
 have st:∀{σ} (L:Nat) (f:Nat→Int→σ→Option Bool) (kj:σ→Option Bool),L≤128→(∀n (k:Nat) s,L≤k→f (n+1) (k:Int) s=kj s)→(∀n (k:Nat) s,k<L→∃s',f (n+1) (k:Int) s=f n ((k+1:Nat):Int) s')→(∀s,Df (kj s))→∀s,Df (f N 0 s):=λL f kj hL h1 h2 h3 s=>by
  obtain⟨s',_,e⟩:=UU L f kj (λ_=>True) h1 (λn k s _ h=>by obtain⟨s',h'⟩:=h2 n k s h;exact⟨s',trivial,h'⟩) N 0 s trivial (by omega) (Nat.zero_le _)
  obtain⟨v,hv⟩:=h3 s'
  exact⟨v,e.trans hv⟩
 have h13:∀s:Bool×List (AS×Bool),Df (Cc N b (Dh N) N 0 s.1 s.2):=st (σ:=Bool×List (AS×Bool)) b.Roads.length (λn k s=>Cc N b (Dh N) n k s.1 s.2) (λs=>Dh N s.1) (by omega) (λn k s h=>by simp only[Cc];rw[E0 h];rfl)
  (λn k s h=>by
   simp only[Cc]
   rw[Eu h,cond_true,BH h]
   simp only[Option.bind_some]
   obtain⟨v,hv⟩:=Kq hN s.2 s.1 (ByteArray.mk #[114,111,97,100]) (b.Roads[k]).Name
   rw[hv]
   simp only[Option.bind_some,BL (show k<4611686018427387904 by omega)]
   exact⟨(v.2,v.1),rfl⟩) (λs=>Df.mk _)
 have h11:∀s:Bool×List (AS×Bool),Df (Cd N b (Di N b) N 0 s.1 s.2):=st (σ:=Bool×List (AS×Bool)) b.Gauges.length (λn k s=>Cd N b (Di N b) n k s.1 s.2) (λs=>Di N b s.1 s.2) (by omega) (λn k s h=>by simp only[Cd];rw[E0 h];rfl)
  (λn k s h=>by
   simp only[Cd]
   rw[Eu h,cond_true,BH h]
   simp only[Option.bind_some]
   obtain⟨v,hv⟩:=Kq hN s.2 s.1 (ByteArray.mk #[103,97,117,103,101]) (b.Gauges[k]).Name
   rw[hv]
   simp only[Option.bind_some,BL (show k<4611686018427387904 by omega)]
   exact⟨(v.2,v.1),rfl⟩) (λs=>h13 s)
 have h9:∀s:Bool×List (AS×Bool),Df (Co N b (Dv N b) N 0 s.1 s.2):=st (σ:=Bool×List (AS×Bool)) b.Shelters.length (λn k s=>Co N b (Dv N b) n k s.1 s.2) (λs=>Dv N b s.1 s.2) (by omega) (λn k s h=>by simp only[Co];rw[E0 h];rfl)
  (λn k s h=>by
   simp only[Co]
   rw[Eu h,cond_true,BH h]
   simp only[Option.bind_some]
   obtain⟨v,hv⟩:=Kq hN s.2 s.1 (ByteArray.mk #[115,104,101,108,116,101,114]) (b.Shelters[k]).Name
   rw[hv]
   simp only[Option.bind_some,BL (show k<4611686018427387904 by omega)]
   exact⟨(v.2,v.1),rfl⟩) (λs=>h11 s)
 have h7:∀s:Bool×List (AS×Bool),Df (Cp N b (Dw N b) N 0 s.1 s.2):=st (σ:=Bool×List (AS×Bool)) b.Towns.length (λn k s=>Cp N b (Dw N b) n k s.1 s.2) (λs=>Dw N b s.1 s.2) (by omega) (λn k s h=>by simp only[Cp];rw[E0 h];rfl)
  (λn k s h=>by
   simp only[Cp]
   rw[Eu h,cond_true,BH h]
   simp only[Option.bind_some]
   obtain⟨v,hv⟩:=Kq hN s.2 s.1 (ByteArray.mk #[116,111,119,110]) (b.Towns[k]).Name
   rw[hv]
   simp only[Option.bind_some,BL (show k<4611686018427387904 by omega)]
   exact⟨(v.2,v.1),rfl⟩) (λs=>h9 s)
 have h5:∀s:Bool×List (AS×Bool),Df (Cq N b (Dx N b) N 0 s.1 s.2):=st (σ:=Bool×List (AS×Bool)) b.Links.length (λn k s=>Cq N b (Dx N b) n k s.1 s.2) (λs=>Dx N b s.1 s.2) (by omega) (λn k s h=>by simp only[Cq];rw[E0 h];rfl)
  (λn k s h=>by
   simp only[Cq]
   rw[Eu h,cond_true,BH h]
   simp only[Option.bind_some]
   obtain⟨v,hv⟩:=Kq hN s.2 s.1 (ByteArray.mk #[108,105,110,107]) (b.Links[k]).Name
   rw[hv]
   simp only[Option.bind_some,BL (show k<4611686018427387904 by omega)]
   exact⟨(v.2,v.1),rfl⟩) (λs=>h7 s)
 have h3:∀s:Bool×List (AS×Bool),Df (Cr N b (Dy N b) N 0 s.1 s.2):=st (σ:=Bool×List (AS×Bool)) b.Places.length (λn k s=>Cr N b (Dy N b) n k s.1 s.2) (λs=>Dy N b s.1 s.2) (by omega) (λn k s h=>by simp only[Cr];rw[E0 h];rfl)
  (λn k s h=>by
   simp only[Cr]
   rw[Eu h,cond_true,BH h]
   simp only[Option.bind_some]
   obtain⟨v,hv⟩:=Kq hN s.2 s.1 (ByteArray.mk #[112,108,97,99,101]) (b.Places[k]).Name
   rw[hv]
   simp only[Option.bind_some,BL (show k<4611686018427387904 by omega)]
   exact⟨(v.2,v.1),rfl⟩) (λs=>h5 s)
 have h1:∀s:Bool×List (AS×Bool),Df (Cs N b (Dz N b) N 0 s.1 s.2):=st (σ:=Bool×List (AS×Bool)) b.Owners.length (λn k s=>Cs N b (Dz N b) n k s.1 s.2) (λs=>Dz N b s.1 s.2) (by omega) (λn k s h=>by simp only[Cs];rw[E0 h];rfl)
  (λn k s h=>by
   simp only[Cs]
   rw[Eu h,cond_true,BH h]
   simp only[Option.bind_some]
   obtain⟨v,hv⟩:=Kq hN s.2 s.1 (ByteArray.mk #[111,119,110,101,114]) (b.Owners[k])
   rw[hv]
   simp only[Option.bind_some,BL (show k<4611686018427387904 by omega)]
   exact⟨(v.2,v.1),rfl⟩) (λs=>h3 s)
 exact h1 (true,[])
end Go.Proofs.YtblcgjadhemlbaaGreat
