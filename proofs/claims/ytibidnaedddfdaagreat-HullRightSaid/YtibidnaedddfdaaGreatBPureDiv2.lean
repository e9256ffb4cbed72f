import Derived.Test.YtibidnaedddfdaaGreatBPureDiv
namespace Go.Proofs.YtibidnaedddfdaaGreat
open Go.RowKit
set_option linter.unusedVariables false
set_option linter.unusedSimpArgs false
theorem NP {Y u32 un q r:Nat}(hq:q*(Y/4294967296)+r=u32):q*(Y%4294967296)≤4294967296*r+un↔q*Y≤u32*4294967296+un:=by
 have e:q*Y=4294967296*(q*(Y/4294967296))+q*(Y%4294967296):=by
  conv=>lhs;rw[←Nat.div_add_mod Y 4294967296,Nat.mul_add,Nat.mul_left_comm]
 rw[e,←hq]
 generalize q*(Y/4294967296)=a
 generalize q*(Y%4294967296)=c
 omega
theorem Tl {Y u32 un q:Nat}(hu:u32<Y) (hn:un<4294967296) (hq:4294967296≤q):u32*4294967296+un<q*Y:=by
 have h1:4294967296*Y≤q*Y:=Nat.mul_le_mul_right _ hq
 omega
theorem Tm {Y u32 un q r:Nat}(hq:q*(Y/4294967296)+r=u32) (h1:1≤q) (hb:q≤4294967297) (hr:4294967296≤r+Y/4294967296):(q-1)*Y≤u32*4294967296+un:=by
 have e:(q-1)*(Y/4294967296)+(r+Y/4294967296)=u32:=by
  obtain⟨p,rfl⟩:∃p,q=p+1:=⟨q-1,by omega⟩
  rw[Nat.add_mul] at hq
  simp only[Nat.add_sub_cancel]
  omega
 refine(NP e).1 ?_
 have h2:(q-1)*(Y%4294967296)≤4294967296*(Y%4294967296):=Nat.mul_le_mul_right _ (by omega)
 have h3:Y%4294967296<4294967296:=Nat.mod_lt _ (by omega)
 omega
theorem VS {Y U q:Nat}(hY:0<Y) (h1:q*Y≤U) (h2:U<(q+1)*Y):U/Y=q:=Nat.div_eq_of_lt_le h1 h2
theorem Pn {Y u32:Nat}(h63:9223372036854775808≤Y) (hY:Y<18446744073709551616) (hu:u32<Y) (un:Nat) (hn:un<4294967296):u32/(Y/4294967296)≤4294967297∧u32/(Y/4294967296)*(Y/4294967296)+u32%(Y/4294967296)=u32∧u32*4294967296+un<(u32/(Y/4294967296)+1)*Y∧u32%(Y/4294967296)<4294967296:=by
 have hy1:2147483648≤Y/4294967296:=by omega
 have hy2:Y/4294967296<4294967296:=by omega
 have hpos:0<Y/4294967296:=by omega
 have hm:u32%(Y/4294967296)<Y/4294967296:=Nat.mod_lt _ hpos
 have hdm:u32/(Y/4294967296)*(Y/4294967296)+u32%(Y/4294967296)=u32:=by rw[Nat.mul_comm];exact Nat.div_add_mod _ _
 refine⟨?_,hdm,?_,by omega⟩
 ·refine Nat.le_of_lt_succ ((Nat.div_lt_iff_lt_mul hpos).2 ?_)
  omega
 ·have h1:(u32/(Y/4294967296)+1)*(4294967296*(Y/4294967296))≤(u32/(Y/4294967296)+1)*Y:=Nat.mul_le_mul_left _ (by omega)
  rw[Nat.mul_left_comm,Nat.add_mul,Nat.one_mul] at h1
  omega
theorem OJ (N:Nat) (lo y:Int) (j14 j17:Nat) (Y u10 u32:Nat) (hY:CF .u64 y j14=(Y:Int)) (hL:CF .u64 lo j17=(u10:Int)) (h63:9223372036854775808≤Y) (hY64:Y<18446744073709551616) (hu10:u10<18446744073709551616) (hu:u32<Y) (kj:Int→Option (Int×Int)):
  ∀(n q r:Nat),q<n→q≤4294967297→r<4294967296→q*(Y/4294967296)+r=u32→u32*4294967296+u10/4294967296<(q+1)*Y→
  Bu N lo y j14 j17 kj n (q:Int) (r:Int)=kj (((u32*4294967296+u10/4294967296)/Y:Nat):Int)
 |0,q,r,h,_,_,_,_=>by omega
 |n+1,q,r,h1,h2,h3,h4,h5=>by
  have hy2:Y/4294967296<4294967296:=by omega
  have hy0:Y%4294967296<4294967296:=Nat.mod_lt _ (by omega)
  have hun:u10/4294967296<4294967296:=by omega
  simp only[Bu]
  rw[hY,hL,KI,KI,NO Y hY64,Le,show(4294967296:Int)=((4294967296:Nat):Int) from rfl,Le,Co _ (show 4294967296*r<18446744073709551616 by omega),OM,Co _ (show 4294967296*r+u10/4294967296<18446744073709551616 by omega),OM,Co (r+Y/4294967296) (by omega)]
  cases hc:(decide (((4294967296:Nat):Int)≤(q:Int))||decide (((4294967296*r+u10/4294967296:Nat):Int)<IntKind.u64.wrap ((q*(Y%4294967296):Nat):Int)))
  ·simp only[Bool.or_eq_false_iff,decide_eq_false_iff_not] at hc
   obtain⟨c1,c2⟩:=hc
   have hql:q<4294967296:=by omega
   have hm:q*(Y%4294967296)<18446744073709551616:=Nat.lt_of_le_of_lt (Nat.mul_le_mul (Nat.le_of_lt_succ hql) (Nat.le_of_lt_succ hy0)) (by decide)
   rw[Co _ hm] at c2
   rw[cond_false,VS (by omega) ((NP h4).1 (by omega)) h5]
  ·rw[cond_true]
   have hlt:u32*4294967296+u10/4294967296<q*Y:=by
    rcases Nat.lt_or_ge q 4294967296 with hql|hql
    ·have hm:q*(Y%4294967296)<18446744073709551616:=Nat.lt_of_le_of_lt (Nat.mul_le_mul (Nat.le_of_lt_succ hql) (Nat.le_of_lt_succ hy0)) (by decide)
     rw[Co _ hm] at hc
     simp only[Bool.or_eq_true,decide_eq_true_eq] at hc
     refine Nat.lt_of_not_le λhle=>?_
     have:=(NP h4).2 hle
     omega
    ·exact Tl hu hun hql
   have hq1:1≤q:=by
    rcases Nat.eq_zero_or_pos q with e|e
    ·rw[e,Nat.zero_mul] at hlt;omega
    ·exact e
   have hqe:IntKind.u64.wrap ((q:Int)-1)=((q-1:Nat):Int):=by rw[show (q:Int)-1=((q-1:Nat):Int) by omega];exact Co _ (by omega)
   rw[hqe]
   have e9:q-1+1=q:=by omega
   cases hc2:decide (((4294967296:Nat):Int)≤((r+Y/4294967296:Nat):Int))
   ·rw[cond_false]
    have h9:(q-1)*(Y/4294967296)+(r+Y/4294967296)=u32:=by
     have:q*(Y/4294967296)=(q-1)*(Y/4294967296)+Y/4294967296:=by
      conv=>lhs;rw[←e9,Nat.add_mul,Nat.one_mul]
     omega
    simp only[decide_eq_false_iff_not] at hc2
    exact OJ N lo y j14 j17 Y u10 u32 hY hL h63 hY64 hu10 hu kj n (q-1) (r+Y/4294967296) (by omega) (by omega) (by omega) h9 (by rw[e9];exact hlt)
   ·rw[cond_true]
    simp only[decide_eq_true_eq] at hc2
    rw[VS (by omega) (Tm h4 hq1 h2 (by omega)) (by rw[e9];exact hlt)]
theorem OI (N:Nat) (lo y:Int) (j14 j17:Nat) (Y u10 u32:Nat) (hY:CF .u64 y j14=(Y:Int)) (hL:CF .u64 lo j17=(u10:Int)) (h63:9223372036854775808≤Y) (hY64:Y<18446744073709551616) (hu10:u10<18446744073709551616) (hu:u32<Y) (kj:Int→Option (Int×Int)):
  ∀(n q r:Nat),q<n→q≤4294967297→r<4294967296→q*(Y/4294967296)+r=u32→u32*4294967296+u10%4294967296<(q+1)*Y→
  CI N lo y j14 j17 kj n (r:Int) (q:Int)=kj (((u32*4294967296+u10%4294967296)/Y:Nat):Int)
 |0,q,r,h,_,_,_,_=>by omega
 |n+1,q,r,h1,h2,h3,h4,h5=>by
  have hy2:Y/4294967296<4294967296:=by omega
  have hy0:Y%4294967296<4294967296:=Nat.mod_lt _ (by omega)
  have hun:u10%4294967296<4294967296:=Nat.mod_lt _ (by omega)
  simp only[CI]
  rw[hY,hL,KI,NO u10 hu10,NO Y hY64,Le,show(4294967296:Int)=((4294967296:Nat):Int) from rfl,Le,Co _ (show 4294967296*r<18446744073709551616 by omega),OM,Co _ (show 4294967296*r+u10%4294967296<18446744073709551616 by omega),OM,Co (r+Y/4294967296) (by omega)]
  cases hc:(decide (((4294967296:Nat):Int)≤(q:Int))||decide (((4294967296*r+u10%4294967296:Nat):Int)<IntKind.u64.wrap ((q*(Y%4294967296):Nat):Int)))
  ·simp only[Bool.or_eq_false_iff,decide_eq_false_iff_not] at hc
   obtain⟨c1,c2⟩:=hc
   have hql:q<4294967296:=by omega
   have hm:q*(Y%4294967296)<18446744073709551616:=Nat.lt_of_le_of_lt (Nat.mul_le_mul (Nat.le_of_lt_succ hql) (Nat.le_of_lt_succ hy0)) (by decide)
   rw[Co _ hm] at c2
   rw[cond_false,VS (by omega) ((NP h4).1 (by omega)) h5]
  ·rw[cond_true]
   have hlt:u32*4294967296+u10%4294967296<q*Y:=by
    rcases Nat.lt_or_ge q 4294967296 with hql|hql
    ·have hm:q*(Y%4294967296)<18446744073709551616:=Nat.lt_of_le_of_lt (Nat.mul_le_mul (Nat.le_of_lt_succ hql) (Nat.le_of_lt_succ hy0)) (by decide)
     rw[Co _ hm] at hc
     simp only[Bool.or_eq_true,decide_eq_true_eq] at hc
     refine Nat.lt_of_not_le λhle=>?_
     have:=(NP h4).2 hle
     omega
    ·exact Tl hu hun hql
   have hq1:1≤q:=by
    rcases Nat.eq_zero_or_pos q with e|e
    ·rw[e,Nat.zero_mul] at hlt;omega
    ·exact e
   have hqe:IntKind.u64.wrap ((q:Int)-1)=((q-1:Nat):Int):=by rw[show (q:Int)-1=((q-1:Nat):Int) by omega];exact Co _ (by omega)
   rw[hqe]
   have e9:q-1+1=q:=by omega
   cases hc2:decide (((4294967296:Nat):Int)≤((r+Y/4294967296:Nat):Int))
   ·rw[cond_false]
    have h9:(q-1)*(Y/4294967296)+(r+Y/4294967296)=u32:=by
     have:q*(Y/4294967296)=(q-1)*(Y/4294967296)+Y/4294967296:=by
      conv=>lhs;rw[←e9,Nat.add_mul,Nat.one_mul]
     omega
    simp only[decide_eq_false_iff_not] at hc2
    exact OI N lo y j14 j17 Y u10 u32 hY hL h63 hY64 hu10 hu kj n (q-1) (r+Y/4294967296) (by omega) (by omega) (by omega) h9 (by rw[e9];exact hlt)
   ·rw[cond_true]
    simp only[decide_eq_true_eq] at hc2
    rw[VS (by omega) (Tm h4 hq1 h2 (by omega)) (by rw[e9];exact hlt)]
theorem Wl (a b:Nat) (h:b≠0) (ha:a<18446744073709551616):Mq .u64 (a:Int) (b:Int)=some ((a/b:Nat):Int):=by
 unfold Mq
 rw[if_neg (by omega)]
 have e:(a:Int).tdiv (b:Int)=((a/b:Nat):Int):=rfl
 have:a/b≤a:=Nat.div_le_self _ _
 rw[e,Co _ (by omega)]
theorem ZS (a b:Nat) (h:b≠0):Od (a:Int) (b:Int)=some ((a%b:Nat):Int):=by
 unfold Od
 rw[if_neg (by omega)]
 rfl
theorem Wf (a s:Nat) (hs:s≤64):CF .u64 (a:Int) s=((a*2^s%18446744073709551616:Nat):Int):=by
 unfold CF
 have hm:min s IntKind.u64.bits=s:=by simp [IntKind.bits];omega
 have hp:((a:Int)*2^s)=((a*2^s:Nat):Int):=by simp
 rw[hm,hp]
 exact Vw _
theorem orN (a b:Nat) (ha:a<18446744073709551616) (hb:b<18446744073709551616):E4 .or .u64 (a:Int) (b:Int)=((a|||b:Nat):Int):=by
 have h1:(BitVec.ofInt 64 (a:Int)).toNat=a:=by rw[BitVec.ofInt_natCast,BitVec.toNat_ofNat];exact Nat.mod_eq_of_lt (by omega)
 have h2:(BitVec.ofInt 64 (b:Int)).toNat=b:=by rw[BitVec.ofInt_natCast,BitVec.toNat_ofNat];exact Nat.mod_eq_of_lt (by omega)
 have h3:a|||b<2^64:=Nat.or_lt_two_pow (by omega) (by omega)
 show IntKind.u64.wrap (((BitVec.ofInt 64 (a:Int))|||(BitVec.ofInt 64 (b:Int))).toNat:Int)=_
 rw[BitVec.toNat_or,h1,h2,Co _ (by omega)]
theorem P5 (a b:Nat):a=a/b*b+a%b:=by rw[Nat.mul_comm];exact(Nat.div_add_mod a b).symm
theorem TB {Y A B u:Nat}(hY:0<Y):(A*B+u)/Y=A/Y*B+(A%Y*B+u)/Y∧(A*B+u)%Y=(A%Y*B+u)%Y:=by
 have h1:=Nat.div_add_mod A Y
 have e:A*B+u=Y*(A/Y*B)+(A%Y*B+u):=by
  conv=>lhs;rw[←h1,Nat.add_mul,Nat.mul_assoc,Nat.add_assoc]
 rw[e]
 exact⟨by rw[Nat.mul_add_div hY],by rw[Nat.mul_add_mod]⟩
theorem JJ {a b q Y R:Nat}(h:a=q*Y+R) (hR:R<18446744073709551616) (hb:b=a%18446744073709551616):IntKind.u64.wrap ((b:Int)-IntKind.u64.wrap ((q*Y:Nat):Int))=(R:Int):=by
 rw[I5,I5]
 generalize q*Y=t at h
 omega
theorem ST {N:Nat}(hN:18446744073709551616<N) (hi lo y:Int) (s:Nat) (hs:s≤63) (j15 j16:Nat) (Y u10 u32 Q1 R1:Nat) (hY:CF .u64 y s=(Y:Int)) (hL:CF .u64 lo s=(u10:Int)) (hU:E4 .or .u64 (CF .u64 hi j15) (Cg .u64 lo j16)=(u32:Int))
  (h63:9223372036854775808≤Y) (hY64:Y<18446744073709551616) (hu10:u10<18446744073709551616) (hu:u32<Y) (hQ:(u32*4294967296+u10/4294967296)=Q1*Y+R1) (hR:R1<Y) (hQ1:Q1<4294967296):
  CJ N hi lo y (s:Int) s j15 j16 s (Q1:Int)=some (((Q1*4294967296+(R1*4294967296+u10%4294967296)/Y:Nat):Int),(((R1*4294967296+u10%4294967296)%Y/2^s:Nat):Int)):=by
 have hy0:0<Y/4294967296:=by omega
 have hyb:Y/4294967296<4294967296:=by omega
 have hun:u10%4294967296<4294967296:=Nat.mod_lt _ (by omega)
 have e1:IntKind.u64.wrap (IntKind.u64.wrap (IntKind.u64.wrap ((u32:Int)*4294967296)+Cg .u64 (CF .u64 lo s) 32)-IntKind.u64.wrap ((Q1:Int)*(Y:Int)))=(R1:Int):=by
  rw[hL,KI,Le]
  refine(congrArg (λz=>IntKind.u64.wrap (z-_)) ?_).trans (JJ (b:=(u32*4294967296+u10/4294967296)%18446744073709551616) hQ (by omega) rfl)
  rw[I5,I5]
  omega
 obtain⟨k1,k2,k3,k4⟩:=Pn h63 hY64 hR (u10%4294967296) hun
 unfold CJ
 rw[hU,hY,e1,KI,Wl _ _ (by omega) (by omega)]
 simp only[Option.bind_some]
 have e2:IntKind.u64.wrap ((R1:Int)-IntKind.u64.wrap (((R1/(Y/4294967296):Nat):Int)*((Y/4294967296:Nat):Int)))=((R1%(Y/4294967296):Nat):Int):=by
  rw[Le]
  exact JJ (a:=R1) k2.symm (by omega) (by omega)
 rw[e2,OI N lo y s s Y u10 R1 hY hL h63 hY64 hu10 hR _ N _ _ (by omega) k1 k4 k2 k3]
 unfold DF
 have hc:LP (IntKind.u64.wrap (s:Int))=some s:=by
  rw[Co s (by omega)]
  unfold LP
  rw[if_neg (by omega)]
  simp
 rw[hU,hY,hc,e1,hL,NO u10 hu10]
 simp only[Option.bind_some]
 have hd:=Nat.div_add_mod (R1*4294967296+u10%4294967296) Y
 have hq2:(R1*4294967296+u10%4294967296)/Y<4294967296:=(Nat.div_lt_iff_lt_mul (by omega)).2 (by omega)
 have hr2:(R1*4294967296+u10%4294967296)%Y<Y:=Nat.mod_lt _ (by omega)
 have e3:IntKind.u64.wrap (IntKind.u64.wrap (IntKind.u64.wrap ((R1:Int)*4294967296)+((u10%4294967296:Nat):Int))-IntKind.u64.wrap (((((R1*4294967296+u10%4294967296)/Y:Nat)):Int)*(Y:Int)))=(((R1*4294967296+u10%4294967296)%Y:Nat):Int):=by
  rw[Le]
  refine(congrArg (λz=>IntKind.u64.wrap (z-_)) ?_).trans (JJ (a:=R1*4294967296+u10%4294967296) (b:=(R1*4294967296+u10%4294967296)%18446744073709551616) (P5 _ _) (by omega) rfl)
  rw[I5,I5]
  omega
 have e4:IntKind.u64.wrap (IntKind.u64.wrap ((Q1:Int)*4294967296)+((((R1*4294967296+u10%4294967296)/Y:Nat)):Int))=((Q1*4294967296+(R1*4294967296+u10%4294967296)/Y:Nat):Int):=by
  rw[I5,I5]
  generalize (R1*4294967296+u10%4294967296)/Y=t at hq2
  omega
 rw[e3,e4,QW _ s (by omega)]
theorem VX (a u:Nat):(a*4294967296+u/4294967296)*4294967296+u%4294967296=a*18446744073709551616+u:=by omega
theorem UR {N:Nat}(hN:18446744073709551616<N) (hi lo y:Int) (s:Nat) (hs:s≤63) (j15 j16:Nat) (Y u10 u32:Nat) (hY:CF .u64 y s=(Y:Int)) (hL:CF .u64 lo s=(u10:Int)) (hU:E4 .or .u64 (CF .u64 hi j15) (Cg .u64 lo j16)=(u32:Int))
  (h63:9223372036854775808≤Y) (hY64:Y<18446744073709551616) (hu10:u10<18446744073709551616) (hu:u32<Y):
  (Option.bind (Mq .u64 (E4 .or .u64 (CF .u64 hi j15) (Cg .u64 lo j16)) (Cg .u64 (CF .u64 y s) 32)) λz18=>
   Bu N lo y s s (CJ N hi lo y (s:Int) s j15 j16 s) N z18 (IntKind.wrap .u64 ((E4 .or .u64 (CF .u64 hi j15) (Cg .u64 lo j16))-(IntKind.wrap .u64 (z18*(Cg .u64 (CF .u64 y s) 32))))))=
  some ((((u32*18446744073709551616+u10)/Y:Nat):Int),(((u32*18446744073709551616+u10)%Y/2^s:Nat):Int)):=by
 have hYpos:0<Y:=by omega
 have hun:u10/4294967296<4294967296:=by omega
 obtain⟨k1,k2,k3,k4⟩:=Pn h63 hY64 hu (u10/4294967296) hun
 obtain⟨t1,t2⟩:=TB (Y:=Y) (A:=u32*4294967296+u10/4294967296) (B:=4294967296) (u:=u10%4294967296) hYpos
 rw[VX] at t1 t2
 rw[t1,t2,hU,hY,KI,Wl _ _ (by omega) (by omega)]
 simp only[Option.bind_some]
 have e5:IntKind.u64.wrap ((u32:Int)-IntKind.u64.wrap (((u32/(Y/4294967296):Nat):Int)*((Y/4294967296:Nat):Int)))=((u32%(Y/4294967296):Nat):Int):=by
  rw[Le]
  exact JJ (a:=u32) k2.symm (by omega) (by omega)
 have hq1:(u32*4294967296+u10/4294967296)/Y<4294967296:=(Nat.div_lt_iff_lt_mul hYpos).2 (by omega)
 rw[e5,OJ N _ _ s s Y u10 u32 hY hL h63 hY64 hu10 hu _ N _ _ (by omega) k1 k4 k2 k3]
 exact ST hN _ _ _ s hs j15 j16 Y u10 u32 _ _ hY hL hU h63 hY64 hu10 hu (P5 _ _) (Nat.mod_lt _ hYpos) hq1
theorem TQ {h l s M:Nat}(hM:M=2^64) (hs:s≤63):(h*2^s+l/2^(64-s))*M+l*2^s%M=(h*M+l)*2^s:=by
 have e:(2:Nat)^64=2^(64-s)*2^s:=by rw[←Nat.pow_add];congr 1;omega
 have h1:l*2^s/M=l/2^(64-s):=by
  rw[hM,e,Nat.mul_div_mul_right _ _ (Nat.two_pow_pos s)]
 have h2:=Nat.div_add_mod (l*2^s) M
 rw[h1] at h2
 rw[Nat.add_mul,Nat.add_mul,Nat.mul_right_comm h,Nat.add_assoc,Nat.mul_comm (l/2^(64-s)) M]
 exact congrArg _ h2
theorem P6 {N:Nat}(hN:18446744073709551616<N) (h l y:Nat) (hl:l<18446744073709551616) (hy:y<18446744073709551616) (hh:h<y):
  Dc N (h:Int) (l:Int) (y:Int)=some ((((h*18446744073709551616+l)/y:Nat):Int),(((h*18446744073709551616+l)%y:Nat):Int)):=by
 unfold Dc
 rw[show decide ((y:Int)=0)=false by simp;omega,show decide ((y:Int)≤(h:Int))=false by simp;omega,cond_false,cond_false]
 rcases Nat.eq_zero_or_pos h with e|hp
 ·subst e
  rw[show decide (((0:Nat):Int)=0)=true by simp,cond_true,Wl _ _ (by omega) hl,ZS _ _ (by omega),Nat.zero_mul,Nat.zero_add]
  rfl
 ·rw[show decide ((h:Int)=0)=false by simp;omega,cond_false]
  obtain⟨s,e1,e2,e3,e4⟩:=V5 N (show 0<y by omega) hy
  have c1:∀t:Nat,t≤64→LP (IntKind.u64.wrap (t:Int))=some t:=λt ht=>by
   rw[Co t (by omega)]
   unfold LP
   rw[if_neg (by omega)]
   simp
  have e64:(64:Int)-IntKind.u64.wrap (s:Int)=((64-s:Nat):Int):=by rw[Co s (by omega)];omega
  rw[e1,Option.bind_some,e64,c1 s (by omega),c1 (64-s) (by omega),Option.bind_some,Option.bind_some,Option.bind_some,Option.bind_some]
  have hhs:h*2^s<18446744073709551616:=Nat.lt_of_le_of_lt (Nat.mul_le_mul_right _ (Nat.le_of_lt hh)) e4
  have hlo:l/2^(64-s)<2^s:=by
   refine(Nat.div_lt_iff_lt_mul (Nat.two_pow_pos _)).2 ?_
   rw[←Nat.pow_add,show s+(64-s)=64 by omega]
   exact hl
  have hl2:l/2^(64-s)<18446744073709551616:=Nat.lt_of_le_of_lt (Nat.div_le_self _ _) hl
  have hor:h*2^s|||l/2^(64-s)=h*2^s+l/2^(64-s):=by
   rw[Nat.mul_comm h]
   exact(Nat.two_pow_add_eq_or_of_lt hlo h).symm
  have hY:CF .u64 (y:Int) s=((y*2^s:Nat):Int):=by rw[Wf _ _ (by omega),Nat.mod_eq_of_lt e4]
  have hL:CF .u64 (l:Int) s=((l*2^s%18446744073709551616:Nat):Int):=Wf _ _ (by omega)
  have hU:E4 .or .u64 (CF .u64 (h:Int) s) (Cg .u64 (l:Int) (64-s))=((h*2^s+l/2^(64-s):Nat):Int):=by
   rw[Wf _ _ (by omega),QW _ _ (by omega),Nat.mod_eq_of_lt hhs,orN _ _ hhs hl2,hor]
  have hu:h*2^s+l/2^(64-s)<y*2^s:=by
   have:(h+1)*2^s≤y*2^s:=Nat.mul_le_mul_right _ hh
   rw[Nat.add_mul,Nat.one_mul] at this
   exact Nat.lt_of_lt_of_le (Nat.add_lt_add_left hlo _) this
  have hd:=UR hN (h:Int) (l:Int) (y:Int) s e2 s (64-s) _ _ _ hY hL hU e3 e4 (Nat.mod_lt _ (by omega)) hu
  rw[TQ (M:=18446744073709551616) rfl e2,Nat.mul_div_mul_right _ _ (Nat.two_pow_pos s),Nat.mul_mod_mul_right,Nat.mul_div_cancel _ (Nat.two_pow_pos s)] at hd
  exact hd
def VG (a n d:Int):Int×Int×Bool:=if (0≤a∧a≤1125899906842624)∧(0≤n∧n≤1125899906842624)∧(1≤d∧d≤1125899906842624)∧a*n/d≤1125899906842624 then (a*n/d,a*n%d,true) else (0,0,false)
theorem Wg {t d:Nat}(hd:0<d) (h:d≤t/18446744073709551616):18446744073709551616≤t/d:=by
 refine(Nat.le_div_iff_mul_le hd).2 ?_
 omega
theorem LZ {N:Nat}(hN:18446744073709551616<N) (a n d:Int):Dz N a n d=some (VG a n d):=by
 unfold Dz VG
 cases hc:(((((decide (a<0)||decide (1125899906842624<a))||decide (n<0))||decide (1125899906842624<n))||decide (d<1))||decide (1125899906842624<d))
 ·simp only[Bool.or_eq_false_iff,decide_eq_false_iff_not] at hc
  obtain⟨⟨⟨⟨⟨c1,c2⟩,c3⟩,c4⟩,c5⟩,c6⟩:=hc
  obtain⟨an,rfl⟩:∃k:Nat,a=k:=⟨a.toNat,by omega⟩
  obtain⟨bn,rfl⟩:∃k:Nat,n=k:=⟨n.toNat,by omega⟩
  obtain⟨dn,rfl⟩:∃k:Nat,d=k:=⟨d.toNat,by omega⟩
  rw[cond_false,Co an (by omega),Co bn (by omega),Co dn (by omega),Lf N an bn (by omega) (by omega)]
  simp only[Option.bind_some]
  have e1:(an:Int)*(bn:Int)/(dn:Int)=((an*bn/dn:Nat):Int):=by rw[Int.natCast_ediv,Int.natCast_mul]
  have e2:(an:Int)*(bn:Int)%(dn:Int)=((an*bn%dn:Nat):Int):=by rw[Int.natCast_emod,Int.natCast_mul]
  rw[e1,e2]
  have hdm:an*bn/18446744073709551616*18446744073709551616+an*bn%18446744073709551616=an*bn:=(P5 _ _).symm
  have hdp:0<dn:=by omega
  by_cases h1:dn≤an*bn/18446744073709551616
  ·rw[show decide ((dn:Int)≤((an*bn/18446744073709551616:Nat):Int))=true from decide_eq_true (Int.ofNat_le.2 h1),cond_true,if_neg]
   intro h
   have h2:=h.2.2.2
   have h4:=Wg hdp h1
   generalize an*bn/dn=q at h2 h4
   omega
  ·have h1':¬(dn:Int)≤((an*bn/18446744073709551616:Nat):Int):=λh=>h1 (Int.ofNat_le.1 h)
   rw[decide_eq_false h1',cond_false,P6 hN _ _ _ (Nat.mod_lt _ (by omega)) (by omega) (Nat.lt_of_not_le h1),hdm]
   simp only[Option.bind_some]
   have h3:an*bn%dn<dn:=Nat.mod_lt _ hdp
   generalize an*bn/dn=q
   generalize an*bn%dn=r at h3
   by_cases h2:q≤1125899906842624
   ·have h2':¬(1125899906842624:Int)<(q:Int):=by omega
    rw[decide_eq_false h2',cond_false,if_pos ⟨by omega,by omega,by omega,by omega⟩,B9 (by omega) (by omega),B9 (by omega) (by omega)]
   ·have h2':(1125899906842624:Int)<(q:Int):=by omega
    rw[decide_eq_true h2',cond_true,if_neg (λh=>h2 (by have:=h.2.2.2;omega))]
 ·rw[cond_true,if_neg]
  intro h
  simp only[Bool.or_eq_true,decide_eq_true_eq] at hc
  omega
end Go.Proofs.YtibidnaedddfdaaGreat
