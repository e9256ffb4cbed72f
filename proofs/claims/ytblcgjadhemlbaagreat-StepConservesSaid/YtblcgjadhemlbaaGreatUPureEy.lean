import Derived.Test.YtblcgjadhemlbaaGreatUPureEx
import Derived.Test.YtblcgjadhemlbaaGreatUPureGt
namespace Go.Proofs.YtblcgjadhemlbaaGreat
open Go.RowKit
set_option linter.unusedVariables false
set_option linter.unusedSimpArgs false
theorem WU:∀{a b:List Int},a.Perm b→a.sum=b.sum:=λh=>by
 induction h with
 |nil=>rfl
 |cons x _ ih=>simp only[List.sum_cons,ih]
 |swap x y l=>simp only[List.sum_cons];omega
 |trans _ _ h1 h2=>exact h1.trans h2
theorem Jb:∀{l:List Int}{c:Int},(∀x∈l,x≤c)→l.sum≤l.length*c
 |[],c,_=>by simp
 |a::l,c,h=>by
  have h1:=h a (List.mem_cons_self ..)
  have h2:=Jb (l:=l) (c:=c) λx hx=>h x (List.mem_cons_of_mem _ hx)
  rw[List.sum_cons,List.length_cons,Int.natCast_succ,Int.add_mul,Int.one_mul]
  omega
theorem Ub {lt:Int→Int→Bool}(R:Int→Int) (hlt:∀x y,lt x y=true→R y≤R x) (hnl:∀x y,lt x y=false→R x≤R y) (x:Int):∀l:List Int,l.Pairwise (λa b=>R b≤R a)→(QL lt x l).Pairwise λa b=>R b≤R a
 |[],_=>by simp [QL]
 |y::l,h=>by
  have hy:∀z,z∈l→R z≤R y:=λz hz=>List.rel_of_pairwise_cons h hz
  unfold QL
  cases hc:lt y x with
  |true=>
   refine List.Pairwise.cons (λz hz=>?_) (Ub R hlt hnl x l h.of_cons)
   rcases List.mem_cons.1 ((Mn lt x l).mem_iff.1 hz) with rfl|hz
   ·exact hlt _ _ hc
   ·exact hy z hz
  |false=>
   refine List.Pairwise.cons (λz hz=>?_) h
   rcases List.mem_cons.1 hz with rfl|hz
   ·exact hnl _ _ hc
   ·exact Int.le_trans (hy z hz) (hnl _ _ hc)
theorem Sn {lt:Int→Int→Bool}(R:Int→Int) (hlt:∀x y,lt x y=true→R y≤R x) (hnl:∀x y,lt x y=false→R x≤R y):∀l:List Int,(LP lt l).Pairwise λa b=>R b≤R a
 |[]=> .nil
 |x::l=>Ub R hlt hnl x _ (Sn R hlt hnl l)
theorem WJ (lr:List Int) (x y:Int):(OV lr x y=true→lr.getD y.toNat 0≤lr.getD x.toNat 0)∧(OV lr x y=false→lr.getD x.toNat 0≤lr.getD y.toNat 0):=by
 show(cond (!decide (lr.getD x.toNat 0=lr.getD y.toNat 0)) (decide (lr.getD y.toNat 0<lr.getD x.toNat 0)) (decide (x.toNat<y.toNat))=true→_)∧(cond (!decide (lr.getD x.toNat 0=lr.getD y.toNat 0)) (decide (lr.getD y.toNat 0<lr.getD x.toNat 0)) (decide (x.toNat<y.toNat))=false→_)
 generalize lr.getD x.toNat 0=a
 generalize lr.getD y.toNat 0=b
 by_cases h:a=b
 ·subst h;exact⟨λ_=>Int.le_refl _,λ_=>Int.le_refl _⟩
 ·rw[decide_eq_false h,Bool.not_false,cond_true]
  exact⟨λh=>by have:=of_decide_eq_true h;omega,λh=>by have:=of_decide_eq_false h;omega⟩
theorem V2 {n:Nat}{S:Int}(hS:0<S) {lo lr:List Int}(hlo:lo.length=n) (hor:∀i,i<n→lo[i]? =some (i:Int)) (hlr:lr.length=n) (hr:∀x∈lr,0≤x∧x≤S-1) {ex:Nat}(hex:lr.sum=ex*S):∀x∈(LP (OV lr) lo).take ex,0<lr.getD x.toNat 0:=by
 intro x hx
 have hp:=Ki (OV lr) lo
 have hpw:=Sn (lt:=OV lr) (λx=>lr.getD x.toNat 0) (λx y h=>(WJ lr x y).1 h) (λx y h=>(WJ lr x y).2 h) lo
 have hmap:lo.map (λx=>lr.getD x.toNat 0)=lr:=List.ext_getElem? λi=>by
  rcases Nat.lt_or_ge i n with h|h
  ·rw[List.getElem?_map,hor i h]
   have:i<lr.length:=by omega
   simp [List.getD_eq_getElem?_getD,this]
  ·rw[List.getElem?_eq_none (by simp;omega),List.getElem?_eq_none (by omega)]
 have hsum:((LP (OV lr) lo).map λx=>lr.getD x.toNat 0).sum=ex*S:=by
  rw[WU (hp.map _),hmap,hex]
 have hb:∀y:Int,0≤lr.getD y.toNat 0∧lr.getD y.toNat 0≤S-1:=λy=>by
  rw[List.getD_eq_getElem?_getD]
  cases h:lr[y.toNat]? with
  |none=>exact⟨Int.le_refl _,by show(0:Int)≤S-1;omega⟩
  |some z=>exact hr z (List.mem_of_getElem? h)
 generalize LP (OV lr) lo=l at*
 obtain⟨j,hj⟩:=List.mem_iff_getElem?.1 hx
 rw[List.getElem?_take] at hj
 split at hj
 ·rename_i hje
  apply Classical.byContradiction
  intro hn
  have hz:lr.getD x.toNat 0=0:=by have:=(hb x).1;omega
  have hdrop:∀y∈l.drop j,lr.getD y.toNat 0=0:=λy hy=>by
   obtain⟨k,hk⟩:=List.mem_iff_getElem?.1 hy
   rw[List.getElem?_drop] at hk
   have h1:=(List.getElem?_eq_some_iff.1 hj).1
   have h2:=(List.getElem?_eq_some_iff.1 hk).1
   have e1:=(List.getElem?_eq_some_iff.1 hj).2
   have e2:=(List.getElem?_eq_some_iff.1 hk).2
   rcases Nat.eq_zero_or_pos k with h0|h0
   ·subst h0
    have:y=x:=by rw[←e1,←e2];rfl
    rw[this];exact hz
   ·have:=List.pairwise_iff_getElem.1 hpw j (j+k) h1 h2 (by omega)
    rw[e1,e2,hz] at this
    have:=(hb y).1
    omega
  have hs2:((l.drop j).map λx=>lr.getD x.toNat 0).sum≤0:=by
   have:=Jb (l:=(l.drop j).map λx=>lr.getD x.toNat 0) (c:=0) λz hz=>by
    obtain⟨y,hy,rfl⟩:=List.mem_map.1 hz
    exact Int.le_of_eq (hdrop y hy)
   omega
  have hs1:((l.take j).map λx=>lr.getD x.toNat 0).sum≤(j:Int)*(S-1):=by
   have:=Jb (l:=(l.take j).map λx=>lr.getD x.toNat 0) (c:=S-1) λz hz=>by
    obtain⟨y,hy,rfl⟩:=List.mem_map.1 hz
    exact(hb y).2
   have hl:((l.take j).map λx=>lr.getD x.toNat 0).length≤j:=by simp;omega
   have:(((l.take j).map λx=>lr.getD x.toNat 0).length:Int)*(S-1)≤(j:Int)*(S-1):=Int.mul_le_mul_of_nonneg_right (by omega) (by omega)
   omega
  have hcat:(l.map λx=>lr.getD x.toNat 0).sum=((l.take j).map λx=>lr.getD x.toNat 0).sum+((l.drop j).map λx=>lr.getD x.toNat 0).sum:=by
   rw[←List.sum_append,←List.map_append,List.take_append_drop]
  have hjS:((j:Int)+1)*S≤ex*S:=Int.mul_le_mul_of_nonneg_right (by omega) (by omega)
  rw[Int.add_mul,Int.one_mul] at hjS
  rw[Int.mul_sub,Int.mul_one] at hs1
  omega
 ·cases hj
theorem VE {N:Nat}(hN:1000000<N) (l:List Int) (hl:l.length≤1000) (hnd:l.Nodup) {n:Nat}(hx:∀x∈l,0≤x∧x<n) (ps:List Int) (hp:ps.length=n) (hb:∀x∈ps, -4611686018427387904≤x∧x≤4611686018427387000):
  ∃r,EF N l (Fm N) N 0 ps=some (r,true)∧r.length=n∧r.sum=ps.sum+l.length∧∀(i:Nat) x,ps[i]? =some x→r[i]? =some (x+if (i:Int)∈l then 1 else 0):=by
 obtain⟨s,⟨i1,i2,i3⟩,e⟩:=Da l.length (λm i s=>EF N l (Fm N) m i s) (Fm N) (λk s=>s.length=n∧s.sum=ps.sum+k∧∀(i:Nat) x,ps[i]? =some x→s[i]? =some (x+if (i:Int)∈l.take k then 1 else 0)) (λm k s hk=>by
  simp only[EF];rw[Ey hk];rfl) (λm k s hi hk=>by
  obtain⟨i1,i2,i3⟩:=hi
  simp only[EF]
  obtain⟨h1,h2⟩:=hx _ (List.getElem_mem hk)
  obtain⟨j,hj,hjl⟩:=ZR (l:=s) h1 (by omega)
  have hjp:j<ps.length:=by omega
  have hnot:(j:Int)∉l.take k:=λhm=>by
   obtain⟨q,hq⟩:=List.mem_iff_getElem?.1 hm
   rw[List.getElem?_take] at hq
   split at hq
   ·rename_i hqk
    have h3:=(List.getElem?_eq_some_iff.1 hq).2
    exact List.pairwise_iff_getElem.1 hnd q k (by omega) hk hqk (by rw[h3,hj])
   ·cases hq
  have hsj:s[j]=ps[j]:=by
   have:=i3 j _ (List.getElem?_eq_getElem hjp)
   rw[if_neg hnot,List.getElem?_eq_getElem hjl] at this
   have:=Option.some.inj this
   omega
  have hbj:=hb _ (List.getElem_mem hjp)
  rw[Ea hk,cond_true,BA hk,Option.bind_some,hj,BA hjl,Option.bind_some,Option.bind_some,Option.bind_some,Option.bind_some,hsj,DB (n:=ps[j]+1) (by omega) (by omega),BE (by omega)]
  refine⟨_,⟨by rw[Kt];exact i1,?_,λi x hx=>?_⟩,rfl⟩
  ·show(s.set (j:Int).toNat _).sum=_
   rw[Int.toNat_natCast,La hjl,i2,hsj]
   omega
  ·have htk:l.take (k+1)=l.take k++[(j:Int)]:=by rw[List.take_succ_eq_append_getElem hk,hj]
   by_cases hne:j=i
   ·subst hne
    rw[FQ hjl,htk,if_pos (by simp)]
    rw[List.getElem?_eq_getElem hjp] at hx
    cases hx
    rfl
   ·rw[Gy hne,i3 i x hx,htk]
    have:(i:Int)≠(j:Int):=λh=>hne (by omega)
    simp [this]) N 0 ps ⟨hp,by simp,λi x hx=>by simp [hx]⟩ (by omega) (Nat.zero_le _)
 rw[List.take_length] at i3
 exact⟨s,e,i1,i2,i3⟩
structure ShX (t S:Int) (w:List Int) (k:Nat) (s:Int×List Int×List Int×List Int):Prop where
 l1:s.2.1.length=w.length
 l2:s.2.2.1.length=w.length
 l3:s.2.2.2.length=w.length
 or_:∀i,i<k→s.2.1[i]? =some (i:Int)
 rm:∀i x,i<k→w[i]? =some x→s.2.2.1[i]? =some (t*x%S)
 qt:∀i x,i<k→w[i]? =some x→s.2.2.2[i]? =some (t*x/S)
 ex:s.1=t-((w.take k).map λx=>t*x/S).sum
theorem UM {t S:Int}(hS:0<S):∀w:List Int,S*(w.map λx=>t*x/S).sum+(w.map λx=>t*x%S).sum=t*w.sum
 |[]=>by simp
 |a::w=>by
  have h1:=UM (t:=t) hS w
  have h2:=Int.mul_ediv_add_emod (t*a) S
  simp only[List.map_cons,List.sum_cons]
  rw[Int.mul_add,Int.mul_add]
  omega
theorem WH {N W:Nat}(hN:18446744073709551616<N) (hW:W≤64) {w:List Int}(hw:PX W w) {t:Int}(ht:0≤t∧t≤w.sum):∃ps,It N t w=some (ps,true)∧TO ps w∧ps.sum=t:=by
 have hwl:=hw.len
 have hmv:=hw.mv
 unfold It
 rw[decide_eq_false (show ¬64<(w.length:Int) by omega),cond_false]
 obtain⟨s,⟨i1,i2⟩,e⟩:=Da w.length (λn i s=>EH N w (EJ N t w) n s i) (EJ N t w) (λk s=>s=(w.take k).sum∧0≤s) (λn k s hk=>by
  simp only[EH];rw[Ey hk];rfl) (λn k s hi hk=>by
  obtain⟨i1,i2⟩:=hi
  have h1:=G9 hw.nn (k+1)
  have h2:=G9 hw.nn k
  have h3:=hw.nn _ (List.getElem_mem hk)
  rw[H2 hk] at h1
  simp only[EH]
  rw[Ea hk,cond_true,BA hk,Option.bind_some,DB (n:=1125899906842624-s) (by omega) (by omega),decide_eq_false (show ¬w[k]<0 by omega),decide_eq_false (show ¬1125899906842624-s<w[k] by omega),Bool.or_self,cond_false,BE (by omega),DB (n:=s+w[k]) (by omega) (by omega)]
  exact⟨_,⟨by rw[H2 hk,i1],by omega⟩,rfl⟩) N 0 0 ⟨rfl,Int.le_refl _⟩ (by omega) (Nat.zero_le _)
 rw[show EH N w (EJ N t w) N 0 0=EJ N t w s from e]
 rw[List.take_length] at i1
 subst i1
 unfold EJ
 rw[decide_eq_false (show ¬t<0 by omega),decide_eq_false (show ¬w.sum<t by omega),Bool.or_self,cond_false,I5 (by omega) _ (by decide)]
 by_cases hz:w.sum=0
 ·rw[decide_eq_true hz,cond_true]
  refine⟨_,rfl,⟨Lf _ _,λi x y hx hy=>?_⟩,by simp;omega⟩
  rw[List.getElem?_replicate] at hx
  split at hx
  ·cases hx;exact⟨Int.le_refl _,hw.nn y (List.mem_of_getElem? hy)⟩
  ·cases hx
 rw[decide_eq_false hz,cond_false,I5 (by omega) _ (by decide),I5 (by omega) _ (by decide)]
 have hS0:0<w.sum:=by have:=hw.sum0;omega
 have h1:1≤w.length:=by
  cases w with
  |nil=>exact absurd rfl hz
  |cons _ _=>simp
 obtain⟨⟨ex,lo,lr,ps⟩,⟨q1,q2,q3,q4,q5,q6,q7⟩,e3⟩:=Da w.length (λn i (s:Int×List Int×List Int×List Int)=>EG N t w w.sum (EI N) n s.1 i s.2.1 s.2.2.1 s.2.2.2) (λs=>EI N s.1 s.2.1 s.2.2.1 s.2.2.2) (λk s=>ShX t w.sum w k s) (λn k s hk=>by
  simp only[EG];rw[Ey hk];rfl) (λn k s hi hk=>by
  obtain⟨ex,lo,lr,ps⟩:=s
  obtain⟨q1,q2,q3,q4,q5,q6,q7⟩:=hi
  simp only at q1 q2 q3 q4 q5 q6 q7
  have w0:=hw.nn _ (List.getElem_mem hk)
  have wS:=Gk hw.nn _ (List.getElem_mem hk)
  have hq:=Wp (t:=t) (n:=w[k]) (d:=w.sum) (by omega) wS ht.1
  have hq0:=Ss (t:=t) (n:=w[k]) (d:=w.sum) (by omega) w0 ht.1
  have hex:ex≤t∧ -(k:Int)*1125899906842624≤ex:=by
   have h1:0≤((w.take k).map λx=>t*x/w.sum).sum:=O9 λx hx=>Ss (by omega) (hw.nn x (List.mem_of_mem_take hx)) ht.1
   have h2:((w.take k).map λx=>t*x/w.sum).sum≤(((w.take k).map λx=>t*x/w.sum).length:Int)*1125899906842624:=Jb λz hz=>by
    obtain⟨x,hx,rfl⟩:=List.mem_map.1 hz
    have:=Wp (t:=t) (n:=x) (d:=w.sum) (by omega) (Gk hw.nn x (List.mem_of_mem_take hx)) ht.1
    omega
   have h3:((w.take k).map λx=>t*x/w.sum).length=k:=by simp;omega
   rw[h3] at h2
   rw[Int.neg_mul]
   omega
  have hk64:(k:Int)*1125899906842624≤64*1125899906842624:=Int.mul_le_mul_of_nonneg_right (by omega) (by decide)
  rw[Int.neg_mul] at hex
  simp only[EG]
  rw[Ea hk,cond_true,BA hk,Option.bind_some,NZ hN,Z2 ⟨ht.1,by omega⟩ ⟨w0,by omega⟩ ⟨by omega,hmv⟩ (by omega)]
  simp only[Option.bind_some,BA (show k<lo.length by omega),BA (show k<lr.length by omega),BA (show k<ps.length by omega)]
  rw[BE (by omega),DB (n:=ex-t*w[k]/w.sum) (by omega) (by omega)]
  refine⟨⟨_,_,_,_⟩,⟨by show(upd lo _ _).length=_;rw[Kt];exact q1,by show(upd lr _ _).length=_;rw[Kt];exact q2,by show(upd ps _ _).length=_;rw[Kt];exact q3,λi hi=>?_,λi x hi hx=>?_,λi x hi hx=>?_,?_⟩,rfl⟩
  ·show(upd lo (k:Int) (k:Int))[i]? =_
   by_cases hik:k=i
   ·subst hik;exact FQ (by omega) _
   ·rw[Gy hik];exact q4 i (by omega)
  ·show(upd lr (k:Int) _)[i]? =_
   by_cases hik:k=i
   ·subst hik
    rw[List.getElem?_eq_getElem hk] at hx
    cases hx
    exact FQ (by omega) _
   ·rw[Gy hik];exact q5 i x (by omega) hx
  ·show(upd ps (k:Int) _)[i]? =_
   by_cases hik:k=i
   ·subst hik
    rw[List.getElem?_eq_getElem hk] at hx
    cases hx
    exact FQ (by omega) _
   ·rw[Gy hik];exact q6 i x (by omega) hx
  ·show ex-t*w[k]/w.sum=_
   rw[LO hk,q7]
   omega) N 0 (t,List.replicate ((w.length:Int)).toNat 0,List.replicate ((w.length:Int)).toNat 0,List.replicate ((w.length:Int)).toNat 0) ⟨Lf _ _,Lf _ _,Lf _ _,λi hi=>by omega,λi x hi=>by omega,λi x hi=>by omega,by simp⟩ (by omega) (Nat.zero_le _)
 simp only at q1 q2 q3 q4 q5 q6 q7
 rw[show EG N t w w.sum (EI N) N t 0 _ _ _=EI N ex lo lr ps from e3]
 have hlr:lr=w.map λx=>t*x%w.sum:=List.ext_getElem? λi=>by
  rcases Nat.lt_or_ge i w.length with h|h
  ·rw[q5 i _ h (List.getElem?_eq_getElem h),List.getElem?_map,List.getElem?_eq_getElem h];rfl
  ·rw[List.getElem?_eq_none (by omega),List.getElem?_eq_none (by simp;omega)]
 have hps:ps=w.map λx=>t*x/w.sum:=List.ext_getElem? λi=>by
  rcases Nat.lt_or_ge i w.length with h|h
  ·rw[q6 i _ h (List.getElem?_eq_getElem h),List.getElem?_map,List.getElem?_eq_getElem h];rfl
  ·rw[List.getElem?_eq_none (by omega),List.getElem?_eq_none (by simp;omega)]
 rw[List.take_length] at q7
 have hqs:=UM (t:=t) hS0 w
 have hrb:∀x∈lr,0≤x∧x≤w.sum-1:=λx hx=>by
  rw[hlr] at hx
  obtain⟨y,_,rfl⟩:=List.mem_map.1 hx
  have h2:=Int.emod_nonneg (t*y) (show w.sum≠0 by omega)
  have h3:=Int.emod_lt_of_pos (t*y) hS0
  omega
 have hrs:lr.sum=ex*w.sum:=by
  have hc:=Int.mul_comm w.sum (w.map λx=>t*x/w.sum).sum
  rw[hlr,q7,Int.sub_mul,←hc]
  omega
 have hr0:0≤lr.sum:=Hr λx hx=>(hrb x hx).1
 have hr1:lr.sum≤(w.length:Int)*w.sum:=by
  have h2:=Jb (l:=lr) (c:=w.sum-1) λx hx=>(hrb x hx).2
  rw[q2,Int.mul_sub,Int.mul_one] at h2
  omega
 have x0:0≤ex:=by
  by_cases hneg:ex<0
  ·have:ex*w.sum<0:=Int.mul_neg_of_neg_of_pos hneg hS0
   omega
  ·omega
 have x1:ex≤w.length:=Int.le_of_mul_le_mul_right (by rw[←hrs];exact hr1) hS0
 obtain⟨en,rfl⟩:∃en:Nat,ex=en:=⟨ex.toNat,by omega⟩
 have hp:=Ki (OV lr) lo
 have hor:∀x∈lo,0≤x∧x<(w.length:Int):=λx hx=>by
  obtain⟨i,hi⟩:=List.mem_iff_getElem?.1 hx
  have hil:=(List.getElem?_eq_some_iff.1 hi).1
  have h2:=q4 i (by omega)
  rw[hi] at h2
  cases h2
  omega
 have hnd:lo.Nodup:=List.pairwise_iff_getElem.2 λi j hi hj hij h=>by
  have h2:=q4 i (by omega)
  have h3:=q4 j (by omega)
  rw[List.getElem?_eq_getElem hi] at h2
  rw[List.getElem?_eq_getElem hj] at h3
  have h2:=Option.some.inj h2
  have h3:=Option.some.inj h3
  omega
 have hpos:=V2 hS0 q1 q4 q2 hrb hrs
 have hs:PZ lo lr=some (LP (OV lr) lo):=by
  unfold PZ
  rw[if_pos ⟨by omega,by omega,by omega,List.all_eq_true.2 λx hx=>by
   have:=hor x hx
   simp only[Bool.and_eq_true,decide_eq_true_eq]
   omega⟩]
 have hlen:(LP (OV lr) lo).length=w.length:=by rw[hp.length_eq];exact q1
 have hnd2:((LP (OV lr) lo).take en).Nodup:=List.Nodup.sublist (List.take_sublist _ _) (hp.nodup_iff.2 hnd)
 have hqb:∀x∈ps,0≤x∧x≤t:=λx hx=>by
  rw[hps] at hx
  obtain⟨y,hy,rfl⟩:=List.mem_map.1 hx
  exact⟨Ss (by omega) (hw.nn y hy) ht.1,Wp (by omega) (Gk hw.nn y hy) ht.1⟩
 unfold EI iT
 rw[hs,Option.bind_some,if_pos ⟨x0,by omega,by omega⟩,Option.bind_some,Int.toNat_natCast]
 obtain⟨r,er,r1,r2,r3⟩:=VE (N:=N) (by omega) ((LP (OV lr) lo).take en) (by rw[List.length_take];omega) hnd2 (n:=w.length) (λx hx=>hor x (hp.mem_iff.1 (List.mem_of_mem_take hx))) ps q3 (λx hx=>by have:=hqb x hx;omega)
 refine⟨r,er,⟨r1,λi x y hx hy=>?_⟩,?_⟩
 ·have hpi:ps[i]? =some (t*y/w.sum):=by rw[hps,List.getElem?_map,hy];rfl
  have hri:lr[i]? =some (t*y%w.sum):=by rw[hlr,List.getElem?_map,hy];rfl
  rw[r3 i _ hpi] at hx
  have hx:=Option.some.inj hx
  have hy0:=hw.nn y (List.mem_of_getElem? hy)
  have hyS:=Gk hw.nn y (List.mem_of_getElem? hy)
  have g0:=Ss (t:=t) (n:=y) (d:=w.sum) (by omega) hy0 ht.1
  have hdm:=Int.mul_ediv_add_emod (t*y) w.sum
  have hty:t*y≤w.sum*y:=Int.mul_le_mul_of_nonneg_right ht.2 hy0
  split at hx
  ·rename_i hm
   have hpo:=hpos _ hm
   rw[Int.toNat_natCast,List.getD_eq_getElem?_getD,hri,Option.getD_some] at hpo
   have hlt:w.sum*(t*y/w.sum)<w.sum*y:=by omega
   have:=Int.lt_of_mul_lt_mul_left hlt (by omega)
   omega
  ·have hle:w.sum*(t*y/w.sum)≤w.sum*y:=by
    have:=Int.emod_nonneg (t*y) (show w.sum≠0 by omega)
    omega
   have:=Int.le_of_mul_le_mul_left hle hS0
   omega
 ·rw[r2,List.length_take,hlen,hps,Nat.min_eq_left (by omega)]
  omega
theorem X1 {N W:Nat}(hN:18446744073709551616<N) (hW:W≤64) {p:List Int}(hp:PX W p) (n:Int):∃t,Jz N p n=some (t,Ho p t)∧TO t p∧t.sum=max 0 (min n p.sum):=by
 have hl:=hp.len
 have z0:TO (List.replicate W 0) p:=⟨by simp [hp.len],λi x y hx hy=>by
  rw[List.getElem?_replicate] at hx
  split at hx
  ·cases hx;exact⟨Int.le_refl _,hp.nn y (List.mem_of_getElem? hy)⟩
  ·cases hx⟩
 have j0:∀t,TO t p→F6 N p t=some (t,Ho p t):=λt ht=>by
  unfold F6
  rw[hp.wo (by omega) (by omega) (ht.sub hp).2.2,Option.bind_some]
 have hr:List.replicate ((p.length:Int)).toNat (0:Int)=List.replicate W 0:=by rw[hp.len];rfl
 have hs0:=hp.sum0
 unfold Jz
 rw[I5 (by omega) _ (by decide),hr]
 by_cases hn:0<n
 ·rw[decide_eq_true hn,decide_eq_true (show(p.length:Int)≤64 by omega)]
  have hright:HE N p=some true:=by
   unfold HE
   obtain⟨s,⟨i1,i2⟩,e⟩:=Da p.length (λn i s=>Dj N p (Fb N) n s i) (λ_=>Fb N) (λk s=>s=(p.take k).sum∧0≤s) (λn k s hk=>by
    simp only[Dj];rw[Ey hk];rfl) (λn k s hi hk=>by
    obtain⟨i1,i2⟩:=hi
    have h1:=G9 hp.nn (k+1)
    have h2:=G9 hp.nn k
    have h3:=hp.nn _ (List.getElem_mem hk)
    have h4:=hp.mv
    rw[H2 hk] at h1
    simp only[Dj]
    rw[Ea hk,cond_true,BA hk,Option.bind_some,DB (n:=1125899906842624-s) (by omega) (by omega),decide_eq_false (show ¬p[k]<0 by omega),decide_eq_false (show ¬1125899906842624-s<p[k] by omega),Bool.or_self,cond_false,BE (by omega),DB (n:=s+p[k]) (by omega) (by omega)]
    exact⟨_,⟨by rw[H2 hk,i1],by omega⟩,rfl⟩) N 0 0 ⟨rfl,Int.le_refl _⟩ (by omega) (Nat.zero_le _)
   exact e
  obtain⟨ps,e,hv,hsum⟩:=WH hN hW hp (t:=min n p.sum) ⟨by omega,by omega⟩
  rw[Bool.and_self,cond_true,hright,Option.bind_some,Option.bind_some,cond_true,hp.total (by omega) (by omega),Option.bind_some,e,Option.bind_some,cond_true]
  unfold IR
  have hc:Ms (List.replicate W (0:Int)) ps=ps:=XQ (by rw[hv.len,hl];simp)
  rw[hc]
  exact⟨ps,j0 ps hv,hv,by rw[hsum];omega⟩
 ·rw[decide_eq_false hn,Bool.false_and,cond_false,Option.bind_some,cond_false]
  exact⟨_,j0 _ z0,z0,by rw[UJ];omega⟩
end Go.Proofs.YtblcgjadhemlbaaGreat
