import Derived.Test.YtibidnaedddfdaaGreatAPureRight3
namespace Go.Proofs.YtibidnaedddfdaaGreat
open Go.RowKit
set_option linter.unusedVariables false
set_option linter.unusedSimpArgs false
theorem HE {σ β:Type}(L:Nat) (f:Nat→Int→σ→Option β) (kj:σ→Option β) (I:Nat→σ→Prop) (hstop:∀n (k:Nat) s,L≤k→f (n+1) (k:Int) s=kj s) (hstep:∀n (k:Nat) s,I k s→k<L→∃s',I (k+1) s'∧f (n+1) (k:Int) s=f n ((k+1:Nat):Int) s'):
  ∀n (k:Nat) s,I k s→L<n+k→k≤L→∃s',I L s'∧f n (k:Int) s=kj s'
 |0,k,s,_,h,hk=>by omega
 |n+1,k,s,hi,h,hk=>by
  rcases Nat.lt_or_ge k L with hl|hl
  ·obtain⟨s1,i1,h1⟩:=hstep n k s hi hl
   obtain⟨s2,i2,h2⟩:=HE L f kj I hstop hstep n (k+1) s1 i1 (by omega) (by omega)
   exact⟨s2,i2,h1.trans h2⟩
  ·have:k=L:=by omega
   subst this
   exact⟨s,hi,hstop n k s hl⟩
theorem L8 {σ β:Type}(L:Nat) (f:Nat→Int→σ→Option β) (kj:σ→Option β) (x0:Option β) (I:Nat→σ→Prop) (hstop:∀n (k:Nat) s,L≤k→f (n+1) (k:Int) s=kj s) (hstep:∀n (k:Nat) s,I k s→k<L→f (n+1) (k:Int) s=x0∨∃s',I (k+1) s'∧f (n+1) (k:Int) s=f n ((k+1:Nat):Int) s'):
  ∀n (k:Nat) s,I k s→L<n+k→k≤L→f n (k:Int) s=x0∨∃s',I L s'∧f n (k:Int) s=kj s'
 |0,k,s,_,h,hk=>by omega
 |n+1,k,s,hi,h,hk=>by
  rcases Nat.lt_or_ge k L with hl|hl
  ·rcases hstep n k s hi hl with h0|⟨s1,i1,h1⟩
   ·exact .inl h0
   ·rcases L8 L f kj x0 I hstop hstep n (k+1) s1 i1 (by omega) (by omega) with h2|⟨s2,i2,h2⟩
    ·exact .inl (h1.trans h2)
    ·exact .inr ⟨s2,i2,h1.trans h2⟩
  ·have:k=L:=by omega
   subst this
   exact .inr ⟨s,hi,hstop n k s hl⟩
theorem Nb (L:Nat) (f:Nat→Int→Option Bool) (kj:Option Bool) (ok:Nat→Bool) (hstop:∀n (k:Nat),L≤k→f (n+1) (k:Int)=kj) (hstep:∀n (k:Nat),k<L→f (n+1) (k:Int)=cond (ok k) (f n ((k+1:Nat):Int)) (some false)):
  ∀n (k:Nat),L<n+k→k≤L→((∀i,k≤i→i<L→ok i=true)∧f n (k:Int)=kj)∨((∃i,k≤i∧i<L∧ok i=false)∧f n (k:Int)=some false)
 |0,k,h,hk=>by omega
 |n+1,k,h,hk=>by
  rcases Nat.lt_or_ge k L with hl|hl
  ·have h1:=hstep n k hl
   cases hb:ok k with
   |false=>rw[hb] at h1;exact .inr ⟨⟨k,Nat.le_refl _,hl,hb⟩,h1⟩
   |true=>
    rw[hb] at h1
    rcases Nb L f kj ok hstop hstep n (k+1) (by omega) (by omega) with ⟨h2,h3⟩|⟨⟨i,h2,h3,h4⟩,h5⟩
    ·refine .inl ⟨λi hi hil=>?_,h1.trans h3⟩
     by_cases e:i=k
     ·subst e;exact hb
     ·exact h2 i (by omega) hil
    ·exact .inr ⟨⟨i,by omega,h3,h4⟩,h1.trans h5⟩
  ·exact .inl ⟨λi hi hil=>by omega,hstop n k hl⟩
theorem L0 {l:List Int}{k:Nat}(h:k<l.length):(l.take (k+1)).sum=(l.take k).sum+l[k]:=by
 rw[List.take_succ_eq_append_getElem h,List.sum_append];simp
theorem Li:∀{l:List Int},(∀x∈l,0≤x)→0≤l.sum
 |[],_=>by simp
 |a::l,h=>by
  have h1:=h a (List.mem_cons_self ..)
  have h2:=Li (l:=l) λx hx=>h x (List.mem_cons_of_mem _ hx)
  simp only[List.sum_cons];omega
theorem IA {l:List Int}(h:∀x∈l,0≤x) (k:Nat):0≤(l.take k).sum∧(l.take k).sum≤l.sum:=by
 have h1:=Li (l:=l.take k) λx hx=>h x (List.mem_of_mem_take hx)
 have h2:=Li (l:=l.drop k) λx hx=>h x (List.mem_of_mem_drop hx)
 have h3:(l.take k).sum+(l.drop k).sum=l.sum:=by rw[←List.sum_append,List.take_append_drop]
 omega
abbrev MV:Int:=1125899906842624
structure J0 (p:List Int):Prop where
 pos:∀x∈p,0≤x
 le:p.sum≤MV
theorem J0.nn {p:List Int}(h:J0 p):0≤p.sum:=Li h.pos
theorem O9 (N:Nat) {a b:Int}(h1: -4611686018427387903≤a) (h2:a≤4611686018427387903) (h3: -4611686018427387903≤b) (h4:b≤4611686018427387903):CD N a b=some (a+b):=by
 unfold CD
 have e3:Ar (a+b)=a+b:=E6 (by omega) (by omega)
 by_cases hb:0<b
 ·have e1:Ar (9223372036854775807-b)=9223372036854775807-b:=E6 (by omega) (by omega)
  rw[e1,e3]
  have c1:decide (9223372036854775807-b<a)=false:=by simp;omega
  have c2:decide (b<0)=false:=by simp;omega
  rw[c1,c2];simp
 ·have c1:decide (0<b)=false:=by simp;omega
  rw[c1]
  by_cases hb2:b<0
  ·have e2:Ar (-9223372036854775808-b)= -9223372036854775808-b:=E6 (by omega) (by omega)
   have c2:decide (a< -9223372036854775808-b)=false:=by simp;omega
   rw[e2,e3,c2];simp
  ·have c2:decide (b<0)=false:=by simp;omega
   rw[c2,e3];simp
theorem Vi (N:Nat) {a b:Int}(h1: -4611686018427387903≤a) (h2:a≤4611686018427387903) (h3: -4611686018427387903≤b) (h4:b≤4611686018427387903):Bt N a b=some (a-b):=by
 unfold Bt
 have e3:Ar (a-b)=a-b:=E6 (by omega) (by omega)
 by_cases hb:b<0
 ·have e1:Ar (9223372036854775807+b)=9223372036854775807+b:=E6 (by omega) (by omega)
  have c1:decide (9223372036854775807+b<a)=false:=by simp;omega
  have c2:decide (0<b)=false:=by simp;omega
  rw[e1,e3,c1,c2];simp
 ·have c1:decide (b<0)=false:=by simp;omega
  rw[c1]
  by_cases hb2:0<b
  ·have e2:Ar (-9223372036854775808+b)= -9223372036854775808+b:=E6 (by omega) (by omega)
   have c2:decide (a< -9223372036854775808+b)=false:=by simp;omega
   rw[e2,e3,c2];simp
  ·have c2:decide (0<b)=false:=by simp;omega
   rw[c2,e3];simp
theorem Hc {N:Nat}{p:List Int}(h:J0 p) (hN:p.length<N) (hl:p.length<4611686018427387904):Cw N p=some p.sum:=by
 unfold Cw
 obtain⟨s,h1,h2⟩:=HE p.length (λn i s=>D4 N p (FL N) n s i) (FL N) (λk s=>s=(p.take k).sum) (λn k s hk=>by
  simp only[D4];rw[EO hk];rfl) (λn k s hi hk=>by
  refine⟨_,rfl,?_⟩
  simp only[D4]
  have h3:=IA h.pos k
  have h4:p.sum≤1125899906842624:=h.le
  have h5:=h.pos p[k] (List.getElem_mem hk)
  have h6:=IA h.pos (k+1)
  rw[L0 hk] at h6
  rw[EN hk,cond_true,A9 hk,Az (by omega),hi]
  simp only[Option.bind_some]
  rw[O9 N (by omega) (by omega) (by omega) (by omega)]
  simp only[Option.bind_some,L0 hk]) N 0 0 (by simp) (by omega) (Nat.zero_le _)
 rw[List.take_length] at h1
 subst h1
 exact h2
theorem Re {N:Nat}(p:List Int) (hN:p.length<N) (hl:p.length<4611686018427387904):∃v,Hg N p=some v∧(v=true→J0 p):=by
 unfold Hg
 rcases L8 p.length (λn i s=>D3 N p (FK N) n s i) (λ_=>FK N) (some false) (λk s=>s=(p.take k).sum∧(∀x∈p.take k,0≤x)∧(p.take k).sum≤MV) (λn k s hk=>by
  simp only[D3];rw[EO hk];rfl) (λn k s hi hk=>by
  obtain⟨rfl,h1,h2⟩:=hi
  have h0:=Li h1
  simp only[D3]
  rw[EN hk,cond_true,A9 hk,Az (by omega)]
  simp only[Option.bind_some]
  have e1:Ar (1125899906842624-(p.take k).sum)=1125899906842624-(p.take k).sum:=E6 (by unfold MV at h2;omega) (by omega)
  rw[e1]
  cases hb:(decide (p[k]<0)||decide (1125899906842624-(p.take k).sum<p[k]))
  ·simp only[Bool.or_eq_false_iff,decide_eq_false_iff_not] at hb
   refine .inr ⟨_,⟨rfl,λx hx=>?_,?_⟩,?_⟩
   ·rw[List.take_succ_eq_append_getElem hk,List.mem_append] at hx
    rcases hx with hx|hx
    ·exact h1 x hx
    ·simp only[List.mem_singleton] at hx;subst hx;omega
   ·rw[L0 hk];unfold MV;omega
   ·have e2:Ar ((p.take k).sum+p[k])=(p.take (k+1)).sum:=by rw[L0 hk];exact E6 (by omega) (by omega)
    rw[e2];rfl
  ·exact .inl rfl) N 0 0 ⟨by simp,by simp,by simp⟩ (by omega) (Nat.zero_le _) with h|⟨s,⟨_,h1,h2⟩,h⟩
 ·exact⟨false,h,λh=>by cases h⟩
 ·rw[List.take_length] at h1 h2
  exact⟨true,h,λ_=>⟨h1,h2⟩⟩
theorem OK {N:Nat}(hN:100<N) (p:List Int) (o:Nat):∃v,Gw N p (o:Int)=some v∧(v=true→J0 p∧p.length=o∧o≤16):=by
 unfold Gw
 cases hb:((decide ((0:Int)≤(o:Int))&&decide ((o:Int)≤16))&&decide ((p.length:Int)=(o:Int)))
 ·exact⟨false,rfl,λh=>by cases h⟩
 ·simp only[Bool.and_eq_true,decide_eq_true_eq] at hb
  obtain⟨v,h1,h2⟩:=Re (N:=N) p (by omega) (by omega)
  rw[cond_true,h1]
  exact⟨v,rfl,λh=>⟨h2 h,by omega,by omega⟩⟩
end Go.Proofs.YtibidnaedddfdaaGreat
