import Derived.Test.YtibidnaedddfdaaGreatBPureRight3
namespace Go.Proofs.YtibidnaedddfdaaGreat
open Go.RowKit
set_option linter.unusedVariables false
set_option linter.unusedSimpArgs false
theorem GJ {σ β:Type}(L:Nat) (f:Nat→Int→σ→Option β) (kj:σ→Option β) (I:Nat→σ→Prop) (hstop:∀n (k:Nat) s,L≤k→f (n+1) (k:Int) s=kj s) (hstep:∀n (k:Nat) s,I k s→k<L→∃s',I (k+1) s'∧f (n+1) (k:Int) s=f n ((k+1:Nat):Int) s'):
  ∀n (k:Nat) s,I k s→L<n+k→k≤L→∃s',I L s'∧f n (k:Int) s=kj s'
 |0,k,s,_,h,hk=>by omega
 |n+1,k,s,hi,h,hk=>by
  rcases Nat.lt_or_ge k L with hl|hl
  ·obtain⟨s1,i1,h1⟩:=hstep n k s hi hl
   obtain⟨s2,i2,h2⟩:=GJ L f kj I hstop hstep n (k+1) s1 i1 (by omega) (by omega)
   exact⟨s2,i2,h1.trans h2⟩
  ·have:k=L:=by omega
   subst this
   exact⟨s,hi,hstop n k s hl⟩
theorem Lg (L:Nat) (f:Nat→Int→Option Bool) (kj:Option Bool) (ok:Nat→Bool) (hstop:∀n (k:Nat),L≤k→f (n+1) (k:Int)=kj) (hstep:∀n (k:Nat),k<L→f (n+1) (k:Int)=cond (ok k) (f n ((k+1:Nat):Int)) (some false)):
  ∀n (k:Nat),L<n+k→k≤L→((∀i,k≤i→i<L→ok i=true)∧f n (k:Int)=kj)∨((∃i,k≤i∧i<L∧ok i=false)∧f n (k:Int)=some false)
 |0,k,h,hk=>by omega
 |n+1,k,h,hk=>by
  rcases Nat.lt_or_ge k L with hl|hl
  ·have h1:=hstep n k hl
   cases hb:ok k with
   |false=>rw[hb] at h1;exact .inr ⟨⟨k,Nat.le_refl _,hl,hb⟩,h1⟩
   |true=>
    rw[hb] at h1
    rcases Lg L f kj ok hstop hstep n (k+1) (by omega) (by omega) with ⟨h2,h3⟩|⟨⟨i,h2,h3,h4⟩,h5⟩
    ·refine .inl ⟨λi hi hil=>?_,h1.trans h3⟩
     by_cases e:i=k
     ·subst e;exact hb
     ·exact h2 i (by omega) hil
    ·exact .inr ⟨⟨i,by omega,h3,h4⟩,h1.trans h5⟩
  ·exact .inl ⟨λi hi hil=>by omega,hstop n k hl⟩
theorem TE {l:List Int}{k:Nat}(h:k<l.length):(l.take (k+1)).sum=(l.take k).sum+l[k]:=by
 rw[List.take_succ_eq_append_getElem h,List.sum_append];simp
theorem OZ:∀{l:List Int},(∀x∈l,0≤x)→0≤l.sum
 |[],_=>by simp
 |a::l,h=>by
  have h1:=h a (List.mem_cons_self ..)
  have h2:=OZ (l:=l) λx hx=>h x (List.mem_cons_of_mem _ hx)
  simp only[List.sum_cons];omega
theorem MY {l:List Int}(h:∀x∈l,0≤x) (k:Nat):0≤(l.take k).sum∧(l.take k).sum≤l.sum:=by
 have h1:=OZ (l:=l.take k) λx hx=>h x (List.mem_of_mem_take hx)
 have h2:=OZ (l:=l.drop k) λx hx=>h x (List.mem_of_mem_drop hx)
 have h3:(l.take k).sum+(l.drop k).sum=l.sum:=by rw[←List.sum_append,List.take_append_drop]
 omega
theorem MT (N:Nat) {a b:Int}(h1: -4611686018427387903≤a) (h2:a≤4611686018427387903) (h3: -4611686018427387903≤b) (h4:b≤4611686018427387903):CR N a b=some (a+b):=by
 unfold CR
 have e3:A3 (a+b)=a+b:=B9 (by omega) (by omega)
 by_cases hb:0<b
 ·have e1:A3 (9223372036854775807-b)=9223372036854775807-b:=B9 (by omega) (by omega)
  rw[e1,e3]
  have c1:decide (9223372036854775807-b<a)=false:=by simp;omega
  have c2:decide (b<0)=false:=by simp;omega
  rw[c1,c2];simp
 ·have c1:decide (0<b)=false:=by simp;omega
  rw[c1]
  by_cases hb2:b<0
  ·have e2:A3 (-9223372036854775808-b)= -9223372036854775808-b:=B9 (by omega) (by omega)
   have c2:decide (a< -9223372036854775808-b)=false:=by simp;omega
   rw[e2,e3,c2];simp
  ·have c2:decide (b<0)=false:=by simp;omega
   rw[c2,e3];simp
theorem HX (N:Nat) {a b:Int}(h1: -4611686018427387903≤a) (h2:a≤4611686018427387903) (h3: -4611686018427387903≤b) (h4:b≤4611686018427387903):CN N a b=some (a-b):=by
 unfold CN
 have e3:A3 (a-b)=a-b:=B9 (by omega) (by omega)
 by_cases hb:b<0
 ·have e1:A3 (9223372036854775807+b)=9223372036854775807+b:=B9 (by omega) (by omega)
  have c1:decide (9223372036854775807+b<a)=false:=by simp;omega
  have c2:decide (0<b)=false:=by simp;omega
  rw[e1,e3,c1,c2];simp
 ·have c1:decide (b<0)=false:=by simp;omega
  rw[c1]
  by_cases hb2:0<b
  ·have e2:A3 (-9223372036854775808+b)= -9223372036854775808+b:=B9 (by omega) (by omega)
   have c2:decide (a< -9223372036854775808+b)=false:=by simp;omega
   rw[e2,e3,c2];simp
  ·have c2:decide (0<b)=false:=by simp;omega
   rw[c2,e3];simp
theorem SF {α}{f:α→Int}{l:List α}{k:Nat}(h:k<l.length):((l.take (k+1)).map f).sum=((l.take k).map f).sum+f l[k]:=by
 rw[List.take_succ_eq_append_getElem h,List.map_append,List.sum_append];simp
theorem Og {α}{f:α→Int}{l:List α}(h:∀x∈l,0≤f x):0≤(l.map f).sum:=OZ λy hy=>by
 obtain⟨x,hx,rfl⟩:=List.mem_map.1 hy;exact h x hx
def OA (a t a' t':Int):Prop:=a<a'∨(a=a'∧t<t')
instance (a t a' t':Int):Decidable (OA a t a' t'):=by unfold OA;infer_instance
def Nd (x y:Int):Int:=if x<y then -1 else if y<x then 1 else 0
theorem Nb (N:Nat) (x y:Int):EW N x y=some (Nd x y):=by
 unfold EW F4 Nd
 have h1:decide (x≠x)=false:=by simp
 have h2:decide (y≠y)=false:=by simp
 simp only[h1,h2,Option.bind_some,cond_false]
 by_cases a:x<y
 ·simp [a]
 ·by_cases b:y<x<;>simp [a,b]
theorem Ws {N:Nat}(hN:5<N) (x y:Int):HQ N [x,y]=some (if x≠0 then x else y):=by
 obtain⟨n,rfl⟩:∃n,N=n+3:=⟨N-3,by omega⟩
 have e1:A3 (0+1)=1:=B9 (by omega) (by omega)
 have e2:A3 (1+1)=2:=B9 (by omega) (by omega)
 unfold HQ
 simp only[FA,F5,e1,e2]
 by_cases hx:x=0
 ·subst hx
  by_cases hy:y=0
  ·subst hy;simp [ix]
  ·simp [ix,hy]
 ·simp [ix,hx]
def NN (x y:A4):Int:=if Nd x.At y.At≠0 then Nd x.At y.At else Nd x.To y.To
theorem NM {N:Nat}(hN:5<N) (x y:A4):DT N x y=some (NN x y):=by
 unfold DT
 rw[Nb,Nb]
 simp only[Option.bind_some]
 rw[Ws hN]
 rfl
theorem Rn {x y:Int}:Nd x y<0↔x<y:=by unfold Nd;split<;>first|omega|(split<;>omega)
theorem Oz {x y:Int}:Nd x y=0↔x=y:=by unfold Nd;split<;>first|omega|(split<;>omega)
theorem Ld {x y:A4}:NN x y<0↔OA x.At x.To y.At y.To:=by
 unfold NN OA
 have h1:= @Rn x.At y.At
 have h2:= @Oz x.At y.At
 have h3:= @Rn x.To y.To
 by_cases h:Nd x.At y.At=0
 ·rw[if_neg (by simp [h])]
  have:=h2.1 h
  rw[h3]
  omega
 ·rw[if_pos h]
  have:x.At≠y.At:=λe=>h (h2.2 e)
  rw[h1]
  omega
theorem VK {x y:A4}:NN x y=0↔x.At=y.At∧x.To=y.To:=by
 unfold NN
 have h2:= @Oz x.At y.At
 have h4:= @Oz x.To y.To
 by_cases h:Nd x.At y.At=0
 ·rw[if_neg (by simp [h])]
  have:=h2.1 h
  rw[h4]
  exact⟨λe=>⟨this,e⟩,λe=>e.2⟩
 ·rw[if_pos h]
  exact⟨λe=>absurd e h,λe=>absurd (h2.2 e.1) h⟩
abbrev Zk:= @AY
theorem Uo {N:Nat}(q:List A4) (t:A4) (c:A4×A4→Option Int) (f:A4→Int) (hc:∀x,c (x,t)=some (f x)) (hq:q.length<1000000) (kj:Int→Option (Int×Bool)):
  ∀(n i j:Nat),i≤j→j≤q.length→j-i<n→(∀(m:Nat) x,m<i→q[m]? =some x→f x<0)→(∀(m:Nat) x,j≤m→q[m]? =some x→¬f x<0)→(∀(m m':Nat) x x',m≤m'→q[m]? =some x→q[m']? =some x'→f x'<0→f x<0)→
   ∃r:Nat,AN N q t c kj n (i:Int) (j:Int)=kj (r:Int)∧r≤q.length∧(∀(m:Nat) x,m<r→q[m]? =some x→f x<0)∧(∀(m:Nat) x,r≤m→q[m]? =some x→¬f x<0)
 |0,i,j,h1,h2,h3,_,_,_=>by omega
 |n+1,i,j,h1,h2,h3,g1,g2,g3=>by
  simp only[AN]
  rcases Nat.lt_or_ge i j with hij|hij
  ·rw[EJ hij,cond_true,Tc (by omega)]
   have hm:(i+j)/2<q.length:=by omega
   rw[Aw hm]
   simp only[Option.bind_some,hc]
   cases hd:decide (f q[(i+j)/2]<0) with
   |true=>
    simp only[decide_eq_true_eq] at hd
    rw[cond_true,Au (by omega)]
    exact Uo q t c f hc hq kj n _ j (by omega) h2 (by omega) (λm x hm' hx=>g3 m ((i+j)/2) x _ (by omega) hx (List.getElem?_eq_getElem hm) hd) g2 g3
   |false=>
    simp only[decide_eq_false_iff_not] at hd
    rw[cond_false]
    exact Uo q t c f hc hq kj n i _ (by omega) (by omega) (by omega) g1 (λm x hm' hx hf=>hd (g3 ((i+j)/2) m _ x hm' (List.getElem?_eq_getElem hm) hx hf)) g3
  ·have:i=j:=by omega
   subst this
   rw[EK (Nat.le_refl _),cond_false]
   exact⟨i,rfl,h2,g1,g2⟩
def U3 (q:List A4):Prop:=q.Pairwise λx y=>OA x.At x.To y.At y.To
theorem N9 {a t a' t' a'' t'':Int}(h1:OA a t a' t') (h2:OA a' t' a'' t''):OA a t a'' t'':=by unfold OA at *;omega
theorem ZD {N:Nat}(hN:2000000<N) (q:List A4) (hs:U3 q) (hq:q.length<1000000) (t:A4):∃r:Nat,Zk N q t (λx=>DT N x.1 x.2)=some ((r:Int),decide (∃x,q[r]? =some x∧x.At=t.At∧x.To=t.To))∧r≤q.length∧(∀(m:Nat) x,m<r→q[m]? =some x→OA x.At x.To t.At t.To)∧(∀(m:Nat) x,r≤m→q[m]? =some x→¬OA x.At x.To t.At t.To):=by
 unfold Zk AY
 have hp:=List.pairwise_iff_getElem.1 hs
 obtain⟨r,h1,h2,h3,h4⟩:=Uo (N:=N) q t (λx=>DT N x.1 x.2) (λx=>NN x t) (λx=>NM (by omega) _ _) hq (AV N q t λx=>DT N x.1 x.2) N 0 q.length (Nat.zero_le _) (Nat.le_refl _) (by omega) (λm x hm=>by omega) (λm x hm hx=>by have:=(List.getElem?_eq_some_iff.1 hx).1;omega) (λm m' x x' hm hx hx' hf=>by
  rw[Ld] at hf ⊢
  obtain⟨l1,e1⟩:=List.getElem?_eq_some_iff.1 hx
  obtain⟨l2,e2⟩:=List.getElem?_eq_some_iff.1 hx'
  rcases Nat.lt_or_ge m m' with h|h
  ·have:=hp m m' l1 l2 h
   rw[e1,e2] at this
   exact N9 this hf
  ·have:m=m':=by omega
   subst this
   rw[e1] at e2
   rw[e2];exact hf)
 refine⟨r,?_,h2,λm x hm hx=>Ld.1 (h3 m x hm hx),λm x hm hx hl=>h4 m x hm hx (Ld.2 hl)⟩
 have h1:AN N q t (λx=>DT N x.1 x.2) (AV N q t λx=>DT N x.1 x.2) N 0 (q.length:Int)=_:=h1
 rw[h1]
 unfold AV
 rcases Nat.lt_or_ge r q.length with hl|hl
 ·rw[EJ hl,cond_true,Aw hl]
  simp only[Option.bind_some,NM (N:=N) (by omega)]
  congr 2
  rw[decide_eq_decide]
  simp only[VK]
  refine⟨λh=>⟨_,List.getElem?_eq_getElem hl,h⟩,λ⟨x,hx,h⟩=>?_⟩
  rw[List.getElem?_eq_getElem hl] at hx
  cases hx
  exact h
 ·rw[EK hl,cond_false]
  simp only[Option.bind_some]
  congr 2
  symm
  simp only[decide_eq_false_iff_not]
  rintro⟨x,hx,_⟩
  rw[List.getElem?_eq_none hl] at hx
  cases hx
abbrev ZI (e:A4):Int×Int:=(e.At,e.To)
theorem VC {q:List A4}:U3 q↔(q.map ZI).Pairwise λx y=>OA x.1 x.2 y.1 y.2:=by
 unfold U3;rw[List.pairwise_map]
theorem VB {q:List A4}(h:U3 q) {r:Nat}(hr:r<q.length) {e:A4}(he:ZI e=ZI q[r]):U3 (q.set r e):=by
 rw[VC] at h ⊢
 rw[List.map_set,he,←List.getElem_map ZI (h:=by simpa using hr),List.set_getElem_self]
 exact h
theorem VP {a t:Int}:¬OA a t a t:=by unfold OA;omega
theorem VO {a t a' t':Int}(h:¬OA a t a' t') (hn:¬(a=a'∧t=t')):OA a' t' a t:=by unfold OA at *;omega
theorem Qf (N:Nat) (s:AF):Fe N s=some ⟨min s.Lo 1125899906842624,min s.Hi 1125899906842624⟩:=rfl
theorem MC {n by_:Nat}(h:n*by_≤140737488355328) {α}(x:Option α):chk (room n by_) x=x:=by
 unfold chk room;rw[decide_eq_true h];rfl
theorem Oh {β:Type}(L:Nat) (f:Nat→Int→Option β) (kj:Option β) (hstop:∀n (k:Nat),L≤k→f (n+1) (k:Int)=kj) (hstep:∀n (k:Nat),k<L→f (n+1) (k:Int)=f n ((k+1:Nat):Int)):
  ∀n (k:Nat),L<n+k→k≤L→f n (k:Int)=kj
 |0,k,h,hk=>by omega
 |n+1,k,h,hk=>by
  rcases Nat.lt_or_ge k L with hl|hl
  ·rw[hstep n k hl];exact Oh L f kj hstop hstep n (k+1) (by omega) (by omega)
  ·exact hstop n k hl
theorem P3 (a b:AF):ML a.v b.v=(decide (a.Lo=b.Lo)&&decide (a.Hi=b.Hi)):=by simp [ML,UO]
theorem Kg (N:Nat) (a b:AF):EL N a b=some (decide (b.Lo≤a.Lo)&&decide (a.Hi≤b.Hi)):=by
 unfold EL GQ
 simp only[Option.bind_some,P3]
 congr 1
 rw[Bool.eq_iff_iff]
 simp only[Bool.and_eq_true,decide_eq_true_eq]
 omega
end Go.Proofs.YtibidnaedddfdaaGreat
