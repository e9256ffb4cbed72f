import Derived.Test.YtibidnaedddfdaaGreatAPureState
namespace Go.Proofs.YtibidnaedddfdaaGreat
open Go.RowKit
set_option linter.unusedVariables false
set_option linter.unusedSimpArgs false
def Om (a t a' t':Int):Prop:=a<a'∨(a=a'∧t<t')
instance (a t a' t':Int):Decidable (Om a t a' t'):=by unfold Om;infer_instance
def Nq (x y:Int):Int:=if x<y then -1 else if y<x then 1 else 0
theorem Nn (N:Nat) (x y:Int):Ei N x y=some (Nq x y):=by
 unfold Ei GJ Nq
 have h1:decide (x≠x)=false:=by simp
 have h2:decide (y≠y)=false:=by simp
 simp only[h1,h2,Option.bind_some,cond_false]
 by_cases a:x<y
 ·simp [a]
 ·by_cases b:y<x<;>simp [a,b]
theorem Vu {N:Nat}(hN:5<N) (x y:Int):Hn N [x,y]=some (if x≠0 then x else y):=by
 obtain⟨n,rfl⟩:∃n,N=n+3:=⟨N-3,by omega⟩
 have e1:Ar (0+1)=1:=E6 (by omega) (by omega)
 have e2:Ar (1+1)=2:=E6 (by omega) (by omega)
 unfold Hn
 simp only[FO,GK,e1,e2]
 by_cases hx:x=0
 ·subst hx
  by_cases hy:y=0
  ·subst hy;simp [ix]
  ·simp [ix,hy]
 ·simp [ix,hx]
def QM (x y:Ay):Int:=if Nq x.At y.At≠0 then Nq x.At y.At else Nq x.To y.To
theorem Na {N:Nat}(hN:5<N) (x y:Ay):Cx N x y=some (QM x y):=by
 unfold Cx
 rw[Nn,Nn]
 simp only[Option.bind_some]
 rw[Vu hN]
 rfl
theorem RH {x y:Int}:Nq x y<0↔x<y:=by unfold Nq;split<;>first|omega|(split<;>omega)
theorem O3 {x y:Int}:Nq x y=0↔x=y:=by unfold Nq;split<;>first|omega|(split<;>omega)
theorem NG {x y:Ay}:QM x y<0↔Om x.At x.To y.At y.To:=by
 unfold QM Om
 have h1:= @RH x.At y.At
 have h2:= @O3 x.At y.At
 have h3:= @RH x.To y.To
 by_cases h:Nq x.At y.At=0
 ·rw[if_neg (by simp [h])]
  have:=h2.1 h
  rw[h3]
  omega
 ·rw[if_pos h]
  have:x.At≠y.At:=λe=>h (h2.2 e)
  rw[h1]
  omega
theorem UY {x y:Ay}:QM x y=0↔x.At=y.At∧x.To=y.To:=by
 unfold QM
 have h2:= @O3 x.At y.At
 have h4:= @O3 x.To y.To
 by_cases h:Nq x.At y.At=0
 ·rw[if_neg (by simp [h])]
  have:=h2.1 h
  rw[h4]
  exact⟨λe=>⟨this,e⟩,λe=>e.2⟩
 ·rw[if_pos h]
  exact⟨λe=>absurd e h,λe=>absurd (h2.2 e.1) h⟩
abbrev Yt:= @AY
theorem T4 {N:Nat}(q:List Ay) (t:Ay) (c:Ay×Ay→Option Int) (f:Ay→Int) (hc:∀x,c (x,t)=some (f x)) (hq:q.length<1000000) (kj:Int→Option (Int×Bool)):
  ∀(n i j:Nat),i≤j→j≤q.length→j-i<n→(∀(m:Nat) x,m<i→q[m]? =some x→f x<0)→(∀(m:Nat) x,j≤m→q[m]? =some x→¬f x<0)→(∀(m m':Nat) x x',m≤m'→q[m]? =some x→q[m']? =some x'→f x'<0→f x<0)→
   ∃r:Nat,AO N q t c kj n (i:Int) (j:Int)=kj (r:Int)∧r≤q.length∧(∀(m:Nat) x,m<r→q[m]? =some x→f x<0)∧(∀(m:Nat) x,r≤m→q[m]? =some x→¬f x<0)
 |0,i,j,h1,h2,h3,_,_,_=>by omega
 |n+1,i,j,h1,h2,h3,g1,g2,g3=>by
  simp only[AO]
  rcases Nat.lt_or_ge i j with hij|hij
  ·rw[EN hij,cond_true,Sq (by omega)]
   have hm:(i+j)/2<q.length:=by omega
   rw[A9 hm]
   simp only[Option.bind_some,hc]
   cases hd:decide (f q[(i+j)/2]<0) with
   |true=>
    simp only[decide_eq_true_eq] at hd
    rw[cond_true,Az (by omega)]
    exact T4 q t c f hc hq kj n _ j (by omega) h2 (by omega) (λm x hm' hx=>g3 m ((i+j)/2) x _ (by omega) hx (List.getElem?_eq_getElem hm) hd) g2 g3
   |false=>
    simp only[decide_eq_false_iff_not] at hd
    rw[cond_false]
    exact T4 q t c f hc hq kj n i _ (by omega) (by omega) (by omega) g1 (λm x hm' hx hf=>hd (g3 ((i+j)/2) m _ x hm' (List.getElem?_eq_getElem hm) hx hf)) g3
  ·have:i=j:=by omega
   subst this
   rw[EO (Nat.le_refl _),cond_false]
   exact⟨i,rfl,h2,g1,g2⟩
def Uw (q:List Ay):Prop:=q.Pairwise λx y=>Om x.At x.To y.At y.To
theorem Rj {a t a' t' a'' t'':Int}(h1:Om a t a' t') (h2:Om a' t' a'' t''):Om a t a'' t'':=by unfold Om at *;omega
theorem YO {N:Nat}(hN:2000000<N) (q:List Ay) (hs:Uw q) (hq:q.length<1000000) (t:Ay):∃r:Nat,Yt N q t (λx=>Cx N x.1 x.2)=some ((r:Int),decide (∃x,q[r]? =some x∧x.At=t.At∧x.To=t.To))∧r≤q.length∧(∀(m:Nat) x,m<r→q[m]? =some x→Om x.At x.To t.At t.To)∧(∀(m:Nat) x,r≤m→q[m]? =some x→¬Om x.At x.To t.At t.To):=by
 unfold Yt AY
 have hp:=List.pairwise_iff_getElem.1 hs
 obtain⟨r,h1,h2,h3,h4⟩:=T4 (N:=N) q t (λx=>Cx N x.1 x.2) (λx=>QM x t) (λx=>Na (by omega) _ _) hq (AU N q t λx=>Cx N x.1 x.2) N 0 q.length (Nat.zero_le _) (Nat.le_refl _) (by omega) (λm x hm=>by omega) (λm x hm hx=>by have:=(List.getElem?_eq_some_iff.1 hx).1;omega) (λm m' x x' hm hx hx' hf=>by
  rw[NG] at hf ⊢
  obtain⟨l1,e1⟩:=List.getElem?_eq_some_iff.1 hx
  obtain⟨l2,e2⟩:=List.getElem?_eq_some_iff.1 hx'
  rcases Nat.lt_or_ge m m' with h|h
  ·have:=hp m m' l1 l2 h
   rw[e1,e2] at this
   exact Rj this hf
  ·have:m=m':=by omega
   subst this
   rw[e1] at e2
   rw[e2];exact hf)
 refine⟨r,?_,h2,λm x hm hx=>NG.1 (h3 m x hm hx),λm x hm hx hl=>h4 m x hm hx (NG.2 hl)⟩
 have h1:AO N q t (λx=>Cx N x.1 x.2) (AU N q t λx=>Cx N x.1 x.2) N 0 (q.length:Int)=_:=h1
 rw[h1]
 unfold AU
 rcases Nat.lt_or_ge r q.length with hl|hl
 ·rw[EN hl,cond_true,A9 hl]
  simp only[Option.bind_some,Na (N:=N) (by omega)]
  congr 2
  rw[decide_eq_decide]
  simp only[UY]
  refine⟨λh=>⟨_,List.getElem?_eq_getElem hl,h⟩,λ⟨x,hx,h⟩=>?_⟩
  rw[List.getElem?_eq_getElem hl] at hx
  cases hx
  exact h
 ·rw[EO hl,cond_false]
  simp only[Option.bind_some]
  congr 2
  symm
  simp only[decide_eq_false_iff_not]
  rintro⟨x,hx,_⟩
  rw[List.getElem?_eq_none hl] at hx
  cases hx
end Go.Proofs.YtibidnaedddfdaaGreat
