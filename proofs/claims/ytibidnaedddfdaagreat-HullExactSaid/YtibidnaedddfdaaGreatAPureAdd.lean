import Derived.Test.YtibidnaedddfdaaGreatAPureSearch
namespace Go.Proofs.YtibidnaedddfdaaGreat
open Go.RowKit
set_option linter.unusedVariables false
set_option linter.unusedSimpArgs false
def G4 (l:List E0) (a t:Int):Int:=(l.map λx=>if x.At=a∧x.To=t then x.Part.sum else 0).sum
theorem UO (a t:Int):G4 [] a t=0:=rfl
theorem NE (l:List E0) (x:E0) (a t:Int):G4 (l++[x]) a t=G4 l a t+if x.At=a∧x.To=t then x.Part.sum else 0:=by
 unfold G4;rw[List.map_append,List.sum_append];simp
theorem OZ {l:List E0}(h:∀x∈l,0≤x.Part.sum) (a t:Int):0≤G4 l a t:=LA λx hx=>by
 split
 ·exact h x hx
 ·exact Int.le_refl _
theorem Lg:∀{l:List E0},(∀x∈l,0≤x.Part.sum)→∀(a t:Int),G4 l a t≤(LP l).sum
 |[],_,a,t=>by simp [G4]
 |x::l,h,a,t=>by
  have h1:=Lg (l:=l) (λy hy=>h y (List.mem_cons_of_mem _ hy)) a t
  have h2:=h x (List.mem_cons_self ..)
  unfold G4 at h1 ⊢
  simp only[List.map_cons,List.sum_cons,LP] at h1 ⊢
  split<;>omega
theorem PS {l:List E0}{a t:Int}(h:∀x∈l,¬(x.At=a∧x.To=t)):G4 l a t=0:=by
 induction l with
 |nil=>rfl
 |cons x l ih=>
  have h1:=ih λy hy=>h y (List.mem_cons_of_mem _ hy)
  have h2:=h x (List.mem_cons_self ..)
  unfold G4 at h1 ⊢
  simp only[List.map_cons,List.sum_cons,if_neg h2,h1]
  rfl
theorem Qm {l:List E0}(h:∀x∈l,0≤x.Part.sum) {x:E0}(hx:x∈l) (hp:0<x.Part.sum):0<G4 l x.At x.To:=by
 induction l with
 |nil=>cases hx
 |cons y l ih=>
  have h0:=OZ (l:=l) (λz hz=>h z (List.mem_cons_of_mem _ hz)) x.At x.To
  unfold G4 at h0 ⊢
  simp only[List.map_cons,List.sum_cons]
  rcases List.mem_cons.1 hx with rfl|hx
  ·rw[if_pos ⟨rfl,rfl⟩];omega
  ·have h1:=ih (λz hz=>h z (List.mem_cons_of_mem _ hz)) hx
   have h2:=h y (List.mem_cons_self ..)
   unfold G4 at h1
   split<;>omega
abbrev Wq (e:Ay):Int×Int:=(e.At,e.To)
theorem UR {q:List Ay}:Uw q↔(q.map Wq).Pairwise λx y=>Om x.1 x.2 y.1 y.2:=by
 unfold Uw;rw[List.pairwise_map]
theorem UQ {q:List Ay}(h:Uw q) {r:Nat}(hr:r<q.length) {e:Ay}(he:Wq e=Wq q[r]):Uw (q.set r e):=by
 rw[UR] at h ⊢
 rw[List.map_set,he,←List.getElem_map Wq (h:=by simpa using hr),List.set_getElem_self]
 exact h
theorem Ol {a t:Int}:¬Om a t a t:=by unfold Om;omega
theorem Uc {a t a' t':Int}(h:¬Om a t a' t') (hn:¬(a=a'∧t=t')):Om a' t' a t:=by unfold Om at *;omega
theorem US {q:List Ay}(h:Uw q) {i j:Nat}{x y:Ay}(hx:q[i]? =some x) (hy:q[j]? =some y) (hk:x.At=y.At∧x.To=y.To):i=j:=by
 have hp:=List.pairwise_iff_getElem.1 h
 obtain⟨l1,e1⟩:=List.getElem?_eq_some_iff.1 hx
 obtain⟨l2,e2⟩:=List.getElem?_eq_some_iff.1 hy
 rcases Nat.lt_trichotomy i j with hl|hl|hl
 ·have:=hp i j l1 l2 hl
  rw[e1,e2,hk.1,hk.2] at this
  exact absurd this Ol
 ·exact hl
 ·have:=hp j i l2 l1 hl
  rw[e1,e2,hk.1,hk.2] at this
  exact absurd this Ol
structure QI (l:List E0) (q:List Ay):Prop where
 srt:Uw q
 val:∀e∈q,e.Vol.Lo=G4 l e.At e.To∧e.Vol.Hi=G4 l e.At e.To∧0<G4 l e.At e.To
 key:∀x∈l,∃e∈q,e.At=x.At∧e.To=x.To
 bk:∀e∈q,∃x∈l,x.At=e.At∧x.To=e.To
 len:q.length≤l.length
theorem QI.nil:QI [] []:=⟨List.Pairwise.nil,λe h=>(by cases h),λe h=>(by cases h),λe h=>(by cases h),Nat.le_refl _⟩
theorem Su (N:Nat) (s:AF):F3 N s=some ⟨min s.Lo 1125899906842624,min s.Hi 1125899906842624⟩:=rfl
theorem QI.add {N:Nat}(hN:2000000<N) {l:List E0}{q:List Ay}(k:QI l q) (hl:l.length<1000) {x:E0}(hp:0<x.Part.sum) (hnn:∀y∈l,0≤y.Part.sum) (hM:(LP l).sum+x.Part.sum≤MV):∃q',H0 N q x.At x.To ⟨x.Part.sum,x.Part.sum⟩=some q'∧QI (l++[x]) q':=by
 have hql:=k.len
 have h0:=Li (l:=LP l) λy hy=>by obtain⟨z,hz,rfl⟩:=List.mem_map.1 hy;exact hnn z hz
 unfold MV at hM
 unfold H0
 rw[show decide (x.Part.sum≤0)=false by simp;omega,cond_false]
 obtain⟨r,e1,h2,h3,h4⟩:=YO hN q k.srt (by omega) (⟨x.At,x.To,⟨0,0⟩⟩:Ay)
 have e1:AY N q (⟨x.At,x.To,⟨0,0⟩⟩:Ay) (λx=>Cx N x.1 x.2)=_:=e1
 rw[e1]
 simp only[Option.bind_some]
 by_cases hf:∃y,q[r]? =some y∧y.At=x.At∧y.To=x.To
 ·obtain⟨y,hy,hk1,hk2⟩:=hf
  obtain⟨hr,hye⟩:=List.getElem?_eq_some_iff.1 hy
  rw[decide_eq_true ⟨y,hy,hk1,hk2⟩,cond_true,A9 hr,hye]
  obtain⟨v1,v2,v3⟩:=k.val y (hye▸List.getElem_mem hr)
  have hub:=Lg hnn x.At x.To
  rw[hk1,hk2] at v1 v2 v3
  simp only[Option.bind_some,Hy]
  rw[v1,v2,O9 N (by omega) (by omega) (by omega) (by omega)]
  simp only[Option.bind_some,Su]
  have hm:min (G4 l x.At x.To+x.Part.sum) 1125899906842624=G4 l x.At x.To+x.Part.sum:=by omega
  rw[hm]
  refine⟨_,rfl,?_⟩
  have hky:Wq ({ y with Vol:=⟨G4 l x.At x.To+x.Part.sum,G4 l x.At x.To+x.Part.sum⟩}:Ay)=Wq q[r]:=by rw[hye]
  have hu:upd q (r:Int) ({ y with Vol:=⟨G4 l x.At x.To+x.Part.sum,G4 l x.At x.To+x.Part.sum⟩}:Ay)=q.set r { y with Vol:=⟨G4 l x.At x.To+x.Part.sum,G4 l x.At x.To+x.Part.sum⟩}:=rfl
  rw[hu]
  have mem:∀e,e∈q.set r ({ y with Vol:=⟨G4 l x.At x.To+x.Part.sum,G4 l x.At x.To+x.Part.sum⟩}:Ay)→e=({ y with Vol:=⟨G4 l x.At x.To+x.Part.sum,G4 l x.At x.To+x.Part.sum⟩}:Ay)∨(e∈q∧¬(x.At=e.At∧x.To=e.To)):=by
   intro e he
   obtain⟨i,hi⟩:=List.mem_iff_getElem?.1 he
   by_cases hir:r=i
   ·subst hir
    rw[List.getElem?_set_self hr] at hi
    cases hi
    exact .inl rfl
   ·rw[List.getElem?_set_ne hir] at hi
    refine .inr ⟨List.mem_of_getElem? hi,λhh=>hir (US k.srt hy hi ⟨hk1.trans hh.1,hk2.trans hh.2⟩)⟩
  refine⟨UQ k.srt hr hky,λe he=>?_,λz hz=>?_,λe he=>?_,by simp only[List.length_set,List.length_append];omega⟩
  ·rw[NE]
   rcases mem e he with rfl|⟨he,hne⟩
   ·show G4 l x.At x.To+x.Part.sum=G4 l y.At y.To+(if x.At=y.At∧x.To=y.To then x.Part.sum else 0)∧G4 l x.At x.To+x.Part.sum=G4 l y.At y.To+(if x.At=y.At∧x.To=y.To then x.Part.sum else 0)∧0<G4 l y.At y.To+(if x.At=y.At∧x.To=y.To then x.Part.sum else 0)
    rw[hk1,hk2,if_pos ⟨rfl,rfl⟩]
    exact⟨rfl,rfl,by omega⟩
   ·rw[if_neg hne]
    obtain⟨w1,w2,w3⟩:=k.val e he
    omega
  ·have hz':∃e∈q,e.At=z.At∧e.To=z.To:=by
    rcases List.mem_append.1 hz with hz|hz
    ·exact k.key z hz
    ·simp only[List.mem_singleton] at hz
     subst hz
     exact⟨y,hye▸List.getElem_mem hr,hk1,hk2⟩
   obtain⟨e,he,he1,he2⟩:=hz'
   obtain⟨i,hi⟩:=List.mem_iff_getElem?.1 he
   by_cases hir:r=i
   ·subst hir
    rw[hy] at hi
    cases hi
    exact⟨_,List.mem_of_getElem? (List.getElem?_set_self hr),he1,he2⟩
   ·exact⟨e,List.mem_of_getElem? (by rw[List.getElem?_set_ne hir];exact hi),he1,he2⟩
  ·rcases mem e he with rfl|⟨he,_⟩
   ·exact⟨x,List.mem_append_right _ (List.mem_singleton.2 rfl),hk1.symm,hk2.symm⟩
   ·obtain⟨z,hz,h⟩:=k.bk e he
    exact⟨z,List.mem_append_left _ hz,h⟩
 ·rw[decide_eq_false hf,cond_false,Su]
  simp only[Option.bind_some]
  have hm:min x.Part.sum 1125899906842624=x.Part.sum:=by omega
  rw[hm]
  unfold HI Uf
  rw[if_pos ⟨by omega,by omega,rfl,by unfold room;simp;omega⟩]
  refine⟨_,rfl,?_⟩
  rw[Int.toNat_natCast]
  have none_:∀e∈q,¬(x.At=e.At∧x.To=e.To):=by
   intro e he hh
   obtain⟨i,hi⟩:=List.mem_iff_getElem?.1 he
   rcases Nat.lt_or_ge i r with hlt|hge
   ·have:=h3 i e hlt hi
    rw[hh.1,hh.2] at this
    exact Ol this
   ·rcases Nat.lt_or_ge r i with h5|h5
    ·have hil:=(List.getElem?_eq_some_iff.1 hi).1
     have h6:=List.pairwise_iff_getElem.1 k.srt r i (by omega) hil h5
     rw[(List.getElem?_eq_some_iff.1 hi).2,←hh.1,←hh.2] at h6
     exact h4 r _ (Nat.le_refl _) (List.getElem?_eq_getElem (by omega)) h6
    ·have:i=r:=by omega
     subst this
     exact hf ⟨e,hi,hh.1.symm,hh.2.symm⟩
  have z0:G4 l x.At x.To=0:=PS λz hz hh=>by
   obtain⟨e,he,he1,he2⟩:=k.key z hz
   exact none_ e he ⟨(he1.trans hh.1).symm,(he2.trans hh.2).symm⟩
  have hmem:∀e,e∈q.take r++[(⟨x.At,x.To,⟨x.Part.sum,x.Part.sum⟩⟩:Ay)]++q.drop r→e=⟨x.At,x.To,⟨x.Part.sum,x.Part.sum⟩⟩∨e∈q:=λe he=>by
   simp only[List.mem_append,List.mem_singleton] at he
   rcases he with (he|he)|he
   ·exact .inr (List.mem_of_mem_take he)
   ·exact .inl he
   ·exact .inr (List.mem_of_mem_drop he)
  have hmem2:∀e,e∈q→e∈q.take r++[(⟨x.At,x.To,⟨x.Part.sum,x.Part.sum⟩⟩:Ay)]++q.drop r:=λe he=>by
   rw[←List.take_append_drop r q] at he
   simp only[List.mem_append,List.mem_singleton] at he ⊢
   exact he.elim (λh=> .inl (.inl h)) .inr
  refine⟨?_,λe he=>?_,λz hz=>?_,λe he=>?_,by simp only[List.length_append,List.length_take,List.length_drop,List.length_singleton];omega⟩
  ·have hlt:∀e∈q.take r,Om e.At e.To x.At x.To:=λe he=>by
    obtain⟨i,hi⟩:=List.mem_iff_getElem?.1 he
    rw[List.getElem?_take] at hi
    split at hi
    ·exact h3 i e (by assumption) hi
    ·cases hi
   have hgt:∀e∈q.drop r,Om x.At x.To e.At e.To:=λe he=>by
    have hq:=List.mem_of_mem_drop he
    obtain⟨i,hi⟩:=List.mem_iff_getElem?.1 he
    rw[List.getElem?_drop] at hi
    exact Uc (h4 (r+i) e (by omega) hi) λhh=>none_ e hq ⟨hh.1.symm,hh.2.symm⟩
   unfold Uw
   rw[List.append_assoc,List.pairwise_append]
   have hs1:=k.srt
   unfold Uw at hs1
   rw[←List.take_append_drop r q,List.pairwise_append] at hs1
   refine⟨hs1.1,List.pairwise_cons.2 ⟨λe he=>hgt e he,hs1.2.1⟩,λe he e' he'=>?_⟩
   rcases List.mem_cons.1 he' with rfl|he'
   ·exact hlt e he
   ·exact hs1.2.2 e he e' he'
  ·rw[NE]
   rcases hmem e he with rfl|he
   ·simp only[and_self,if_true,z0];omega
   ·rw[if_neg (none_ e he)]
    obtain⟨w1,w2,w3⟩:=k.val e he
    omega
  ·rcases List.mem_append.1 hz with hz|hz
   ·obtain⟨e,he,h⟩:=k.key z hz
    exact⟨e,hmem2 e he,h⟩
   ·simp only[List.mem_singleton] at hz
    subst hz
    exact⟨⟨z.At,z.To,⟨z.Part.sum,z.Part.sum⟩⟩,by simp,rfl,rfl⟩
  ·rcases hmem e he with rfl|he
   ·exact⟨x,by simp,rfl,rfl⟩
   ·obtain⟨z,hz,h⟩:=k.bk e he
    exact⟨z,List.mem_append_left _ hz,h⟩
end Go.Proofs.YtibidnaedddfdaaGreat
