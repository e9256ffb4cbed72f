import Derived.Test.YtibidnaedddfdaaGreatCCore21
namespace Go.Proofs.YtibidnaedddfdaaGreat
open Go.RowKit
set_option linter.unusedVariables false
set_option linter.unusedSimpArgs false
abbrev XR:=(Nat→Prop)→AR
def XO (ops:Array Oper) (As:List Nat) (listed:Array Bool) (a:Act):Nat→Prop:=λb=>∃i d u,i∈As∧listed.getD i false=true∧C0 ops i=some d∧a.tmps[d]? =some u∧Ik u=some b
def Zs (DS:List Nat) (f:Nat→Option Value) (X:Nat→Prop):Prop:=∀s,s∈DS→∀u,f s=some u→∀b,Ik u=some b→X b
structure Wj (B:World) (h0:AX) (n:FN) (m:SM) (ops:Array Oper) (ks As:List Nat) (R:XR) (listed:Array Bool) (a:Act) (w:World):Prop where
 ex:∃h,Wd B h w∧BX h0 h∧Fr n a m∧∀i,i∉ks→listed.getD i false=true→∃d v,C0 ops i=some d∧a.tmps[d]? =some v∧R (XO ops As listed a) i v h
 dis:∀i,i∈As→∀j,j∈As→i≠j→listed.getD i false=true→listed.getD j false=true→∀d d' u u',C0 ops i=some d→C0 ops j=some d'→a.tmps[d]? =some u→a.tmps[d']? =some u'→∀b b',Ik u=some b→Ik u'=some b'→b≠b'
def Zx (R:AR) (As:List Nat) (i:Nat) (h:AX) (v:Value) (h':AX):Prop:=R i v h'∧(As.contains i=true→Oc h v)
def RA (P:Program) (ops:Array Oper) (Q:Exit→Act→World→Prop) (B:World) (n:FN) (m:SM) (h0:AX) (R:XR) (As:List Nat) (i:Nat) (o:Oper) (d:Nat) (ps:List (Nat×Nat)):Prop:=
 ∀X mt h,BX h0 h→(∀b,X b→h0.size≤b∧b<h.size)→PA (R X) h (λfr=>match o.guard with
  |none=>LF P ops (Exit.then (KS B n d (Zx (R X) As i h) h (fr++(m++mt))) Q) [o] B h n (fr++(m++mt))
  |some (g,b)=>∃dg,C0 ops g=some dg∧((lk fr dg=some (.bool b)∧LF P ops (Exit.then (KS B n d (Zx (R X) As i h) h (fr++(m++mt))) Q) [{ o with guard:=none}] B h n (fr++(m++mt)))∨∃v,lk fr dg=some v∧yb v≠some b∧R X i undef h)) ps []
section
variable {P:Program}{ops:Array Oper}{Q:Exit→Act→World→Prop}
theorem Ux {B:World}{h0:AX}{n:FN}{m:SM}{R:XR}(ks As:List Nat) (hAF:∀X i,i∈As→∀v h,R X i v h→∃b,Ik v=some b∧h0.size≤b∧b<h.size) (hAX:∀i,i∈As→∀X X' v h,R X i v h→R X' i v h) (hks:∀t,t∈ks→t<ops.size) (hnd:ks.Nodup) (hb:JD ops=true)
  (F:List Nat) (hcut:ks=[]∨OG ops ks F=true) (hch:LN ops ks) (hcl:Lz ops ks=true) (hsel:Region.noSelect ops=true) (hQ:∀c a w,¬Q (.panic c) a w)
  (hFA:∀f,f∈F→f∉As) (hF:∀f,f∈F→(f<ops.size∧f∉ks)∧Je ops f=true∧∃o d ps,ops[f]? =some o∧o.dst=some d∧Nz ops o ps=true∧∀X,Jh P ops n m h0 (R X) f o ps)
  (hown:Qo ops ks n (m.map (·.1))=true)
  (hmono:∀i v h h' X X',BX h0 h→BX h h'→(∀b,X b→X' b)→(∀b,X' b→X b∨h.size≤b)→R X i v h→R X' i v h')
  (hAk:∀i,i∈As→i∉ks) (step:∀i o d,i∉ks→ops[i]? =some o→o.dst=some d→∃ps,Nz ops o ps=true∧RA P ops Q B n m h0 R As i o d ps)
  (fin:∀a w h X,Wd B h w→BX h0 h→Fr n a m→(∀b,X b→h0.size≤b∧b<h.size)→(∀i,i<ops.size→i∉ks→∃d v,C0 ops i=some d∧a.tmps[d]? =some v∧R X i v h)→Sm (Mq ops As) (λs=>a.tmps[s]?)→Zs (Mq ops As) (λs=>a.tmps[s]?) X→wpList P ops Q (ks.filterMap λt=>ops[t]?) a w):
  ∀(fuel:Nat) (listed:Array Bool) (a:Act) (w:World),Mx listed=fuel→Mv ops ks listed→Wj B h0 n m ops ks As R listed a w→wpAny P .any ops Q fuel listed a w:=by
 intro fuel
 have mkDis:∀(listed:Array Bool) (a:Act) (w:World),Wj B h0 n m ops ks As R listed a w→(∀i,i<ops.size→i∉ks→listed.getD i false=true)→Sm (Mq ops As) (λs=>a.tmps[s]?):=by
  intro listed a w ai hl s hs s' hs' hne u u' e e'
  obtain⟨i,hi,hd⟩:=List.mem_filterMap.1 hs
  obtain⟨j,hj,hd'⟩:=List.mem_filterMap.1 hs'
  have lt:∀i d,C0 ops i=some d→i<ops.size:=λi d q1=>by
   unfold C0 at q1
   cases hoj:ops[i]? with
   |none=>rw[hoj] at q1;cases q1
   |some oj=>exact(Array.getElem?_eq_some_iff.1 hoj).1
  exact ai.dis i hi j hj (λe=>hne (by subst e;rw[hd] at hd';exact Option.some.inj hd')) (hl i (lt _ _ hd) (hAk i hi)) (hl j (lt _ _ hd') (hAk j hj)) _ _ _ _ hd hd' e e'
 have ltA:∀i d,C0 ops i=some d→i<ops.size:=λi d q1=>by
  unfold C0 at q1
  cases hoj:ops[i]? with
  |none=>rw[hoj] at q1;cases q1
  |some oj=>exact(Array.getElem?_eq_some_iff.1 hoj).1
 have mkX:∀(X:Nat→Prop) (listed:Array Bool) (a:Act) (h:AX),(∀i,i∉ks→listed.getD i false=true→∃d v,C0 ops i=some d∧a.tmps[d]? =some v∧R X i v h)→∀b,XO ops As listed a b→h0.size≤b∧b<h.size:=by
  rintro X listed a h g4 b ⟨i,d,u,hi,hl,hd,hu,hbl⟩
  obtain⟨d',v,q1,q2,q3⟩:=g4 i (hAk i hi) hl
  rw[hd] at q1
  cases q1
  rw[hu] at q2
  cases q2
  obtain⟨b',e1,e2⟩:=hAF _ i hi _ _ q3
  rw[hbl] at e1
  cases e1
  exact e2
 have mkIn:∀(listed:Array Bool) (a:Act),(∀i,i<ops.size→i∉ks→listed.getD i false=true)→Zs (Mq ops As) (λs=>a.tmps[s]?) (XO ops As listed a):=by
  intro listed a hl s hs u e b hb'
  obtain⟨i,hi,hd⟩:=List.mem_filterMap.1 hs
  exact⟨i,s,u,hi,hl i (ltA _ _ hd) (hAk i hi),hd,e,hb'⟩
 induction fuel with
 |zero=>
  intro listed a w hu inv ai
  have hall:∀i,listed.getD i true=true:=λi=>LS hu
  obtain⟨h,g1,g2,g3,g4⟩:=ai.ex
  have hX:=mkX _ _ _ _ g4
  have hall2:∀i,i<ops.size→i∉ks→listed.getD i false=true:=λi his hik=>by
   have h2:=hall i
   have:i<listed.size:=by rw[inv.size];exact his
   simpa [this] using h2
  have hf:=fin a w h _ g1 g2 g3 hX (λi his hik=>g4 i hik (hall2 i his hik)) (mkDis _ _ _ ai hall2) (mkIn _ _ hall2)
  exact Hp hb ks 0 listed a w hu inv.size (λi _ _=>hall i) (λt ht=>⟨hks t ht,inv.tail t ht⟩) hch hnd hf
 |succ fuel ih=>
  intro listed a w hu inv ai
  obtain⟨h,g1,g2,g3,g4⟩:=ai.ex
  have hX:=mkX _ _ _ _ g4
  by_cases hall:∀i,i<ops.size→i∉ks→listed.getD i true=true
  ·have hall2:∀i,i<ops.size→i∉ks→listed.getD i false=true:=λi his hik=>by
    have h2:=hall i his hik
    have:i<listed.size:=by rw[inv.size];exact his
    simpa [this] using h2
   have hf:=fin a w h _ g1 g2 g3 hX (λi his hik=>g4 i hik (hall2 i his hik)) (mkDis _ _ _ ai hall2) (mkIn _ _ hall2)
   exact Hp hb ks (fuel+1) listed a w hu inv.size hall (λt ht=>⟨hks t ht,inv.tail t ht⟩) hch hnd hf
  ·have hnot:∀j,listed.getD j false=true→j∉ks:=λj hj hjk=>by
    have:=getD_both (inv.tail j hjk)
    rw[hj] at this
    cases this
   have hpredsG:∀i o,i∈Region.ready .any ops listed→ops[i]? =some o→∀ps,Nz ops o ps=true→∀p∈ps,∃v,a.tmps[p.2]? =some v∧R (XO ops As listed a) p.1 v h:=by
    intro i o hi ho ps hps p hp
    obtain⟨hun,o',ho',hpre⟩:=mem_ready.1 hi
    have:o'=o:=Option.some.inj (ho'.symm.trans ho)
    subst this
    have h1:=List.all_eq_true.1 hps p hp
    simp only[Bool.and_eq_true] at h1
    have hj:p.1∈LH o':=by simpa using h1.1
    obtain⟨e,he,hpe⟩:=List.mem_map.1 hj
    obtain⟨he1,he2⟩:=List.mem_filter.1 he
    have he3:e∈o'.after:=by simpa using he1
    have h3:=hpre e he3 he2
    rw[hpe] at h3
    obtain⟨d',v,q1,q2,q3⟩:=g4 p.1 (hnot _ h3) h3
    have h2:=h1.2
    rw[q1] at h2
    have:p.2=d':=Nat.eq_of_beq_eq_true (by simpa using h2)
    exact⟨v,by rw[this];exact q2,q3⟩
   have nextG:∀i o d,i∉ks→i∈Region.ready .any ops listed→ops[i]? =some o→o.dst=some d→∀v w' h',Wd B h' w'→BX h h'→R (XO ops As listed a) i v h'→(i∈As→Oc h v)→wpAny P .any ops Q fuel (listed.setIfInBounds i true) (a.put (some d) v) w':=by
    intro i o d hik hi ho hod v w' h' hw' ho' hr hfr
    obtain⟨hun,oo,hoo,_⟩:=mem_ready.1 hi
    have hilt:i<ops.size:=(Array.getElem?_eq_some_iff.1 hoo).1
    have hd:C0 ops i=some d:=by unfold C0;rw[ho];exact hod
    have hown':=List.all_eq_true.1 hown i (List.mem_range.2 hilt)
    rw[hd] at hown'
    simp only[Bool.and_eq_true,Bool.not_eq_true',List.all_eq_true,List.mem_range,Bool.or_eq_true,List.contains_iff_mem,hik,false_or] at hown'
    obtain⟨⟨hdn,hdm⟩,hdj⟩:=hown'
    have hdn1:d+1≤n.1:=by simpa [Nat.blt] using hdn
    have hdn':d<n.1:=hdn1
    have putd:(a.put (some d) v).tmps[d]? =some v:=by
     simp only[Act.put,Array.getElem?_setIfInBounds]
     have:=g3.siz
     simp [this,hdn']
    have putj:∀j dj,C0 ops j=some dj→j≠i→j∉ks→(a.put (some d) v).tmps[dj]? =a.tmps[dj]? :=by
     intro j dj q1 e hj
     have hjs:j<ops.size:=by
      unfold C0 at q1
      cases hoj:ops[j]? with
      |none=>rw[hoj] at q1;cases q1
      |some oj=>exact(Array.getElem?_eq_some_iff.1 hoj).1
     have h1:=hdj j hjs
     rw[q1] at h1
     have hne:d≠dj:=by
      rcases h1 with (h1|h1)|h1
      ·exact absurd h1 hj
      ·exact absurd (Nat.eq_of_beq_eq_true h1).symm e
      ·intro e'
       subst e'
       simp at h1
     simp only[Act.put,Array.getElem?_setIfInBounds]
     rw[if_neg hne]
    have oldF:∀j,j∈As→j≠i→(listed.setIfInBounds i true).getD j false=true→i∈As→∀dj u,C0 ops j=some dj→(a.put (some d) v).tmps[dj]? =some u→∀b b',Ik v=some b→Ik u=some b'→b≠b':=by
     intro j hj e hl hiA dj u q1 q2 b1 b2 z1 z2
     rw[getD_set_ne false (λx=>e x.symm)] at hl
     rw[putj j dj q1 e (hAk j hj)] at q2
     obtain⟨dj',vj,p1,p2,p3⟩:=g4 j (hAk j hj) hl
     rw[q1] at p1
     cases p1
     rw[q2] at p2
     cases p2
     obtain⟨b,e1,_,e2⟩:=hAF _ j hj _ _ p3
     obtain⟨b',e3,e4⟩:=hfr hiA
     rw[z1] at e3
     rw[z2] at e1
     cases e3
     cases e1
     omega
    have unI:∀j,listed.getD j false=true→j≠i:=λj hl e=>by
     subst e
     rw[getD_both hun] at hl
     cases hl
    have up:∀b,XO ops As listed a b→XO ops As (listed.setIfInBounds i true) (a.put (some d) v) b:=by
     rintro b ⟨i',d',u,hi',hl',hd',hu',hbl⟩
     exact⟨i',d',u,hi',by rw[getD_set_ne false (λx=>unI i' hl' x.symm)];exact hl',hd',by rw[putj i' d' hd' (unI i' hl') (hAk i' hi')];exact hu',hbl⟩
    have down:∀b,XO ops As (listed.setIfInBounds i true) (a.put (some d) v) b→XO ops As listed a b∨(i∈As∧h.size≤b):=by
     rintro b ⟨i',d',u,hi',hl',hd',hu',hbl⟩
     by_cases e:i'=i
     ·subst e
      rw[hd] at hd'
      cases hd'
      rw[putd] at hu'
      cases hu'
      obtain⟨b',e1,e2⟩:=hfr hi'
      rw[hbl] at e1
      cases e1
      exact .inr ⟨hi',e2⟩
     ·rw[getD_set_ne false (λx=>e x.symm)] at hl'
      rw[putj i' d' hd' e (hAk i' hi')] at hu'
      exact .inl ⟨i',d',u,hi',hl',hd',hu',hbl⟩
    have hr':R (XO ops As (listed.setIfInBounds i true) (a.put (some d) v)) i v h':=by
     by_cases hiA:i∈As
     ·exact hAX i hiA _ _ _ _ hr
     ·exact hmono _ _ _ _ _ _ (g2.trans ho') (BX.refl h') up (λb hb'=>(down b hb').imp_right λx=>absurd x.1 hiA) hr
    refine ih _ _ _ (by have:=Il hun;omega) (inv.set hi hik) ⟨⟨h',hw',g2.trans ho',?_,λj hj hl=>?_⟩,λi1 hi1 j1 hj1 hne1 hl1 hl2 d1 d2 u1 u2 q1 q2 q3 q4=>?_⟩
    rotate_left 2
    ·by_cases e:i1=i
     ·subst e
      rw[hd] at q1
      cases q1
      rw[putd] at q3
      cases q3
      exact oldF j1 hj1 (λe=>hne1 e.symm) hl2 hi1 d2 u2 q2 q4
     ·by_cases e':j1=i
      ·subst e'
       rw[hd] at q2
       cases q2
       rw[putd] at q4
       cases q4
       exact λb b' z1 z2 e2=>oldF i1 hi1 e hl1 hj1 d1 u1 q1 q3 b' b z2 z1 e2.symm
      ·rw[putj i1 d1 q1 e (hAk i1 hi1)] at q3
       rw[putj j1 d2 q2 e' (hAk j1 hj1)] at q4
       rw[getD_set_ne false (λx=>e x.symm)] at hl1
       rw[getD_set_ne false (λx=>e' x.symm)] at hl2
       exact ai.dis i1 hi1 j1 hj1 hne1 hl1 hl2 d1 d2 u1 u2 q1 q2 q3 q4
    ·have hp:=g3.put hdn v
     refine⟨hp.dfr,hp.siz,λi' u hi'=>hp.at_ i' u ?_⟩
     have hne:Nat.beq d i'=false:=by
      cases hb':Nat.beq d i' with
      |false=>rfl
      |true=>
       have:=Nat.eq_of_beq_eq_true hb'
       subst this
       have h1:=Ox hi'
       rw[←List.contains_iff_mem] at h1
       rw[h1] at hdm
       cases hdm
     simp only[lk,hne,cond_false]
     exact hi'
    ·by_cases e:i=j
     ·subst e
      refine⟨d,v,hd,?_,hr'⟩
      simp only[Act.put,Array.getElem?_setIfInBounds]
      have:=g3.siz
      simp [this,hdn']
     ·rw[getD_set_ne false e] at hl
      obtain⟨dj,vj,q1,q2,q3⟩:=g4 j hj hl
      refine⟨dj,vj,q1,?_,hmono _ _ _ _ _ _ g2 ho' up (λb hb'=>(down b hb').imp_right (·.2)) q3⟩
      have hjs:j<ops.size:=by
       unfold C0 at q1
       cases hoj:ops[j]? with
       |none=>rw[hoj] at q1;cases q1
       |some oj=>exact(Array.getElem?_eq_some_iff.1 hoj).1
      have h1:=hdj j hjs
      rw[q1] at h1
      have hne:d≠dj:=by
       rcases h1 with (h1|h1)|h1
       ·exact absurd h1 hj
       ·exact absurd (Nat.eq_of_beq_eq_true h1) e
       ·intro e'
        subst e'
        simp at h1
      simp only[Act.put,Array.getElem?_setIfInBounds]
      rw[if_neg hne]
      exact q2
   by_cases hfl:∃f,f∈F∧f∈Region.ready .any ops listed
   ·obtain⟨f,hf1,hf2⟩:=hfl
    obtain⟨hfk,hfree,o,d,ps,ho,hod,hps,hst⟩:=hF f hf1
    obtain⟨fr,hK,hfr⟩:=G5 (a:=a) (n:=n) _ _ (hst (XO ops As listed a) (EQ a) h g2) (hpredsG f o hf2 ho ps hps) ⟨g3.dfr,g3.siz,λi v hi=>by simp [lk] at hi⟩
    obtain⟨v,hy,hr⟩:=hK a (hfr.append (g3.append g3.full))
    refine wpAny_first ho (Region.noSelect_spec hsel) (λc a w hq=>absurd hq (hQ c _ w)) fuel listed a w (λj oj hj hne hunj hno=>?_) hf2 hy ?_
    ·have h1:=List.all_eq_true.1 hfree j (List.mem_range.2 (Array.getElem?_eq_some_iff.1 hj).1)
     simp only[ho,hj,Bool.or_eq_true,beq_iff_eq,hne,false_or] at h1
     rcases h1 with h1|h1
     ·obtain⟨oj',hoj',e,he,hb',hon⟩:=Region.waitsFor_spec h1
      have:oj'=oj:=Option.some.inj (hoj'.symm.trans hj)
      subst this
      exact absurd hon (hno e he hb')
     ·rcases h1 with h1|h1
      ·obtain⟨of',hof',e,he,hb',hon⟩:=Region.waitsFor_spec h1
       obtain⟨_,of2,hof2,hall2⟩:=mem_ready.1 hf2
       have:of'=of2:=Option.some.inj (hof'.symm.trans hof2)
       subst this
       have h5:=hall2 e he hb'
       rw[hon,getD_both hunj] at h5
       cases h5
      ·exact h1
    ·rw[hod]
     exact nextG f o d hfk.2 hf2 ho hod v w h g1 (BX.refl h) hr (λhA=>absurd hA (hFA f hf1))
   have hkk:∃k0,k0<ops.size∧k0∉ks∧listed.getD k0 true=false∧k0∉F:=by
    obtain⟨k1,hk1s,hk1,hu1⟩:∃k1,k1<ops.size∧k1∉ks∧listed.getD k1 true=false:=by
     apply Classical.byContradiction
     intro hno
     refine hall λi his hik=>?_
     cases hl:listed.getD i true with
     |true=>rfl
     |false=>exact absurd ⟨i,his,hik,hl⟩ hno
    obtain⟨i0,q1,q2,q3⟩:=ID (p:=λi=>listed.getD i true||ks.contains i) k1 (by simp [hu1,hk1])
    simp only[Bool.or_eq_false_iff] at q2
    have hi0s:i0<ops.size:=by omega
    have hi0k:i0∉ks:=λh=>by rw[List.contains_iff_mem.2 h] at q2;cases q2.2
    refine⟨i0,hi0s,hi0k,q2.1,λhf=>hfl ⟨i0,hf,mem_ready.2 ⟨q2.1,ops[i0],by simp [hi0s],λe he hbi=>?_⟩⟩⟩
    have h4:=List.all_eq_true.1 hb i0 (List.mem_range.2 hi0s)
    have h5:ops[i0]? =some ops[i0]:=by simp [hi0s]
    rw[h5] at h4
    simp only[Option.map_some,Option.getD_some,Array.all_eq_true_iff_forall_mem] at h4
    have h6:=h4 e he
    simp only[hbi,Bool.not_true,Bool.false_or,decide_eq_true_eq] at h6
    have h7:=q3 e.on h6
    have h9:=List.all_eq_true.1 hcl i0 (List.mem_range.2 hi0s)
    simp only[Bool.or_eq_true,List.contains_iff_mem,hi0k,false_or,h5,Option.map_some,Option.getD_some,Array.all_eq_true_iff_forall_mem] at h9
    have h10:=h9 e he
    simp only[hbi,Bool.not_true,Bool.false_or,Bool.not_eq_true'] at h10
    rcases h10 with h10|h10
    ·cases h10
    rw[h10,Bool.or_false] at h7
    have h8:e.on<listed.size:=by rw[inv.size];omega
    simp only[Array.getD_eq_getD_getElem?,Array.getElem?_eq_getElem h8,Option.getD_some] at h7 ⊢
    exact h7
   have ⟨k0',hk0s',hk0',hu0',_⟩:=hkk
   obtain⟨i0,_,hi0,_⟩:=GT hb inv.size hk0s' hu0'
   refine⟨λh0=>absurd (h0▸hi0) (by simp),λi hi=>?_⟩
   obtain⟨hun,o,ho,hpre⟩:=mem_ready.1 hi
   have hilt:i<ops.size:=(Array.getElem?_eq_some_iff.1 ho).1
   have hik:i∉ks:=λhik=>by
    rcases hcut with hc|hc
    ·rw[hc] at hik;cases hik
    ·obtain⟨k0,q1,q2,q3,q4⟩:=hkk
     exact MX hc hch inv _ k0 rfl q1 q2 q4 (getD_in (by rw[inv.size];exact q1) (by
      cases hl:listed.getD k0 false with
      |false=>rfl
      |true=>rw[getD_both q3] at hl;cases hl)) i hik hi
   have hown':=List.all_eq_true.1 hown i (List.mem_range.2 hilt)
   cases hd:C0 ops i with
   |none=>rw[hd] at hown';simp only[List.contains_iff_mem,hik,Bool.or_eq_true,false_or] at hown';cases hown'
   |some d=>
   rw[hd] at hown'
   simp only[Bool.and_eq_true,Bool.not_eq_true',List.all_eq_true,List.mem_range,Bool.or_eq_true,List.contains_iff_mem,hik,false_or] at hown'
   obtain⟨⟨hdn,hdm⟩,hdj⟩:=hown'
   have hdn1:d+1≤n.1:=by simpa [Nat.blt] using hdn
   have hdn':d<n.1:=hdn1
   have hod:o.dst=some d:=by unfold C0 at hd;rw[ho] at hd;exact hd
   obtain⟨ps,hps,hstep⟩:=step i o d hik ho hod
   have hpreds2:=hpredsG i o hi ho ps hps
   obtain⟨fr,hK,hfr⟩:=G5 (a:=a) (n:=n) _ _ (hstep (XO ops As listed a) (EQ a) h g2 hX) hpreds2 ⟨g3.dfr,g3.siz,λi v hi=>by simp [lk] at hi⟩
   have hfull:Fr n a (fr++(m++EQ a)):=hfr.append (g3.append g3.full)
   have hlk:∀i u,a.tmps[i]? =some u→lk (fr++(m++EQ a)) i=some u:=by
    intro i u hu
    have hl:lk (EQ a) i=some u:=by
     have:i<a.tmps.size:=(Array.getElem?_eq_some_iff.1 hu).1
     rw[KX this]
     simp [Array.getD_eq_getD_getElem?,hu]
    have hex:∃u',lk (fr++(m++EQ a)) i=some u':=by
     rw[Fh,Fh,hl]
     cases lk fr i with
     |some x=>exact⟨x,by simp⟩
     |none=>cases lk m i with
      |some x=>exact⟨x,by simp⟩
      |none=>exact⟨u,by simp⟩
    obtain⟨u',hu'⟩:=hex
    have:=hfull.at_ i u' hu'
    rw[hu] at this
    rw[hu',←Option.some.inj this]
   have next:=nextG i o d hik hi ho hod
   have conv:∀a' w',KS B n d (Zx (R (XO ops As listed a)) As i h) h (fr++(m++EQ a)) a' w'→wpAny P .any ops Q fuel (listed.setIfInBounds i true) a' w':=by
    rintro a' w' ⟨v,h',f1,f2,f3,f4⟩
    have:=Fr.same hdn' hfull f1 λi u hi hu=>by
     have hne:Nat.beq d i=false:=by
      cases hb':Nat.beq d i with
      |false=>rfl
      |true=>exact absurd (Nat.eq_of_beq_eq_true hb').symm hi
     simp only[lk,hne,cond_false]
     exact hlk i u hu
    subst this
    exact next v w' h' f2 f3 f4.1 (λhA=>f4.2 (List.contains_iff_mem.2 hA))
   unfold wpOp
   simp only[ho]
   cases hg:o.guard with
   |none=>
    rw[hg] at hK
    rw[if_pos (by simp [Region.wanted,hg])]
    exact(F3 hg (hK a w hfull g1)).imp (Oper.wp_mono conv) id
   |some gb=>
    obtain⟨g,b⟩:=gb
    rw[hg] at hK
    obtain⟨dg,q1,hK⟩:=hK
    rcases hK with ⟨k1,k2⟩|⟨v,k1,k2,k3⟩
    ·have hy:yielded ops a.tmps g=some b:=Hn hfr q1 k1
     rw[if_pos (by simp [Region.wanted,hg,hy])]
     exact(JI (F3 rfl (k2 a w hfull g1))).imp (Oper.wp_mono conv) id
    ·have hy:yielded ops a.tmps g≠some b:=by rw[Hn hfr q1 k1];exact k2
     rw[if_neg (by simp [Region.wanted,hg,hy]),hod]
     exact next undef w h g1 (BX.refl h) k3 (λhA=>by obtain⟨b,e,_⟩:=hAF _ i hA _ _ k3;cases e)
end
def K6 (P:Program) (ops:Array Oper) (ks:List Nat) (n:FN) (m:SM) (h0:AX) (R:XR):List Nat→Prop
 |[]=>True
 |f::F=>((f<ops.size∧f∉ks)∧Je ops f=true∧∃o d ps,ops[f]? =some o∧o.dst=some d∧Nz ops o ps=true∧∀X,Jh P ops n m h0 (R X) f o ps)∧K6 P ops ks n m h0 R F
theorem K6.at_ {P:Program}{ops:Array Oper}{ks:List Nat}{n:FN}{m:SM}{h0:AX}{R:XR}:∀{F:List Nat},K6 P ops ks n m h0 R F→∀f,f∈F→(f<ops.size∧f∉ks)∧Je ops f=true∧∃o d ps,ops[f]? =some o∧o.dst=some d∧Nz ops o ps=true∧∀X,Jh P ops n m h0 (R X) f o ps
 |[],_,f,hf=>by cases hf
 |g::F,⟨h1,h2⟩,f,hf=>by
  rcases List.mem_cons.1 hf with rfl|hf
  ·exact h1
  ·exact K6.at_ h2 f hf
theorem K6.cons {P:Program}{ops:Array Oper}{ks:List Nat}{n:FN}{m:SM}{h0:AX}{R:XR}{f d:Nat}{o:Oper}{F:List Nat}(ps:List (Nat×Nat)) (h1:(Nat.blt f ops.size&& !ks.contains f&&Je ops f)=true) (ho:ops[f]? =some o) (hd:o.dst=some d) (hps:Nz ops o ps=true) (hs:∀X,Jh P ops n m h0 (R X) f o ps) (t:K6 P ops ks n m h0 R F):K6 P ops ks n m h0 R (f::F):=by
 simp only[Bool.and_eq_true,Bool.not_eq_true'] at h1
 exact⟨⟨⟨(by simpa [Nat.blt] using h1.1.1:f+1≤ops.size),λh=>by rw[List.contains_iff_mem.2 h] at h1;cases h1.1.2⟩,h1.2,o,d,ps,ho,hd,hps,hs⟩,t⟩
def ER (P:Program) (ops:Array Oper) (Q:Exit→Act→World→Prop) (B:World) (n:FN) (m:SM) (h0:AX) (R:XR) (ks As:List Nat):Nat→List Oper→List (List (Nat×Nat))→Prop
 |i,o::l,ps::pss=>(i∈ks∨match o.dst with|some d=>RA P ops Q B n m h0 R As i o d ps|none=>False)∧ER P ops Q B n m h0 R ks As (i+1) l pss
 |_,_,_=>True
section
variable {P:Program}{ops:Array Oper}{Q:Exit→Act→World→Prop}{B:World}{n:FN}{m:SM}{h0:AX}{R:XR}{ks As:List Nat}
theorem ER.at_:∀{l:List Oper}{pss:List (List (Nat×Nat))}{k i:Nat}{o:Oper}{d:Nat},ER P ops Q B n m h0 R ks As k l pss→l.length=pss.length→k+i∉ks→l[i]? =some o→o.dst=some d→∃ps,pss[i]? =some ps∧RA P ops Q B n m h0 R As (k+i) o d ps
 |[],_,_,_,_,_,_,_,_,h,_=>by simp at h
 |_::_,[],_,_,_,_,_,hb,_,_,_=>by simp at hb
 |o'::l,ps::pss,k,0,o,d,hs,hb,hk,ho,hd=>by
  simp only[List.getElem?_cons_zero,Option.some.injEq] at ho
  subst ho
  simp only[ER,hd] at hs
  exact⟨ps,rfl,hs.1.resolve_left hk⟩
 |o'::l,ps::pss,k,i+1,o,d,hs,hb,hk,ho,hd=>by
  simp only[List.getElem?_cons_succ] at ho
  obtain⟨q,q1,q2⟩:=ER.at_ (l:=l) (pss:=pss) (k:=k+1) (i:=i) hs.2 (by simpa using hb) (by rw[show k+1+i=k+(i+1) by omega];exact hk) ho hd
  rw[show k+(i+1)=k+1+i by omega]
  exact⟨q,by simpa using q1,q2⟩
theorem ER.cons {i:Nat}{o:Oper}{l:List Oper}{ps:List (Nat×Nat)}{pss:List (List (Nat×Nat))}{d:Nat}(hd:o.dst=some d) (hA:As.contains i=false) (hg:o.guard=none)
  (h:∀X mt h,BX h0 h→(∀b,X b→h0.size≤b∧b<h.size)→PA (R X) h (λfr=>LF P ops (Exit.then (KS B n d (R X i) h (fr++(m++mt))) Q) [o] B h n (fr++(m++mt))) ps []) (t:ER P ops Q B n m h0 R ks As (i+1) l pss):ER P ops Q B n m h0 R ks As i (o::l) (ps::pss):=by
 simp only[ER,hd]
 refine⟨.inr λX mt h1 o1 hX=>PA.imp (λfr k=>?_) _ _ (h X mt h1 o1 hX),t⟩
 rw[hg]
 refine λa w hf hw=>Eu (λe a w q=>?_) _ a w (k a w hf hw)
 cases e<;>first|exact q|skip
 obtain⟨v,h2,q1,q2,q3,q4⟩:=q
 exact⟨v,h2,q1,q2,q3,q4,λh=>by rw[hA] at h;cases h⟩
theorem ER.al {i:Nat}{l:List Oper}{pss:List (List (Nat×Nat))}{d T:Nat}{cs:List Value}{ty:TypeId}{pos:String}{af:Array Edge}(hR:∀X,R X i=Od h0 T cs) (hz:Cs P T=some cs) (hd:Nat.blt d n.1=true) (t:ER P ops Q B n m h0 R ks As (i+1) l pss):ER P ops Q B n m h0 R ks As i (⟨some d,.alloc T,ty,pos,af,none⟩::l) ([]::pss):=by
 refine⟨.inr ?_,t⟩
 intro X mt h ho _
 show LF P ops (Exit.then (KS B n d (Zx (R X) As i h) h _) Q) _ B h n _
 refine Nt (BX.refl h) hz hd λv h' o' r'=>AM o' ?_
 obtain⟨b,e,q1,q2,q3⟩:=r'
 have hr:R X i v h':=by rw[hR];exact⟨b,e,Nat.le_trans ho.siz q1,q2,q3⟩
 exact⟨hr,λ_=>⟨b,by rw[e];rfl,q1⟩⟩
theorem ER.skip {i:Nat}{o:Oper}{l:List Oper}{ps:List (Nat×Nat)}{pss:List (List (Nat×Nat))}(h:ks.contains i=true) (t:ER P ops Q B n m h0 R ks As (i+1) l pss):ER P ops Q B n m h0 R ks As i (o::l) (ps::pss):=
 ⟨.inl (List.contains_iff_mem.1 h),t⟩
end
def WI (h0:AX) (R:XR) (i:Nat):Prop:=∃r,(∀X,R X i=r)∧∀v h,r v h→∃b,Ik v=some b∧h0.size≤b∧b<h.size
theorem V3 {h0:AX}{R:XR}:∀i,i∈([]:List Nat)→WI h0 R i:=λi hi=>by cases hi
theorem Uz {R:XR}{h:AX}{a T:Nat}{cs:List Value}{l:List Nat}(e:∀X,R X a=Od h T cs) (t:∀i,i∈l→WI h R i):∀i,i∈a::l→WI h R i:=λi hi=>by
 rcases List.mem_cons.1 hi with rfl|hi
 ·exact⟨_,e,λv h' ⟨b,e1,e0,e2,_⟩=>⟨b,by rw[e1];rfl,e0,e2⟩⟩
 ·exact t i hi
section
variable {P:Program}{ex:List (Nat×AP)}{RR N:AP}{cs:List Code}{B:World}{h:AX}{n:FN}{m m0:SM}{S:Nat→Prop}{L:List HP}
theorem V7 {l:List Oper}{id:Nat}(ks F As:List Nat) (R:XR) (pss:List (List (Nat×Nat))) (fs:List (Nat×Nat)) {ls:List Oper}(hm:P.follows .mixedOrders=true) (hc:UY l.toArray ks F=true) (ms:List Nat) (hms:m.map (·.1)=ms) (hown:Qo l.toArray ks n ms=true)
  (hps:N3 l.toArray ks l pss=true) (hfs:(fs.all λp=>Nat.blt p.1 l.length&& !ks.contains p.1&&(C0 l.toArray p.1).any (Nat.beq p.2 ·))=true) (hls:(ks.filterMap λt=>l[t]?)=ls) (hsub:PJ m0 m)
  (hmono:∀i v h1 h2 X X',BX h h1→BX h1 h2→(∀b,X b→X' b)→(∀b,X' b→X b∨h1.size≤b)→R X i v h1→R X' i v h2)
  (hAs:(As.all λi=> !ks.contains i&& !F.contains i)=true) (hAl:∀i,i∈As→WI h R i)
  (hF:K6 P l.toArray ks n m h R F)
  (step:ER P l.toArray (Qx ex RR (W P ex RR cs N)) B n m h R ks As 0 l pss)
  (fin:∀h' X,BX h h'→(∀b,X b→h.size≤b∧b<h'.size)→PA (R X) h' (λfr=>Sm (Mq l.toArray As) (lk fr)→Zs (Mq l.toArray As) (lk fr) X→LF P l.toArray (Qx ex RR (W P ex RR cs N)) ls B h' n (fr++m)) fs []):WF P ex RR (.region id l.toArray true::cs) N B h n m0:=by
 intro a w hf hw
 subst hms
 simp only[UY,Bool.and_eq_true,Bool.or_eq_true,decide_eq_true_eq] at hc
 obtain⟨⟨⟨⟨⟨⟨h1,h2⟩,h3⟩,h4⟩,h5⟩,h6⟩,h7⟩:=hc
 simp only[N3,Bool.and_eq_true] at hps
 have hlen:l.length=pss.length:=Nat.eq_of_beq_eq_true hps.1
 have hAs':∀i,i∈As→i∉ks∧i∉F:=λi hi=>by
  have:=List.all_eq_true.1 hAs i hi
  simp only[Bool.and_eq_true,Bool.not_eq_true'] at this
  exact⟨λh=>(by rw[List.contains_iff_mem.2 h] at this;cases this.1),λh=>(by rw[List.contains_iff_mem.2 h] at this;cases this.2)⟩
 refine λrd hrd=>LG hrd Iz hm (Ux (R:=R) (B:=B) (h0:=h) (n:=n) (m:=m) ks As (λX i hi v h' hr=>by obtain⟨r,e1,e2⟩:=hAl i hi;rw[e1] at hr;exact e2 v h' hr) (λi hi X X' v h' hr=>by obtain⟨r,e1,_⟩:=hAl i hi;rw[e1] at hr ⊢;exact hr) (λt ht=>by have:=List.all_eq_true.1 h1 t ht;simp [Nat.blt] at this ⊢;omega) h2 h6 F (h3.imp (λe=>by cases ks with|nil=>rfl|cons _ _=>simp at e) λx=>x) (JB h4) h5 h7 (λc a w hq=>hq) (λf hf hA=>(hAs' f hA).2 hf) (λf hf=>hF.at_ f hf) hown hmono (λi hi=>(hAs' i hi).1) (λi o d hi ho hd=>?_) (λa w h' X g1 g2 g3 gX g4 g5 g6=>?_) _ _ _ _ ?_ ⟨by simp,λj oj _ hl=>(by rw[getD_replicate_false] at hl;cases hl),λt ht=>getD_in (by have:=List.all_eq_true.1 h1 t ht;simp [Nat.blt] at this ⊢;omega) (getD_replicate_false _ _)⟩ ⟨⟨h,hw.drew,BX.refl h,hf.sub hsub,λi _ hl=>(by rw[getD_replicate_false] at hl;cases hl)⟩,λi _ j _ _ hl=>(by rw[getD_replicate_false] at hl;cases hl)⟩)
 ·have ho':l[i]? =some o:=by simpa using ho
  obtain⟨ps,q1,q2⟩:=ER.at_ (k:=0) step hlen (by rw[Nat.zero_add];exact hi) ho' hd
  rw[Nat.zero_add] at q2
  refine⟨ps,?_,q2⟩
  have hil:i<l.length:=(List.getElem?_eq_some_iff.1 ho').1
  have hz:((o,ps),i)∈(l.zip pss).zipIdx:=by
   rw[List.mem_iff_getElem?]
   exact⟨i,by rw[List.getElem?_zipIdx,(List.getElem?_zip_eq_some (z:=(o,ps))).2 ⟨ho',q1⟩];simp⟩
  have:=List.all_eq_true.1 hps.2 _ hz
  simp only[Bool.or_eq_true,List.contains_iff_mem,hi,false_or] at this
  exact this
 ·obtain⟨fr,k1,k2⟩:=G5 (a:=a) (n:=n) _ _ (fin h' X g2 gX) (λp hp=>by
   have e:=List.all_eq_true.1 hfs p hp
   simp only[Bool.and_eq_true,Bool.not_eq_true'] at e
   have e1:p.1<l.toArray.size:=by have:=e.1.1;simp [Nat.blt] at this ⊢;omega
   obtain⟨d,v,q1,q2,q3⟩:=g4 p.1 e1 (λh=>by rw[List.contains_iff_mem.2 h] at e;cases e.1.2)
   have e2:=e.2
   rw[q1] at e2
   have:p.2=d:=Nat.eq_of_beq_eq_true (by simpa using e2)
   exact⟨v,by rw[this];exact q2,q3⟩) ⟨g3.dfr,g3.siz,λi v hi=>by simp [lk] at hi⟩
  have hls':(ks.filterMap λt=>l.toArray[t]?)=ls:=by rw[←hls];congr 1;funext t;simp
  rw[hls']
  exact k1 (λs hs s' hs' hne u u' e e'=>g5 s hs s' hs' hne u u' (k2.at_ _ _ e) (k2.at_ _ _ e')) (λs hs u e=>g6 s hs u (k2.at_ _ _ e)) a w (k2.append g3) g1
 ·unfold Mx
  rw[Array.toList_replicate]
  simp
end
def SX (S:Nat→Prop) (h0 h:AX) (X:Nat→Prop):Nat→Prop:=λb=>SN S h0 h b∧¬X b
theorem SX.mono {S:Nat→Prop}{h0 h h':AX}{X X':Nat→Prop}(hS:∀b,S b→b<h0.size) (o1:BX h0 h) (o2:BX h h') (u:∀b,X b→X' b) (dn:∀b,X' b→X b∨h.size≤b):Bc (SX S h0 h X) h (SX S h0 h' X') h':=by
 have e:=SN.mono hS o1 o2
 refine⟨λb hb=>⟨e.sub b hb.1,λhx=>?_⟩,λb hb=>e.same b hb.1,e.siz⟩
 rcases dn b hx with h1|h1
 ·exact hb.2 h1
 ·have:b<h.size:=hb.1.elim (λx=>Nat.lt_of_lt_of_le (hS b x) o1.siz) (·.2)
  omega
theorem SX.lt {S:Nat→Prop}{h0 h:AX}{X:Nat→Prop}(hS:∀b,S b→b<h0.size) (o:BX h0 h):∀b,SX S h0 h X b→b<h.size:=λb hb=>hb.1.elim (λx=>Nat.lt_of_lt_of_le (hS b x) o.siz) (·.2)
theorem MU {S:Nat→Prop}{L:List HP}{h0 h:AX}{X:Nat→Prop}(hs:St S L h0) (o:BX h0 h):St (SX S h0 h X) [] h:=⟨SX.lt hs.1 o,trivial⟩
theorem SX.ext {S:Nat→Prop}{h0 h:AX}{X:Nat→Prop}(hS:∀b,S b→b<h0.size) (o:BX h0 h) (hX:∀b,X b→h0.size≤b∧b<h.size):Bc S h0 (SX S h0 h X) h:=
 ⟨λb x=>⟨.inl x,λhx=>by have:=hS b x;have:=(hX b hx).1;omega⟩,λb hb=>o.same b (hS b hb),o.siz⟩
theorem SX.done {S S2:Nat→Prop}{h0 h h2:AX}{X:Nat→Prop}(o:BX h0 h) (hX:∀b,X b→h0.size≤b∧b<h.size) (e:Bc (SX S h0 h X) h S2 h2) (hs:St S2 [aN (SX S h0 h X) h] h2):BX h h2∧Bc S2 h2 (SX S h0 h2 X) h2:=by
 obtain⟨F,⟨k1,k2⟩,k3,_⟩:=hs.2
 refine⟨⟨e.siz,λb hb=>?_⟩,λb hb=>?_,λ_ _=>rfl,Nat.le_refl _⟩
 ·rcases Classical.em (SX S h0 h X b) with g|g
  ·exact e.same b g
  ·exact k2 b ⟨hb,g⟩
 ·rcases Nat.lt_or_ge b h.size with g|g
  ·rcases Classical.em (SX S h0 h X b) with g2|g2
   ·exact⟨g2.1.imp_right λx=>⟨x.1,hs.1 b hb⟩,g2.2⟩
   ·exact absurd hb (k3 b ((k1 b).2 ⟨g,g2⟩)).2
  ·exact⟨.inr ⟨Nat.le_trans o.siz g,hs.1 b hb⟩,λhx=>by have:=(hX b hx).2;omega⟩
def WL (S X:Nat→Prop) (h h2:AX) (bs:List Nat) (L:List HP):Prop:=(∀b,S b→b<h.size)∧BX h h2∧(∀b,b∈bs→(h.size≤b∧b<h2.size)∧X b)∧Sp (SX S h h2 X) L h2 (λb=>(b<h.size∧¬S b)∨b∈bs)
theorem WL.nil {S X:Nat→Prop}{L:List HP}{h h2:AX}(hs:St S L h) (o:BX h h2) (hX:∀b,X b→h.size≤b∧b<h2.size):WL S X h h2 [] L:=
 ⟨hs.1,o,λb hb=>(by cases hb),Sp.ext hs.2 (λb x=>(SX.ext hs.1 o hX).sub b x) (λc hc=>o.same c (hc.elim (hs.1 c) (·.1))) λc hc=> .inl hc⟩
theorem WL.cons {S X:Nat→Prop}{L:List HP}{h h2:AX}{bs:List Nat}{b T:Nat}{cs:List Value}(k:WL S X h h2 bs L) (h1:h.size≤b) (h3:b<h2.size) (h4:h2[b]? =some (.cells cs.toArray T (0,0))) (hn:b∉bs) (hx:X b):WL S X h h2 (b::bs) (Bx b T cs::L):=by
 obtain⟨k1,k2,k3,k4⟩:=k
 refine⟨k1,k2,λc hc=>?_,λc=>c=b,⟨λ_=>Iff.rfl,h4⟩,λc hc=>by subst hc;exact .inr (List.mem_cons_self ..),k4.mono λc hc=>⟨hc.imp_right (List.mem_cons_of_mem _),λe=>?_⟩⟩
 ·rcases List.mem_cons.1 hc with rfl|hc
  ·exact⟨⟨h1,h3⟩,hx⟩
  ·exact k3 c hc
 ·subst e
  rcases hc with hc|hc
  ·have:=hc.1;omega
  ·exact hn hc
theorem WL.st {S X:Nat→Prop}{L:List HP}{h h2:AX}{bs:List Nat}(k:WL S X h h2 bs L):St (SX S h h2 X) L h2:=by
 obtain⟨k1,k2,k3,k4⟩:=k
 refine⟨SX.lt k1 k2,k4.mono λc hc=>?_⟩
 rcases hc with hc|hc
 ·exact⟨Nat.lt_of_lt_of_le hc.1 k2.siz,λhS=>hS.1.elim hc.2 λx=>by omega⟩
 ·exact⟨(k3 c hc).1.2,λhS=>hS.2 (k3 c hc).2⟩
theorem Zs.at_ {DS:List Nat}{f:Nat→Option Value}{X:Nat→Prop}(k:Zs DS f X) {s b:Nat}{u:Value}(h:DS.contains s=true) (e:f s=some u) (z:Ik u=some b):X b:=k s (List.contains_iff_mem.1 h) u e b z
end Go.Proofs.YtibidnaedddfdaaGreat
