import Derived.Test.YtblcgjadhemlbaaGreatUCore26
namespace Go.Proofs.YtblcgjadhemlbaaGreat
open Go.RowKit
set_option linter.unusedVariables false
set_option linter.unusedSimpArgs false
abbrev FR:=(Nat→Value)→(Nat→Prop)→(Nat→Prop)→AR
def cM (R:FR) (gv:Nat→Value) (X:Nat→Prop):AR:=λi v h=>v=gv i∧∃F:Nat→Prop,(∀b,F b→X b)∧R gv X F i v h
abbrev UX (fp:Nat→Nat→Prop):Nat→Prop:=λb=>∃j,fp j b
def iR (B:World) (h0:Av) (n:FN) (m:SM) (ops:Array Oper) (ks:List Nat) (R:FR) (listed:Array Bool) (a:Act) (w:World):Prop:=
 ∃(fp:Nat→Nat→Prop) (gv:Nat→Value) (h:Av),Wd B h w∧Ep h0 h∧Fr n a m∧(∀i b,fp i b→h0.size≤b∧b<h.size)∧(∀i j b,fp i b→fp j b→i=j)∧(∀i,listed.getD i false=false→∀b,¬fp i b)∧
  ∀i,i∉ks→listed.getD i false=true→∃d,Di ops i=some d∧a.tmps[d]? =some (gv i)∧R gv (UX fp) (fp i) i (gv i) h
def cL (R:FR) (gv:Nat→Value) (X:Nat→Prop) (i:Nat) (h:Av) (v:Value) (h':Av):Prop:=∃F:Nat→Prop,(∀b,F b→h.size≤b∧b<h'.size)∧R gv (λb=>X b∨F b) F i v h'
def Tz (P:Program) (ops:Array Oper) (Q:Exit→Act→World→Prop) (B:World) (n:FN) (m:SM) (h0:Av) (R:FR) (i:Nat) (o:Oper) (d:Nat) (ps:List (Nat×Nat)):Prop:=
 ∀gv X mt h,Ep h0 h→(∀b,X b→h0.size≤b∧b<h.size)→PA (cM R gv X) h (λfr=>match o.guard with
  |none=>LF P ops (Exit.then (KS B n d (cL R gv X i h) h (fr++(m++mt))) Q) [o] B h n (fr++(m++mt))
  |some (g,b)=>∃dg,Di ops g=some dg∧((lk fr dg=some (.bool b)∧LF P ops (Exit.then (KS B n d (cL R gv X i h) h (fr++(m++mt))) Q) [{ o with guard:=none}] B h n (fr++(m++mt)))∨∃v,lk fr dg=some v∧yb v≠some b∧cL R gv X i h undef h)) ps []
def Tx (P:Program) (ops:Array Oper) (n:FN) (m:SM) (h0:Av) (R:FR) (f:Nat) (o:Oper) (ps:List (Nat×Nat)):Prop:=
 ∀gv X mt h,Ep h0 h→PA (cM R gv X) h (λfr=>∀a,Fr n a (fr++(m++mt))→∃v,Yields P ops o v a∧R gv X (λ_=>False) f v h) ps []
def zpB (ops:Array Oper) (zs:List (Nat×List Nat)):Bool:=zs.all λz=>match ops[z.1]? with
 |some o=>z.2.all λk=>(JD o).contains k
 |none=>false
section
variable {P:Program}{ops:Array Oper}{Q:Exit→Act→World→Prop}
theorem Xb {B:World}{h0:Av}{n:FN}{m:SM}{R:FR}(ks:List Nat) (hks:∀t,t∈ks→t<ops.size) (hnd:ks.Nodup) (hb:K3 ops=true)
  (F:List Nat) (hcut:ks=[]∨PY ops ks F=true) (hch:MS ops ks) (hcl:Mu ops ks=true) (hsel:Region.noSelect ops=true) (hQ:∀c a w,¬Q (.panic c) a w)
  (hF:∀f,f∈F→(f<ops.size∧f∉ks)∧KJ ops f=true∧∃o d ps,ops[f]? =some o∧o.dst=some d∧N7 ops o ps=true∧Tx P ops n m h0 R f o ps)
  (hown:Tf ops ks n (m.map (·.1))=true)
  (hmono:∀gv i v h h' X X' F,Ep h0 h→Ep h h'→(∀b,F b→h0.size≤b∧b<h.size)→(∀b,X b→X' b)→(∀b,X' b→X b∨h.size≤b)→R gv X F i v h→R gv X' F i v h')
  (hgv:∀gv gv' X F i v h,(∀o,ops[i]? =some o→∀k,k∈JD o→gv k=gv' k)→R gv X F i v h→R gv' X F i v h)
  (step:∀i o d,i∉ks→ops[i]? =some o→o.dst=some d→∃ps,N7 ops o ps=true∧Tz P ops Q B n m h0 R i o d ps)
  (fin:∀a w h fp gv,Wd B h w→Ep h0 h→Fr n a m→(∀i b,fp i b→h0.size≤b∧b<h.size)→(∀i j b,fp i b→fp j b→i=j)→(∀i,i<ops.size→i∉ks→∃d,Di ops i=some d∧a.tmps[d]? =some (gv i)∧R gv (UX fp) (fp i) i (gv i) h)→wpList P ops Q (ks.filterMap λt=>ops[t]?) a w):
  ∀(fuel:Nat) (listed:Array Bool) (a:Act) (w:World),O5 listed=fuel→O2 ops ks listed→iR B h0 n m ops ks R listed a w→wpAny P .any ops Q fuel listed a w:=by
 intro fuel
 induction fuel with
 |zero=>
  intro listed a w hu inv ai
  have hall:∀i,listed.getD i true=true:=λi=>MD hu
  obtain⟨fp,gv,h,g1,g2,g3,hX,dj,hun0,g4⟩:=ai
  have hall2:∀i,i<ops.size→i∉ks→listed.getD i false=true:=λi his hik=>by
   have h2:=hall i
   have:i<listed.size:=by rw[inv.size];exact his
   simpa [this] using h2
  have hf:=fin a w h fp gv g1 g2 g3 hX dj (λi his hik=>g4 i hik (hall2 i his hik))
  exact IM hb ks 0 listed a w hu inv.size (λi _ _=>hall i) (λt ht=>⟨hks t ht,inv.tail t ht⟩) hch hnd hf
 |succ fuel ih=>
  intro listed a w hu inv ai
  obtain⟨fp,gv,h,g1,g2,g3,hX,dj,hun0,g4⟩:=ai
  have hXU:∀b,UX fp b→h0.size≤b∧b<h.size:=λb ⟨j,hj⟩=>hX j b hj
  by_cases hall:∀i,i<ops.size→i∉ks→listed.getD i true=true
  ·have hall2:∀i,i<ops.size→i∉ks→listed.getD i false=true:=λi his hik=>by
    have h2:=hall i his hik
    have:i<listed.size:=by rw[inv.size];exact his
    simpa [this] using h2
   have hf:=fin a w h fp gv g1 g2 g3 hX dj (λi his hik=>g4 i hik (hall2 i his hik))
   exact IM hb ks (fuel+1) listed a w hu inv.size hall (λt ht=>⟨hks t ht,inv.tail t ht⟩) hch hnd hf
  ·have hnot:∀j,listed.getD j false=true→j∉ks:=λj hj hjk=>by
    have:=getD_both (inv.tail j hjk)
    rw[hj] at this
    cases this
   have hpredsG:∀i o,i∈Region.ready .any ops listed→ops[i]? =some o→∀ps,N7 ops o ps=true→∀p∈ps,∃v,a.tmps[p.2]? =some v∧cM R gv (UX fp) p.1 v h:=by
    intro i o hi ho ps hps p hp
    obtain⟨hun,o',ho',hpre⟩:=mem_ready.1 hi
    have:o'=o:=Option.some.inj (ho'.symm.trans ho)
    subst this
    have h1:=List.all_eq_true.1 hps p hp
    simp only[Bool.and_eq_true] at h1
    have hj:p.1∈JD o':=by simpa using h1.1
    obtain⟨e,he,hpe⟩:=List.mem_map.1 hj
    obtain⟨he1,he2⟩:=List.mem_filter.1 he
    have he3:e∈o'.after:=by simpa using he1
    have h3:=hpre e he3 he2
    rw[hpe] at h3
    obtain⟨d',q1,q2,q3⟩:=g4 p.1 (hnot _ h3) h3
    have h2:=h1.2
    rw[q1] at h2
    have:p.2=d':=Nat.eq_of_beq_eq_true (by simpa using h2)
    exact⟨gv p.1,by rw[this];exact q2,rfl,fp p.1,λb hb=>⟨p.1,hb⟩,q3⟩
   have nextG:∀i o d,i∉ks→i∈Region.ready .any ops listed→ops[i]? =some o→o.dst=some d→∀v w' h',Wd B h' w'→Ep h h'→cL R gv (UX fp) i h v h'→wpAny P .any ops Q fuel (listed.setIfInBounds i true) (a.put (some d) v) w':=by
    intro i o d hik hi ho hod v w' h' hw' ho' hr0
    obtain⟨FN,hFN,hr⟩:=hr0
    obtain⟨hun,oo,hoo,_⟩:=mem_ready.1 hi
    have hilt:i<ops.size:=(Array.getElem?_eq_some_iff.1 hoo).1
    have hd:Di ops i=some d:=by unfold Di;rw[ho];exact hod
    have hown':=List.all_eq_true.1 hown i (List.mem_range.2 hilt)
    rw[hd] at hown'
    simp only[Bool.and_eq_true,Bool.not_eq_true',List.all_eq_true,List.mem_range,Bool.or_eq_true,List.contains_iff_mem,hik,false_or] at hown'
    obtain⟨⟨hdn,hdm⟩,hdj⟩:=hown'
    have hdn1:d+1≤n.1:=by simpa [Nat.blt] using hdn
    have hdn':d<n.1:=hdn1
    have putd:(a.put (some d) v).tmps[d]? =some v:=by
     simp only[Act.put,Array.getElem?_setIfInBounds]
     have:=g3.siz
     simp [this,hdn']
    have putj:∀j dj,Di ops j=some dj→j≠i→j∉ks→(a.put (some d) v).tmps[dj]? =a.tmps[dj]? :=by
     intro j dj q1 e hj
     have hjs:j<ops.size:=by
      unfold Di at q1
      cases hoj:ops[j]? with
      |none=>rw[hoj] at q1;cases q1
      |some oj=>exact(Array.getElem?_eq_some_iff.1 hoj).1
     have h1:=hdj j hjs
     rw[q1] at h1
     have hne:d≠dj:=by
      rcases h1 with (h1|h1)|h1
      ·exact absurd h1 hj
      ·exact absurd (Nat.eq_of_beq_eq_true h1).symm e
      ·intro e'
       subst e'
       simp at h1
     simp only[Act.put,Array.getElem?_setIfInBounds]
     rw[if_neg hne]
    have fpi:∀b,¬fp i b:=hun0 i (getD_in (by rw[inv.size];exact hilt) (by
     cases hl:listed.getD i false with
     |false=>rfl
     |true=>rw[getD_both hun] at hl;cases hl) |> λ_=>(by
     cases hl:listed.getD i false with
     |false=>rfl
     |true=>rw[getD_both hun] at hl;cases hl))
    have hUX:∀b,(UX (λj b=>(j=i∧FN b)∨fp j b) b)↔(UX fp b∨FN b):=λb=>by
     constructor
     ·rintro⟨j,hj|hj⟩
      ·exact .inr hj.2
      ·exact .inl ⟨j,hj⟩
     ·rintro(⟨j,hj⟩|hb')
      ·exact⟨j,.inr hj⟩
      ·exact⟨i,.inl ⟨rfl,hb'⟩⟩
    have hUXe:UX (λj b=>(j=i∧FN b)∨fp j b)=λb=>UX fp b∨FN b:=funext λb=>propext (hUX b)
    have gvi:∀j,j≠i→(λk=>if k=i then v else gv k) j=gv j:=λj e=>if_neg e
    have gvp:∀(j:Nat) (oj:Oper),ops[j]? =some oj→(∀k,k∈JD oj→listed.getD k false=true)→∀k,k∈JD oj→gv k=(λk=>if k=i then v else gv k) k:=λj oj _ hp k hk=>by
     have:k≠i:=λe=>by
      subst e
      have h1:=hp _ hk
      rw[getD_both hun] at h1
      cases h1
     exact(gvi k this).symm
    have hpl:∀(j:Nat) (oj:Oper),listed.getD j false=true→ops[j]? =some oj→∀k,k∈JD oj→listed.getD k false=true:=λj oj hlj hoj k hk=>by
     obtain⟨e,he,hpe⟩:=List.mem_map.1 hk
     obtain⟨he1,he2⟩:=List.mem_filter.1 he
     have:=inv.closed j oj hoj hlj e (by simpa using he1) he2
     rw[hpe] at this
     exact this
    have hpi:∀(o':Oper),ops[i]? =some o'→∀k,k∈JD o'→listed.getD k false=true:=λo' ho' k hk=>by
     obtain⟨_,o2,ho2,hpre⟩:=mem_ready.1 hi
     have:o2=o':=Option.some.inj (ho2.symm.trans ho')
     subst this
     obtain⟨e,he,hpe⟩:=List.mem_map.1 hk
     obtain⟨he1,he2⟩:=List.mem_filter.1 he
     have:=hpre e (by simpa using he1) he2
     rw[hpe] at this
     exact this
    have fpie:(λb=>(i=i∧FN b)∨fp i b)=FN:=funext λb=>propext ⟨λx=>x.elim (·.2) λy=>absurd y (fpi b),λx=> .inl ⟨rfl,x⟩⟩
    refine ih _ _ _ (by have:=KL hun;omega) (inv.set hi hik) ⟨λj b=>(j=i∧FN b)∨fp j b,λk=>if k=i then v else gv k,h',hw',g2.trans ho',?_,λj b hj=>?_,λj j' b h1 h2=>?_,λj hl b hj=>?_,λj hj hl=>?_⟩
    rotate_left 1
    ·rcases hj with hj|hj
     ·exact⟨Nat.le_trans g2.siz (hFN b hj.2).1,(hFN b hj.2).2⟩
     ·exact⟨(hX j b hj).1,Nat.lt_of_lt_of_le (hX j b hj).2 ho'.siz⟩
    ·rcases h1 with h1|h1<;>rcases h2 with h2|h2
     ·rw[h1.1,h2.1]
     ·have:=(hFN b h1.2).1;have:=(hX _ b h2).2;omega
     ·have:=(hFN b h2.2).1;have:=(hX _ b h1).2;omega
     ·exact dj _ _ b h1 h2
    ·by_cases e:i=j
     ·subst e
      have:i<listed.size:=by rw[inv.size];exact hilt
      simp [this] at hl
     ·rcases hj with hj|hj
      ·exact e hj.1.symm
      ·rw[getD_set_ne false e] at hl
       exact hun0 j hl b hj
    rotate_left 1
    ·have hp:=g3.put hdn v
     refine⟨hp.dfr,hp.siz,λi' u hi'=>hp.at_ i' u ?_⟩
     have hne:Nat.beq d i'=false:=by
      cases hb':Nat.beq d i' with
      |false=>rfl
      |true=>
       have:=Nat.eq_of_beq_eq_true hb'
       subst this
       have h1:=Pi hi'
       rw[←List.contains_iff_mem] at h1
       rw[h1] at hdm
       cases hdm
     simp only[lk,hne,cond_false]
     exact hi'
    ·by_cases e:i=j
     ·subst e
      refine⟨d,hd,?_,?_⟩
      rotate_left 1
      ·rw[hUXe]
       show R _ _ (λb=>(i=i∧FN b)∨fp i b) i (if i=i then v else gv i) h'
       rw[fpie,if_pos rfl]
       exact hgv _ _ _ _ _ _ _ (λo' ho'=>gvp i o' ho' (hpi o' ho')) hr
      rw[show (λk=>if k=i then v else gv k) i=v from if_pos rfl]
      simp only[Act.put,Array.getElem?_setIfInBounds]
      have:=g3.siz
      simp [this,hdn']
     ·rw[getD_set_ne false e] at hl
      obtain⟨dj,q1,q2,q3⟩:=g4 j hj hl
      have fpje:(λb=>(j=i∧FN b)∨fp j b)=fp j:=funext λb=>propext ⟨λx=>x.elim (λy=>absurd y.1.symm e) id,.inr⟩
      refine⟨dj,q1,?_,?_⟩
      rotate_left 1
      ·rw[hUXe]
       show R _ _ (λb=>(j=i∧FN b)∨fp j b) j (if j=i then v else gv j) h'
       rw[fpje,if_neg λx=>e x.symm]
       exact hgv _ _ _ _ _ _ _ (λoj hoj=>gvp j oj hoj (hpl j oj hl hoj)) (hmono _ _ _ _ _ _ _ _ g2 ho' (hX j) (λb x=> .inl x) (λb x=>x.imp_right λy=>(hFN b y).1) q3)
      rw[gvi j λx=>e x.symm]
      have hjs:j<ops.size:=by
       unfold Di at q1
       cases hoj:ops[j]? with
       |none=>rw[hoj] at q1;cases q1
       |some oj=>exact(Array.getElem?_eq_some_iff.1 hoj).1
      have h1:=hdj j hjs
      rw[q1] at h1
      have hne:d≠dj:=by
       rcases h1 with (h1|h1)|h1
       ·exact absurd h1 hj
       ·exact absurd (Nat.eq_of_beq_eq_true h1) e
       ·intro e'
        subst e'
        simp at h1
      simp only[Act.put,Array.getElem?_setIfInBounds]
      rw[if_neg hne]
      exact q2
   by_cases hfl:∃f,f∈F∧f∈Region.ready .any ops listed
   ·obtain⟨f,hf1,hf2⟩:=hfl
    obtain⟨hfk,hfree,o,d,ps,ho,hod,hps,hst⟩:=hF f hf1
    obtain⟨fr,hK,hfr⟩:=IY (a:=a) (n:=n) _ _ (hst gv (UX fp) (FZ a) h g2) (hpredsG f o hf2 ho ps hps) ⟨g3.dfr,g3.siz,λi v hi=>by simp [lk] at hi⟩
    obtain⟨v,hy,hr⟩:=hK a (hfr.append (g3.append g3.full))
    refine wpAny_first ho (Region.noSelect_spec hsel) (λc a w hq=>absurd hq (hQ c _ w)) fuel listed a w (λj oj hj hne hunj hno=>?_) hf2 hy ?_
    ·have h1:=List.all_eq_true.1 hfree j (List.mem_range.2 (Array.getElem?_eq_some_iff.1 hj).1)
     simp only[ho,hj,Bool.or_eq_true,beq_iff_eq,hne,false_or] at h1
     rcases h1 with h1|h1
     ·obtain⟨oj',hoj',e,he,hb',hon⟩:=Region.waitsFor_spec h1
      have:oj'=oj:=Option.some.inj (hoj'.symm.trans hj)
      subst this
      exact absurd hon (hno e he hb')
     ·rcases h1 with h1|h1
      ·obtain⟨of',hof',e,he,hb',hon⟩:=Region.waitsFor_spec h1
       obtain⟨_,of2,hof2,hall2⟩:=mem_ready.1 hf2
       have:of'=of2:=Option.some.inj (hof'.symm.trans hof2)
       subst this
       have h5:=hall2 e he hb'
       rw[hon,getD_both hunj] at h5
       cases h5
      ·exact h1
    ·rw[hod]
     exact nextG f o d hfk.2 hf2 ho hod v w h g1 (Ep.refl h) ⟨λ_=>False,λ_ x=>x.elim,by have e:(λb=>UX fp b∨False)=UX fp:=funext λb=>propext (or_iff_left id);rw[e];exact hr⟩
   have hkk:∃k0,k0<ops.size∧k0∉ks∧listed.getD k0 true=false∧k0∉F:=by
    obtain⟨k1,hk1s,hk1,hu1⟩:∃k1,k1<ops.size∧k1∉ks∧listed.getD k1 true=false:=by
     apply Classical.byContradiction
     intro hno
     refine hall λi his hik=>?_
     cases hl:listed.getD i true with
     |true=>rfl
     |false=>exact absurd ⟨i,his,hik,hl⟩ hno
    obtain⟨i0,q1,q2,q3⟩:=JE (p:=λi=>listed.getD i true||ks.contains i) k1 (by simp [hu1,hk1])
    simp only[Bool.or_eq_false_iff] at q2
    have hi0s:i0<ops.size:=by omega
    have hi0k:i0∉ks:=λh=>by rw[List.contains_iff_mem.2 h] at q2;cases q2.2
    refine⟨i0,hi0s,hi0k,q2.1,λhf=>hfl ⟨i0,hf,mem_ready.2 ⟨q2.1,ops[i0],by simp [hi0s],λe he hbi=>?_⟩⟩⟩
    have h4:=List.all_eq_true.1 hb i0 (List.mem_range.2 hi0s)
    have h5:ops[i0]? =some ops[i0]:=by simp [hi0s]
    rw[h5] at h4
    simp only[Option.map_some,Option.getD_some,Array.all_eq_true_iff_forall_mem] at h4
    have h6:=h4 e he
    simp only[hbi,Bool.not_true,Bool.false_or,decide_eq_true_eq] at h6
    have h7:=q3 e.on h6
    have h9:=List.all_eq_true.1 hcl i0 (List.mem_range.2 hi0s)
    simp only[Bool.or_eq_true,List.contains_iff_mem,hi0k,false_or,h5,Option.map_some,Option.getD_some,Array.all_eq_true_iff_forall_mem] at h9
    have h10:=h9 e he
    simp only[hbi,Bool.not_true,Bool.false_or,Bool.not_eq_true'] at h10
    rcases h10 with h10|h10
    ·cases h10
    rw[h10,Bool.or_false] at h7
    have h8:e.on<listed.size:=by rw[inv.size];omega
    simp only[Array.getD_eq_getD_getElem?,Array.getElem?_eq_getElem h8,Option.getD_some] at h7 ⊢
    exact h7
   have ⟨k0',hk0s',hk0',hu0',_⟩:=hkk
   obtain⟨i0,_,hi0,_⟩:=Hp hb inv.size hk0s' hu0'
   refine⟨λh0=>absurd (h0▸hi0) (by simp),λi hi=>?_⟩
   obtain⟨hun,o,ho,hpre⟩:=mem_ready.1 hi
   have hilt:i<ops.size:=(Array.getElem?_eq_some_iff.1 ho).1
   have hik:i∉ks:=λhik=>by
    rcases hcut with hc|hc
    ·rw[hc] at hik;cases hik
    ·obtain⟨k0,q1,q2,q3,q4⟩:=hkk
     exact ME hc hch inv _ k0 rfl q1 q2 q4 (getD_in (by rw[inv.size];exact q1) (by
      cases hl:listed.getD k0 false with
      |false=>rfl
      |true=>rw[getD_both q3] at hl;cases hl)) i hik hi
   have hown':=List.all_eq_true.1 hown i (List.mem_range.2 hilt)
   cases hd:Di ops i with
   |none=>rw[hd] at hown';simp only[List.contains_iff_mem,hik,Bool.or_eq_true,false_or] at hown';cases hown'
   |some d=>
   rw[hd] at hown'
   simp only[Bool.and_eq_true,Bool.not_eq_true',List.all_eq_true,List.mem_range,Bool.or_eq_true,List.contains_iff_mem,hik,false_or] at hown'
   obtain⟨⟨hdn,hdm⟩,hdj⟩:=hown'
   have hdn1:d+1≤n.1:=by simpa [Nat.blt] using hdn
   have hdn':d<n.1:=hdn1
   have hod:o.dst=some d:=by unfold Di at hd;rw[ho] at hd;exact hd
   obtain⟨ps,hps,hstep⟩:=step i o d hik ho hod
   have hpreds2:=hpredsG i o hi ho ps hps
   obtain⟨fr,hK,hfr⟩:=IY (a:=a) (n:=n) _ _ (hstep gv (UX fp) (FZ a) h g2 hXU) hpreds2 ⟨g3.dfr,g3.siz,λi v hi=>by simp [lk] at hi⟩
   have hfull:Fr n a (fr++(m++FZ a)):=hfr.append (g3.append g3.full)
   have hlk:∀i u,a.tmps[i]? =some u→lk (fr++(m++FZ a)) i=some u:=by
    intro i u hu
    have hl:lk (FZ a) i=some u:=by
     have:i<a.tmps.size:=(Array.getElem?_eq_some_iff.1 hu).1
     rw[Ml this]
     simp [Array.getD_eq_getD_getElem?,hu]
    have hex:∃u',lk (fr++(m++FZ a)) i=some u':=by
     rw[HZ,HZ,hl]
     cases lk fr i with
     |some x=>exact⟨x,by simp⟩
     |none=>cases lk m i with
      |some x=>exact⟨x,by simp⟩
      |none=>exact⟨u,by simp⟩
    obtain⟨u',hu'⟩:=hex
    have:=hfull.at_ i u' hu'
    rw[hu] at this
    rw[hu',←Option.some.inj this]
   have next:=nextG i o d hik hi ho hod
   have conv:∀a' w',KS B n d (cL R gv (UX fp) i h) h (fr++(m++FZ a)) a' w'→wpAny P .any ops Q fuel (listed.setIfInBounds i true) a' w':=by
    rintro a' w' ⟨v,h',f1,f2,f3,f4⟩
    have:=Fr.same hdn' hfull f1 λi u hi hu=>by
     have hne:Nat.beq d i=false:=by
      cases hb':Nat.beq d i with
      |false=>rfl
      |true=>exact absurd (Nat.eq_of_beq_eq_true hb').symm hi
     simp only[lk,hne,cond_false]
     exact hlk i u hu
    subst this
    exact next v w' h' f2 f3 f4
   unfold wpOp
   simp only[ho]
   cases hg:o.guard with
   |none=>
    rw[hg] at hK
    rw[if_pos (by simp [Region.wanted,hg])]
    exact(Gh hg (hK a w hfull g1)).imp (Oper.wp_mono conv) id
   |some gb=>
    obtain⟨g,b⟩:=gb
    rw[hg] at hK
    obtain⟨dg,q1,hK⟩:=hK
    rcases hK with ⟨k1,k2⟩|⟨v,k1,k2,k3⟩
    ·have hy:yielded ops a.tmps g=some b:=Io hfr q1 k1
     rw[if_pos (by simp [Region.wanted,hg,hy])]
     exact(KV (Gh rfl (k2 a w hfull g1))).imp (Oper.wp_mono conv) id
    ·have hy:yielded ops a.tmps g≠some b:=by rw[Io hfr q1 k1];exact k2
     rw[if_neg (by simp [Region.wanted,hg,hy]),hod]
     exact next undef w h g1 (Ep.refl h) k3
end
def Oh (P:Program) (ops:Array Oper) (ks:List Nat) (n:FN) (m:SM) (h0:Av) (R:FR):List Nat→Prop
 |[]=>True
 |f::F=>((f<ops.size∧f∉ks)∧KJ ops f=true∧∃o d ps,ops[f]? =some o∧o.dst=some d∧N7 ops o ps=true∧Tx P ops n m h0 R f o ps)∧Oh P ops ks n m h0 R F
theorem Oh.at_ {P:Program}{ops:Array Oper}{ks:List Nat}{n:FN}{m:SM}{h0:Av}{R:FR}:∀{F:List Nat},Oh P ops ks n m h0 R F→∀f,f∈F→(f<ops.size∧f∉ks)∧KJ ops f=true∧∃o d ps,ops[f]? =some o∧o.dst=some d∧N7 ops o ps=true∧Tx P ops n m h0 R f o ps
 |[],_,f,hf=>by cases hf
 |g::F,⟨h1,h2⟩,f,hf=>by
  rcases List.mem_cons.1 hf with rfl|hf
  ·exact h1
  ·exact Oh.at_ h2 f hf
theorem Oh.cons {P:Program}{ops:Array Oper}{ks:List Nat}{n:FN}{m:SM}{h0:Av}{R:FR}{f d:Nat}{o:Oper}{F:List Nat}(ps:List (Nat×Nat)) (h1:(Nat.blt f ops.size&& !ks.contains f&&KJ ops f)=true) (ho:ops[f]? =some o) (hd:o.dst=some d) (hps:N7 ops o ps=true)
  (hs:∀gv X mt h,Ep h0 h→PA (cM R gv X) h (λfr=>∀a,Fr n a (fr++(m++mt))→∃v,Yields P ops o v a∧R gv X (λ_=>False) f v h) ps []) (t:Oh P ops ks n m h0 R F):Oh P ops ks n m h0 R (f::F):=by
 simp only[Bool.and_eq_true,Bool.not_eq_true'] at h1
 exact⟨⟨⟨(by simpa [Nat.blt] using h1.1.1:f+1≤ops.size),λh=>by rw[List.contains_iff_mem.2 h] at h1;cases h1.1.2⟩,h1.2,o,d,ps,ho,hd,hps,hs⟩,t⟩
def B7 (P:Program) (ops:Array Oper) (Q:Exit→Act→World→Prop) (B:World) (n:FN) (m:SM) (h0:Av) (R:FR) (ks:List Nat):Nat→List Oper→List (List (Nat×Nat))→Prop
 |i,o::l,ps::pss=>(i∈ks∨match o.dst with|some d=>Tz P ops Q B n m h0 R i o d ps|none=>False)∧B7 P ops Q B n m h0 R ks (i+1) l pss
 |_,_,_=>True
section
variable {P:Program}{ops:Array Oper}{Q:Exit→Act→World→Prop}{B:World}{n:FN}{m:SM}{h0:Av}{R:FR}{ks:List Nat}
theorem B7.at_:∀{l:List Oper}{pss:List (List (Nat×Nat))}{k i:Nat}{o:Oper}{d:Nat},B7 P ops Q B n m h0 R ks k l pss→l.length=pss.length→k+i∉ks→l[i]? =some o→o.dst=some d→∃ps,pss[i]? =some ps∧Tz P ops Q B n m h0 R (k+i) o d ps
 |[],_,_,_,_,_,_,_,_,h,_=>by simp at h
 |_::_,[],_,_,_,_,_,hb,_,_,_=>by simp at hb
 |o'::l,ps::pss,k,0,o,d,hs,hb,hk,ho,hd=>by
  simp only[List.getElem?_cons_zero,Option.some.injEq] at ho
  subst ho
  simp only[B7,hd] at hs
  exact⟨ps,rfl,hs.1.resolve_left hk⟩
 |o'::l,ps::pss,k,i+1,o,d,hs,hb,hk,ho,hd=>by
  simp only[List.getElem?_cons_succ] at ho
  obtain⟨q,q1,q2⟩:=B7.at_ (l:=l) (pss:=pss) (k:=k+1) (i:=i) hs.2 (by simpa using hb) (by rw[show k+1+i=k+(i+1) by omega];exact hk) ho hd
  rw[show k+(i+1)=k+1+i by omega]
  exact⟨q,by simpa using q1,q2⟩
theorem B7.cons {i:Nat}{o:Oper}{l:List Oper}{ps:List (Nat×Nat)}{pss:List (List (Nat×Nat))}{d:Nat}(hd:o.dst=some d) (hg:o.guard=none)
  (h:∀gv X mt h,Ep h0 h→(∀b,X b→h0.size≤b∧b<h.size)→PA (cM R gv X) h (λfr=>LF P ops (Exit.then (KS B n d (R gv X (λ_=>False) i) h (fr++(m++mt))) Q) [o] B h n (fr++(m++mt))) ps []) (t:B7 P ops Q B n m h0 R ks (i+1) l pss):B7 P ops Q B n m h0 R ks i (o::l) (ps::pss):=by
 simp only[B7,hd]
 refine⟨.inr λgv X mt h1 o1 hX=>PA.imp (λfr k=>?_) _ _ (h gv X mt h1 o1 hX),t⟩
 rw[hg]
 refine λa w hf hw=>Fu (λe a w q=>?_) _ a w (k a w hf hw)
 cases e<;>first|exact q|skip
 obtain⟨v,h2,q1,q2,q3,q4⟩:=q
 exact⟨v,h2,q1,q2,q3,λ_=>False,λ_ x=>x.elim,by have e:(λb=>X b∨False)=X:=funext λb=>propext (or_iff_left id);rw[e];exact q4⟩
theorem Ma {i:Nat}{o:Oper}{l:List Oper}{ps:List (Nat×Nat)}{pss:List (List (Nat×Nat))}{d:Nat}(hd:o.dst=some d) (hg:o.guard=none)
  (h:∀gv X mt h,Ep h0 h→(∀b,X b→h0.size≤b∧b<h.size)→PA (cM R gv X) h (λfr=>LF P ops (Exit.then (KS B n d (cL R gv X i h) h (fr++(m++mt))) Q) [o] B h n (fr++(m++mt))) ps []) (t:B7 P ops Q B n m h0 R ks (i+1) l pss):B7 P ops Q B n m h0 R ks i (o::l) (ps::pss):=by
 simp only[B7,hd]
 refine⟨.inr λgv X mt h1 o1 hX=>PA.imp (λfr k=>?_) _ _ (h gv X mt h1 o1 hX),t⟩
 rw[hg]
 exact k
theorem B7.skip {i:Nat}{o:Oper}{l:List Oper}{ps:List (Nat×Nat)}{pss:List (List (Nat×Nat))}(h:ks.contains i=true) (t:B7 P ops Q B n m h0 R ks (i+1) l pss):B7 P ops Q B n m h0 R ks i (o::l) (ps::pss):=
 ⟨.inl (List.contains_iff_mem.1 h),t⟩
end
section
variable {P:Program}{ex:List (Nat×AP)}{RR N:AP}{cs:List Code}{B:World}{h:Av}{n:FN}{m m0:SM}{S:Nat→Prop}{L:List HP}
theorem Rw {l:List Oper}{id:Nat}(ks F:List Nat) (zs:List (Nat×List Nat)) (hz:zpB l.toArray zs=true) (R:FR) (pss:List (List (Nat×Nat))) (fs:List (Nat×Nat)) {ls:List Oper}(hm:P.follows .mixedOrders=true) (hc:VX l.toArray ks F=true) (ms:List Nat) (hms:m.map (·.1)=ms) (hown:Tf l.toArray ks n ms=true)
  (hps:RM l.toArray ks l pss=true) (hfs:(fs.all λp=>Nat.blt p.1 l.length&& !ks.contains p.1&&(Di l.toArray p.1).any (Nat.beq p.2 ·))=true) (hls:(ks.filterMap λt=>l[t]?)=ls) (hsub:Qv m0 m)
  (hmono:∀gv i v h1 h2 X X' F,Ep h h1→Ep h1 h2→(∀b,F b→h.size≤b∧b<h1.size)→(∀b,X b→X' b)→(∀b,X' b→X b∨h1.size≤b)→R gv X F i v h1→R gv X' F i v h2)
  (hgv:∀gv gv' X F i v h1,(∀z,z∈zs→z.1=i→∀k,k∈z.2→gv k=gv' k)→R gv X F i v h1→R gv' X F i v h1)
  (hF:Oh P l.toArray ks n m h R F)
  (step:B7 P l.toArray (Qx ex RR (W P ex RR cs N)) B n m h R ks 0 l pss)
  (fin:∀h' (fp:Nat→Nat→Prop) (gv:Nat→Value),Ep h h'→(∀i b,fp i b→h.size≤b∧b<h'.size)→(∀i j b,fp i b→fp j b→i=j)→PA (λi v h2=>v=gv i∧R gv (UX fp) (fp i) i v h2) h' (λfr=>LF P l.toArray (Qx ex RR (W P ex RR cs N)) ls B h' n (fr++m)) fs []):WF P ex RR (.region id l.toArray true::cs) N B h n m0:=by
 intro a w hf hw
 subst hms
 simp only[VX,Bool.and_eq_true,Bool.or_eq_true,decide_eq_true_eq] at hc
 obtain⟨⟨⟨⟨⟨⟨h1,h2⟩,h3⟩,h4⟩,h5⟩,h6⟩,h7⟩:=hc
 simp only[RM,Bool.and_eq_true] at hps
 have hlen:l.length=pss.length:=Nat.eq_of_beq_eq_true hps.1
 refine λrd hrd=>MI hrd K8 hm (Xb (R:=R) (B:=B) (h0:=h) (n:=n) (m:=m) ks (λt ht=>by have:=List.all_eq_true.1 h1 t ht;simp [Nat.blt] at this ⊢;omega) h2 h6 F (h3.imp (λe=>by cases ks with|nil=>rfl|cons _ _=>simp at e) λx=>x) (LS h4) h5 h7 (λc a w hq=>hq) (λf hf=>hF.at_ f hf) hown hmono (λgv gv' X F i v h1 hp hr=>hgv gv gv' X F i v h1 (λz hzz e k hk=>?_) hr) (λi o d hi ho hd=>?_) (λa w h' fp gv g1 g2 g3 gX gD g4=>?_) _ _ _ _ ?_ ⟨by simp,λj oj _ hl=>(by rw[getD_replicate_false] at hl;cases hl),λt ht=>getD_in (by have:=List.all_eq_true.1 h1 t ht;simp [Nat.blt] at this ⊢;omega) (getD_replicate_false _ _)⟩ ⟨λ_ _=>False,λ_=>undef,h,hw.drew,Ep.refl h,hf.sub hsub,λ_ _ x=>x.elim,λ_ _ _ x=>x.elim,λ_ _ _ x=>x,λi _ hl=>(by rw[getD_replicate_false] at hl;cases hl)⟩)
 ·have h1:=List.all_eq_true.1 hz z hzz
  subst e
  cases ho:l.toArray[z.1]? with
  |none=>rw[ho] at h1;cases h1
  |some o=>
   rw[ho] at h1
   exact hp o ho k (List.contains_iff_mem.1 (List.all_eq_true.1 h1 k hk))
 ·have ho':l[i]? =some o:=by simpa using ho
  obtain⟨ps,q1,q2⟩:=B7.at_ (k:=0) step hlen (by rw[Nat.zero_add];exact hi) ho' hd
  rw[Nat.zero_add] at q2
  refine⟨ps,?_,q2⟩
  have hil:i<l.length:=(List.getElem?_eq_some_iff.1 ho').1
  have hz:((o,ps),i)∈(l.zip pss).zipIdx:=by
   rw[List.mem_iff_getElem?]
   exact⟨i,by rw[List.getElem?_zipIdx,(List.getElem?_zip_eq_some (z:=(o,ps))).2 ⟨ho',q1⟩];simp⟩
  have:=List.all_eq_true.1 hps.2 _ hz
  simp only[Bool.or_eq_true,List.contains_iff_mem,hi,false_or] at this
  exact this
 ·obtain⟨fr,k1,k2⟩:=IY (a:=a) (n:=n) _ _ (fin h' fp gv g2 gX gD) (λp hp=>by
   have e:=List.all_eq_true.1 hfs p hp
   simp only[Bool.and_eq_true,Bool.not_eq_true'] at e
   have e1:p.1<l.toArray.size:=by have:=e.1.1;simp [Nat.blt] at this ⊢;omega
   obtain⟨d,q1,q2,q3⟩:=g4 p.1 e1 (λh=>by rw[List.contains_iff_mem.2 h] at e;cases e.1.2)
   have e2:=e.2
   rw[q1] at e2
   have:p.2=d:=Nat.eq_of_beq_eq_true (by simpa using e2)
   exact⟨gv p.1,by rw[this];exact q2,rfl,q3⟩) ⟨g3.dfr,g3.siz,λi v hi=>by simp [lk] at hi⟩
  have hls':(ks.filterMap λt=>l.toArray[t]?)=ls:=by rw[←hls];congr 1;funext t;simp
  rw[hls']
  exact k1 a w (k2.append g3) g1
 ·unfold O5
  rw[Array.toList_replicate]
  simp
end
def ZG:Value→Nat→Value
 | .tuple xs,i=>xs.getD i undef
 |_,_=>undef
abbrev OW (S:Nat→Prop) (h0:Av) (X F:Nat→Prop) (M:List HP) (h:Av):Prop:=Sp (SX S h0 h X) M h F
theorem OW.mono {S X X' F:Nat→Prop}{h0 h h':Av}{M:List HP}(hS:∀b,S b→b<h0.size) (o1:Ep h0 h) (o2:Ep h h') (hF:∀b,F b→h0.size≤b∧b<h.size) (u:∀b,X b→X' b) (dn:∀b,X' b→X b∨h.size≤b) (k:OW S h0 X F M h):OW S h0 X' F M h':=
 Sp.ext k (SX.mono hS o1 o2 u dn).sub (λb hb=>o2.same b (hb.elim (SX.lt hS o1 b) λx=>(hF b x).2)) λ_ x=>x
theorem SX.fz {S:Nat→Prop}{L:List HP}{h0 h:Av}{X:Nat→Prop}(hs:St S L h0) (o:Ep h0 h):St (SX S h0 h X) [iO (SX S h0 h X) h] h:=(NP (X:=X) hs o).fz
theorem OW.done {S S2:Nat→Prop}{h0 h h2:Av}{X:Nat→Prop}{M:List HP}(hS:∀b,S b→b<h0.size) (o:Ep h0 h) (hX:∀b,X b→h0.size≤b∧b<h.size) (e:B9 (SX S h0 h X) h S2 h2) (hs:St S2 (iO (SX S h0 h X) h::M) h2):
  ∃F:Nat→Prop,(∀b,F b→h.size≤b∧b<h2.size)∧Ep h h2∧B9 S2 h2 (SX S h0 h2 λb=>X b∨F b) h2∧OW S h0 (λb=>X b∨F b) F M h2:=by
 obtain⟨F0,⟨k1,k2⟩,k3,k4⟩:=hs.2
 have hnew:∀b,((b<h2.size∧¬S2 b)∧¬F0 b)→h.size≤b∧b<h2.size:=λb hb=>by
  refine⟨Nat.le_of_not_lt λhlt=>?_,hb.1.1⟩
  rcases Classical.em (SX S h0 h X b) with g|g
  ·exact hb.1.2 (e.sub b g)
  ·exact hb.2 ((k1 b).2 ⟨hlt,g⟩)
 have e2:B9 S2 h2 (SX S h0 h2 λb=>X b∨((b<h2.size∧¬S2 b)∧¬F0 b)) h2:=by
  refine⟨λb hb=>?_,λ_ _=>rfl,Nat.le_refl _⟩
  have hlt:=hs.1 b hb
  rcases Nat.lt_or_ge b h.size with g|g
  ·rcases Classical.em (SX S h0 h X b) with g2|g2
   ·exact⟨g2.1.imp_right λx=>⟨x.1,hlt⟩,λhx=>hx.elim g2.2 λx=>x.1.2 hb⟩
   ·exact absurd hb (k3 b ((k1 b).2 ⟨g,g2⟩)).2
  ·exact⟨.inr ⟨Nat.le_trans o.siz g,hlt⟩,λhx=>hx.elim (λx=>by have:=(hX b x).2;omega) λx=>x.1.2 hb⟩
 refine⟨_,hnew,⟨e.siz,λb hb=>?_⟩,e2,?_⟩
 ·rcases Classical.em (SX S h0 h X b) with g|g
  ·exact e.same b g
  ·exact k2 b ⟨hb,g⟩
 ·exact Sp.ext k4 e2.sub (λ_ _=>rfl) λ_ x=>x
def Ty (S:Nat→Prop) (fp:Nat→Nat→Prop) (h h2:Av) (js:List Nat) (L:List HP):Prop:=(∀b,S b→b<h.size)∧Ep h h2∧(∀i b,fp i b→h.size≤b∧b<h2.size)∧Sp (SX S h h2 (UX fp)) L h2 (λb=>(b<h.size∧¬S b)∨∃j,j∈js∧fp j b)
section
variable {S:Nat→Prop}{L M:List HP}{h h2:Av}{fp:Nat→Nat→Prop}{js:List Nat}{j:Nat}
theorem Xz (hf:∀i b,fp i b→h.size≤b∧b<h2.size):∀b,UX fp b→h.size≤b∧b<h2.size:=λb ⟨j,x⟩=>hf j b x
theorem Ty.nil (hs:St S L h) (o:Ep h h2) (hf:∀i b,fp i b→h.size≤b∧b<h2.size):Ty S fp h h2 [] L:=
 ⟨hs.1,o,hf,Sp.ext hs.2 (λb x=>(SX.ext hs.1 o (Xz hf)).sub b x) (λc hc=>o.same c (hc.elim (hs.1 c) (·.1))) λc hc=> .inl hc⟩
theorem Ut {S:Nat→Prop}{h:Av}{L:List HP}:∀{M:List HP}{A1 A2 A:Nat→Prop},Sp S M h A1→Sp S L h A2→(∀b,A1 b→A b)→(∀b,A2 b→A b)→(∀b,A1 b→¬A2 b)→Sp S (M++L) h A
 |[],A1,A2,A,_,h2,_,i2,_=>h2.mono i2
 |H::M,A1,A2,A,⟨F,g1,g2,g3⟩,h2,i1,i2,dj=>
  ⟨F,g1,λb hb=>i1 b (g2 b hb),Ut g3 h2 (λb hb=>⟨i1 b hb.1,hb.2⟩) (λb hb=>⟨i2 b hb,λhf=>dj b (g2 b hf) hb⟩) λb hb=>dj b hb.1⟩
theorem Ty.cons (k:Ty S fp h h2 js L) (dj:∀i j b,fp i b→fp j b→i=j) (hn:js.contains j=false) (q:OW S h (UX fp) (fp j) M h2):Ty S fp h h2 (j::js) (M++L):=by
 obtain⟨k1,k2,k3,k4⟩:=k
 refine⟨k1,k2,k3,Ut q k4 (λb hb=> .inr ⟨j,List.mem_cons_self ..,hb⟩) (λb hb=>hb.imp_right λ⟨i,hi,x⟩=>⟨i,List.mem_cons_of_mem _ hi,x⟩) λb hb hc=>?_⟩
 rcases hc with hc|⟨i,hi,x⟩
 ·have:=(k3 j b hb).1;omega
 ·have:=dj _ _ _ hb x
  subst this
  rw[List.contains_iff_mem.2 hi] at hn;cases hn
theorem Ty.st (k:Ty S fp h h2 js L):St (SX S h h2 (UX fp)) L h2:=by
 obtain⟨k1,k2,k3,k4⟩:=k
 refine⟨SX.lt k1 k2,k4.mono λc hc=>?_⟩
 rcases hc with hc|⟨i,_,hc⟩
 ·exact⟨Nat.lt_of_lt_of_le hc.1 k2.siz,λhS=>hS.1.elim hc.2 λx=>by omega⟩
 ·exact⟨(k3 i c hc).2,λhS=>hS.2 ⟨i,hc⟩⟩
end
end Go.Proofs.YtblcgjadhemlbaaGreat
