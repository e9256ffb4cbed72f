import Derived.Test.YtibidnaedddfdaaGreatACore10
namespace Go.Proofs.YtibidnaedddfdaaGreat
open Go.RowKit
set_option linter.unusedVariables false
set_option linter.unusedSimpArgs false
abbrev AR:=Nat→Value→Ad→Prop
def D7 (ops:Array Oper) (i:Nat):Option Nat:=(ops[i]?).bind (·.dst)
def Mj (o:Oper):List Nat:=(o.after.toList.filter (Region.binds .any)).map (·.on)
def UX (ops:Array Oper) (kk:Nat) (n:FN) (m:List Nat):Bool:=
 (List.range kk).all λi=>match D7 ops i with
  |some d=>Nat.blt d n.1&& !(m.contains d)&&(List.range kk).all λj=>Nat.beq i j|| !((D7 ops j).any (Nat.beq d ·))
  |none=>false
def Xu (ops:Array Oper) (kk:Nat):Bool:=Nat.ble kk ops.size&&(Nat.beq kk ops.size||(Region.sinkB .any ops kk&&Region.chainB .any ops kk))&&KB ops
def KS (B:World) (n:FN) (d:Nat) (R:Value→Ad→Prop) (h:Ad) (m:SM):Act→World→Prop:=λa w=>
 ∃v h',Fr n a ((d,v)::m)∧Wd B h' w∧Ap h h'∧R v h'
def PA (R:AR) (h:Ad) (K:SM→Prop):List (Nat×Nat)→SM→Prop
 |[],fr=>K fr
 |(j,d)::js,fr=>∀u,R j u h→PA R h K js ((d,u)::fr)
def yb:Value→Option Bool
 | .bool b=>some b
 |_=>none
def OW (P:Program) (ops:Array Oper) (Q:Exit→Act→World→Prop) (B:World) (n:FN) (m:SM) (h0:Ad) (R:AR) (i:Nat) (o:Oper) (d:Nat) (ps:List (Nat×Nat)):Prop:=
 ∀mt h,Ap h0 h→PA R h (λfr=>match o.guard with
  |none=>LF P ops (Exit.then (KS B n d (R i) h (fr++(m++mt))) Q) [o] B h n (fr++(m++mt))
  |some (g,b)=>∃dg,D7 ops g=some dg∧((lk fr dg=some (.bool b)∧LF P ops (Exit.then (KS B n d (R i) h (fr++(m++mt))) Q) [{ o with guard:=none}] B h n (fr++(m++mt)))∨∃v,lk fr dg=some v∧yb v≠some b∧R i undef h)) ps []
def P8 (ops:Array Oper) (o:Oper) (ps:List (Nat×Nat)):Bool:=ps.all λp=>(Mj o).contains p.1&&(D7 ops p.1).any (Nat.beq p.2 ·)
theorem Gq {m mt:SM}{i:Nat}:lk (m++mt) i=(lk m i).or (lk mt i):=by
 induction m with
 |nil=>simp [lk]
 |cons e r ih=>
  obtain⟨j,v⟩:=e
  simp only[List.cons_append,lk]
  cases Nat.beq j i with
  |true=>simp
  |false=>simpa using ih
theorem Fr.append {n a m mt}(h1:Fr n a m) (h2:Fr n a mt):Fr n a (m++mt):=⟨h1.dfr,h1.siz,λi v hi=>by
 rw[Gq] at hi
 cases hm:lk m i with
 |some u=>rw[hm] at hi;simp at hi;subst hi;exact h1.at_ i _ hm
 |none=>rw[hm] at hi;simp at hi;exact h2.at_ i v hi⟩
def FG (a:Act):SM:=(List.range a.tmps.size).map λi=>(i,a.tmps.getD i undef)
theorem Mz (f:Nat→Value):∀(k s i:Nat),s≤i→i<s+k→lk ((List.range' s k).map λi=>(i,f i)) i=some (f i)
 |0,s,i,h1,h2=>by omega
 |k+1,s,i,h1,h2=>by
  simp only[List.range'_succ,List.map_cons,lk]
  by_cases e:s=i
  ·subst e;simp
  ·have:Nat.beq s i=false:=by
    cases hb:Nat.beq s i with
    |false=>rfl
    |true=>exact absurd (Nat.eq_of_beq_eq_true hb) e
   rw[this]
   exact Mz f k (s+1) i (by omega) (by omega)
theorem L9 {a:Act}{i:Nat}(h:i<a.tmps.size):lk (FG a) i=some (a.tmps.getD i undef):=by
 unfold FG
 rw[List.range_eq_range']
 exact Mz _ _ 0 i (by omega) (by omega)
theorem My (f:Nat→Value):∀(k s i:Nat),s+k≤i→lk ((List.range' s k).map λi=>(i,f i)) i=none
 |0,s,i,h=>rfl
 |k+1,s,i,h=>by
  simp only[List.range'_succ,List.map_cons,lk]
  have:Nat.beq s i=false:=by
   cases hb:Nat.beq s i with
   |false=>rfl
   |true=>exact absurd (Nat.eq_of_beq_eq_true hb) (by omega)
  rw[this]
  exact My f k (s+1) i (by omega)
theorem Fr.full {n a m}(h:Fr n a m):Fr n a (FG a):=⟨h.dfr,h.siz,λi v hi=>by
 by_cases hl:i<a.tmps.size
 ·rw[L9 hl] at hi
  injection hi with hi
  subst hi
  simp [Array.getD_eq_getD_getElem?,Array.getElem?_eq_getElem hl]
 ·unfold FG at hi
  rw[List.range_eq_range',My _ _ 0 i (by omega)] at hi
  cases hi⟩
section
variable {P:Program}{ops:Array Oper}{Q:Exit→Act→World→Prop}{a:Act}{w:World}
theorem HQ {o:Oper}{K:Act→World→Prop}(hg:o.guard=none) (h:wpList P ops (Exit.then K Q) [o] a w):o.wp P a w K Q∨(o.asks P a w∧LetsOut Q):=by
 unfold wpList at h
 rw[if_pos (by simp [Region.wanted,hg])] at h
 rcases h with h1|⟨h1,a0,w0,h2⟩
 ·refine .inl ?_
  unfold Oper.wp at h1 ⊢
  generalize (execOp a.eval o).run P w=r at h1
  cases r with
  |ok nx w'=>
   cases nx<;>simp only[Oper.upon] at h1 ⊢
   case value v=>exact h1
   case skip=>exact h1
   case defer d=>exact h1
   case enter f args=>
    refine h1.mono λe w'' he=>?_
    cases e with
    |returned v=>exact he
    |panicked c=>exact he
    |outgrown=>obtain⟨a0,w0,h0⟩:=he;exact⟨a0,w0,h0⟩
   case row r args=>obtain h1:=h1;exact Rows.mono h1 λv w'' hv=>hv
  |halt x w'=>cases x<;>simp only[Oper.upon] at h1 ⊢;exact h1
 ·exact .inr ⟨h1,a0,w0,h2⟩
theorem Lf {o:Oper}{K:Act→World→Prop}(h:({ o with guard:=none}:Oper).wp P a w K Q∨(({ o with guard:=none}:Oper).asks P a w∧LetsOut Q)):o.wp P a w K Q∨(o.asks P a w∧LetsOut Q):=h
def N4 (listed:Array Bool):Nat:=listed.toList.count false
theorem Jf {listed:Array Bool}{i:Nat}(h:listed.getD i true=false):N4 (listed.setIfInBounds i true)+1=N4 listed:=by
 have hlt:i<listed.size:=by
  rcases Nat.lt_or_ge i listed.size with h'|h'
  ·exact h'
  ·simp [Array.getElem?_eq_none h'] at h
 have hi:listed[i]=false:=by simpa [hlt] using h
 have hm:false∈listed.toList:=by rw[←hi];simp
 have hpos:0<listed.toList.count false:=List.count_pos_iff.2 hm
 unfold N4
 rw[Array.toList_setIfInBounds,List.count_set (by simpa using hlt)]
 have e1:listed.toList[i]'(by simpa using hlt)=false:=by simpa using hi
 rw[e1]
 rw[show (if (false==false)=true then 1 else 0:Nat)=1 from rfl,show(if (true==false)=true then 1 else 0:Nat)=0 from rfl]
 omega
theorem NO {listed:Array Bool}(h:N4 listed=0) {i:Nat}:listed.getD i true=true:=by
 cases hl:listed.getD i true with
 |true=>rfl
 |false=>have:=Jf hl;omega
theorem K9 {listed:Array Bool}(h:∀i,i<ops.size→listed.getD i true=true):Region.ready .any ops listed=[]:=by
 apply List.eq_nil_iff_forall_not_mem.2
 intro j hj
 obtain⟨h1,o,ho,_⟩:=mem_ready.1 hj
 rw[h j (Array.getElem?_eq_some_iff.1 ho).1] at h1
 cases h1
theorem HX {listed:Array Bool}(hb:KB ops=true) (hs:listed.size=ops.size) {k:Nat}(hk:k<ops.size) (hu:listed.getD k true=false):∃i,i≤k∧i∈Region.ready .any ops listed∧∀j,j<i→listed.getD j true=true:=by
 obtain⟨i,h1,h2,h3⟩:=Ji (p:=λi=>listed.getD i true) k hu
 have hilt:i<ops.size:=by omega
 refine⟨i,h1,mem_ready.2 ⟨h2,ops[i],by simp [hilt],λe he hbi=>?_⟩,h3⟩
 have h4:=List.all_eq_true.1 hb i (List.mem_range.2 hilt)
 have h5:ops[i]? =some ops[i]:=by simp [hilt]
 rw[h5] at h4
 simp only[Option.map_some,Option.getD_some,Array.all_eq_true_iff_forall_mem] at h4
 have h6:=h4 e he
 simp only[hbi,Bool.not_true,Bool.false_or,decide_eq_true_eq] at h6
 have h7:=h3 e.on h6
 have h8:e.on<listed.size:=by omega
 simp only[Array.getD_eq_getD_getElem?,Array.getElem?_eq_getElem h8,Option.getD_some] at h7 ⊢
 exact h7
theorem Lj {kk:Nat}(hc:Region.chainB .any ops kk=true) (hb:KB ops=true):∀(fuel t:Nat) (listed:Array Bool) (a:Act) (w:World),kk≤t→t+fuel=ops.size→listed.size=ops.size→(∀j,j<t→listed.getD j true=true)→(∀j,t≤j→j<ops.size→listed.getD j true=false)→
  wpList P ops Q (ops.toList.drop t) a w→wpAny P .any ops Q fuel listed a w
 |0,t,listed,a,w,_,h1,h2,h3,h4,h5=>by
  rw[List.drop_eq_nil_of_le (by simp;omega)] at h5
  exact⟨K9 λi hi=>h3 i (by omega),h5⟩
 |fuel+1,t,listed,a,w,hk,h1,h2,h3,h4,h5=>by
  have htlt:t<ops.size:=by omega
  have hut:=h4 t (Nat.le_refl _) htlt
  obtain⟨i,q1,q2,q3⟩:=HX hb h2 htlt hut
  have hit:i=t:=by
   rcases Nat.lt_or_eq_of_le q1 with h|h
   ·exact absurd (h3 i h) (by rw[(mem_ready.1 q2).1];exact Bool.false_ne_true)
   ·exact h
  subst hit
  refine⟨λh0=>absurd (h0▸q2) (by simp),λj hj=>?_⟩
  have hji:j=i:=by
   obtain⟨g1,oj,hoj,hall⟩:=mem_ready.1 hj
   have hjlt:=(Array.getElem?_eq_some_iff.1 hoj).1
   by_cases hlt:j<i
   ·rw[h3 j hlt] at g1;cases g1
   ·by_cases e:j=i
    ·exact e
    ·have g2:=List.all_eq_true.1 hc j (List.mem_range.2 hjlt)
     simp only[Bool.or_eq_true,decide_eq_true_eq] at g2
     rcases g2 with g2|g2
     ·omega
     ·obtain⟨o',ho',e',he',hb',hon⟩:=Region.waitsFor_spec g2
      have:o'=oj:=Option.some.inj (ho'.symm.trans hoj)
      subst this
      have g3:=hall e' he' hb'
      have g4:=h4 (j-1) (by omega) (by omega)
      rw[hon,getD_both g4] at g3
      cases g3
  subst hji
  have hoj:ops[j]? =some ops[j]:=by simp [htlt]
  rw[List.drop_eq_getElem_cons (by simpa using htlt)] at h5
  simp only[Array.getElem_toList] at h5
  have ih:=λa w=>Lj hc hb fuel (j+1) (listed.setIfInBounds j true) a w (by omega) (by omega) (by simpa using h2)
   (λi hi=>by
    by_cases e:i=j
    ·subst e
     have:i<listed.size:=by omega
     simp [Array.getD_eq_getD_getElem?,Array.getElem?_setIfInBounds,this]
    ·rw[getD_set_ne true (by omega)];exact h3 i (by omega))
   (λi hi hi'=>by rw[getD_set_ne true (by omega)];exact h4 i (by omega) hi')
  unfold wpOp
  simp only[hoj]
  unfold wpList at h5
  split
  ·rename_i hw
   rw[if_pos hw] at h5
   exact h5.imp (Oper.wp_mono ih) id
  ·rename_i hw
   rw[if_neg hw] at h5
   exact ih _ _ h5
structure YT (B:World) (h0:Ad) (n:FN) (m:SM) (ops:Array Oper) (kk:Nat) (R:AR) (listed:Array Bool) (a:Act) (w:World):Prop where
 ex:∃h,Wd B h w∧Ap h0 h∧Fr n a m∧∀i,i<kk→listed.getD i false=true→∃d v,D7 ops i=some d∧a.tmps[d]? =some v∧R i v h
theorem Fr.same {n:FN}{a a':Act}{d:Nat}{v:Value}{fm m':SM}(hd:d<n.1) (h:Fr n a fm) (h':Fr n a' ((d,v)::m')) (hm:∀i u,i≠d→a.tmps[i]? =some u→lk ((d,v)::m') i=some u):a'=a.put (some d) v:=by
 obtain⟨t,ds⟩:=a
 obtain⟨t',ds'⟩:=a'
 have e1:ds=n.2:=h.dfr
 have e2:ds'=n.2:=h'.dfr
 subst e1;subst e2
 have s1:t.size=n.1:=h.siz
 have s2:t'.size=n.1:=h'.siz
 simp only[Act.put,Act.mk.injEq,and_true]
 apply Array.ext_getElem?
 intro i
 rw[Array.getElem?_setIfInBounds]
 by_cases e:d=i
 ·subst e
  rw[if_pos rfl,if_pos (by omega)]
  exact h'.at_ d v (by simp [lk])
 ·rw[if_neg e]
  cases hu:t[i]? with
  |some u=>exact h'.at_ i u (hm i u (λe'=>e e'.symm) hu)
  |none=>
   have:t.size≤i:=by
    rcases Nat.lt_or_ge i t.size with h1|h1
    ·rw[Array.getElem?_eq_getElem h1] at hu;cases hu
    ·exact h1
   exact Array.getElem?_eq_none (by omega)
theorem OD {listed:Array Bool}{kk:Nat}(hk:kk≤listed.size) (h1:∀i,i<kk→listed.getD i true=true) (h2:∀i,kk≤i→i<listed.size→listed.getD i true=false):kk+N4 listed=listed.size:=by
 have e:listed.toList=listed.toList.take kk++listed.toList.drop kk:=(List.take_append_drop _ _).symm
 unfold N4
 rw[e,List.count_append]
 have c1:(listed.toList.take kk).count false=0:=by
  rw[List.count_eq_zero]
  intro hm
  obtain⟨i,hi,hb⟩:=List.mem_iff_getElem.1 hm
  have hi':i<kk∧i<listed.size:=by simp at hi;omega
  have:=h1 i hi'.1
  rw[List.getElem_take] at hb
  simp [hi'.2] at this
  simp [this] at hb
 have c2:(listed.toList.drop kk).count false=(listed.toList.drop kk).length:=by
  rw[List.count_eq_length]
  intro b hm
  obtain⟨i,hi,hb⟩:=List.mem_iff_getElem.1 hm
  have hi':kk+i<listed.size:=by simp at hi;omega
  have:=h2 (kk+i) (by omega) hi'
  rw[List.getElem_drop] at hb
  simp [hi'] at this
  simp [this] at hb
  exact hb.symm
 rw[c1,c2]
 simp
 omega
theorem IN {R:AR}{h:Ad}{K:SM→Prop}{n:FN}:∀(js:List (Nat×Nat)) (fr:SM),PA R h K js fr→(∀p∈js,∃v,a.tmps[p.2]? =some v∧R p.1 v h)→Fr n a fr→∃fr',K fr'∧Fr n a fr'
 |[],fr,hp,_,hf=>⟨fr,hp,hf⟩
 |(j,d)::js,fr,hp,hj,hf=>by
  obtain⟨v,e2,e3⟩:=hj (j,d) (by simp)
  refine IN js _ (hp v e3) (λj' hj'=>hj j' (by simp [hj'])) ⟨hf.dfr,hf.siz,λi u hi=>?_⟩
  simp only[lk] at hi
  cases hb:Nat.beq d i with
  |true=>
   rw[hb] at hi
   simp only[cond_true,Option.some.injEq] at hi
   have:=Nat.eq_of_beq_eq_true hb
   subst this;subst hi
   exact e2
  |false=>rw[hb] at hi;simp only[cond_false] at hi;exact hf.at_ i u hi
theorem QQ {m:SM}{i:Nat}{v:Value}(h:lk m i=some v):i∈m.map (·.1):=by
 induction m with
 |nil=>simp [lk] at h
 |cons e r ih=>
  obtain⟨j,u⟩:=e
  simp only[lk] at h
  cases hb:Nat.beq j i with
  |true=>have:=Nat.eq_of_beq_eq_true hb;subst this;simp
  |false=>rw[hb] at h;simp only[cond_false] at h;simp [ih h]
theorem JT {n:FN}{fr:SM}{g d:Nat}(hf:Fr n a fr) {v:Value}(h1:D7 ops g=some d) (h2:lk fr d=some v):yielded ops a.tmps g=yb v:=by
 have h3:=hf.at_ d v h2
 unfold yielded
 unfold D7 at h1
 simp only[h1,Option.bind_some,h3]
 cases v<;>rfl
theorem Ut {B:World}{h0:Ad}{kk:Nat}{n:FN}{m:SM}{R:AR}(hkk:kk≤ops.size) (hb:KB ops=true)
  (hcut:kk=ops.size∨(Region.sinkB .any ops kk=true∧Region.chainB .any ops kk=true))
  (hown:UX ops kk n (m.map (·.1))=true)
  (hmono:∀i v h h',Ap h0 h→Ap h h'→R i v h→R i v h')
  (step:∀i o d,i<kk→ops[i]? =some o→o.dst=some d→∃ps,P8 ops o ps=true∧OW P ops Q B n m h0 R i o d ps)
  (fin:∀a w h,Wd B h w→Ap h0 h→Fr n a m→(∀i,i<kk→∃d v,D7 ops i=some d∧a.tmps[d]? =some v∧R i v h)→wpList P ops Q (ops.toList.drop kk) a w):
  ∀(fuel:Nat) (listed:Array Bool) (a:Act) (w:World),N4 listed=fuel→HeadInv .any ops kk listed→YT B h0 n m ops kk R listed a w→wpAny P .any ops Q fuel listed a w:=by
 intro fuel
 induction fuel with
 |zero=>
  intro listed a w hu inv ai
  have hall:∀i,listed.getD i true=true:=λi=>NO hu
  obtain⟨h,g1,g2,g3,g4⟩:=ai.ex
  have hk:kk=ops.size:=by
   rcases Nat.lt_or_eq_of_le hkk with h|h
   ·have h1:=inv.tail kk (Nat.le_refl _) h
    have h2:=hall kk
    rw[h1] at h2
    cases h2
   ·exact h
  have hf:=fin a w h g1 g2 g3 λi hi=>g4 i hi (by
   have h2:=hall i
   have:i<listed.size:=by rw[inv.size];omega
   simpa [this] using h2)
  rw[List.drop_eq_nil_of_le (by simp;omega)] at hf
  exact⟨K9 λi _=>hall i,hf⟩
 |succ fuel ih=>
  intro listed a w hu inv ai
  obtain⟨h,g1,g2,g3,g4⟩:=ai.ex
  by_cases hall:∀i,i<kk→listed.getD i true=true
  ·
   have hf:=fin a w h g1 g2 g3 λi hi=>g4 i hi (by
    have h2:=hall i hi
    have:i<listed.size:=by rw[inv.size];omega
    simpa [this] using h2)
   have hlt:kk<ops.size:=by
    rcases Nat.lt_or_eq_of_le hkk with h|h
    ·exact h
    ·exfalso
     have hnone:∀b∈listed.toList,b=true:=by
      intro b hb'
      obtain⟨i,hi,rfl⟩:=List.mem_iff_getElem.1 hb'
      have hi':i<listed.size:=by simpa using hi
      have:=hall i (by have:=inv.size;omega)
      simpa [hi'] using this
     have:N4 listed=0:=by
      unfold N4
      rw[List.count_eq_zero]
      intro hm
      have:=hnone _ hm
      cases this
     omega
   rcases hcut with hc|⟨_,hc⟩
   ·omega
   ·refine Lj hc hb (fuel+1) kk listed a w (Nat.le_refl _) ?_ inv.size hall (λj hj hj'=>inv.tail j hj hj') hf
    have:=OD (by rw[inv.size];exact hkk) hall (λj hj hj'=>inv.tail j hj (by rw[←inv.size];exact hj'))
    rw[inv.size] at this
    omega
  ·obtain⟨k0,hk0,hu0⟩:∃k0,k0<kk∧listed.getD k0 true=false:=by
    apply Classical.byContradiction
    intro hno
    refine hall λi hi=>?_
    cases hl:listed.getD i true with
    |true=>rfl
    |false=>exact absurd ⟨i,hi,hl⟩ hno
   obtain⟨i0,_,hi0,_⟩:=HX hb inv.size (show k0<ops.size by omega) hu0
   refine⟨λh0=>absurd (h0▸hi0) (by simp),λi hi=>?_⟩
   obtain⟨hun,o,ho,hpre⟩:=mem_ready.1 hi
   have hilt:i<ops.size:=(Array.getElem?_eq_some_iff.1 ho).1
   have hik:i<kk:=by
    rcases Nat.lt_or_ge i kk with h|h
    ·exact h
    ·rcases hcut with hc|⟨hs,hc⟩
     ·omega
     ·exact absurd hi (tail_waits hs hc (by omega) inv _ k0 rfl hk0 hu0 i h)
   have hown':=List.all_eq_true.1 hown i (List.mem_range.2 hik)
   cases hd:D7 ops i with
   |none=>rw[hd] at hown';cases hown'
   |some d=>
   rw[hd] at hown'
   simp only[Bool.and_eq_true,Bool.not_eq_true',List.all_eq_true,List.mem_range,Bool.or_eq_true] at hown'
   obtain⟨⟨hdn,hdm⟩,hdj⟩:=hown'
   have hdn1:d+1≤n.1:=by simpa [Nat.blt] using hdn
   have hdn':d<n.1:=hdn1
   have hod:o.dst=some d:=by unfold D7 at hd;rw[ho] at hd;exact hd
   have hpreds:∀j∈Mj o,∃d v,D7 ops j=some d∧a.tmps[d]? =some v∧R j v h:=by
    intro j hj
    obtain⟨e,he,rfl⟩:=List.mem_map.1 hj
    obtain⟨he1,he2⟩:=List.mem_filter.1 he
    have he3:e∈o.after:=by simpa using he1
    have h1:=hpre e he3 he2
    have h4:=List.all_eq_true.1 hb i (List.mem_range.2 hilt)
    rw[ho] at h4
    simp only[Option.map_some,Option.getD_some,Array.all_eq_true_iff_forall_mem] at h4
    have h6:=h4 e he3
    simp only[he2,Bool.not_true,Bool.false_or,decide_eq_true_eq] at h6
    exact g4 e.on (by omega) h1
   obtain⟨ps,hps,hstep⟩:=step i o d hik ho hod
   have hpreds2:∀p∈ps,∃v,a.tmps[p.2]? =some v∧R p.1 v h:=by
    intro p hp
    have h1:=List.all_eq_true.1 hps p hp
    simp only[Bool.and_eq_true] at h1
    obtain⟨d',v,q1,q2,q3⟩:=hpreds p.1 (by simpa using h1.1)
    have h2:=h1.2
    rw[q1] at h2
    have:p.2=d':=Nat.eq_of_beq_eq_true (by simpa using h2)
    exact⟨v,by rw[this];exact q2,q3⟩
   obtain⟨fr,hK,hfr⟩:=IN (a:=a) (n:=n) _ _ (hstep (FG a) h g2) hpreds2 ⟨g3.dfr,g3.siz,λi v hi=>by simp [lk] at hi⟩
   have hfull:Fr n a (fr++(m++FG a)):=hfr.append (g3.append g3.full)
   have hlk:∀i u,a.tmps[i]? =some u→lk (fr++(m++FG a)) i=some u:=by
    intro i u hu
    have hl:lk (FG a) i=some u:=by
     have:i<a.tmps.size:=(Array.getElem?_eq_some_iff.1 hu).1
     rw[L9 this]
     simp [Array.getD_eq_getD_getElem?,hu]
    have hex:∃u',lk (fr++(m++FG a)) i=some u':=by
     rw[Gq,Gq,hl]
     cases lk fr i with
     |some x=>exact⟨x,by simp⟩
     |none=>cases lk m i with
      |some x=>exact⟨x,by simp⟩
      |none=>exact⟨u,by simp⟩
    obtain⟨u',hu'⟩:=hex
    have:=hfull.at_ i u' hu'
    rw[hu] at this
    rw[hu',←Option.some.inj this]
   have next:∀v w' h',Wd B h' w'→Ap h h'→R i v h'→wpAny P .any ops Q fuel (listed.setIfInBounds i true) (a.put (some d) v) w':=by
    intro v w' h' hw' ho' hr
    refine ih _ _ _ (by have:=Jf hun;omega) (inv.set hi hik) ⟨h',hw',g2.trans ho',?_,λj hj hl=>?_⟩
    ·have hp:=g3.put hdn v
     refine⟨hp.dfr,hp.siz,λi' u hi'=>hp.at_ i' u ?_⟩
     have hne:Nat.beq d i'=false:=by
      cases hb':Nat.beq d i' with
      |false=>rfl
      |true=>
       have:=Nat.eq_of_beq_eq_true hb'
       subst this
       have h1:=QQ hi'
       rw[←List.contains_iff_mem] at h1
       rw[h1] at hdm
       cases hdm
     simp only[lk,hne,cond_false]
     exact hi'
    ·by_cases e:i=j
     ·subst e
      refine⟨d,v,hd,?_,hr⟩
      simp only[Act.put,Array.getElem?_setIfInBounds]
      have:=g3.siz
      simp [this,hdn']
     ·rw[getD_set_ne false e] at hl
      obtain⟨dj,vj,q1,q2,q3⟩:=g4 j hj hl
      refine⟨dj,vj,q1,?_,hmono _ _ _ _ g2 ho' q3⟩
      have h1:=hdj j hj
      rw[q1] at h1
      have hne:d≠dj:=by
       rcases h1 with h1|h1
       ·exact absurd (Nat.eq_of_beq_eq_true h1) e
       ·intro e'
        subst e'
        simp at h1
      simp only[Act.put,Array.getElem?_setIfInBounds]
      rw[if_neg hne]
      exact q2
   have conv:∀a' w',KS B n d (R i) h (fr++(m++FG a)) a' w'→wpAny P .any ops Q fuel (listed.setIfInBounds i true) a' w':=by
    rintro a' w' ⟨v,h',f1,f2,f3,f4⟩
    have:=Fr.same hdn' hfull f1 λi u hi hu=>by
     have hne:Nat.beq d i=false:=by
      cases hb':Nat.beq d i with
      |false=>rfl
      |true=>exact absurd (Nat.eq_of_beq_eq_true hb').symm hi
     simp only[lk,hne,cond_false]
     exact hlk i u hu
    subst this
    exact next v w' h' f2 f3 f4
   unfold wpOp
   simp only[ho]
   cases hg:o.guard with
   |none=>
    rw[hg] at hK
    rw[if_pos (by simp [Region.wanted,hg])]
    exact(HQ hg (hK a w hfull g1)).imp (Oper.wp_mono conv) id
   |some gb=>
    obtain⟨g,b⟩:=gb
    rw[hg] at hK
    obtain⟨dg,q1,hK⟩:=hK
    rcases hK with ⟨k1,k2⟩|⟨v,k1,k2,k3⟩
    ·have hy:yielded ops a.tmps g=some b:=JT hfr q1 k1
     rw[if_pos (by simp [Region.wanted,hg,hy])]
     exact(Lf (HQ rfl (k2 a w hfull g1))).imp (Oper.wp_mono conv) id
    ·have hy:yielded ops a.tmps g≠some b:=by rw[JT hfr q1 k1];exact k2
     rw[if_neg (by simp [Region.wanted,hg,hy]),hod]
     exact next undef w h g1 (Ap.refl h) k3
def AQ (P:Program) (ops:Array Oper) (Q:Exit→Act→World→Prop) (B:World) (n:FN) (m:SM) (h0:Ad) (R:AR):Nat→List Oper→List (List (Nat×Nat))→Prop
 |i,o::l,ps::pss=>(match o.dst with|some d=>OW P ops Q B n m h0 R i o d ps|none=>False)∧AQ P ops Q B n m h0 R (i+1) l pss
 |_,_,_=>True
def QL (ops:Array Oper) (l:List Oper) (pss:List (List (Nat×Nat))):Bool:=Nat.beq l.length pss.length&&(l.zip pss).all λp=>P8 ops p.1 p.2
theorem AQ.at_ {B:World}{n:FN}{m:SM}{h0:Ad}{R:AR}:∀{l:List Oper}{pss:List (List (Nat×Nat))}{k i:Nat}{o:Oper}{d:Nat},AQ P ops Q B n m h0 R k l pss→QL ops l pss=true→l[i]? =some o→o.dst=some d→∃ps,P8 ops o ps=true∧OW P ops Q B n m h0 R (k+i) o d ps
 |[],_,_,_,_,_,_,_,h,_=>by simp at h
 |_::_,[],_,_,_,_,_,hb,_,_=>by simp [QL] at hb
 |o'::l,ps::pss,k,0,o,d,hs,hb,ho,hd=>by
  simp only[List.getElem?_cons_zero,Option.some.injEq] at ho
  subst ho
  simp only[AQ,hd] at hs
  simp only[QL,List.zip_cons_cons,List.all_cons,Bool.and_eq_true] at hb
  exact⟨ps,hb.2.1,hs.1⟩
 |o'::l,ps::pss,k,i+1,o,d,hs,hb,ho,hd=>by
  simp only[List.getElem?_cons_succ] at ho
  simp only[AQ] at hs
  simp only[QL,List.zip_cons_cons,List.all_cons,Bool.and_eq_true,List.length_cons] at hb
  have:=AQ.at_ (l:=l) (pss:=pss) (k:=k+1) (i:=i) hs.2 (by simp only[QL,Bool.and_eq_true];exact⟨by have:=hb.1;simpa using this,hb.2.2⟩) ho hd
  rw[show k+(i+1)=k+1+i by omega]
  exact this
end
theorem AQ.cons {P:Program}{ops:Array Oper}{Q:Exit→Act→World→Prop}{B:World}{n:FN}{m:SM}{h0:Ad}{R:AR}{i:Nat}{o:Oper}{l:List Oper}{ps:List (Nat×Nat)}{pss:List (List (Nat×Nat))}{d:Nat}(hd:o.dst=some d) (h:OW P ops Q B n m h0 R i o d ps) (t:AQ P ops Q B n m h0 R (i+1) l pss):AQ P ops Q B n m h0 R i (o::l) (ps::pss):=by
 simp only[AQ,hd]
 exact⟨h,t⟩
def SN (S:Nat→Prop) (h0 h:Ad):Nat→Prop:=λb=>S b∨(h0.size≤b∧b<h.size)
theorem SN.mono {S h0 h h'}(hS:∀b,S b→b<h0.size) (o1:Ap h0 h) (o2:Ap h h'):BO (SN S h0 h) h (SN S h0 h') h':=
 ⟨λb hb=>hb.imp_right λx=>⟨x.1,Nat.lt_of_lt_of_le x.2 o2.siz⟩,λb hb=>o2.same b (hb.elim (λx=>Nat.lt_of_lt_of_le (hS b x) o1.siz) (·.2)),o2.siz⟩
theorem SN.st {S L h0 h}(hs:St S L h0) (o:Ap h0 h):St (SN S h0 h) L h:=by
 refine⟨λb hb=>hb.elim (λx=>Nat.lt_of_lt_of_le (hs.1 b x) o.siz) (·.2),?_⟩
 refine Sp.ext hs.2 (λb x=> .inl x) (λb hb=>o.same b (hb.elim (hs.1 b) (·.1))) λb hb=>⟨Nat.lt_of_lt_of_le hb.1 o.siz,λx=>x.elim hb.2 λy=>by omega⟩
theorem SN.ext {S h0 h}(hS:∀b,S b→b<h0.size) (o:Ap h0 h):BO S h0 (SN S h0 h) h:=⟨λ_ x=> .inl x,λb hb=>o.same b (hS b hb),o.siz⟩
section
variable {P:Program}{ex:List (Nat×AP)}{RR N:AP}{cs:List Code}{B:World}{h:Ad}{n:FN}{m m0:SM}{S:Nat→Prop}{L:List HP}
theorem Iy {l:List Oper}{id:Nat}(kk:Nat) (R:AR) (pss:List (List (Nat×Nat))) (fs:List (Nat×Nat)) (hm:P.follows .mixedOrders=true) (hc:Xu l.toArray kk=true) (ms:List Nat) (hms:m.map (·.1)=ms) (hown:UX l.toArray kk n ms=true)
  (hps:QL l.toArray (l.take kk) pss=true) (hfs:(fs.all λp=>Nat.blt p.1 kk&&(D7 l.toArray p.1).any (Nat.beq p.2 ·))=true) (hsub:PL m0 m)
  (hmono:∀i v h1 h2,Ap h h1→Ap h1 h2→R i v h1→R i v h2)
  (step:AQ P l.toArray (Qx ex RR (W P ex RR cs N)) B n m h R 0 (l.take kk) pss)
  (fin:∀h',Ap h h'→PA R h' (λfr=>LF P l.toArray (Qx ex RR (W P ex RR cs N)) (l.drop kk) B h' n (fr++m)) fs []):WF P ex RR (.region id l.toArray true::cs) N B h n m0:=by
 intro a w hf hw
 subst hms
 simp only[Xu,Bool.and_eq_true,Bool.or_eq_true] at hc
 obtain⟨⟨h1,h2⟩,h3⟩:=hc
 have hkk:kk≤l.toArray.size:=Nat.le_of_ble_eq_true h1
 refine λrd hrd=>Mg hrd Jh hm (Ut (kk:=kk) (R:=R) (B:=B) (h0:=h) (n:=n) (m:=m) hkk h3 (h2.imp (λe=>Nat.eq_of_beq_eq_true e) λx=>x) hown hmono (λi o d hi ho hd=>?_) (λa w h' g1 g2 g3 g4=>?_) _ _ _ _ ?_ ⟨by simp,λj oj _ hl=>(by rw[getD_replicate_false] at hl;cases hl),λt _ ht=>getD_in (by simpa using ht) (getD_replicate_false _ _)⟩ ⟨h,hw.drew,Ap.refl h,hf.sub hsub,λi _ hl=>(by rw[getD_replicate_false] at hl;cases hl)⟩)
 ·have ho':(l.take kk)[i]? =some o:=by rw[List.getElem?_take_of_lt hi];simpa using ho
  have:=AQ.at_ step hps ho' hd
  rw[Nat.zero_add] at this
  exact this
 ·obtain⟨fr,k1,k2⟩:=IN (a:=a) (n:=n) _ _ (fin h' g2) (λp hp=>by
   have e:=List.all_eq_true.1 hfs p hp
   simp only[Bool.and_eq_true] at e
   have e1:p.1<kk:=(by simpa [Nat.blt] using e.1:p.1+1≤kk)
   obtain⟨d,v,q1,q2,q3⟩:=g4 p.1 e1
   have e2:=e.2
   rw[q1] at e2
   have:p.2=d:=Nat.eq_of_beq_eq_true (by simpa using e2)
   exact⟨v,by rw[this];exact q2,q3⟩) ⟨g3.dfr,g3.siz,λi v hi=>by simp [lk] at hi⟩
  exact k1 a w (k2.append g3) g1
 ·unfold N4
  rw[Array.toList_replicate]
  simp
end
theorem AD {P:Program}{ops:Array Oper}{Q:Exit→Act→World→Prop}{B:World}{n:FN}{d:Nat}{R:Value→Ad→Prop}{h h':Ad}{m:SM}{v:Value}(o:Ap h h') (r:R v h'):LF P ops (Exit.then (KS B n d R h m) Q) [] B h' n ((d,v)::m):=
 λ_ _ hf hw=>⟨v,h',hf,hw,o,r⟩
def Fz (F0:Nat→Prop) (h:Ad):HP where
 holds:=λ_ F h'=>(∀b,F b↔F0 b)∧∀b,F0 b→h'[b]? =h[b]?
 loc:=λ⟨k1,k2⟩ _ e=>⟨k1,λb hb=>(e b (.inr ((k1 b).2 hb))).trans (k2 b hb)⟩
def Yv (S:Nat→Prop) (h:Ad):HP:=Fz (λb=>b<h.size∧¬S b) h
theorem St.fz {S L h}(hs:St S L h):St S [Yv S h] h:=⟨hs.1,_,⟨λ_=>Iff.rfl,λ_ _=>rfl⟩,λb hb=>hb,trivial⟩
theorem Fz.done {S S2:Nat→Prop}{h0 h h2:Ad}(o:Ap h0 h) (e:BO (SN S h0 h) h S2 h2) (hs:St S2 [Yv (SN S h0 h) h] h2):Ap h h2∧BO S2 h2 (SN S h0 h2) h2:=by
 obtain⟨F,⟨k1,k2⟩,k3,_⟩:=hs.2
 refine⟨⟨e.siz,λb hb=>?_⟩,λb hb=>?_,λ_ _=>rfl,Nat.le_refl _⟩
 ·rcases Classical.em (SN S h0 h b) with g|g
  ·exact e.same b g
  ·exact k2 b ⟨hb,g⟩
 ·rcases Nat.lt_or_ge b h.size with g|g
  ·rcases Classical.em (SN S h0 h b) with g2|g2
   ·exact g2.imp_right λx=>⟨x.1,hs.1 b hb⟩
   ·exact absurd hb (k3 b ((k1 b).2 ⟨g,g2⟩)).2
  ·exact .inr ⟨Nat.le_trans o.siz g,hs.1 b hb⟩
def RZ (sz:Nat):Nat→List (Nat×Value)→Bool
 |_,[]=>true
 |k,(i,v)::r=>Nat.beq i k&&Nat.beq v.cells.toList.length sz&&RZ sz (k+1) r
theorem OP {sz len:Nat}:∀(pv:List (Nat×Value)) (k:Nat) (pre rest:List Value),RZ sz k pv=true→pre.length=k*sz→rest.length=pv.length*sz→k+pv.length≤len→
  I9 (Ok sz len) (pre++rest) pv=some (pre++(pv.map λp=>p.2.cells.toList).flatten)
 |[],k,pre,rest,_,_,h2,_=>by
  have:rest=[]:=List.eq_nil_of_length_eq_zero (by simpa using h2)
  subst this
  simp [I9]
 |(i,v)::r,k,pre,rest,h0,h1,h2,h3=>by
  simp only[RZ,Bool.and_eq_true] at h0
  obtain⟨⟨e1,e2⟩,e3⟩:=h0
  have e1:=Nat.eq_of_beq_eq_true e1
  subst e1
  have hv:=Nat.eq_of_beq_eq_true e2
  simp only[List.length_cons,Nat.succ_mul] at h2
  have hk:i<len:=by simp at h3;omega
  have hp:(Ok sz len)[i]? =some (i*sz,sz):=by simp [Ok,hk]
  simp only[I9,hp]
  have hc:(Nat.beq v.cells.toList.length sz&&Nat.ble (i*sz+sz) (pre++rest).length)=true:=by
   rw[e2,Bool.true_and]
   exact Nat.ble_eq_true_of_le (by rw[List.length_append];omega)
  rw[hc]
  simp only[cond_true]
  have hput:E2 (pre++rest) (i*sz) v.cells.toList=(pre++v.cells.toList)++rest.drop sz:=by
   unfold E2
   rw[←h1,List.take_left,←List.drop_drop,List.drop_left,hv]
  rw[hput,OP r (i+1) (pre++v.cells.toList) (rest.drop sz) e3 (by rw[List.length_append,hv,Nat.succ_mul];omega) (by rw[List.length_drop];omega) (by simp at h3;omega)]
  simp
theorem Qq {sz:Nat}:∀(pv:List (Nat×Value)) (k:Nat),RZ sz k pv=true→∀p∈pv,p.1<k+pv.length
 |[],_,_,p,hp=>by cases hp
 |(i,v)::r,k,h0,p,hp=>by
  simp only[RZ,Bool.and_eq_true] at h0
  obtain⟨⟨e1,e2⟩,e3⟩:=h0
  have e1:=Nat.eq_of_beq_eq_true e1
  rcases List.mem_cons.1 hp with h|h
  ·subst h;simp;omega
  ·have:=Qq r (k+1) e3 p h;simp;omega
theorem Gn {P:Program}{ops:Array Oper}{Q:Exit→Act→World→Prop}{n:FN}{m:SM}{rest:List Oper}{d:Nat}{ty:TypeId}{pos:String}{af:Array Edge}{B:World}{h:Ad}{S:Nat→Prop}{L:List HP}
  {T e sz by_ len:Nat} {z cs:List Value} {parts:Array (Nat×Operand)} {pv:List (Nat×Value)} (he:Lt P T=some (e,sz,by_,z)) (hp:parts.toList.mapM (UW m)=some pv)
  (hq:RZ sz 0 pv=true) (hl:Nat.beq pv.length len=true) (hc:(pv.map λp=>p.2.cells.toList).flatten=cs) (hl0:Nat.blt 0 len=true) (hsm:Nat.ble (len*sz) 16777216=true) (hd:Nat.blt d n.1=true) (hs:St S L h)
  (k:∀b h',St S (Bx b e cs::L) h'→BO S h S h'→LF P ops Q rest B h' n ((d,.slice (some ⟨b,0,none⟩) len len)::m)):LF P ops Q (⟨some d,.buildSlice T len parts,ty,pos,af,none⟩::rest) B h n m:=by
 have hl:=Nat.eq_of_beq_eq_true hl
 subst hl
 obtain⟨i,zv,_,_,_,_,_,_,h7,_⟩:=ID he
 refine LF.bs he hp (cs:=cs) ?_ hl0 hsm (λp hp=>by have:=Qq pv 0 hq p hp;omega) hd hs k
 have:=OP (len:=pv.length) pv 0 [] (List.replicate pv.length z).flatten hq (by simp) (by simp [h7]) (by omega)
 rw[List.nil_append,List.nil_append,hc] at this
 exact this
end Go.Proofs.YtibidnaedddfdaaGreat
