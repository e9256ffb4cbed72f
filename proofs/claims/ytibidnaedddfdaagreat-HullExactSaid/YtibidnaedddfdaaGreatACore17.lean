import Derived.Test.YtibidnaedddfdaaGreatACore16
namespace Go.Proofs.YtibidnaedddfdaaGreat
open Go.RowKit
set_option linter.unusedVariables false
set_option linter.unusedSimpArgs false
theorem N1.head {ops:Array Oper}{k1:Nat}{ks:List Nat}{listed:Array Bool}(inv:N1 ops (k1::ks) listed) (hi:k1∈Region.ready .any ops listed) (hin:k1∉ks):N1 ops ks (listed.setIfInBounds k1 true):=by
 obtain⟨_,oi,hoi,hall⟩:=mem_ready.1 hi
 refine⟨by simp [inv.size],λj oj hj hl e he hb=>?_,λt ht=>by rw[getD_set_ne true (λe:k1=t=>hin (by rw[e];exact ht))];exact inv.tail t (List.mem_cons_of_mem _ ht)⟩
 by_cases hij:k1=j
 ·subst hij
  have:oj=oi:=Option.some.inj (hj.symm.trans hoi)
  subst this
  exact getD_set_true (hall e he hb)
 ·rw[getD_set_ne false hij] at hl
  exact getD_set_true (inv.closed j oj hj hl e he hb)
def Kl (n:Nat) (ks G:List Nat):List Nat:=(List.range n).filter λi=> !ks.contains i&& !G.contains i
def RE (ops:Array Oper) (k1:Nat) (ks F G:List Nat):Bool:=
 (k1::ks).all (λt=>Nat.blt t ops.size)&&decide (k1::ks).Nodup&&Pc ops (k1::ks) (F++G)&&MO ops (k1::ks)&&NN ops (k1::ks)&&KB ops&&Region.noSelect ops&&(ks.isEmpty||Pc ops ks (Kl ops.size ks G))&&NN ops ks&&(G.all λi=> !(k1::ks).contains i)&&
 F.all λf=> !G.contains f&&match ops[f]? with|some o=>o.after.all λe=> !Region.binds .any e||(Nat.blt e.on ops.size&& !(k1::ks).contains e.on&& !(F++G).contains e.on)|none=>false
def Wm (P:Program) (l:List Oper) (Q:Exit→Act→World→Prop) (B:World) (n:FN) (m2:SM) (h1 h2:Ad) (R:AR) (ks G:List Nat):Prop:=
 ∃(R2:AR) (pss:List (List (Nat×Nat))) (fs:List (Nat×Nat)) (ls:List Oper) (ms:List Nat),m2.map (·.1)=ms∧
  Sj l.toArray (ks++Kl l.length ks G) n ms=true∧Pi l.toArray (ks++Kl l.length ks G) l pss=true∧
  ((l.zip pss).zipIdx.all λp=>(ks++Kl l.length ks G).contains p.2||p.1.2.all λq=> !(Kl l.length ks G).contains q.1)=true∧
  (fs.all λp=>Nat.blt p.1 l.length&& !(ks++Kl l.length ks G).contains p.1&&(D7 l.toArray p.1).any (Nat.beq p.2 ·))=true∧(ks.filterMap λt=>l[t]?)=ls∧
  (∀i,i∈G→∀v,R i v h1→R2 i v h2)∧(∀i v h3 h4,Ap h2 h3→Ap h3 h4→R2 i v h3→R2 i v h4)∧
  Ae P l.toArray Q B n m2 h2 R2 (ks++Kl l.length ks G) [] ZB.none 0 l pss∧
  ∀h',Ap h2 h'→PA R2 h' (λfr=>LF P l.toArray Q ls B h' n (fr++m2)) fs []
theorem Wm.run {P:Program}{l:List Oper}{Q:Exit→Act→World→Prop}{B:World}{n:FN}{m2:SM}{h1 h2:Ad}{R:AR}{k1:Nat}{ks F G:List Nat}(k:Wm P l Q B n m2 h1 h2 R ks G) (hc:RE l.toArray k1 ks F G=true) (hQ:∀c a w,¬Q (.panic c) a w)
  {fuel:Nat} {listed:Array Bool} {a a2:Act} {w2:World} (hu:N4 listed=fuel+1) (inv:N1 l.toArray (k1::ks) listed) (hr:k1∈Region.ready .any l.toArray listed) (hl:∀i,i<l.toArray.size→i∉k1::ks→i∉G→listed.getD i false=true)
  (g4:∀i,i∉k1::ks→listed.getD i false=true→∃d v,D7 l.toArray i=some d∧a.tmps[d]? =some v∧R i v h1) (hw:Wd B h2 w2) (hf:Fr n a2 m2) (same:∀(i:Nat) (u:Value),a.tmps[i]? =some u→a2.tmps[i]? =some u):
  wpAny P .any l.toArray Q fuel (listed.setIfInBounds k1 true) a2 w2:=by
 obtain⟨R2,pss,fs,ls,ms,rfl,q1,q2,q3,q4,q5,q6,q7,q8,q9⟩:=k
 simp only[RE,Bool.and_eq_true,decide_eq_true_eq] at hc
 obtain⟨⟨⟨⟨⟨⟨⟨⟨⟨⟨c1,c2⟩,c3⟩,c4⟩,c5⟩,c6⟩,c7⟩,c8⟩,c9⟩,c10⟩,c11⟩:=hc
 have hnd:=List.nodup_cons.1 c2
 have hlen:l.length=pss.length:=by
  simp only[Pi,Bool.and_eq_true] at q2
  exact Nat.eq_of_beq_eq_true q2.1
 have hk1:k1<l.toArray.size:=by have:=List.all_eq_true.1 c1 k1 (List.mem_cons_self ..);simp [Nat.blt] at this ⊢;omega
 have hsz:=inv.size
 have hset:(listed.setIfInBounds k1 true).getD k1 false=true:=by
  have:k1<listed.size:=by omega
  simp [this]
 have hDl:∀i,i∈Kl l.length ks G→(listed.setIfInBounds k1 true).getD i false=true:=λi hi=>by
  unfold Kl at hi
  obtain⟨h1,h2⟩:=List.mem_filter.1 hi
  simp only[Bool.and_eq_true,Bool.not_eq_true'] at h2
  by_cases e:k1=i
  ·subst e;exact hset
  ·refine getD_set_true (hl i (by simpa using List.mem_range.1 h1) (λh=>?_) λh=>by rw[List.contains_iff_mem.2 h] at h2;cases h2.2)
   rcases List.mem_cons.1 h with h|h
   ·exact e h.symm
   ·rw[List.contains_iff_mem.2 h] at h2;cases h2.1
 refine Nx (R:=R2) (B:=B) (h0:=h2) (n:=n) (m:=m2) ks (Kl l.length ks G) [] ZB.none Wp.none (λz hz=>by cases hz) (λi hi=>by cases hi) (λt ht=>?_) hnd.2 c6 [] [] (.inl rfl) ?_ ?_ c9 c7 hQ (λf hf=>by cases hf) (λf hf=>by cases hf) q1 q7 (λi hi=>by cases hi) (λi o d hi ho hd=>?_) (λa w h' g1 g2 g3 g4 _ _=>?_) (.inl rfl) fuel _ _ _ ?_ (inv.head hr hnd.1) hDl ⟨⟨h2,hw,Ap.refl h2,hf,λi hi hil=>?_⟩,λi hi=>(by cases hi),λz hz=>(by cases hz)⟩
 ·have:=List.all_eq_true.1 c1 t (List.mem_cons_of_mem _ ht);simp [Nat.blt] at this ⊢;omega
 ·rw[Bool.or_eq_true] at c8
  refine c8.imp (λe=>by cases ks with|nil=>rfl|cons _ _=>simp at e) λx=>?_
  rw[List.nil_append,List.nil_append];simpa using x
 ·have:=LK c4
  cases ks with
  |nil=>trivial
  |cons t r=>exact this.2
 ·have ho':l[i]? =some o:=by simpa using ho
  obtain⟨ps,p1,p2⟩:=Ae.at_ (k:=0) q8 hlen (by rw[Nat.zero_add];exact hi) ho' hd
  rw[Nat.zero_add] at p2
  have hz:((o,ps),i)∈(l.zip pss).zipIdx:=by
   rw[List.mem_iff_getElem?]
   exact⟨i,by rw[List.getElem?_zipIdx,(List.getElem?_zip_eq_some (z:=(o,ps))).2 ⟨ho',p1⟩];simp⟩
  refine⟨ps,?_,λp hp h=>?_,p2⟩
  ·simp only[Pi,Bool.and_eq_true] at q2
   have:=List.all_eq_true.1 q2.2 _ hz
   rw[Bool.or_eq_true] at this
   exact this.resolve_left λh=>hi (List.contains_iff_mem.1 h)
  ·have:=List.all_eq_true.1 q3 _ hz
   rw[Bool.or_eq_true] at this
   have:=List.all_eq_true.1 (this.resolve_left λh=>hi (List.contains_iff_mem.1 h)) p hp
   rw[List.contains_iff_mem.2 h] at this
   cases this
 ·obtain⟨fr,k1,k2⟩:=IN (a:=a) (n:=n) _ _ (q9 h' g2) (λp hp=>by
   have e:=List.all_eq_true.1 q4 p hp
   simp only[Bool.and_eq_true,Bool.not_eq_true'] at e
   have e1:p.1<l.toArray.size:=by have:=e.1.1;simp [Nat.blt] at this ⊢;omega
   obtain⟨d,v,q1,q2,q3⟩:=g4 p.1 e1 (λh=>by rw[List.contains_iff_mem.2 h] at e;cases e.1.2)
   have e2:=e.2
   rw[q1] at e2
   have:p.2=d:=Nat.eq_of_beq_eq_true (by simpa using e2)
   exact⟨v,by rw[this];exact q2,q3⟩) ⟨g3.dfr,g3.siz,λi v hi=>by simp [lk] at hi⟩
  have hls':(ks.filterMap λt=>l.toArray[t]?)=ls:=by rw[←q5];congr 1;funext t;simp
  rw[hls']
  exact k1 a w (k2.append g3) g1
 ·have:=Jf (mem_ready.1 hr).1;omega
 ·have hne:k1≠i:=λe=>by
   subst e
   refine hi (List.mem_append_right _ (List.mem_filter.2 ⟨List.mem_range.2 (by simpa using hk1),?_⟩))
   simp only[Bool.and_eq_true,Bool.not_eq_true']
   refine⟨?_,?_⟩
   ·cases hx:ks.contains k1 with
    |true=>exact absurd (List.contains_iff_mem.1 hx) hnd.1
    |false=>rfl
   ·cases hx:G.contains k1 with
    |true=>
     have:=List.all_eq_true.1 c10 k1 (List.contains_iff_mem.1 hx)
     simp at this
    |false=>rfl
  rw[getD_set_ne false hne] at hil
  have hks:i∉ks:=λh=>hi (List.mem_append_left _ h)
  have hlt:i<l.length:=by
   rcases Nat.lt_or_ge i listed.size with h|h
   ·rw[hsz] at h;simpa using h
   ·rw[Array.getD_eq_getD_getElem?,Array.getElem?_eq_none h] at hil;cases hil
  have hG:i∈G:=by
   apply Classical.byContradiction
   intro hG
   refine hi (List.mem_append_right _ (List.mem_filter.2 ⟨List.mem_range.2 hlt,?_⟩))
   simp only[Bool.and_eq_true,Bool.not_eq_true']
   exact⟨by cases hx:ks.contains i with|true=>exact absurd (List.contains_iff_mem.1 hx) hks|false=>rfl,by cases hx:G.contains i with|true=>exact absurd (List.contains_iff_mem.1 hx) hG|false=>rfl⟩
  obtain⟨d,v,p1,p2,p3⟩:=g4 i (λh=>(List.mem_cons.1 h).elim (λe=>hne e.symm) hks) hil
  exact⟨d,v,p1,same _ _ p2,q6 i hG v p3⟩
theorem Wm.fin {P:Program}{l:List Oper}{Q:Exit→Act→World→Prop}{B:World}{n:FN}{m2:SM}{h1 h2:Ad}{R:AR}{k1:Nat}{ks G:List Nat}(k:Wm P l Q B n m2 h1 h2 R ks G) (hk1:k1<l.length) (hkG:k1∉G)
  {a a2:Act} {w2:World} (g4:∀i,i<l.length→i∉k1::ks→∃d v,D7 l.toArray i=some d∧a.tmps[d]? =some v∧R i v h1) (hw:Wd B h2 w2) (hf:Fr n a2 m2) (same:∀(i:Nat) (u:Value),a.tmps[i]? =some u→a2.tmps[i]? =some u):
  wpList P l.toArray Q (ks.filterMap λt=>l[t]?) a2 w2:=by
 obtain⟨R2,pss,fs,ls,ms,rfl,q1,q2,q3,q4,q5,q6,q7,q8,q9⟩:=k
 obtain⟨fr,k1',k2⟩:=IN (a:=a2) (n:=n) _ _ (q9 h2 (Ap.refl h2)) (λp hp=>by
  have e:=List.all_eq_true.1 q4 p hp
  simp only[Bool.and_eq_true,Bool.not_eq_true'] at e
  have e1:p.1<l.length:=by have:=e.1.1;simp [Nat.blt] at this ⊢;omega
  have e0:p.1∉ks++Kl l.length ks G:=λh=>by rw[List.contains_iff_mem.2 h] at e;cases e.1.2
  have hks:p.1∉ks:=λh=>e0 (List.mem_append_left _ h)
  have hG:p.1∈G:=by
   apply Classical.byContradiction
   intro hG
   refine e0 (List.mem_append_right _ (List.mem_filter.2 ⟨List.mem_range.2 e1,?_⟩))
   simp only[Bool.and_eq_true,Bool.not_eq_true']
   exact⟨by cases hx:ks.contains p.1 with|true=>exact absurd (List.contains_iff_mem.1 hx) hks|false=>rfl,by cases hx:G.contains p.1 with|true=>exact absurd (List.contains_iff_mem.1 hx) hG|false=>rfl⟩
  obtain⟨d,v,q1,q2,q3⟩:=g4 p.1 e1 (λh=>(List.mem_cons.1 h).elim (λe=>hkG (e▸hG)) hks)
  have e2:=e.2
  rw[q1] at e2
  have:p.2=d:=Nat.eq_of_beq_eq_true (by simpa using e2)
  exact⟨v,by rw[this];exact same _ _ q2,q6 _ hG v q3⟩) ⟨hf.dfr,hf.siz,λi v hi=>by simp [lk] at hi⟩
 rw[q5]
 exact k1' a2 w2 (k2.append hf) hw
def K2 (P:Program) (l:List Oper) (Q:Exit→Act→World→Prop) (B:World) (n:FN) (m2 mt:SM) (h1:Ad) (R:AR) (ks G:List Nat):Act→World→Prop:=λa w=>
 Fr n a (m2++mt)∧∃h2,Wd B h2 w∧Wm P l Q B n m2 h1 h2 R ks G
theorem UF {P:Program}{l:List Oper}{Q:Exit→Act→World→Prop}{ops:Array Oper}{B:World}{n:FN}{m2 mt:SM}{h1 h2:Ad}{R:AR}{ks G:List Nat}(k:Wm P l Q B n m2 h1 h2 R ks G):LF P ops (Exit.then (K2 P l Q B n m2 mt h1 R ks G) Q) [] B h2 n (m2++mt):=
 λa w hf hw=>⟨hf,h2,hw,k⟩
section
variable {P:Program}{ex:List (Nat×AP)}{RR N:AP}{cs:List Code}{B:World}{h:Ad}{n:FN}{m m0:SM}{S:Nat→Prop}{L:List HP}
theorem RL {l:List Oper}{id:Nat}(k1:Nat) (ks F G As:List Nat) (R:AR) (pss:List (List (Nat×Nat))) (fs:List (Nat×Nat)) {o1:Oper}(hm:P.follows .mixedOrders=true) (hc:RE l.toArray k1 ks F G=true) (ms:List Nat) (hms:m.map (·.1)=ms) (hown:Sj l.toArray (k1::ks) n ms=true)
  (hps:Pi l.toArray (k1::ks) l pss=true) (hfs:(fs.all λp=>Nat.blt p.1 l.length&& !(k1::ks).contains p.1&& !G.contains p.1&&(D7 l.toArray p.1).any (Nat.beq p.2 ·))=true) (ho1:l[k1]? =some o1) (hg1:o1.guard=none) (hsub:PL m0 m)
  (hmono:∀i v h1 h2,Ap h h1→Ap h1 h2→R i v h1→R i v h2)
  (hAs:(As.all λi=> !(k1::ks).contains i&& !G.contains i&& !F.contains i)=true) (hAl:∀i,i∈As→NC (R i))
  (hF:Jd P l.toArray (k1::ks) n m h R F)
  (step:Ae P l.toArray (Qx ex RR (W P ex RR cs N)) B n m h R (k1::ks) As ZB.none 0 l pss)
  (fin:∀mt h',Ap h h'→PA R h' (λfr=>UK (Rs l.toArray As) (lk fr)→LF P l.toArray (Exit.then (K2 P l (Qx ex RR (W P ex RR cs N)) B n (fr++m) mt h' R ks G) (Qx ex RR (W P ex RR cs N))) [o1] B h' n (fr++m++mt)) fs []):WF P ex RR (.region id l.toArray true::cs) N B h n m0:=by
 intro a w hf hw
 subst hms
 have hc':=hc
 simp only[RE,Bool.and_eq_true,decide_eq_true_eq] at hc
 obtain⟨⟨⟨⟨⟨⟨⟨⟨⟨⟨c1,c2⟩,c3⟩,c4⟩,c5⟩,c6⟩,c7⟩,c8⟩,c9⟩,c10⟩,c11⟩:=hc
 simp only[Pi,Bool.and_eq_true] at hps
 have hlen:l.length=pss.length:=Nat.eq_of_beq_eq_true hps.1
 have hAs':∀i,i∈As→i∉k1::ks∧i∉G:=λi hi=>by
  have:=List.all_eq_true.1 hAs i hi
  simp only[Bool.and_eq_true,Bool.not_eq_true'] at this
  exact⟨λh=>(by rw[List.contains_iff_mem.2 h] at this;cases this.1.1),λh=>(by rw[List.contains_iff_mem.2 h] at this;cases this.1.2)⟩
 have hAF:∀f,f∈F→f∉As:=λf hf hA=>by
  have:=List.all_eq_true.1 hAs f hA
  simp only[Bool.and_eq_true,Bool.not_eq_true'] at this
  rw[List.contains_iff_mem.2 hf] at this;cases this.2
 have hQ:∀c a w,¬(Qx ex RR (W P ex RR cs N)) (.panic c) a w:=λc a w hq=>hq
 have hk1:k1<l.toArray.size:=by have:=List.all_eq_true.1 c1 k1 (List.mem_cons_self ..);simp [Nat.blt] at this ⊢;omega
 have hFp:∀f,f∈F→∀o,l.toArray[f]? =some o→∀e,e∈o.after→Region.binds .any e=true→e.on<l.toArray.size∧e.on∉k1::ks∧e.on∉F++G:=λf hf o ho e he hb=>by
  have:=List.all_eq_true.1 c11 f hf
  rw[Bool.and_eq_true,ho] at this
  have:=this.2
  simp only[Array.all_eq_true_iff_forall_mem] at this
  have:=this e he
  simp only[hb,Bool.not_true,Bool.false_or,Bool.and_eq_true,Bool.not_eq_true'] at this
  exact⟨(by simpa [Nat.blt] using this.1.1:e.on+1≤l.toArray.size),λh=>(by rw[List.contains_iff_mem.2 h] at this;cases this.1.2),λh=>(by rw[List.contains_iff_mem.2 h] at this;cases this.2)⟩
 have hstep:∀(a:Act) (w:World) (h1:Ad) (Kp:Act→World→Prop),Wd B h1 w→Ap h h1→Fr n a m→(∀i,i<l.toArray.size→i∉k1::ks→i∉G→∃d v,D7 l.toArray i=some d∧a.tmps[d]? =some v∧R i v h1)→(∀i,i∈As→∀j,j∈As→i≠j→∀(d d':Nat) (u u':Value),D7 l.toArray i=some d→D7 l.toArray j=some d'→a.tmps[d]? =some u→a.tmps[d']? =some u'→∀b b',Mo u=some b→Mo u'=some b'→b≠b')→
   (∀(m2:SM) (a2:Act) (w2:World) (h2:Ad),Wd B h2 w2→Wm P l (Qx ex RR (W P ex RR cs N)) B n m2 h1 h2 R ks G→Fr n a2 m2→(∀(i:Nat) (u:Value),a.tmps[i]? =some u→a2.tmps[i]? =some u)→Kp a2 w2)→
   o1.wp P a w Kp (Qx ex RR (W P ex RR cs N))∨(o1.asks P a w∧LetsOut (Qx ex RR (W P ex RR cs N))):=by
  intro a w h1 Kp g1 g2 g3 g4 gd hK
  obtain⟨fr,q1,q2⟩:=IN (a:=a) (n:=n) _ _ (fin (FG a) h1 g2) (λp hp=>by
   have e:=List.all_eq_true.1 hfs p hp
   simp only[Bool.and_eq_true,Bool.not_eq_true'] at e
   have e1:p.1<l.toArray.size:=by have:=e.1.1.1;simp [Nat.blt] at this ⊢;omega
   have e3:p.1∉k1::ks:=λh=>by rw[List.contains_iff_mem.2 h] at e;cases e.1.1.2
   have e4:p.1∉G:=λh=>by rw[List.contains_iff_mem.2 h] at e;cases e.1.2
   obtain⟨d,v,q1,q2,q3⟩:=g4 p.1 e1 e3 e4
   have e2:=e.2
   rw[q1] at e2
   have:p.2=d:=Nat.eq_of_beq_eq_true (by simpa using e2)
   exact⟨v,by rw[this];exact q2,q3⟩) ⟨g3.dfr,g3.siz,λi v hi=>by simp [lk] at hi⟩
  have hdis:UK (Rs l.toArray As) (lk fr):=by
   intro s hs s' hs' hne u u' e e'
   obtain⟨i,hi,hd⟩:=List.mem_filterMap.1 hs
   obtain⟨j,hj,hd'⟩:=List.mem_filterMap.1 hs'
   exact gd i hi j hj (λe=>hne (by subst e;rw[hd] at hd';exact Option.some.inj hd')) _ _ _ _ hd hd' (q2.at_ _ _ e) (q2.at_ _ _ e')
  have hfull:Fr n a (fr++m++FG a):=(q2.append g3).append g3.full
  have hlk:∀(a2:Act),Fr n a2 (fr++m++FG a)→∀(i:Nat) (u:Value),a.tmps[i]? =some u→a2.tmps[i]? =some u:=by
   intro a2 hf2 i u hu
   have hl:lk (FG a) i=some u:=by
    have:i<a.tmps.size:=(Array.getElem?_eq_some_iff.1 hu).1
    rw[L9 this]
    simp [Array.getD_eq_getD_getElem?,hu]
   have hex:∃u',lk (fr++m++FG a) i=some u':=by
    rw[Gq,hl]
    cases lk (fr++m) i with
    |some x=>exact⟨x,by simp⟩
    |none=>exact⟨u,by simp⟩
   obtain⟨u',hu'⟩:=hex
   have h5:=hfull.at_ i u' hu'
   rw[hu] at h5
   have h6:=hf2.at_ i u' hu'
   rw[h6,Option.some.inj h5]
  have hsubm:∀(a2:Act),Fr n a2 (fr++m++FG a)→Fr n a2 (fr++m):=λa2 hf2=>⟨hf2.dfr,hf2.siz,λi v hi=>hf2.at_ i v (by rw[Gq,hi];rfl)⟩
  refine(HQ hg1 (q1 hdis a w hfull g1)).imp (Oper.wp_mono ?_) λx=>x
  rintro a2 w2 ⟨p1,h2,p2,p3⟩
  exact hK _ a2 w2 h2 p2 p3 (hsubm a2 p1) (hlk a2 p1)
 have lt:∀i d,D7 l.toArray i=some d→i<l.toArray.size:=λi d q1=>by
  unfold D7 at q1
  cases hoj:l.toArray[i]? with
  |none=>rw[hoj] at q1;cases q1
  |some oj=>exact(Array.getElem?_eq_some_iff.1 hoj).1
 have mid:∀(fuel:Nat) (listed:Array Bool) (a:Act) (w:World),N4 listed=fuel+1→N1 l.toArray (k1::ks) listed→P7 B h n m l.toArray (k1::ks++[]) As ZB.none R listed a w→(∀i,i<l.toArray.size→i∉k1::ks→i∉G→listed.getD i false=true)→k1∈Region.ready .any l.toArray listed→wpOp P l.toArray (Qx ex RR (W P ex RR cs N)) k1 (wpAny P .any l.toArray (Qx ex RR (W P ex RR cs N)) fuel (listed.setIfInBounds k1 true)) a w:=by
  intro fuel listed a w hu inv ai hl hr
  obtain⟨h1,g1,g2,g3,g4⟩:=ai.ex
  have g4':∀i,i∉k1::ks→listed.getD i false=true→∃d v,D7 l.toArray i=some d∧a.tmps[d]? =some v∧R i v h1:=λi hi hl=>g4 i (by rw[List.append_nil];exact hi) hl
  unfold wpOp
  have ho:l.toArray[k1]? =some o1:=by simpa using ho1
  simp only[ho]
  rw[if_pos (by simp [Region.wanted,hg1])]
  exact hstep a w h1 _ g1 g2 g3 (λi p1 p2 p3=>g4' i p2 (hl i p1 p2 p3)) (λi hi j hj hne d d' u u' e1 e2 e3 e4=>ai.dis i hi j hj hne (hl i (lt _ _ e1) (hAs' i hi).1 (hAs' i hi).2) (hl j (lt _ _ e2) (hAs' j hj).1 (hAs' j hj).2) d d' u u' e1 e2 e3 e4)
   λm2 a2 w2 h2 p2 p3 p4 p5=>p3.run hc' hQ hu inv hr hl g4' p2 p4 p5
 refine λrd hrd=>Mg hrd Jh hm (Nx (R:=R) (B:=B) (h0:=h) (n:=n) (m:=m) (k1::ks) [] As ZB.none Wp.none (λz hz=>by cases hz) hAl (λt ht=>by have:=List.all_eq_true.1 c1 t ht;simp [Nat.blt] at this ⊢;omega) c2 c6 F G (.inr rfl) (.inr (by rw[List.append_nil];exact c3)) (LK c4) c5 c7 hQ (λf hf=>⟨hAF f hf,λsl h=>by cases h⟩) (λf hf=>hF.at_ f hf) (by rw[List.append_nil];exact hown) hmono (λi hi=>by rw[List.append_nil];exact(hAs' i hi).1) (λi o d hi ho hd=>?_) (λa w h' g1 g2 g3 g4 g5 _=>?_) (.inr ⟨hFp,λk1' ks' e fuel listed a w=>by cases e;exact mid fuel listed a w⟩) _ _ _ _ ?_ ⟨by simp,λj oj _ hl=>(by rw[getD_replicate_false] at hl;cases hl),λt ht=>getD_in (by have:=List.all_eq_true.1 c1 t ht;simp [Nat.blt] at this ⊢;omega) (getD_replicate_false _ _)⟩ (λi hi=>by cases hi) ⟨⟨h,hw.drew,Ap.refl h,hf.sub hsub,λi _ hl=>(by rw[getD_replicate_false] at hl;cases hl)⟩,λi _ j _ _ hl=>(by rw[getD_replicate_false] at hl;cases hl),λz hz=>by cases hz⟩)
 ·rw[List.append_nil] at hi
  have ho':l[i]? =some o:=by simpa using ho
  obtain⟨ps,q1,q2⟩:=Ae.at_ (k:=0) step hlen (by rw[Nat.zero_add];exact hi) ho' hd
  rw[Nat.zero_add] at q2
  refine⟨ps,?_,λ_ _=>List.not_mem_nil,q2⟩
  have hz:((o,ps),i)∈(l.zip pss).zipIdx:=by
   rw[List.mem_iff_getElem?]
   exact⟨i,by rw[List.getElem?_zipIdx,(List.getElem?_zip_eq_some (z:=(o,ps))).2 ⟨ho',q1⟩];simp⟩
  have:=List.all_eq_true.1 hps.2 _ hz
  rw[Bool.or_eq_true] at this
  exact this.resolve_left λh=>hi (List.contains_iff_mem.1 h)
 ·have hkG:k1∉G:=λh=>by
   have:=List.all_eq_true.1 c10 k1 h
   simp at this
  have g4':∀i,i<l.toArray.size→i∉k1::ks→∃d v,D7 l.toArray i=some d∧a.tmps[d]? =some v∧R i v h':=λi h1 h2=>g4 i h1 (by rw[List.append_nil];exact h2)
  have hcons:((k1::ks).filterMap λt=>l.toArray[t]?)=o1::(ks.filterMap λt=>l[t]?):=by
   have ho:l.toArray[k1]? =some o1:=by simpa using ho1
   rw[List.filterMap_cons,ho]
   simp
  rw[hcons]
  unfold wpList
  rw[if_pos (by simp [Region.wanted,hg1])]
  exact hstep a w h' _ g1 g2 g3 (λi p1 p2 _=>g4' i p1 p2) (λi hi j hj hne d d' u u' e1 e2 e3 e4=>g5 d (List.mem_filterMap.2 ⟨i,hi,e1⟩) d' (List.mem_filterMap.2 ⟨j,hj,e2⟩) (λe=>by
    subst e
    have:=List.all_eq_true.1 hown i (List.mem_range.2 (lt _ _ e1))
    simp only[Bool.or_eq_true,List.contains_iff_mem,(hAs' i hi).1,false_or,e1,Bool.and_eq_true,List.all_eq_true,List.mem_range] at this
    have:=this.2 j (lt _ _ e2)
    rw[e2] at this
    simp only[(hAs' j hj).1,false_or,Option.any_some,Nat.beq_refl,Bool.not_true,Bool.false_eq_true,or_false] at this
    exact hne (Nat.eq_of_beq_eq_true this)) u u' e3 e4)
   λm2 a2 w2 h2 p2 p3 p4 p5=>p3.fin (by simpa using hk1) hkG (λi p1 p2=>g4' i (by simpa using p1) p2) p2 p4 p5
 ·unfold N4
  rw[Array.toList_replicate]
  simp
end
end Go.Proofs.YtibidnaedddfdaaGreat
