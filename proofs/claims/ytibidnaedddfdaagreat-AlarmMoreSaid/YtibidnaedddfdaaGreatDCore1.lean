import Derived.WalkKit
import Derived.WalkSpells
import Derived.WalkLawsBesides
import Derived.Deep.QuietTactic
import Derived.KernelRfl
namespace Go.Proofs.YtibidnaedddfdaaGreat
set_option linter.all false
theorem O {α:Sort _} {a:α}:a=a:=rfl
def iM:=@Option.bind_some
def iN:=@cond_true
def iO:=@cond_false
def iP:=@if_neg
def iQ:=@Bool.and_eq_true
def iR:=@if_pos
def iS:=@List.cons.inj
def iT:=@List.all_eq_true
def iU:=@Nat.zero_le
def iV:=@List.contains_iff_mem
def iW:=@decide_eq_true
def iX:=@Nat.eq_of_beq_eq_true
def iY:=@Nat.lt_of_lt_of_le
def iZ:=@List.mem_cons
def jA:=@congrArg
def jB:=@Nat.le_refl
def jC:=@Bool.or_eq_true
def jD:=@decide_eq_false
def jE:=@List.getElem?_eq_getElem
def jF:=@List.getElem?_eq_some_iff
def jG:=@decide_eq_true_eq
def jH:=@Option.some.inj
def jI:=@Bool.not_eq_true'
def jJ:=@List.mem_range
def jK:=@decide_eq_false_iff_not
def jL:=@List.not_mem_nil
def jM:=@Array.getElem?_eq_some_iff
def jN:=@Nat.lt_or_ge
def jO:=@Option.getD_some
def jP:=@Bool.or_eq_false_iff
def jQ:=@List.getElem_mem
def jR:=@Nat.zero_add
def jS:=@or_false
def jT:=@Int.mul_le_mul_of_nonneg_right
def jU:=@Option.some.injEq
def jV:=@Bool.not_true
def jW:=@List.append_nil
def jX:=@Array.getElem?_setIfInBounds
def jY:=@List.getD_eq_getElem?_getD
def jZ:=@List.map_cons
def kA:=@Nat.add_mul
def kB:=@false_or
def kC:=@Array.getD_eq_getD_getElem?
def kD:=@List.length_append
def kE:=@Nat.mul_le_mul_right
def kF:=@List.nil_append
def kG:=@Int.le_refl
def kH:=@List.length_take
def kI:=@List.mem_cons_self
def kJ:=@List.mem_iff_getElem?
def kK:=@List.length_drop
def kL:=@Option.map_eq_some_iff
def kM:=@List.mem_map
def kN:=@Nat.mod_lt
def kO:=@Nat.le_trans
def kP:=@List.getElem?_take_of_lt
def kQ:=@Nat.succ_mul
def kR:=@Int.le_trans
def kS:=@List.mem_cons_of_mem
def kT:=@List.mem_append
def kU:=@Bool.false_or
def kV:=@List.mem_iff_getElem
def kW:=@Bool.false_eq_true
def kX:=@Option.bind_eq_some_iff
def kY:=@Bool.not_eq_false'
def kZ:=@List.length_map
def lA:=@Option.map_some
def lB:=@Array.all_eq_true_iff_forall_mem
def lC:=@Bool.true_and
def lD:=@List.getElem?_drop
def lE:=@List.getElem?_cons_zero
def lF:=@List.getElem?_cons_succ
def lG:=@List.drop_eq_nil_of_le
def lH:=@List.mem_filter
def lI:=@List.mem_of_getElem?
def lJ:=@List.mem_filterMap
def lK:=@of_decide_eq_true
def lL:=@Nat.le_of_lt_succ
def lM:=@Int.mul_le_mul_of_nonneg_left
def lN:=@Array.getElem?_eq_getElem
def lO:=@Nat.mul_comm
def lP:=@List.take_take
def lQ:=@List.mem_append_left
def lR:=@Int.mul_nonneg
def lS:=@Nat.add_assoc
def lT:=@List.mapM_cons
def lU:=@Prod.mk.injEq
def lV:=@List.take_left
def lW:=@Nat.mod_eq_of_lt
def lX:=@Int.natCast_mul
def lY:=@List.take_of_length_le
def lZ:=@List.getElem?_take
def mA:=@Bool.false_and
def mB:=@Bool.and_self
def mC:=@Nat.le_of_ble_eq_true
def mD:=@List.take_succ_eq_append_getElem
def mE:=@List.take_append_of_le_length
def mF:=@List.size_toArray
def mG:=@List.take_length
def mH:=@List.append_assoc
def mI:=@List.cons_append
def mJ:=@Classical.byContradiction
def mK:=@List.mem_singleton
def mL:=@Nat.two_pow_pos
def mM:=@Nat.add_sub_cancel
def mN:=@Nat.div_add_mod
def mO:=@Nat.lt_of_le_of_lt
def mP:=@List.sum_append
def mQ:=@Bool.and_eq_false_iff
def mR:=@Option.bind_eq_bind
def mS:=@List.eq_nil_of_length_eq_zero
def mT:=@List.drop_eq_getElem_cons
def mU:=@List.take_append_drop
def mV:=@Nat.lt_or_eq_of_le
def mW:=@Array.toList_replicate
def mX:=@of_decide_eq_false
def mY:=@Nat.div_lt_iff_lt_mul
def mZ:=@Nat.eq_zero_or_pos
def nA:=@List.mem_of_mem_drop
def nB:=@List.getElem?_zip_eq_some
def nC:=@List.pairwise_iff_getElem
open Go.RowKit
abbrev BB:=Array Obj
def lk:List (Nat×Value)→Nat→Option Value
 |[],_=>none
 |(i,v)::r,j=>cond (Nat.beq i j) (some v) (lk r j)
abbrev FN:=Nat×List Deferred
structure Fr (n:FN) (a:Act) (m:List (Nat×Value)):Prop where
 dfr:a.defers=n.2
 siz:a.tmps.size=n.1
 at_:∀i v,lk m i=some v→a.tmps[i]? =some v
def CE (m:List (Nat×Value)):Operand→Option Value
 | .tmp t=>lk m t
 | .const v=>some v
 | .global a=>some (.pointer (some ⟨a,0,none⟩))
 | .func f=>some (.func (.func f) #[] #[])
def Fr.eval {n a m X v}(h:Fr n a m) (b:CE m X=some v):a.eval X=v:=by
 cases X with
 |tmp t=>
  have:=h.at_ t v b
  simp [Act.eval,kC,this]
 |const u=>simpa [CE,Act.eval] using b
 |global c=>simpa [CE,Act.eval] using b
 |func f=>simpa [CE,Act.eval] using b
def Fr.put {n a m d}(h:Fr n a m) (hd:Nat.blt d n.1=true) (v:Value):Fr n (a.put (some d) v) ((d,v)::m):=by
 have c:d<n.1:=(by simpa [Nat.blt] using hd:d+1≤n.1)
 refine⟨by simpa [Act.put] using h.dfr,by simpa [Act.put] using h.siz,λi u b=>?_⟩
 simp only[Act.put,jX]
 simp only[lk] at b
 by_cases e:d=i
 ·subst e
  have:Nat.beq d d=true:=by simp
  rw[this] at b
  simp only[iN,jU] at b
  subst b
  simp [h.siz,c]
 ·have:Nat.beq d i=false:=by
   cases g:Nat.beq d i with
   |false=>rfl
   |true=>exact absurd (iX g) e
  rw[this] at b
  simp only[iO] at b
  rw[iP e]
  exact h.at_ i u b
def QC (m:List (Nat×Value)):List (Nat×Value)→Prop
 |[]=>True
 |e::r=>lk m e.1=some e.2∧QC m r
def Fr.sub {n a m m'}(h:Fr n a m) (d:QC m m'):Fr n a m':=by
 refine⟨h.dfr,h.siz,λi v b=>h.at_ i v ?_⟩
 induction m' with
 |nil=>simp [lk] at b
 |cons e r g=>
  obtain⟨j,u⟩:=e
  simp only[lk] at b
  cases c:Nat.beq j i with
  |true=>
   rw[c] at b
   simp only[iN,jU] at b
   have:=iX c
   subst this;subst b
   exact d.1
  |false=>
   rw[c] at b
   simp only[iO] at b
   exact g d.2 b
def Gt (h:BB) (a:Addr):Option Value:=
 match h[a.block]? with
 |some (.cells c _ _)=>if a.spot.isSome then none else c[a.off]?
 |_=>none
def Ik (w:World) (a:Addr):w.cell? a=Gt w.heap a:=rfl
structure Wd (B:World) (h:BB) (w:World):Prop where
 heap:w.heap=h
 os:w.os=B.os
 tape:w.tape=B.tape
 out:w.output=B.output
structure Cm (S:Nat→Prop) (h:BB) (S':Nat→Prop) (h':BB):Prop where
 sub:∀b,S b→S' b
 same:∀b,S b→h'[b]? =h[b]?
 siz:h.size≤h'.size
def Cm.refl (S:Nat→Prop) (h:BB):Cm S h S h:=⟨λ_ x=>x,λ_ _=>rfl,jB _⟩
def Cm.trans {S h S' h' S'' h''}(x:Cm S h S' h') (y:Cm S' h' S'' h''):Cm S h S'' h'':=
 ⟨λb a=>y.sub b (x.sub b a),λb a=>(y.same b (x.sub b a)).trans (x.same b a),kO x.siz y.siz⟩
def P8 {h h':BB}{a:Addr}(e:h'[a.block]? =h[a.block]?):Gt h' a=Gt h a:=by simp [Gt,e]
structure HP where
 holds:(Nat→Prop)→(Nat→Prop)→BB→Prop
 loc:∀{S S' F h h'},holds S F h→(∀b,S b→S' b)→(∀b,S b∨F b→h'[b]? =h[b]?)→holds S' F h'
def Sp (S:Nat→Prop):List HP→BB→(Nat→Prop)→Prop
 |[],_,_=>True
 |H::L,h,A=>∃F,H.holds S F h∧(∀b,F b→A b)∧Sp S L h (λb=>A b∧¬F b)
def St (S:Nat→Prop) (L:List HP) (h:BB):Prop:=(∀b,S b→b<h.size)∧Sp S L h (λb=>b<h.size∧¬S b)
def Sp.mono {S:Nat→Prop}{L h}:∀{A c:Nat→Prop},Sp S L h A→(∀b,A b→c b)→Sp S L h c:=by
 induction L with
 |nil=>intros;trivial
 |cons H L g=>
  rintro A c ⟨F,i,j,k⟩ d
  exact⟨F,i,λb a=>d b (j b a),g k λb a=>⟨d b a.1,a.2⟩⟩
def Sp.ext {S S':Nat→Prop}{L h h'}:∀{A c:Nat→Prop},Sp S L h A→(∀b,S b→S' b)→(∀b,S b∨A b→h'[b]? =h[b]?)→(∀b,A b→c b)→Sp S' L h' c:=by
 induction L with
 |nil=>intros;trivial
 |cons H L k=>
  rintro A c ⟨F,l,d,m⟩ g i j
  refine⟨F,H.loc l g λb a=>i b (a.imp_right (d b)),λb a=>j b (d b a),?_⟩
  exact k m g (λb a=>i b (a.imp_right (·.1))) λb a=>⟨j b a.1,a.2⟩
inductive KA:List HP→HP→HP→List HP→Prop
 |head {L H H'}:KA (H::L) H H' (H'::L)
 |tail {K L H H' L2}:KA L H H' L2→KA (K::L) H H' (K::L2)
inductive Ml:List HP→HP→List HP→Prop
 |head {L H}:Ml (H::L) H L
 |tail {K L H L2}:Ml L H L2→Ml (K::L) H (K::L2)
def Sp.pick {S:Nat→Prop}{h}{L c:List HP}{H:HP}(p:Ml L H c):∀{A:Nat→Prop},Sp S L h A→Sp S (H::c) h A:=by
 induction p with
 |head=>exact id
 |tail p g=>
  rintro A ⟨F,i,j,k⟩
  obtain⟨G,l,d,m⟩:=g k
  refine⟨G,l,λb a=>(d b a).1,F,i,λb a=>⟨j b a,λn=>(d b n).2 a⟩,m.mono λb a=>⟨⟨a.1.1,a.2⟩,a.1.2⟩⟩
def Mb {S:Nat→Prop}{h}{L c:List HP}{H:HP}(p:Ml L H c):∀{A:Nat→Prop},Sp S (H::c) h A→Sp S L h A:=by
 induction p with
 |head=>exact id
 |tail p g=>
  rintro A ⟨G,i,j,F,k,d,l⟩
  refine⟨F,k,λb a=>(d b a).1,g ⟨G,i,λb a=>⟨j b a,λm=>(d b m).2 a⟩,l.mono λb a=>⟨⟨a.1.1,a.2⟩,a.1.2⟩⟩⟩
def KA.pick {L H H' L2}(r:KA L H H' L2):∃M,Ml L H M∧Ml L2 H' M:=by
 induction r with
 |head=>exact⟨_,.head,.head⟩
 |tail r a=>obtain⟨M,p,q⟩:=a;exact⟨_,.tail p,.tail q⟩
def Sp.get {S:Nat→Prop}{h}{L:List HP}{H:HP}{A:Nat→Prop}(a:H∈L) (c:Sp S L h A):∃F,H.holds S F h∧∀b,F b→A b:=by
 induction L generalizing A with
 |nil=>cases a
 |cons K L d=>
  obtain⟨F,g,i,j⟩:=c
  cases a with
  |head=>exact⟨F,g,i⟩
  |tail _ a=>obtain⟨G,k,l⟩:=d a j;exact⟨G,k,λb m=>(l b m).1⟩
def St.get {S L h H}(a:St S L h) (c:H∈L):∃F,H.holds S F h∧∀b,F b→b<h.size∧¬S b:=Sp.get c a.2
def St.upd {S L h H H' L2 h'}(d:St S L h) (r:KA L H H' L2) (g:h.size≤h'.size)
  (k:∀F,H.holds S F h→(∀b,F b→b<h.size∧¬S b)→∃i,H'.holds S i h'∧(∀b,i b→F b∨(h.size≤b∧b<h'.size))∧∀b,b<h.size→¬F b→h'[b]? =h[b]?):
  St S L2 h'∧Cm S h S h':=by
 obtain⟨M,p,q⟩:=r.pick
 obtain⟨F,t,j,u⟩:=Sp.pick p d.2
 obtain⟨i,v,n,o⟩:=k F t j
 have s:∀b,S b→h'[b]? =h[b]? :=λb a=>o b (d.1 b a) λc=>(j b c).2 a
 refine⟨⟨λb a=>iY (d.1 b a) g,?_⟩,λ_ x=>x,s,g⟩
 refine Mb q ⟨i,v,λb a=>?_,?_⟩
 ·rcases n b a with c|⟨hl,hu⟩
  ·exact⟨iY (j b c).1 g,(j b c).2⟩
  ·exact⟨hu,λl=>absurd (d.1 b l) (by omega)⟩
 ·refine Sp.ext u (λ_ x=>x) (λb a=>?_) λb a=>⟨⟨iY a.1.1 g,a.1.2⟩,λm=>?_⟩
  ·rcases a with a|a
   ·exact s b a
   ·exact o b a.1.1 a.2
  ·rcases n b m with c|⟨hl,_⟩
   ·exact a.2 c
   ·exact absurd a.1.1 (by omega)
def St.add {S L h H' h'}(c:St S L h) (g:h.size≤h'.size) (l:∀b,b<h.size→h'[b]? =h[b]?)
  (k:∃d,H'.holds S d h'∧∀b,d b→h.size≤b∧b<h'.size):St S (H'::L) h'∧Cm S h S h':=by
 obtain⟨d,m,i⟩:=k
 refine⟨⟨λb a=>iY (c.1 b a) g,d,m,λb a=>⟨(i b a).2,λj=>absurd (c.1 b j) (by have:=(i b a).1;omega)⟩,?_⟩,λ_ x=>x,λb a=>l b (c.1 b a),g⟩
 refine Sp.ext c.2 (λ_ x=>x) (λb a=>l b (a.elim (c.1 b) (·.1))) λb a=>⟨⟨iY a.1 g,a.2⟩,λn=>absurd a.1 (by have:=(i b n).1;omega)⟩
def St.pub {S L h H L2}(c:St S L h) (p:Ml L H L2):∃F,H.holds S F h∧(∀b,F b→b<h.size∧¬S b)∧St (λb=>S b∨F b) L2 h∧Cm S h (λb=>S b∨F b) h:=by
 obtain⟨F,g,d,i⟩:=Sp.pick p c.2
 refine⟨F,g,d,⟨λb a=>a.elim (c.1 b) λj=>(d b j).1,?_⟩,λ_ x=> .inl x,λ_ _=>rfl,jB _⟩
 exact Sp.ext i (λ_ x=> .inl x) (λ_ _=>rfl) λb a=>⟨a.1.1,λh=>h.elim a.1.2 a.2⟩
def St.drop {S L h H L2}(a:St S L h) (p:Ml L H L2):St S L2 h:=by
 obtain⟨F,g,i,c⟩:=Sp.pick p a.2
 exact⟨a.1,c.mono λb d=>d.1⟩
structure B7 (α:Type) where
 sz:Nat
 ag:Bool
 rd:(Nat→Prop)→BB→List Value→α→Prop
 len:∀{S h cs x},rd S h cs x→cs.length=sz
 one:∀{S h cs x},rd S h cs x→∀v∈cs,v.oneCell'=true
 mono:∀{S S' h h' cs x},rd S h cs x→(∀b,S b→S' b)→(∀b,S b→h'[b]? =h[b]?)→rd S' h' cs x
def B7.val {α}(r:B7 α) (cs:List Value):Value:=if r.ag then .agg cs.toArray else cs.headD undef
def Rd {α}(S:Nat→Prop) (h:BB) (r:B7 α) (v:Value) (x:α):Prop:=∃cs,v=r.val cs∧r.rd S h cs x
def Rd.mono {α S h S' h'}{r:B7 α}{v x}(k:Rd S h r v x) (e:Cm S h S' h'):Rd S' h' r v x:=
 let ⟨cs,a,b⟩:=k;⟨cs,a,r.mono b e.sub e.same⟩
def Qi (S:Nat→Prop) (h:BB) (p:Value) (cs:List Value):Prop:=
 ∃a:Addr,p= .pointer (some a)∧a.spot=none∧S a.block∧∀j,j<cs.length→Gt h ⟨a.block,a.off+j,none⟩=cs[j]?
def Qi.mono {S h S' h' p cs}(k:Qi S h p cs) (s:∀b,S b→S' b) (e:∀b,S b→h'[b]? =h[b]?):Qi S' h' p cs:=
 let ⟨a,d,g,c,i⟩:=k;⟨a,d,g,s _ c,λj l=>(P8 (a:=⟨a.block,a.off+j,none⟩) (e _ c)).trans (i j l)⟩
def N0 {α}(A S:Nat→Prop) (h:BB) (r:B7 α) (p:Value) (x:α):Prop:=∃cs,Qi A h p cs∧r.rd S h cs x
abbrev Pt {α}(S:Nat→Prop) (h:BB) (r:B7 α) (p:Value) (x:α):Prop:=N0 S S h r p x
def N0.mono {α S h S' h'}{r:B7 α}{p x}(k:Pt S h r p x) (e:Cm S h S' h'):Pt S' h' r p x:=
 let ⟨cs,a,b⟩:=k;⟨cs,a.mono e.sub e.same,r.mono b e.sub e.same⟩
def AD (n:Int):Prop:= -9223372036854775808≤n∧n≤9223372036854775807
def BQ:B7 Int where
 sz:=1
 ag:=false
 rd:=λ_ _ cs x=>cs=[.int .i64 x]∧AD x
 len:=λ⟨h,_⟩=>by rw[h];rfl
 one:=λ⟨h,_⟩ v a=>by rw[h] at a;simp at a;rw[a];rfl
 mono:=λh _ _=>h
def B7.bool:B7 Bool where
 sz:=1
 ag:=false
 rd:=λ_ _ cs x=>cs=[.bool x]
 len:=λh=>by rw[h];rfl
 one:=λh v a=>by rw[h] at a;simp at a;rw[a];rfl
 mono:=λh _ _=>h
def B7.str:B7 ByteArray where
 sz:=1
 ag:=false
 rd:=λ_ _ cs x=>cs=[.string x]∧x.size≤maxLen
 len:=λ⟨h,_⟩=>by rw[h];rfl
 one:=λ⟨h,_⟩ v a=>by rw[h] at a;simp at a;rw[a];rfl
 mono:=λh _ _=>h
def Sl {α}(S:Nat→Prop) (h:BB) (r:B7 α) (v:Value) (l:List α):Prop:=
 (v= .slice none 0 0∧l=[])∨
 ∃(a:Addr) (cap:Nat),v= .slice (some a) l.length cap∧l.length≤cap∧cap≤maxLen∧
  ∀i x,l[i]? =some x→a.spot=none∧Pt S h r (.pointer (some ⟨a.block,a.off+i*r.sz,none⟩)) x
def Sl.mono {α S h S' h'}{r:B7 α}{v l}(k:Sl S h r v l) (s:∀b,S b→S' b) (e:∀b,S b→h'[b]? =h[b]?):Sl S' h' r v l:=by
 rcases k with k|⟨a,cap,h1,h4,h5,h6⟩
 ·exact .inl k
 ·refine .inr ⟨a,cap,h1,h4,h5,λi x d=>?_⟩
  obtain⟨c,cs,g,j⟩:=h6 i x d
  exact⟨c,cs,g.mono s e,r.mono j s e⟩
def Sl.len {α S h}{r:B7 α}{v l}(k:Sl S h r v l):∃a cap,v= .slice a l.length cap∧l.length≤maxLen:=by
 rcases k with ⟨rfl,rfl⟩|⟨a,cap,h1,h4,h5,h6⟩
 ·exact⟨none,0,rfl,iU _⟩
 ·exact⟨some a,cap,h1,kO h4 h5⟩
def B7.sl {α}(r:B7 α):B7 (List α) where
 sz:=1
 ag:=false
 rd:=λS h cs l=>∃v,cs=[v]∧Sl S h r v l
 len:=λ⟨_,h,_⟩=>by rw[h];rfl
 one:=λ⟨u,h,k⟩ v b=>by
  rw[h] at b;simp at b;rw[b]
  rcases k with ⟨rfl,_⟩|⟨a,c,rfl,_⟩<;>rfl
 mono:=λ⟨v,h,k⟩ s e=>⟨v,h,k.mono s e⟩
def Sl.mono' {α S h S' h'}{r:B7 α}{v l}(k:Sl S h r v l) (e:Cm S h S' h'):Sl S' h' r v l:=k.mono e.sub e.same
def Rd.int {S h v x}(k:Rd S h BQ v x):v= .int .i64 x∧AD x:=by obtain⟨_,rfl,rfl,h⟩:=k;exact⟨rfl,h⟩
def Rd.bool {S h v x}(k:Rd S h B7.bool v x):v= .bool x:=by obtain⟨_,rfl,rfl⟩:=k;rfl
def Rd.str {S h v x}(k:Rd S h B7.str v x):v= .string x∧x.size≤maxLen:=by obtain⟨_,rfl,rfl,h⟩:=k;exact⟨rfl,h⟩
def Rd.sl {α S h v x}{r:B7 α}(k:Rd S h r.sl v x):Sl S h r v x:=by obtain⟨_,rfl,_,rfl,h⟩:=k;exact h
def RU {α S h v x}{r:B7 α}(k:Sl S h r v x):Rd S h r.sl v x:=⟨[v],rfl,v,rfl,k⟩
def Fm {α β}(r:B7 α) (o:Nat) (r':B7 β) (f:α→β):Prop:=
 ∀{S h cs x},r.rd S h cs x→r'.rd S h ((cs.drop o).take r'.sz) (f x)
def N0.fld {α β A S h}{r:B7 α}{r':B7 β}{o f p x}(k:N0 A S h r p x) (b:Fm r o r' f):
  ∃a:Addr,p= .pointer (some a)∧N0 A S h r' (.pointer (some (a.add o))) (f x):=by
 obtain⟨cs,⟨a,rfl,c,d,g⟩,i⟩:=k
 refine⟨a,rfl,_,⟨a.add o,rfl,?_,?_,?_⟩,b i⟩
 ·unfold Addr.add;split<;>simp [c]
 ·unfold Addr.add;split<;>exact d
 ·intro j l
  have m:(a.add o).block=a.block:=by unfold Addr.add;split<;>rfl
  have n:(a.add o).off=a.off+o:=by unfold Addr.add;split<;>simp_all
  rw[m,n]
  simp only[kH,kK] at l
  have:=g (o+j) (by omega)
  rw[lS,this,kP (by omega),lD]
end Go.Proofs.YtibidnaedddfdaaGreat
