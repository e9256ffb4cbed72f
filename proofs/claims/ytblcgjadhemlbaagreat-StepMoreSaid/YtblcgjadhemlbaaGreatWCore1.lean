import Derived.WalkKit
import Derived.WalkSpells
import Derived.WalkLawsBesides
import Derived.Deep.QuietTactic
import Derived.KernelRfl
namespace Go.Proofs.YtblcgjadhemlbaaGreat
set_option linter.all false
theorem O {α:Sort _} {a:α}:a=a:=rfl
def qN:=@Option.bind_some
def qO:=@cond_true
def qP:=@if_neg
def qQ:=@cond_false
def qR:=@if_pos
def qS:=@Option.some.inj
def qT:=@Bool.and_eq_true
def qU:=@List.cons.inj
def qV:=@List.all_eq_true
def qW:=@Nat.zero_le
def qX:=@Nat.le_refl
def qY:=@List.contains_iff_mem
def qZ:=@Nat.lt_of_lt_of_le
def rA:=@Nat.eq_of_beq_eq_true
def rB:=@List.getElem?_eq_some_iff
def rC:=@List.getElem?_eq_getElem
def rD:=@decide_eq_false
def rE:=@congrArg
def rF:=@decide_eq_true
def rG:=@List.mem_cons
def rH:=@List.getElem_mem
def rI:=@Bool.or_eq_true
def rJ:=@decide_eq_true_eq
def rK:=@List.mem_range
def rL:=@Nat.lt_or_ge
def rM:=@Array.getElem?_eq_some_iff
def rN:=@Int.le_refl
def rO:=@decide_eq_false_iff_not
def rP:=@Bool.not_eq_true'
def rQ:=@List.nil_append
def rR:=@List.getD_eq_getElem?_getD
def rS:=@Bool.or_eq_false_iff
def rT:=@List.not_mem_nil
def rU:=@List.getElem?_eq_none
def rV:=@List.mem_cons_self
def rW:=@List.cons_append
def rX:=@List.mem_map
def rY:=@List.take_length
def rZ:=@Option.getD_some
def sA:=@List.length_append
def sB:=@Nat.zero_add
def sC:=@List.mem_of_getElem?
def sD:=@Option.some.injEq
def sE:=@List.mem_cons_of_mem
def sF:=@Int.toNat_natCast
def sG:=@Array.getElem?_setIfInBounds
def sH:=@Bool.not_true
def sI:=@or_false
def sJ:=@false_or
def sK:=@List.ext_getElem?
def sL:=@List.append_nil
def sM:=@List.map_cons
def sN:=@List.mem_append
def sO:=@Array.getD_eq_getD_getElem?
def sP:=@Nat.le_trans
def sQ:=@List.getElem?_map
def sR:=@List.getElem?_take_of_lt
def sS:=@List.mem_filter
def sT:=@List.sum_append
def sU:=@List.sum_cons
def sV:=@List.length_take
def sW:=@Option.map_eq_some_iff
def sX:=@Nat.succ_mul
def sY:=@Nat.mul_le_mul_right
def sZ:=@Nat.add_mul
def tA:=@List.mem_singleton
def tB:=@Nat.mod_lt
def tC:=@Option.map_some
def tD:=@Bool.false_or
def tE:=@List.take_zero
def tF:=@Int.mul_le_mul_of_nonneg_right
def tG:=@List.take_succ_eq_append_getElem
def tH:=@List.getElem?_cons_succ
def tI:=@Array.all_eq_true_iff_forall_mem
def tJ:=@List.drop_eq_nil_of_le
def tK:=@of_decide_eq_true
def tL:=@List.mem_iff_getElem?
def tM:=@List.getElem?_set_ne
def tN:=@Option.bind_eq_some_iff
def tO:=@List.getElem?_cons_zero
def tP:=@Bool.not_eq_false'
def tQ:=@List.mem_iff_getElem
def tR:=@Classical.byContradiction
def tS:=@List.map_append
def tT:=@List.getElem?_zipWith
def tU:=@List.getElem?_replicate
def tV:=@List.getElem?_set_self
def tW:=@Bool.false_eq_true
def tX:=@Array.getElem?_eq_getElem
def tY:=@Nat.le_of_lt_succ
def tZ:=@Int.mul_nonneg
def uA:=@List.length_drop
def uB:=@List.length_map
def uC:=@Nat.mul_comm
def uD:=@Nat.mul_one
def uE:=@Int.mul_le_mul_of_nonneg_left
def uF:=@List.getElem?_drop
def uG:=@List.mapM_cons
def uH:=@Prod.mk.injEq
def uI:=@Nat.mod_eq_of_lt
def uJ:=@List.drop_eq_getElem_cons
def uK:=@Int.natCast_mul
def uL:=@List.mem_append_left
def uM:=@List.foldl_append
def uN:=@List.filter_append
def uO:=@Nat.le_of_ble_eq_true
def uP:=@List.length_cons
def uQ:=@Nat.min_eq_left
def uR:=@List.append_assoc
def uS:=@Nat.two_pow_pos
def uT:=@Nat.div_add_mod
def uU:=@Nat.lt_of_le_of_lt
def uV:=@List.mem_or_eq_of_mem_set
def uW:=@Option.bind_eq_bind
def uX:=@Option.isSome_none
def uY:=@Nat.lt_or_eq_of_le
def uZ:=@Array.toList_replicate
def vA:=@List.mem_filterMap
def vB:=@List.getElem?_take
def vC:=@List.pairwise_iff_getElem
def vD:=@Nat.div_lt_iff_lt_mul
def vE:=@Nat.add_sub_cancel
def vF:=@Nat.eq_zero_or_pos
def vG:=@List.mem_of_mem_take
def vH:=@Array.getElem?_append_left
def vJ:=@List.eq_nil_of_length_eq_zero
def vK:=@List.getElem?_append_left
def vL:=@List.getElem?_append_right
def vM:=@List.getElem?_zip_eq_some
def vO:=@Int.le_of_mul_le_mul_right
open Go.RowKit
abbrev BM:=Array Obj
def lk:List (Nat×Value)→Nat→Option Value
 |[],_=>none
 |(i,v)::r,j=>cond (Nat.beq i j) (some v) (lk r j)
abbrev FN:=Nat×List Deferred
structure Fr (n:FN) (a:Act) (m:List (Nat×Value)):Prop where
 dfr:a.defers=n.2
 siz:a.tmps.size=n.1
 at_:∀i v,lk m i=some v→a.tmps[i]? =some v
def Ca (m:List (Nat×Value)):Operand→Option Value
 | .tmp t=>lk m t
 | .const v=>some v
 | .global g=>some (.pointer (some ⟨g,0,none⟩))
 | .func f=>some (.func (.func f) #[] #[])
def Fr.eval {n a m X v}(c:Fr n a m) (b:Ca m X=some v):a.eval X=v:=by
 cases X with
 |tmp t=>
  have:=c.at_ t v b
  simp [Act.eval,sO,this]
 |const u=>simpa [Ca,Act.eval] using b
 |global g=>simpa [Ca,Act.eval] using b
 |func f=>simpa [Ca,Act.eval] using b
def Fr.put {n a m d}(j:Fr n a m) (hd:Nat.blt d n.1=true) (v:Value):Fr n (a.put (some d) v) ((d,v)::m):=by
 have c:d<n.1:=(by simpa [Nat.blt] using hd:d+1≤n.1)
 refine⟨by simpa [Act.put] using j.dfr,by simpa [Act.put] using j.siz,λi u b=>?_⟩
 simp only[Act.put,sG]
 simp only[lk] at b
 by_cases e:d=i
 ·subst e
  have:Nat.beq d d=true:=by simp
  rw[this] at b
  simp only[qO,sD] at b
  subst b
  simp [j.siz,c]
 ·have:Nat.beq d i=false:=by
   cases g:Nat.beq d i with
   |false=>rfl
   |true=>exact absurd (rA g) e
  rw[this] at b
  simp only[qQ] at b
  rw[qP e]
  exact j.at_ i u b
def SO (m:List (Nat×Value)):List (Nat×Value)→Prop
 |[]=>True
 |e::r=>lk m e.1=some e.2∧SO m r
def Fr.sub {n a m m'}(k:Fr n a m) (d:SO m m'):Fr n a m':=by
 refine⟨k.dfr,k.siz,λi v b=>k.at_ i v ?_⟩
 induction m' with
 |nil=>simp [lk] at b
 |cons e r g=>
  obtain⟨j,u⟩:=e
  simp only[lk] at b
  cases c:Nat.beq j i with
  |true=>
   rw[c] at b
   simp only[qO,sD] at b
   have:=rA c
   subst this;subst b
   exact d.1
  |false=>
   rw[c] at b
   simp only[qQ] at b
   exact g d.2 b
def I5 (b:BM) (a:Addr):Option Value:=
 match b[a.block]? with
 |some (.cells c _ _)=>if a.spot.isSome then none else c[a.off]?
 |_=>none
def Kv (w:World) (a:Addr):w.cell? a=I5 w.heap a:=rfl
structure Wd (B:World) (h:BM) (w:World):Prop where
 heap:w.heap=h
 os:w.os=B.os
 tape:w.tape=B.tape
 out:w.output=B.output
structure C9 (S:Nat→Prop) (h:BM) (S':Nat→Prop) (h':BM):Prop where
 sub:∀b,S b→S' b
 same:∀b,S b→h'[b]? =h[b]?
 siz:h.size≤h'.size
def C9.refl (S:Nat→Prop) (a:BM):C9 S a S a:=⟨λ_ x=>x,λ_ _=>rfl,qX _⟩
def C9.trans {S h S' h' S'' h''}(x:C9 S h S' h') (y:C9 S' h' S'' h''):C9 S h S'' h'':=
 ⟨λb a=>y.sub b (x.sub b a),λb a=>(y.same b (x.sub b a)).trans (x.same b a),sP x.siz y.siz⟩
def RZ {b h':BM}{a:Addr}(e:h'[a.block]? =b[a.block]?):I5 h' a=I5 b a:=by simp [I5,e]
structure HP where
 holds:(Nat→Prop)→(Nat→Prop)→BM→Prop
 loc:∀{S S' F h h'},holds S F h→(∀b,S b→S' b)→(∀b,S b∨F b→h'[b]? =h[b]?)→holds S' F h'
def Sp (S:Nat→Prop):List HP→BM→(Nat→Prop)→Prop
 |[],_,_=>True
 |H::L,a,A=>∃F,H.holds S F a∧(∀b,F b→A b)∧Sp S L a (λb=>A b∧¬F b)
def St (S:Nat→Prop) (L:List HP) (a:BM):Prop:=(∀b,S b→b<a.size)∧Sp S L a (λb=>b<a.size∧¬S b)
def Sp.mono {S:Nat→Prop}{L h}:∀{A c:Nat→Prop},Sp S L h A→(∀b,A b→c b)→Sp S L h c:=by
 induction L with
 |nil=>intros;trivial
 |cons H L g=>
  rintro A c ⟨F,i,j,k⟩ d
  exact⟨F,i,λb a=>d b (j b a),g k λb a=>⟨d b a.1,a.2⟩⟩
def Sp.ext {S S':Nat→Prop}{L h h'}:∀{A c:Nat→Prop},Sp S L h A→(∀b,S b→S' b)→(∀b,S b∨A b→h'[b]? =h[b]?)→(∀b,A b→c b)→Sp S' L h' c:=by
 induction L with
 |nil=>intros;trivial
 |cons H L k=>
  rintro A c ⟨F,l,d,m⟩ g i j
  refine⟨F,H.loc l g λb a=>i b (a.imp_right (d b)),λb a=>j b (d b a),?_⟩
  exact k m g (λb a=>i b (a.imp_right (·.1))) λb a=>⟨j b a.1,a.2⟩
inductive MA:List HP→HP→HP→List HP→Prop
 |head {L H H'}:MA (H::L) H H' (H'::L)
 |tail {K L H H' L2}:MA L H H' L2→MA (K::L) H H' (K::L2)
inductive N6:List HP→HP→List HP→Prop
 |head {L H}:N6 (H::L) H L
 |tail {K L H L2}:N6 L H L2→N6 (K::L) H (K::L2)
def Sp.pick {S:Nat→Prop}{h}{L c:List HP}{H:HP}(p:N6 L H c):∀{A:Nat→Prop},Sp S L h A→Sp S (H::c) h A:=by
 induction p with
 |head=>exact id
 |tail p g=>
  rintro A ⟨F,i,j,k⟩
  obtain⟨G,l,d,m⟩:=g k
  refine⟨G,l,λb a=>(d b a).1,F,i,λb a=>⟨j b a,λn=>(d b n).2 a⟩,m.mono λb a=>⟨⟨a.1.1,a.2⟩,a.1.2⟩⟩
def MT {S:Nat→Prop}{h}{L c:List HP}{H:HP}(p:N6 L H c):∀{A:Nat→Prop},Sp S (H::c) h A→Sp S L h A:=by
 induction p with
 |head=>exact id
 |tail p g=>
  rintro A ⟨G,i,j,F,k,d,l⟩
  refine⟨F,k,λb a=>(d b a).1,g ⟨G,i,λb a=>⟨j b a,λm=>(d b m).2 a⟩,l.mono λb a=>⟨⟨a.1.1,a.2⟩,a.1.2⟩⟩⟩
def MA.pick {L H H' L2}(r:MA L H H' L2):∃M,N6 L H M∧N6 L2 H' M:=by
 induction r with
 |head=>exact⟨_,.head,.head⟩
 |tail r a=>obtain⟨M,p,q⟩:=a;exact⟨_,.tail p,.tail q⟩
def Sp.get {S:Nat→Prop}{h}{L:List HP}{H:HP}{A:Nat→Prop}(a:H∈L) (c:Sp S L h A):∃F,H.holds S F h∧∀b,F b→A b:=by
 induction L generalizing A with
 |nil=>cases a
 |cons K L d=>
  obtain⟨F,g,i,j⟩:=c
  cases a with
  |head=>exact⟨F,g,i⟩
  |tail _ a=>obtain⟨G,k,l⟩:=d a j;exact⟨G,k,λb m=>(l b m).1⟩
def St.get {S L h H}(a:St S L h) (c:H∈L):∃F,H.holds S F h∧∀b,F b→b<h.size∧¬S b:=Sp.get c a.2
def St.upd {S L h H H' L2 h'}(d:St S L h) (r:MA L H H' L2) (g:h.size≤h'.size)
  (k:∀F,H.holds S F h→(∀b,F b→b<h.size∧¬S b)→∃i,H'.holds S i h'∧(∀b,i b→F b∨(h.size≤b∧b<h'.size))∧∀b,b<h.size→¬F b→h'[b]? =h[b]?):
  St S L2 h'∧C9 S h S h':=by
 obtain⟨M,p,q⟩:=r.pick
 obtain⟨F,t,j,u⟩:=Sp.pick p d.2
 obtain⟨i,v,n,o⟩:=k F t j
 have s:∀b,S b→h'[b]? =h[b]? :=λb a=>o b (d.1 b a) λc=>(j b c).2 a
 refine⟨⟨λb a=>qZ (d.1 b a) g,?_⟩,λ_ x=>x,s,g⟩
 refine MT q ⟨i,v,λb a=>?_,?_⟩
 ·rcases n b a with c|⟨hl,hu⟩
  ·exact⟨qZ (j b c).1 g,(j b c).2⟩
  ·exact⟨hu,λl=>absurd (d.1 b l) (by omega)⟩
 ·refine Sp.ext u (λ_ x=>x) (λb a=>?_) λb a=>⟨⟨qZ a.1.1 g,a.1.2⟩,λm=>?_⟩
  ·rcases a with a|a
   ·exact s b a
   ·exact o b a.1.1 a.2
  ·rcases n b m with c|⟨hl,_⟩
   ·exact a.2 c
   ·exact absurd a.1.1 (by omega)
def St.add {S L h H' h'}(c:St S L h) (g:h.size≤h'.size) (l:∀b,b<h.size→h'[b]? =h[b]?)
  (k:∃d,H'.holds S d h'∧∀b,d b→h.size≤b∧b<h'.size):St S (H'::L) h'∧C9 S h S h':=by
 obtain⟨d,m,i⟩:=k
 refine⟨⟨λb a=>qZ (c.1 b a) g,d,m,λb a=>⟨(i b a).2,λj=>absurd (c.1 b j) (by have:=(i b a).1;omega)⟩,?_⟩,λ_ x=>x,λb a=>l b (c.1 b a),g⟩
 refine Sp.ext c.2 (λ_ x=>x) (λb a=>l b (a.elim (c.1 b) (·.1))) λb a=>⟨⟨qZ a.1 g,a.2⟩,λn=>absurd a.1 (by have:=(i b n).1;omega)⟩
def St.pub {S L k H L2}(c:St S L k) (p:N6 L H L2):∃F,H.holds S F k∧(∀b,F b→b<k.size∧¬S b)∧St (λb=>S b∨F b) L2 k∧C9 S k (λb=>S b∨F b) k:=by
 obtain⟨F,g,d,i⟩:=Sp.pick p c.2
 refine⟨F,g,d,⟨λb a=>a.elim (c.1 b) λj=>(d b j).1,?_⟩,λ_ x=> .inl x,λ_ _=>rfl,qX _⟩
 exact Sp.ext i (λ_ x=> .inl x) (λ_ _=>rfl) λb a=>⟨a.1.1,λk=>k.elim a.1.2 a.2⟩
def St.drop {S L h H L2}(a:St S L h) (p:N6 L H L2):St S L2 h:=by
 obtain⟨F,g,i,c⟩:=Sp.pick p a.2
 exact⟨a.1,c.mono λb d=>d.1⟩
structure BZ (α:Type) where
 sz:Nat
 ag:Bool
 rd:(Nat→Prop)→BM→List Value→α→Prop
 len:∀{S h cs x},rd S h cs x→cs.length=sz
 one:∀{S h cs x},rd S h cs x→∀v∈cs,v.oneCell'=true
 mono:∀{S S' h h' cs x},rd S h cs x→(∀b,S b→S' b)→(∀b,S b→h'[b]? =h[b]?)→rd S' h' cs x
def BZ.val {α}(r:BZ α) (cs:List Value):Value:=if r.ag then .agg cs.toArray else cs.headD undef
def Rd {α}(S:Nat→Prop) (a:BM) (r:BZ α) (v:Value) (x:α):Prop:=∃cs,v=r.val cs∧r.rd S a cs x
def Rd.mono {α S h S' h'}{r:BZ α}{v x}(k:Rd S h r v x) (e:C9 S h S' h'):Rd S' h' r v x:=
 let ⟨cs,a,b⟩:=k;⟨cs,a,r.mono b e.sub e.same⟩
def RN (S:Nat→Prop) (b:BM) (p:Value) (cs:List Value):Prop:=
 ∃a:Addr,p= .pointer (some a)∧a.spot=none∧S a.block∧∀j,j<cs.length→I5 b ⟨a.block,a.off+j,none⟩=cs[j]?
def RN.mono {S h S' h' p cs}(k:RN S h p cs) (s:∀b,S b→S' b) (e:∀b,S b→h'[b]? =h[b]?):RN S' h' p cs:=
 let ⟨a,d,g,c,i⟩:=k;⟨a,d,g,s _ c,λj l=>(RZ (a:=⟨a.block,a.off+j,none⟩) (e _ c)).trans (i j l)⟩
def OV {α}(A S:Nat→Prop) (a:BM) (r:BZ α) (p:Value) (x:α):Prop:=∃cs,RN A a p cs∧r.rd S a cs x
abbrev Pt {α}(S:Nat→Prop) (a:BM) (r:BZ α) (p:Value) (x:α):Prop:=OV S S a r p x
def OV.mono {α S h S' h'}{r:BZ α}{p x}(k:Pt S h r p x) (e:C9 S h S' h'):Pt S' h' r p x:=
 let ⟨cs,a,b⟩:=k;⟨cs,a.mono e.sub e.same,r.mono b e.sub e.same⟩
def AH (n:Int):Prop:= -9223372036854775808≤n∧n≤9223372036854775807
def AJ:BZ Int where
 sz:=1
 ag:=false
 rd:=λ_ _ cs x=>cs=[.int .i64 x]∧AH x
 len:=λ⟨b,_⟩=>by rw[b];rfl
 one:=λ⟨b,_⟩ v a=>by rw[b] at a;simp at a;rw[a];rfl
 mono:=λb _ _=>b
def BZ.bool:BZ Bool where
 sz:=1
 ag:=false
 rd:=λ_ _ cs x=>cs=[.bool x]
 len:=λb=>by rw[b];rfl
 one:=λb v a=>by rw[b] at a;simp at a;rw[a];rfl
 mono:=λb _ _=>b
def BZ.str:BZ ByteArray where
 sz:=1
 ag:=false
 rd:=λ_ _ cs x=>cs=[.string x]∧x.size≤maxLen
 len:=λ⟨b,_⟩=>by rw[b];rfl
 one:=λ⟨b,_⟩ v a=>by rw[b] at a;simp at a;rw[a];rfl
 mono:=λb _ _=>b
def Sl {α}(S:Nat→Prop) (b:BM) (r:BZ α) (v:Value) (l:List α):Prop:=
 (v= .slice none 0 0∧l=[])∨
 ∃(a:Addr) (cap:Nat),v= .slice (some a) l.length cap∧l.length≤cap∧cap≤maxLen∧
  ∀i x,l[i]? =some x→a.spot=none∧Pt S b r (.pointer (some ⟨a.block,a.off+i*r.sz,none⟩)) x
def Sl.mono {α S h S' h'}{r:BZ α}{v l}(k:Sl S h r v l) (s:∀b,S b→S' b) (e:∀b,S b→h'[b]? =h[b]?):Sl S' h' r v l:=by
 rcases k with k|⟨a,cap,h1,h4,h5,h6⟩
 ·exact .inl k
 ·refine .inr ⟨a,cap,h1,h4,h5,λi x d=>?_⟩
  obtain⟨c,cs,g,j⟩:=h6 i x d
  exact⟨c,cs,g.mono s e,r.mono j s e⟩
def Sl.len {α S h}{r:BZ α}{v l}(k:Sl S h r v l):∃a cap,v= .slice a l.length cap∧l.length≤maxLen:=by
 rcases k with ⟨rfl,rfl⟩|⟨a,cap,h1,h4,h5,h6⟩
 ·exact⟨none,0,rfl,qW _⟩
 ·exact⟨some a,cap,h1,sP h4 h5⟩
def BZ.sl {α}(r:BZ α):BZ (List α) where
 sz:=1
 ag:=false
 rd:=λS d cs l=>∃v,cs=[v]∧Sl S d r v l
 len:=λ⟨_,d,_⟩=>by rw[d];rfl
 one:=λ⟨u,d,k⟩ v b=>by
  rw[d] at b;simp at b;rw[b]
  rcases k with ⟨rfl,_⟩|⟨a,c,rfl,_⟩<;>rfl
 mono:=λ⟨v,d,k⟩ s e=>⟨v,d,k.mono s e⟩
def Sl.mono' {α S h S' h'}{r:BZ α}{v l}(k:Sl S h r v l) (e:C9 S h S' h'):Sl S' h' r v l:=k.mono e.sub e.same
def Rd.int {S a v x}(k:Rd S a AJ v x):v= .int .i64 x∧AH x:=by obtain⟨_,rfl,rfl,a⟩:=k;exact⟨rfl,a⟩
def Rd.bool {S h v x}(k:Rd S h BZ.bool v x):v= .bool x:=by obtain⟨_,rfl,rfl⟩:=k;rfl
def Rd.str {S a v x}(k:Rd S a BZ.str v x):v= .string x∧x.size≤maxLen:=by obtain⟨_,rfl,rfl,a⟩:=k;exact⟨rfl,a⟩
def Rd.sl {α S a v x}{r:BZ α}(k:Rd S a r.sl v x):Sl S a r v x:=by obtain⟨_,rfl,_,rfl,a⟩:=k;exact a
def Ml {α S h v x}{r:BZ α}(k:Sl S h r v x):Rd S h r.sl v x:=⟨[v],rfl,v,rfl,k⟩
def GO {α β}(r:BZ α) (o:Nat) (r':BZ β) (f:α→β):Prop:=
 ∀{S a cs x},r.rd S a cs x→r'.rd S a ((cs.drop o).take r'.sz) (f x)
def OV.fld {α β A S h}{r:BZ α}{r':BZ β}{o f p x}(k:OV A S h r p x) (b:GO r o r' f):
  ∃a:Addr,p= .pointer (some a)∧OV A S h r' (.pointer (some (a.add o))) (f x):=by
 obtain⟨cs,⟨a,rfl,c,d,g⟩,i⟩:=k
 refine⟨a,rfl,_,⟨a.add o,rfl,?_,?_,?_⟩,b i⟩
 ·unfold Addr.add;split<;>simp [c]
 ·unfold Addr.add;split<;>exact d
 ·intro j l
  have m:(a.add o).block=a.block:=by unfold Addr.add;split<;>rfl
  have n:(a.add o).off=a.off+o:=by unfold Addr.add;split<;>simp_all
  rw[m,n]
  simp only[sV,uA] at l
  have:=g (o+j) (by omega)
  rw[Nat.add_assoc,this,sR (by omega),uF]
end Go.Proofs.YtblcgjadhemlbaaGreat
