import Derived.WalkKit
import Derived.WalkSpells
import Derived.WalkLawsBesides
import Derived.Deep.QuietTactic
import Derived.KernelRfl
namespace Go.Proofs.YtblcgjadhemlbaaGreat
set_option linter.all false
theorem O {α:Sort _} {a:α}:a=a:=rfl
def mV:=@Option.bind_some
def mW:=@cond_true
def mX:=@cond_false
def mY:=@Bool.and_eq_true
def mZ:=@Option.some.inj
def nA:=@List.cons.inj
def nB:=@if_neg
def nC:=@List.all_eq_true
def nD:=@if_pos
def nE:=@Nat.zero_le
def nF:=@congrArg
def nG:=@List.contains_iff_mem
def nH:=@Nat.lt_of_lt_of_le
def nI:=@Nat.eq_of_beq_eq_true
def nJ:=@Nat.le_refl
def nK:=@List.getElem?_eq_some_iff
def nL:=@decide_eq_false
def nM:=@List.mem_cons
def nN:=@Bool.or_eq_true
def nO:=@List.getElem?_eq_getElem
def nP:=@List.getElem_mem
def nQ:=@List.mem_range
def nR:=@decide_eq_true_eq
def nS:=@Array.getElem?_eq_some_iff
def nT:=@Nat.lt_or_ge
def nU:=@Bool.not_eq_true'
def nV:=@decide_eq_false_iff_not
def nW:=@decide_eq_true
def nX:=@List.nil_append
def nY:=@List.not_mem_nil
def nZ:=@Bool.or_eq_false_iff
def oA:=@Int.le_refl
def oB:=@List.mem_cons_self
def oC:=@List.mem_map
def oD:=@List.length_append
def oE:=@List.getElem?_eq_none
def oF:=@Bool.not_true
def oG:=@List.cons_append
def oH:=@Option.some.injEq
def oI:=@List.mem_cons_of_mem
def oJ:=@List.map_cons
def oK:=@Nat.zero_add
def oL:=@List.take_length
def oM:=@List.mem_of_getElem?
def oN:=@Array.getElem?_setIfInBounds
def oO:=@or_false
def oP:=@false_or
def oQ:=@List.mem_append
def oR:=@List.ext_getElem?
def oS:=@List.append_nil
def oT:=@List.getD_eq_getElem?_getD
def oU:=@List.sum_cons
def oV:=@Option.getD_some
def oW:=@Int.toNat_natCast
def oX:=@List.mem_filter
def oY:=@Array.getD_eq_getD_getElem?
def oZ:=@Nat.le_trans
def pA:=@List.getElem?_take_of_lt
def pB:=@List.take_zero
def pC:=@Eq.trans
def pD:=@List.length_take
def pE:=@Option.map_eq_some_iff
def pF:=@Nat.succ_mul
def pG:=@Nat.mul_le_mul_right
def pH:=@Nat.add_mul
def pI:=@Bool.false_or
def pJ:=@List.mem_singleton
def pK:=@List.sum_append
def pL:=@Option.map_some
def pM:=@Nat.mod_lt
def pN:=@List.getElem?_set_ne
def pO:=@List.take_succ_eq_append_getElem
def pP:=@List.getElem?_cons_succ
def pQ:=@Array.all_eq_true_iff_forall_mem
def pR:=@of_decide_eq_true
def pS:=@List.mem_iff_getElem?
def pT:=@Bool.or_self
def pU:=@List.getElem?_set_self
def pV:=@Option.bind_eq_some_iff
def pW:=@List.getElem?_cons_zero
def pX:=@List.drop_eq_nil_of_le
def pY:=@Classical.byContradiction
def pZ:=@List.getElem?_map
def qA:=@List.getElem?_zipWith
def qB:=@Bool.false_eq_true
def qC:=@Array.getElem?_eq_getElem
def qD:=@Bool.not_eq_false'
def qE:=@List.mem_iff_getElem
def qF:=@Nat.le_of_lt_succ
def qG:=@List.getElem?_replicate
def qH:=@List.length_drop
def qI:=@Nat.mul_comm
def qJ:=@Nat.mul_one
def qK:=@Int.mul_le_mul_of_nonneg_right
def qL:=@List.mem_replicate
def qM:=@List.getElem?_drop
def qN:=@List.mapM_cons
def qO:=@Prod.mk.injEq
def qP:=@Nat.mod_eq_of_lt
def qQ:=@List.map_append
def qR:=@List.mem_append_left
def qS:=@List.mem_filterMap
def qT:=@List.foldl_append
def qU:=@List.filter_append
def qV:=@Nat.le_of_ble_eq_true
def qW:=@List.length_cons
def qX:=@List.length_map
def qY:=@List.drop_eq_getElem_cons
def qZ:=@Nat.min_eq_left
def rA:=@List.append_assoc
def rB:=@Nat.two_pow_pos
def rC:=@Nat.div_add_mod
def rD:=@Nat.lt_of_le_of_lt
def rE:=@List.mem_or_eq_of_mem_set
def rF:=@Option.bind_eq_bind
def rG:=@Option.isSome_none
def rH:=@Nat.lt_or_eq_of_le
def rI:=@Array.toList_replicate
def rJ:=@List.getElem?_take
def rK:=@List.pairwise_iff_getElem
def rL:=@Nat.div_lt_iff_lt_mul
def rM:=@Nat.eq_zero_or_pos
def rN:=@List.mem_of_mem_take
def rO:=@Array.getElem?_append_left
def rP:=@List.eq_nil_of_length_eq_zero
def rQ:=@List.getElem?_append_left
def rR:=@List.getElem?_append_right
def rS:=@List.getElem?_zip_eq_some
open Go.RowKit
abbrev BL:=Array Obj
def lk:List (Nat×Value)→Nat→Option Value
 |[],_=>none
 |(i,v)::r,j=>cond (Nat.beq i j) (some v) (lk r j)
abbrev FN:=Nat×List Deferred
structure Fr (n:FN) (a:Act) (m:List (Nat×Value)):Prop where
 dfr:a.defers=n.2
 siz:a.tmps.size=n.1
 at_:∀i v,lk m i=some v→a.tmps[i]? =some v
def CQ (m:List (Nat×Value)):Operand→Option Value
 | .tmp t=>lk m t
 | .const v=>some v
 | .global g=>some (.pointer (some ⟨g,0,none⟩))
 | .func f=>some (.func (.func f) #[] #[])
def Fr.eval {n a m X v}(c:Fr n a m) (b:CQ m X=some v):a.eval X=v:=by
 cases X with
 |tmp t=>
  have:=c.at_ t v b
  simp [Act.eval,oY,this]
 |const u=>simpa [CQ,Act.eval] using b
 |global g=>simpa [CQ,Act.eval] using b
 |func f=>simpa [CQ,Act.eval] using b
def Fr.put {n a m d}(j:Fr n a m) (hd:Nat.blt d n.1=true) (v:Value):Fr n (a.put (some d) v) ((d,v)::m):=by
 have c:d<n.1:=(by simpa [Nat.blt] using hd:d+1≤n.1)
 refine⟨by simpa [Act.put] using j.dfr,by simpa [Act.put] using j.siz,λi u b=>?_⟩
 simp only[Act.put,oN]
 simp only[lk] at b
 by_cases e:d=i
 ·subst e
  have:Nat.beq d d=true:=by simp
  rw[this] at b
  simp only[mW,oH] at b
  subst b
  simp [j.siz,c]
 ·have:Nat.beq d i=false:=by
   cases g:Nat.beq d i with
   |false=>rfl
   |true=>exact absurd (nI g) e
  rw[this] at b
  simp only[mX] at b
  rw[nB e]
  exact j.at_ i u b
def Rf (m:List (Nat×Value)):List (Nat×Value)→Prop
 |[]=>True
 |e::r=>lk m e.1=some e.2∧Rf m r
def Fr.sub {n a m m'}(k:Fr n a m) (d:Rf m m'):Fr n a m':=by
 refine⟨k.dfr,k.siz,λi v b=>k.at_ i v ?_⟩
 induction m' with
 |nil=>simp [lk] at b
 |cons e r g=>
  obtain⟨j,u⟩:=e
  simp only[lk] at b
  cases c:Nat.beq j i with
  |true=>
   rw[c] at b
   simp only[mW,oH] at b
   have:=nI c
   subst this;subst b
   exact d.1
  |false=>
   rw[c] at b
   simp only[mX] at b
   exact g d.2 b
def Ip (b:BL) (a:Addr):Option Value:=
 match b[a.block]? with
 |some (.cells c _ _)=>if a.spot.isSome then none else c[a.off]?
 |_=>none
def KZ (w:World) (a:Addr):w.cell? a=Ip w.heap a:=rfl
structure Wd (B:World) (h:BL) (w:World):Prop where
 heap:w.heap=h
 os:w.os=B.os
 tape:w.tape=B.tape
 out:w.output=B.output
structure Cv (S:Nat→Prop) (h:BL) (S':Nat→Prop) (h':BL):Prop where
 sub:∀b,S b→S' b
 same:∀b,S b→h'[b]? =h[b]?
 siz:h.size≤h'.size
def Cv.refl (S:Nat→Prop) (a:BL):Cv S a S a:=⟨λ_ x=>x,λ_ _=>rfl,nJ _⟩
def Cv.trans {S h S' h' S'' h''}(x:Cv S h S' h') (y:Cv S' h' S'' h''):Cv S h S'' h'':=
 ⟨λb a=>y.sub b (x.sub b a),λb a=>(y.same b (x.sub b a)).trans (x.same b a),oZ x.siz y.siz⟩
def Qt {b h':BL}{a:Addr}(e:h'[a.block]? =b[a.block]?):Ip h' a=Ip b a:=by simp [Ip,e]
structure HP where
 holds:(Nat→Prop)→(Nat→Prop)→BL→Prop
 loc:∀{S S' F h h'},holds S F h→(∀b,S b→S' b)→(∀b,S b∨F b→h'[b]? =h[b]?)→holds S' F h'
def Sp (S:Nat→Prop):List HP→BL→(Nat→Prop)→Prop
 |[],_,_=>True
 |H::L,a,A=>∃F,H.holds S F a∧(∀b,F b→A b)∧Sp S L a (λb=>A b∧¬F b)
def St (S:Nat→Prop) (L:List HP) (a:BL):Prop:=(∀b,S b→b<a.size)∧Sp S L a (λb=>b<a.size∧¬S b)
def Sp.mono {S:Nat→Prop}{L h}:∀{A c:Nat→Prop},Sp S L h A→(∀b,A b→c b)→Sp S L h c:=by
 induction L with
 |nil=>intros;trivial
 |cons H L g=>
  rintro A c ⟨F,i,j,k⟩ d
  exact⟨F,i,λb a=>d b (j b a),g k λb a=>⟨d b a.1,a.2⟩⟩
def Sp.ext {S S':Nat→Prop}{L h h'}:∀{A c:Nat→Prop},Sp S L h A→(∀b,S b→S' b)→(∀b,S b∨A b→h'[b]? =h[b]?)→(∀b,A b→c b)→Sp S' L h' c:=by
 induction L with
 |nil=>intros;trivial
 |cons H L k=>
  rintro A c ⟨F,l,d,m⟩ g i j
  refine⟨F,H.loc l g λb a=>i b (a.imp_right (d b)),λb a=>j b (d b a),?_⟩
  exact k m g (λb a=>i b (a.imp_right (·.1))) λb a=>⟨j b a.1,a.2⟩
inductive Ll:List HP→HP→HP→List HP→Prop
 |head {L H H'}:Ll (H::L) H H' (H'::L)
 |tail {K L H H' L2}:Ll L H H' L2→Ll (K::L) H H' (K::L2)
inductive Nf:List HP→HP→List HP→Prop
 |head {L H}:Nf (H::L) H L
 |tail {K L H L2}:Nf L H L2→Nf (K::L) H (K::L2)
def Sp.pick {S:Nat→Prop}{h}{L c:List HP}{H:HP}(p:Nf L H c):∀{A:Nat→Prop},Sp S L h A→Sp S (H::c) h A:=by
 induction p with
 |head=>exact id
 |tail p g=>
  rintro A ⟨F,i,j,k⟩
  obtain⟨G,l,d,m⟩:=g k
  refine⟨G,l,λb a=>(d b a).1,F,i,λb a=>⟨j b a,λn=>(d b n).2 a⟩,m.mono λb a=>⟨⟨a.1.1,a.2⟩,a.1.2⟩⟩
def L4 {S:Nat→Prop}{h}{L c:List HP}{H:HP}(p:Nf L H c):∀{A:Nat→Prop},Sp S (H::c) h A→Sp S L h A:=by
 induction p with
 |head=>exact id
 |tail p g=>
  rintro A ⟨G,i,j,F,k,d,l⟩
  refine⟨F,k,λb a=>(d b a).1,g ⟨G,i,λb a=>⟨j b a,λm=>(d b m).2 a⟩,l.mono λb a=>⟨⟨a.1.1,a.2⟩,a.1.2⟩⟩⟩
def Ll.pick {L H H' L2}(r:Ll L H H' L2):∃M,Nf L H M∧Nf L2 H' M:=by
 induction r with
 |head=>exact⟨_,.head,.head⟩
 |tail r a=>obtain⟨M,p,q⟩:=a;exact⟨_,.tail p,.tail q⟩
def Sp.get {S:Nat→Prop}{h}{L:List HP}{H:HP}{A:Nat→Prop}(a:H∈L) (c:Sp S L h A):∃F,H.holds S F h∧∀b,F b→A b:=by
 induction L generalizing A with
 |nil=>cases a
 |cons K L d=>
  obtain⟨F,g,i,j⟩:=c
  cases a with
  |head=>exact⟨F,g,i⟩
  |tail _ a=>obtain⟨G,k,l⟩:=d a j;exact⟨G,k,λb m=>(l b m).1⟩
def St.get {S L h H}(a:St S L h) (c:H∈L):∃F,H.holds S F h∧∀b,F b→b<h.size∧¬S b:=Sp.get c a.2
def St.upd {S L h H H' L2 h'}(d:St S L h) (r:Ll L H H' L2) (g:h.size≤h'.size)
  (k:∀F,H.holds S F h→(∀b,F b→b<h.size∧¬S b)→∃i,H'.holds S i h'∧(∀b,i b→F b∨(h.size≤b∧b<h'.size))∧∀b,b<h.size→¬F b→h'[b]? =h[b]?):
  St S L2 h'∧Cv S h S h':=by
 obtain⟨M,p,q⟩:=r.pick
 obtain⟨F,t,j,u⟩:=Sp.pick p d.2
 obtain⟨i,v,n,o⟩:=k F t j
 have s:∀b,S b→h'[b]? =h[b]? :=λb a=>o b (d.1 b a) λc=>(j b c).2 a
 refine⟨⟨λb a=>nH (d.1 b a) g,?_⟩,λ_ x=>x,s,g⟩
 refine L4 q ⟨i,v,λb a=>?_,?_⟩
 ·rcases n b a with c|⟨hl,hu⟩
  ·exact⟨nH (j b c).1 g,(j b c).2⟩
  ·exact⟨hu,λl=>absurd (d.1 b l) (by omega)⟩
 ·refine Sp.ext u (λ_ x=>x) (λb a=>?_) λb a=>⟨⟨nH a.1.1 g,a.1.2⟩,λm=>?_⟩
  ·rcases a with a|a
   ·exact s b a
   ·exact o b a.1.1 a.2
  ·rcases n b m with c|⟨hl,_⟩
   ·exact a.2 c
   ·exact absurd a.1.1 (by omega)
def St.add {S L h H' h'}(c:St S L h) (g:h.size≤h'.size) (l:∀b,b<h.size→h'[b]? =h[b]?)
  (k:∃d,H'.holds S d h'∧∀b,d b→h.size≤b∧b<h'.size):St S (H'::L) h'∧Cv S h S h':=by
 obtain⟨d,m,i⟩:=k
 refine⟨⟨λb a=>nH (c.1 b a) g,d,m,λb a=>⟨(i b a).2,λj=>absurd (c.1 b j) (by have:=(i b a).1;omega)⟩,?_⟩,λ_ x=>x,λb a=>l b (c.1 b a),g⟩
 refine Sp.ext c.2 (λ_ x=>x) (λb a=>l b (a.elim (c.1 b) (·.1))) λb a=>⟨⟨nH a.1 g,a.2⟩,λn=>absurd a.1 (by have:=(i b n).1;omega)⟩
def St.pub {S L k H L2}(c:St S L k) (p:Nf L H L2):∃F,H.holds S F k∧(∀b,F b→b<k.size∧¬S b)∧St (λb=>S b∨F b) L2 k∧Cv S k (λb=>S b∨F b) k:=by
 obtain⟨F,g,d,i⟩:=Sp.pick p c.2
 refine⟨F,g,d,⟨λb a=>a.elim (c.1 b) λj=>(d b j).1,?_⟩,λ_ x=> .inl x,λ_ _=>rfl,nJ _⟩
 exact Sp.ext i (λ_ x=> .inl x) (λ_ _=>rfl) λb a=>⟨a.1.1,λk=>k.elim a.1.2 a.2⟩
def St.drop {S L h H L2}(a:St S L h) (p:Nf L H L2):St S L2 h:=by
 obtain⟨F,g,i,c⟩:=Sp.pick p a.2
 exact⟨a.1,c.mono λb d=>d.1⟩
structure BW (α:Type) where
 sz:Nat
 ag:Bool
 rd:(Nat→Prop)→BL→List Value→α→Prop
 len:∀{S h cs x},rd S h cs x→cs.length=sz
 one:∀{S h cs x},rd S h cs x→∀v∈cs,v.oneCell'=true
 mono:∀{S S' h h' cs x},rd S h cs x→(∀b,S b→S' b)→(∀b,S b→h'[b]? =h[b]?)→rd S' h' cs x
def BW.val {α}(r:BW α) (cs:List Value):Value:=if r.ag then .agg cs.toArray else cs.headD undef
def Rd {α}(S:Nat→Prop) (a:BL) (r:BW α) (v:Value) (x:α):Prop:=∃cs,v=r.val cs∧r.rd S a cs x
def Rd.mono {α S h S' h'}{r:BW α}{v x}(k:Rd S h r v x) (e:Cv S h S' h'):Rd S' h' r v x:=
 let ⟨cs,a,b⟩:=k;⟨cs,a,r.mono b e.sub e.same⟩
def Qi (S:Nat→Prop) (b:BL) (p:Value) (cs:List Value):Prop:=
 ∃a:Addr,p= .pointer (some a)∧a.spot=none∧S a.block∧∀j,j<cs.length→Ip b ⟨a.block,a.off+j,none⟩=cs[j]?
def Qi.mono {S h S' h' p cs}(k:Qi S h p cs) (s:∀b,S b→S' b) (e:∀b,S b→h'[b]? =h[b]?):Qi S' h' p cs:=
 let ⟨a,d,g,c,i⟩:=k;⟨a,d,g,s _ c,λj l=>(Qt (a:=⟨a.block,a.off+j,none⟩) (e _ c)).trans (i j l)⟩
def N3 {α}(A S:Nat→Prop) (a:BL) (r:BW α) (p:Value) (x:α):Prop:=∃cs,Qi A a p cs∧r.rd S a cs x
abbrev Pt {α}(S:Nat→Prop) (a:BL) (r:BW α) (p:Value) (x:α):Prop:=N3 S S a r p x
def N3.mono {α S h S' h'}{r:BW α}{p x}(k:Pt S h r p x) (e:Cv S h S' h'):Pt S' h' r p x:=
 let ⟨cs,a,b⟩:=k;⟨cs,a.mono e.sub e.same,r.mono b e.sub e.same⟩
def AH (n:Int):Prop:= -9223372036854775808≤n∧n≤9223372036854775807
def AJ:BW Int where
 sz:=1
 ag:=false
 rd:=λ_ _ cs x=>cs=[.int .i64 x]∧AH x
 len:=λ⟨b,_⟩=>by rw[b];rfl
 one:=λ⟨b,_⟩ v a=>by rw[b] at a;simp at a;rw[a];rfl
 mono:=λb _ _=>b
def BW.bool:BW Bool where
 sz:=1
 ag:=false
 rd:=λ_ _ cs x=>cs=[.bool x]
 len:=λb=>by rw[b];rfl
 one:=λb v a=>by rw[b] at a;simp at a;rw[a];rfl
 mono:=λb _ _=>b
def BW.str:BW ByteArray where
 sz:=1
 ag:=false
 rd:=λ_ _ cs x=>cs=[.string x]∧x.size≤maxLen
 len:=λ⟨b,_⟩=>by rw[b];rfl
 one:=λ⟨b,_⟩ v a=>by rw[b] at a;simp at a;rw[a];rfl
 mono:=λb _ _=>b
def Sl {α}(S:Nat→Prop) (b:BL) (r:BW α) (v:Value) (l:List α):Prop:=
 (v= .slice none 0 0∧l=[])∨
 ∃(a:Addr) (cap:Nat),v= .slice (some a) l.length cap∧l.length≤cap∧cap≤maxLen∧
  ∀i x,l[i]? =some x→a.spot=none∧Pt S b r (.pointer (some ⟨a.block,a.off+i*r.sz,none⟩)) x
def Sl.mono {α S h S' h'}{r:BW α}{v l}(k:Sl S h r v l) (s:∀b,S b→S' b) (e:∀b,S b→h'[b]? =h[b]?):Sl S' h' r v l:=by
 rcases k with k|⟨a,cap,h1,h4,h5,h6⟩
 ·exact .inl k
 ·refine .inr ⟨a,cap,h1,h4,h5,λi x d=>?_⟩
  obtain⟨c,cs,g,j⟩:=h6 i x d
  exact⟨c,cs,g.mono s e,r.mono j s e⟩
def Sl.len {α S h}{r:BW α}{v l}(k:Sl S h r v l):∃a cap,v= .slice a l.length cap∧l.length≤maxLen:=by
 rcases k with ⟨rfl,rfl⟩|⟨a,cap,h1,h4,h5,h6⟩
 ·exact⟨none,0,rfl,nE _⟩
 ·exact⟨some a,cap,h1,oZ h4 h5⟩
def BW.sl {α}(r:BW α):BW (List α) where
 sz:=1
 ag:=false
 rd:=λS d cs l=>∃v,cs=[v]∧Sl S d r v l
 len:=λ⟨_,d,_⟩=>by rw[d];rfl
 one:=λ⟨u,d,k⟩ v b=>by
  rw[d] at b;simp at b;rw[b]
  rcases k with ⟨rfl,_⟩|⟨a,c,rfl,_⟩<;>rfl
 mono:=λ⟨v,d,k⟩ s e=>⟨v,d,k.mono s e⟩
def Sl.mono' {α S h S' h'}{r:BW α}{v l}(k:Sl S h r v l) (e:Cv S h S' h'):Sl S' h' r v l:=k.mono e.sub e.same
def Rd.int {S a v x}(k:Rd S a AJ v x):v= .int .i64 x∧AH x:=by obtain⟨_,rfl,rfl,a⟩:=k;exact⟨rfl,a⟩
def Rd.bool {S h v x}(k:Rd S h BW.bool v x):v= .bool x:=by obtain⟨_,rfl,rfl⟩:=k;rfl
def Rd.str {S a v x}(k:Rd S a BW.str v x):v= .string x∧x.size≤maxLen:=by obtain⟨_,rfl,rfl,a⟩:=k;exact⟨rfl,a⟩
def Rd.sl {α S a v x}{r:BW α}(k:Rd S a r.sl v x):Sl S a r v x:=by obtain⟨_,rfl,_,rfl,a⟩:=k;exact a
def NR {α S h v x}{r:BW α}(k:Sl S h r v x):Rd S h r.sl v x:=⟨[v],rfl,v,rfl,k⟩
def GM {α β}(r:BW α) (o:Nat) (r':BW β) (f:α→β):Prop:=
 ∀{S a cs x},r.rd S a cs x→r'.rd S a ((cs.drop o).take r'.sz) (f x)
def N3.fld {α β A S h}{r:BW α}{r':BW β}{o f p x}(k:N3 A S h r p x) (b:GM r o r' f):
  ∃a:Addr,p= .pointer (some a)∧N3 A S h r' (.pointer (some (a.add o))) (f x):=by
 obtain⟨cs,⟨a,rfl,c,d,g⟩,i⟩:=k
 refine⟨a,rfl,_,⟨a.add o,rfl,?_,?_,?_⟩,b i⟩
 ·unfold Addr.add;split<;>simp [c]
 ·unfold Addr.add;split<;>exact d
 ·intro j l
  have m:(a.add o).block=a.block:=by unfold Addr.add;split<;>rfl
  have n:(a.add o).off=a.off+o:=by unfold Addr.add;split<;>simp_all
  rw[m,n]
  simp only[pD,qH] at l
  have:=g (o+j) (by omega)
  rw[Nat.add_assoc,this,pA (by omega),qM]
end Go.Proofs.YtblcgjadhemlbaaGreat
